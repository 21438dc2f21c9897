/-
  Helper text. No conditions.
-/
import Derived.Test.YtidhkhdnjonjfaaGreatUpdateWorkerTi
import Derived.Test.YtidhkhdnjonjfaaGreatUpdateWorkerWspec0
set_option linter.unusedVariables false
set_option linter.unusedSimpArgs false
namespace Go.Proofs.YtidhkhdnjonjfaaGreat.gen
open Go Go.Sh
set_option maxRecDepth 20000
set_option maxHeartbeats 4000000
theorem aSf (p0 p1 p2 r) (h:aAd p0 p1 p2=some r):Sc 356 [aX (M.Cache.en p0),aS p1,aS p2] [rI r]:=by
 have i1:=inv fun m s=>∃v7:Int,(s.t 1=vS p1∧s.t 2=vS p2∧s.t 3=vP 3 1 0∧s.t 7=vI v7∧s.h 3=(1,oX 212 (M.Cache.en p0)))∧jO p0 p1 p2 m v7=some r
 have e1:=@jO.eq_2
 unfold aAd at h
 exact sgo 34 [.tmp 6] Tryz.func356
instance:bA 356 (type_of% @aSf):=⟨@aSf⟩
theorem aYg (p0 p1 p2 p3 p4 r) (h:mT p0 p1 p2 p3 p4=some r):Sc 216 [aX (M.aA.en p0),aI p1,aS p2,aS p3,aX (M.Response.en p4)] [(true,M.aA.rs r.1),rB r.2]:=by
 unfold mT at h
 simp only [EN]
 refine sgO 73 [.cell 10 28,.tmp 11] Tryz.func216 fun base wd => ?_
 refine sq ?_
 apply fF
 ·simp +decide only [LN,E,reduceIte,Nat.reduceAdd,Nat.reduceMul,qB,qC,L,wX,EN]
  exact Is.mk _
 refine an (sq ?_)
 obtain ⟨x1,h2,h⟩:=bind_some h
 apply fF
 ·simp +decide only [LN,E,reduceIte,Nat.reduceAdd,Nat.reduceMul,qB,qC,L,wX,EN]
  refine ⟨_,c47 _ _ h2,?_⟩
  try simp +decide only [LN,E,reduceIte,Nat.reduceAdd,Nat.reduceMul,qB,qC,L,wX,EN]
  exact Is.mk _
 refine an (sq ?_)
 obtain ⟨x3,h4,h⟩:=bind_some h
 apply fF
 ·simp +decide only [LN,E,reduceIte,Nat.reduceAdd,Nat.reduceMul,qB,qC,L,wX,EN]
  refine ⟨_,aSb _ _ _ h4,?_⟩
  try simp +decide only [LN,E,reduceIte,Nat.reduceAdd,Nat.reduceMul,qB,qC,L,wX,EN]
  exact Is.mk _
 refine an (sq (sq ?_))
 apply fF
 ·simp +decide only [LN,E,reduceIte,Nat.reduceAdd,Nat.reduceMul,qB,qC,L,EN]
  exact Is.mk _
 refine an ?_
 rcases gO (decide (x3<0)) with b5 | b5
 ·replace h:=bT b5 h
  refine aEa (by simp +decide only [LN,F,reduceIte,Nat.reduceAdd,qB,qC,EN,b5]) ?_
  refine sq ?_
  apply fF
  ·simp +decide only [LN,E,reduceIte,Nat.reduceAdd,Nat.reduceMul,qB,qC,L,wX,EN,b5]
   exact Is.mk _
  refine an (rt ?_)
  cases h
  simp [Ret,wX,M.Cache.en,b5]
 replace h:=bR b5 h
 refine aIG (by simp +decide only [LN,F,reduceIte,Nat.reduceAdd,qB,qC,EN,b5]) ?_
 refine sk (an (sq ?_))
 obtain ⟨x6,h7,h⟩:=bind_some h
 apply fF
 ·simp +decide only [LN,E,reduceIte,Nat.reduceAdd,Nat.reduceMul,qB,qC,L,aLw,aIm,EN,b5]
  refine ⟨_,aTF _ _ h7,?_⟩
  try simp +decide only [LN,E,reduceIte,Nat.reduceAdd,Nat.reduceMul,qB,qC,L,aLw,aIm,EN,b5]
  exact Is.mk _
 refine an (sq (sq ?_))
 obtain ⟨x8,h9,h⟩:=bind_some h
 obtain ⟨q10,q11,q12⟩:=aT h9
 obtain ⟨x13,h14,h⟩:=bind_some h
 apply fF
 ·simp +decide only [LN,E,reduceIte,Nat.reduceAdd,Nat.reduceMul,qB,qC,L,aPN,wX,aC4,M.Cache.en,EN,b5,q10,q11,q12]
  refine ⟨_,aSf _ _ _ _ h14,?_⟩
  try simp +decide only [LN,E,reduceIte,Nat.reduceAdd,Nat.reduceMul,qB,qC,L,aPN,wX,aC4,M.Cache.en,EN,b5,q10,q11,q12]
  exact Is.mk _
 refine an (sq ?_)
 apply fF
 ·simp +decide only [LN,E,reduceIte,Nat.reduceAdd,Nat.reduceMul,qB,qC,L,EN,b5,q10,q11,q12]
  exact Is.mk _
 refine an ?_
 rcases aEL (decide (x13≥0)) with b15 | b15
 ·replace h:=bR b15 h
  refine aIG (by simp +decide only [LN,F,reduceIte,Nat.reduceAdd,qB,qC,EN,b5,q10,q11,q12,b15]) ?_
  refine aKu [5,10,12,13,14] [5,10,12,14,400027] (i:=100017) (ver:=1) (e:=212) (sz:=2) (xs:=List.map M.Cache.en x1.Caches) (j:=x3.toNat) (x:=M.Cache.en x8) (off:=1) (K:=7057000) (e':=221) (sz':=7) (ys:=List.map M.Cached.en x8.Entries) (by first | (simp +decide only [LN,F,reduceIte,Nat.reduceAdd,qB,qC,EN,M.Cache.en,enB,b5,q10,q11,q12,b15];done) | (simp +decide only [LN,F,reduceIte,Nat.reduceAdd,qB,qC,EN,M.Cache.en,enB,b5,q10,q11,q12,b15];rfl) | rfl) ?_ rfl ?_ rfl (.inl rfl) (fun _ h=>h.elim) (by decide) (by decide) (by decide) ?_ ?_ fun u => ?_
  ·rw [List.getElem?_map,q11];rfl
  ·rw [←(cC aC4).sl];rfl
  ·simp +decide only [LC,LN,F,reduceIte,Nat.reduceAdd,qB,qC,EN,M.Cache.en,enB,b5,q10,q11,q12,b15]
  ·simp +decide only [LC,LN,F,reduceIte,Nat.reduceAdd,qB,qC,EN,M.Cache.en,enB,b5,q10,q11,q12,b15]
  have q56:(List.set (List.map M.Cache.en x1.Caches) x3.toNat [.int .i64 x8.Version,.val u])[x3.toNat]? = some [.int .i64 x8.Version,.val u]:=aND (b:=M.Cache.en x8) (by rw [List.getElem?_map,q11];rfl)
  refine aHj (J:=fun s=>s.t 5 = .v false [.bp 5 1 0]∧s.t 10 = .v false [.bp 10 1 0]∧s.t 12 = .v false [.bp 12 1 0]∧s.t 13 = .v false [.dat (.int .i64 x3)]∧s.t 14 = .v false [.bp 14 1 0]∧s.h 5=(1,.box 28 [.old base (.sl (List.map M.Cache.en p0.Caches)) none])∧s.h 10=(1,.box 28 [.nil])∧s.h 12=(1,.box 28 [.row 100017 1])∧s.h 14=(1,.box 221 [.dat (.str p2),.dat (.str p3),.dat (.int .i64 x6.Type_),.dat (.int .i64 x6.Status),.dat (.int .i64 x6.Version),.row 400027 1,.dat (.bool x6.Shares)])∧s.h 100017=(1,.row 212 2 (List.set (List.map M.Cache.en x1.Caches) x3.toNat [.int .i64 x8.Version,.val u]) true)∧s.h 400027=(1,.row 5 1 (List.map enB x6.Body) true)∧s.h 7057000=(1,.row 221 7 (List.map M.Cached.en x8.Entries) true)∧s.h 7058000=(1,.pin 7057000 1 u)∧True) ?_ ?_
  ·refine ⟨?_,?_,?_,?_,?_,?_,?_,?_,?_,?_,?_,?_,?_,trivial⟩<;>(try first | (simp +decide only [LN,F,reduceIte,Nat.reduceAdd,qB,qC,EN,M.Cache.en,M.Cached.en,enB,b5,q10,q11,q12,b15,q56];done) | (simp +decide only [LN,F,reduceIte,Nat.reduceAdd,qB,qC,EN,M.Cache.en,M.Cached.en,enB,b5,q10,q11,q12,b15,q56];rfl) | rfl)
  rintro s55 ⟨f57,f58,f59,f60,f61,f62,f63,f64,f65,f66,f67,f68,f69,_⟩
  obtain ⟨x70,h71,h⟩:=bind_some h
  apply aFb mixed
  ·simp +decide only [LN,E,reduceIte,Nat.reduceAdd,Nat.reduceMul,qB,qC,L,aPN,wX,aKO,aC4,aIm,M.Cache.en,M.Cached.en,EN,b5,q10,q11,q12,b15,q56,f57,f58,f59,f60,f61,f62,f63,f64,f65,f66,f67,f68,f69]
   refine ⟨by (have hb:=aCL h71);simp [M.Cache.en,M.Cached.en,qE,bG] at hb ⊢ <;> omega,?_⟩
   try simp +decide only [LN,E,reduceIte,Nat.reduceAdd,Nat.reduceMul,qB,qC,L,aPN,wX,aKO,aC4,aIm,M.Cache.en,M.Cached.en,EN,b5,q10,q11,q12,b15,q56,f57,f58,f59,f60,f61,f62,f63,f64,f65,f66,f67,f68,f69]
   exact ⟨.mk (by decide +kernel),Is.mk _⟩
  refine an (sq (sq ?_))
  refine aHj (J:=fun s=>s.t 5 = .v false [.bp 5 1 0]∧s.t 10 = .v false [.bp 10 1 0]∧s.t 12 = .v false [.bp 12 1 0]∧s.h 5=(1,.box 28 [.old base (.sl (List.map M.Cache.en p0.Caches)) none])∧s.h 10=(1,.box 28 [.nil])∧s.h 12=(1,.box 28 [.row 100017 1])∧s.h 100017=(1,.row 212 2 (List.map M.Cache.en (List.set x1.Caches x3.toNat (⟨x8.Version,(x8.Entries++[(⟨p2,p3,x6⟩:M.Cached)])⟩:M.Cache))) true)∧True) ?_ ?_
  ·refine ⟨?_,?_,?_,?_,?_,?_,?_,trivial⟩<;>(try simp +decide only [LN,F,reduceIte,Nat.reduceAdd,qB,qC,EN,M.Cache.en,b5,q10,q11,q12,b15,q56,f57,f58,f59,f60,f61,f62,f63,f64,f65,f66,f67,f68,f69])
  rintro s72 ⟨f73,f74,f75,f76,f77,f78,f79,_⟩
  obtain ⟨x80,h81,h⟩:=bind_some h
  rcases gO (!x80) with b82 | b82
  ·replace h:=bT b82 h
   apply fF
   ·simp +decide only [LN,E,reduceIte,Nat.reduceAdd,Nat.reduceMul,qB,qC,L,wX,EN,b5,q10,q11,q12,b15,q56,f73,f74,f75,f76,f77,f78,f79,b82]
    refine ⟨_,c57 _ _ h81,?_⟩
    try simp +decide only [LN,E,reduceIte,Nat.reduceAdd,Nat.reduceMul,qB,qC,L,wX,EN,b5,q10,q11,q12,b15,q56,f73,f74,f75,f76,f77,f78,f79,b82]
    exact Is.mk _
   refine an ?_
   refine aEa (by simp +decide only [LN,F,reduceIte,Nat.reduceAdd,qB,qC,EN,b5,q10,q11,q12,b15,q56,f73,f74,f75,f76,f77,f78,f79,b82]) ?_
   refine sq ?_
   obtain ⟨x83,h84,h⟩:=bind_some h
   apply fF
   ·simp +decide only [LN,E,reduceIte,Nat.reduceAdd,Nat.reduceMul,qB,qC,L,wX,EN,b5,q10,q11,q12,b15,q56,f73,f74,f75,f76,f77,f78,f79,b82]
    refine ⟨_,c47 _ _ h84,?_⟩
    try simp +decide only [LN,E,reduceIte,Nat.reduceAdd,Nat.reduceMul,qB,qC,L,wX,EN,b5,q10,q11,q12,b15,q56,f73,f74,f75,f76,f77,f78,f79,b82]
    exact Is.mk _
   refine an (rt ?_)
   cases h
   simp [Ret,wX,M.Cache.en,b5,q10,q11,q12,b15,q56,f73,f74,f75,f76,f77,f78,f79,b82]
  replace h:=bR b82 h
  obtain ⟨x85,h86,h⟩:=bind_some h
  apply fF
  ·simp +decide only [LN,E,reduceIte,Nat.reduceAdd,Nat.reduceMul,qB,qC,L,wX,EN,b5,q10,q11,q12,b15,q56,f73,f74,f75,f76,f77,f78,f79,b82]
   refine ⟨_,c57 _ _ h81,?_⟩
   try simp +decide only [LN,E,reduceIte,Nat.reduceAdd,Nat.reduceMul,qB,qC,L,wX,EN,b5,q10,q11,q12,b15,q56,f73,f74,f75,f76,f77,f78,f79,b82]
   refine ⟨_,c57 _ _ h86,?_⟩
   try simp +decide only [LN,E,reduceIte,Nat.reduceAdd,Nat.reduceMul,qB,qC,L,wX,EN,b5,q10,q11,q12,b15,q56,f73,f74,f75,f76,f77,f78,f79,b82]
   exact Is.mk _
  refine an ?_
  rcases aEL (!x85) with b87 | b87
  ·replace h:=bR b87 h
   refine aIG (by simp +decide only [LN,F,reduceIte,Nat.reduceAdd,qB,qC,EN,b5,q10,q11,q12,b15,q56,f73,f74,f75,f76,f77,f78,f79,b82,b87]) ?_
   refine sk (an (sq ?_))
   apply fF
   ·simp +decide only [LN,E,reduceIte,Nat.reduceAdd,Nat.reduceMul,qB,qC,L,wX,EN,b5,q10,q11,q12,b15,q56,f73,f74,f75,f76,f77,f78,f79,b82,b87]
    exact Is.mk _
   refine an (rt ?_)
   cases h
   simp [Ret,wX,M.Cache.en,b5,q10,q11,q12,b15,q56,f73,f74,f75,f76,f77,f78,f79,b82,b87]
  replace h:=bT b87 h
  refine aEa (by simp +decide only [LN,F,reduceIte,Nat.reduceAdd,qB,qC,EN,b5,q10,q11,q12,b15,q56,f73,f74,f75,f76,f77,f78,f79,b82,b87]) ?_
  refine sq ?_
  obtain ⟨x88,h89,h⟩:=bind_some h
  apply fF
  ·simp +decide only [LN,E,reduceIte,Nat.reduceAdd,Nat.reduceMul,qB,qC,L,wX,EN,b5,q10,q11,q12,b15,q56,f73,f74,f75,f76,f77,f78,f79,b82,b87]
   refine ⟨_,c47 _ _ h89,?_⟩
   try simp +decide only [LN,E,reduceIte,Nat.reduceAdd,Nat.reduceMul,qB,qC,L,wX,EN,b5,q10,q11,q12,b15,q56,f73,f74,f75,f76,f77,f78,f79,b82,b87]
   exact Is.mk _
  refine an (rt ?_)
  cases h
  simp [Ret,wX,M.Cache.en,b5,q10,q11,q12,b15,q56,f73,f74,f75,f76,f77,f78,f79,b82,b87]
 replace h:=bT b15 h
 refine aEa (by simp +decide only [LN,F,reduceIte,Nat.reduceAdd,qB,qC,EN,b5,q10,q11,q12,b15]) ?_
 refine aKu [5,10,12,13,14,15] [5,10,12,14,400027] (i:=100017) (ver:=1) (e:=212) (sz:=2) (xs:=List.map M.Cache.en x1.Caches) (j:=x3.toNat) (x:=M.Cache.en x8) (off:=1) (K:=7057000) (e':=221) (sz':=7) (ys:=List.map M.Cached.en x8.Entries) (by first | (simp +decide only [LN,F,reduceIte,Nat.reduceAdd,qB,qC,EN,M.Cache.en,enB,b5,q10,q11,q12,b15];done) | (simp +decide only [LN,F,reduceIte,Nat.reduceAdd,qB,qC,EN,M.Cache.en,enB,b5,q10,q11,q12,b15];rfl) | rfl) ?_ rfl ?_ rfl (.inl rfl) (fun _ h=>h.elim) (by decide) (by decide) (by decide) ?_ ?_ fun u => ?_
 ·rw [List.getElem?_map,q11];rfl
 ·rw [←(cC aC4).sl];rfl
 ·simp +decide only [LC,LN,F,reduceIte,Nat.reduceAdd,qB,qC,EN,M.Cache.en,enB,b5,q10,q11,q12,b15]
 ·simp +decide only [LC,LN,F,reduceIte,Nat.reduceAdd,qB,qC,EN,M.Cache.en,enB,b5,q10,q11,q12,b15]
 have q17:(List.set (List.map M.Cache.en x1.Caches) x3.toNat [.int .i64 x8.Version,.val u])[x3.toNat]? = some [.int .i64 x8.Version,.val u]:=aND (b:=M.Cache.en x8) (by rw [List.getElem?_map,q11];rfl)
 refine aHj (J:=fun s=>s.t 5 = .v false [.bp 5 1 0]∧s.t 10 = .v false [.bp 10 1 0]∧s.t 12 = .v false [.bp 12 1 0]∧s.t 13 = .v false [.dat (.int .i64 x3)]∧s.t 14 = .v false [.bp 14 1 0]∧s.t 15 = .v false [.dat (.int .i64 x13)]∧s.h 5=(1,.box 28 [.old base (.sl (List.map M.Cache.en p0.Caches)) none])∧s.h 10=(1,.box 28 [.nil])∧s.h 12=(1,.box 28 [.row 100017 1])∧s.h 14=(1,.box 221 [.dat (.str p2),.dat (.str p3),.dat (.int .i64 x6.Type_),.dat (.int .i64 x6.Status),.dat (.int .i64 x6.Version),.row 400027 1,.dat (.bool x6.Shares)])∧s.h 100017=(1,.row 212 2 (List.set (List.map M.Cache.en x1.Caches) x3.toNat [.int .i64 x8.Version,.val u]) true)∧s.h 400027=(1,.row 5 1 (List.map enB x6.Body) true)∧s.h 7057000=(1,.row 221 7 (List.map M.Cached.en x8.Entries) true)∧s.h 7058000=(1,.pin 7057000 1 u)∧True) ?_ ?_
 ·refine ⟨?_,?_,?_,?_,?_,?_,?_,?_,?_,?_,?_,?_,?_,?_,trivial⟩<;>(try first | (simp +decide only [LN,F,reduceIte,Nat.reduceAdd,qB,qC,EN,M.Cache.en,M.Cached.en,enB,b5,q10,q11,q12,b15,q17];done) | (simp +decide only [LN,F,reduceIte,Nat.reduceAdd,qB,qC,EN,M.Cache.en,M.Cached.en,enB,b5,q10,q11,q12,b15,q17];rfl) | rfl)
 rintro s16 ⟨f18,f19,f20,f21,f22,f23,f24,f25,f26,f27,f28,f29,f30,f31,_⟩
 obtain ⟨x32,h33,h⟩:=bind_some h
 obtain ⟨q34,q35,q36⟩:=aT h33
 apply aFb mixed
 ·simp +decide only [LN,E,reduceIte,Nat.reduceAdd,Nat.reduceMul,qB,qC,L,aPN,wX,aKO,aC4,aIm,M.Cache.en,M.Cached.en,EN,b5,q10,q11,q12,b15,q17,f18,f19,f20,f21,f22,f23,f24,f25,f26,f27,f28,f29,f30,f31,q34,q35,q36]
  exact ⟨.mk (by decide +kernel),Is.mk _⟩
 refine an ?_
 refine aO0 (Gho.close (i:=100017) (ver:=1) (e:=212) (sz:=2) (xs:=List.set (List.map M.Cache.en x1.Caches) x3.toNat [.int .i64 x8.Version,.val u]) (j:=x3.toNat) (x:=[.int .i64 x8.Version,.val u]) (off:=1) (K:=7057000) (vK:=1) (e':=221) (sz':=7) (ys:=List.map M.Cached.en (List.set x8.Entries x13.toNat (⟨p2,p3,x6⟩:M.Cached))) (u:=u) (by first | (simp +decide only [LN,F,reduceIte,Nat.reduceAdd,qB,qC,EN,M.Cached.en,b5,q10,q11,q12,b15,q17,f18,f19,f20,f21,f22,f23,f24,f25,f26,f27,f28,f29,f30,f31,q34,q35,q36];done) | (simp +decide only [LN,F,reduceIte,Nat.reduceAdd,qB,qC,EN,M.Cached.en,b5,q10,q11,q12,b15,q17,f18,f19,f20,f21,f22,f23,f24,f25,f26,f27,f28,f29,f30,f31,q34,q35,q36];rfl) | rfl) q17 rfl (by first | (simp +decide only [LN,F,reduceIte,Nat.reduceAdd,qB,qC,EN,M.Cached.en,b5,q10,q11,q12,b15,q17,f18,f19,f20,f21,f22,f23,f24,f25,f26,f27,f28,f29,f30,f31,q34,q35,q36];done) | (simp +decide only [LN,F,reduceIte,Nat.reduceAdd,qB,qC,EN,M.Cached.en,b5,q10,q11,q12,b15,q17,f18,f19,f20,f21,f22,f23,f24,f25,f26,f27,f28,f29,f30,f31,q34,q35,q36];rfl) | rfl) (by first | (simp +decide only [LN,F,reduceIte,Nat.reduceAdd,qB,qC,EN,M.Cached.en,b5,q10,q11,q12,b15,q17,f18,f19,f20,f21,f22,f23,f24,f25,f26,f27,f28,f29,f30,f31,q34,q35,q36];done) | (simp +decide only [LN,F,reduceIte,Nat.reduceAdd,qB,qC,EN,M.Cached.en,b5,q10,q11,q12,b15,q17,f18,f19,f20,f21,f22,f23,f24,f25,f26,f27,f28,f29,f30,f31,q34,q35,q36];rfl) | rfl) (by rw [←(cC aC4).sl];rfl) rfl (by decide)) ?_
 refine sq (sq ?_)
 refine aHj (J:=fun s=>s.t 5 = .v false [.bp 5 1 0]∧s.t 10 = .v false [.bp 10 1 0]∧s.t 12 = .v false [.bp 12 1 0]∧s.h 5=(1,.box 28 [.old base (.sl (List.map M.Cache.en p0.Caches)) none])∧s.h 10=(1,.box 28 [.nil])∧s.h 12=(1,.box 28 [.row 100017 1])∧s.h 100017=(1,.row 212 2 (List.map M.Cache.en (List.set x1.Caches x3.toNat (⟨x8.Version,(List.set x8.Entries x13.toNat (⟨p2,p3,x6⟩:M.Cached))⟩:M.Cache))) true)∧True) ?_ ?_
 ·refine ⟨?_,?_,?_,?_,?_,?_,?_,trivial⟩<;>(try simp +decide only [LN,F,reduceIte,Nat.reduceAdd,qB,qC,EN,M.Cache.en,b5,q10,q11,q12,b15,q17,f18,f19,f20,f21,f22,f23,f24,f25,f26,f27,f28,f29,f30,f31,q34,q35,q36])
 rintro s37 ⟨f38,f39,f40,f41,f42,f43,f44,_⟩
 obtain ⟨x45,h46,h⟩:=bind_some h
 rcases gO (!x45) with b47 | b47
 ·replace h:=bT b47 h
  apply fF
  ·simp +decide only [LN,E,reduceIte,Nat.reduceAdd,Nat.reduceMul,qB,qC,L,wX,EN,b5,q10,q11,q12,b15,q17,q34,q35,q36,f38,f39,f40,f41,f42,f43,f44,b47]
   refine ⟨_,c57 _ _ h46,?_⟩
   try simp +decide only [LN,E,reduceIte,Nat.reduceAdd,Nat.reduceMul,qB,qC,L,wX,EN,b5,q10,q11,q12,b15,q17,q34,q35,q36,f38,f39,f40,f41,f42,f43,f44,b47]
   exact Is.mk _
  refine an ?_
  refine aEa (by simp +decide only [LN,F,reduceIte,Nat.reduceAdd,qB,qC,EN,b5,q10,q11,q12,b15,q17,q34,q35,q36,f38,f39,f40,f41,f42,f43,f44,b47]) ?_
  refine sq ?_
  obtain ⟨x48,h49,h⟩:=bind_some h
  apply fF
  ·simp +decide only [LN,E,reduceIte,Nat.reduceAdd,Nat.reduceMul,qB,qC,L,wX,EN,b5,q10,q11,q12,b15,q17,q34,q35,q36,f38,f39,f40,f41,f42,f43,f44,b47]
   refine ⟨_,c47 _ _ h49,?_⟩
   try simp +decide only [LN,E,reduceIte,Nat.reduceAdd,Nat.reduceMul,qB,qC,L,wX,EN,b5,q10,q11,q12,b15,q17,q34,q35,q36,f38,f39,f40,f41,f42,f43,f44,b47]
   exact Is.mk _
  refine an (rt ?_)
  cases h
  simp [Ret,wX,M.Cache.en,b5,q10,q11,q12,b15,q17,q34,q35,q36,f38,f39,f40,f41,f42,f43,f44,b47]
 replace h:=bR b47 h
 obtain ⟨x50,h51,h⟩:=bind_some h
 apply fF
 ·simp +decide only [LN,E,reduceIte,Nat.reduceAdd,Nat.reduceMul,qB,qC,L,wX,EN,b5,q10,q11,q12,b15,q17,q34,q35,q36,f38,f39,f40,f41,f42,f43,f44,b47]
  refine ⟨_,c57 _ _ h46,?_⟩
  try simp +decide only [LN,E,reduceIte,Nat.reduceAdd,Nat.reduceMul,qB,qC,L,wX,EN,b5,q10,q11,q12,b15,q17,q34,q35,q36,f38,f39,f40,f41,f42,f43,f44,b47]
  refine ⟨_,c57 _ _ h51,?_⟩
  try simp +decide only [LN,E,reduceIte,Nat.reduceAdd,Nat.reduceMul,qB,qC,L,wX,EN,b5,q10,q11,q12,b15,q17,q34,q35,q36,f38,f39,f40,f41,f42,f43,f44,b47]
  exact Is.mk _
 refine an ?_
 rcases aEL (!x50) with b52 | b52
 ·replace h:=bR b52 h
  refine aIG (by simp +decide only [LN,F,reduceIte,Nat.reduceAdd,qB,qC,EN,b5,q10,q11,q12,b15,q17,q34,q35,q36,f38,f39,f40,f41,f42,f43,f44,b47,b52]) ?_
  refine sk (an (sq ?_))
  apply fF
  ·simp +decide only [LN,E,reduceIte,Nat.reduceAdd,Nat.reduceMul,qB,qC,L,wX,EN,b5,q10,q11,q12,b15,q17,q34,q35,q36,f38,f39,f40,f41,f42,f43,f44,b47,b52]
   exact Is.mk _
  refine an (rt ?_)
  cases h
  simp [Ret,wX,M.Cache.en,b5,q10,q11,q12,b15,q17,q34,q35,q36,f38,f39,f40,f41,f42,f43,f44,b47,b52]
 replace h:=bT b52 h
 refine aEa (by simp +decide only [LN,F,reduceIte,Nat.reduceAdd,qB,qC,EN,b5,q10,q11,q12,b15,q17,q34,q35,q36,f38,f39,f40,f41,f42,f43,f44,b47,b52]) ?_
 refine sq ?_
 obtain ⟨x53,h54,h⟩:=bind_some h
 apply fF
 ·simp +decide only [LN,E,reduceIte,Nat.reduceAdd,Nat.reduceMul,qB,qC,L,wX,EN,b5,q10,q11,q12,b15,q17,q34,q35,q36,f38,f39,f40,f41,f42,f43,f44,b47,b52]
  refine ⟨_,c47 _ _ h54,?_⟩
  try simp +decide only [LN,E,reduceIte,Nat.reduceAdd,Nat.reduceMul,qB,qC,L,wX,EN,b5,q10,q11,q12,b15,q17,q34,q35,q36,f38,f39,f40,f41,f42,f43,f44,b47,b52]
  exact Is.mk _
 refine an (rt ?_)
 cases h
 simp [Ret,wX,M.Cache.en,b5,q10,q11,q12,b15,q17,q34,q35,q36,f38,f39,f40,f41,f42,f43,f44,b47,b52]
instance:bA 216 (type_of% @aYg):=⟨@aYg⟩
theorem c99 (p0 p1 p2 p3 r) (h:oK p0 p1 p2 p3=some r):Sc 99 [aX (M.aA.en p0),aX (M.Site.en p1),aI p2,aB p3] [(true,M.aA.rs r.1),rB r.2]:=by
 have i1:=aLA [.b 10 0 7050000 212 2] fun m s=>∃v12:Int,∃r50000:List M.Cache,∃u50000:Nat,(s.t 2=vI p2∧s.t 4=vP 4 1 0∧s.t 5=vP 5 1 0∧s.t 8=vP 8 1 0∧s.t 10=vP 10 1 0∧s.t 12=vI v12∧s.h 4=(1,oX 28 (M.aA.en p0))∧s.h 5=(1,oX 180 (M.Site.en p1))∧s.h 8=(1,oB 28 [.nil])∧s.h 10=(1,oB 28 [.row 7050000 u50000])∧s.h 7050000=(u50000,oW 212 2 M.Cache.en r50000))∧iI p0 p1 p2 m v12 r50000=some r
 have e1:=@iI.eq_2
 unfold oK at h
 exact sgo 69 [.cell 8 28,.tmp 9] Tryz.func99
instance:bA 99 (type_of% @c99):=⟨@c99⟩
theorem aW8 (p0 p1 r) (h:tB p0 p1=some r):Sc 100 [aX (M.Registration.en p0),aB p1] [(true,M.Registration.rs r.1),rI r.2]:=by
 unfold tB at h
 exact sgo 29 [.cell 4 25,.tmp 5] Tryz.func100
instance:bA 100 (type_of% @aW8):=⟨@aW8⟩
theorem aUp (p0 p1 r) (h:wZ p0 p1=some r):Sc 101 [aX (M.aA.en p0),aI p1] [(true,M.aA.rs r.1),rB r.2]:=by
 unfold wZ at h
 simp only [EN]
 refine sgn 28 [.cell 4 28,.tmp 5] Tryz.func101 fun base wd => ?_
 refine sq (rn ?_)
 refine an (sq ?_)
 obtain ⟨x1,h2,h⟩:=bind_some h
 refine rn1 (c47 _ _ h2) ?_
 refine an (sq ?_)
 obtain ⟨x3,h4,h⟩:=bind_some h
 refine rn1 (aSb _ _ _ h4) ?_
 refine an (sq (sq (rn ?_)))
 refine an ?_
 rcases gO (decide (x3<0)) with b5 | b5
 ·replace h:=bT b5 h
  refine ct (sq (rn ?_))
  refine an (rt ?_)
  cases h
  simp [Ret,TB,EN, *]
 replace h:=bR b5 h
 refine cf (sk (an (sq ?_)))
 obtain ⟨x6,h7,h⟩:=bind_some h
 obtain ⟨x8,h9,h⟩:=bind_some h
 obtain ⟨x10,h11,h⟩:=bind_some h
 apply aFb mixed
 ·simp +decide only [E,reduceIte,Nat.reduceAdd,Nat.reduceMul,qB,qC,←List.map_take,←List.map_drop,Nat.sub_zero,L,aPN,wX,aC4,M.Cache.en,EN,b5]
  refine ⟨by first | exact aFw h7 | exact (aFw h7).2 | exact (aFw h7).2.2,?_⟩
  try simp +decide only [E,reduceIte,Nat.reduceAdd,Nat.reduceMul,qB,qC,←List.map_take,←List.map_drop,Nat.sub_zero,L,aPN,wX,aC4,M.Cache.en,EN,b5]
  refine ⟨by first | exact aJJ h9 | exact (aJJ h9).2 | exact (aJJ h9).2.2,?_⟩
  try simp +decide only [E,reduceIte,Nat.reduceAdd,Nat.reduceMul,qB,qC,←List.map_take,←List.map_drop,Nat.sub_zero,L,aPN,wX,aC4,M.Cache.en,EN,b5]
  refine ⟨by first | exact aLc (f:=M.Cache.en) (sz:=2) (fun _=>rfl) (by decide) h7 h9 h11 | (have hb:=aLc (f:=M.Cache.en) (sz:=2) (fun _=>rfl) (by decide) h7 h9 h11;simpa using hb),?_⟩
  try simp +decide only [E,reduceIte,Nat.reduceAdd,Nat.reduceMul,qB,qC,←List.map_take,←List.map_drop,Nat.sub_zero,L,aPN,wX,aC4,M.Cache.en,EN,b5]
  exact ⟨.mk (by decide +kernel),Is.mk _⟩
 refine an (sq (rn ?_))
 refine an (rt ?_)
 cases h
 simp [Ret,TB,EN, *]
instance:bA 101 (type_of% @aUp):=⟨@aUp⟩
theorem aYx (p0 p1:M.Bucket) (r:(M.Bucket×Bool)) (h:mM p0 p1=some r) (h2:r.2=false):lD Tryz.prog 37 [(true,M.Bucket.en p0),(true,M.Bucket.en p1)] [(true,[.ro (.str r.1.Site),.ro (.str r.1.Top),.ro (.str r.1.Registration.Site),.ro (.int .i64 r.1.Registration.Installing),.ro (.int .i64 r.1.Registration.Waiting),.ro (.int .i64 r.1.Registration.Active),.own 212 2 (List.map M.Cache.en r.1.Caches.Caches),.ro (.str r.1.bB.Base.Name),.ro (.int .i64 r.1.bB.Base.Version),.own 37 3 (List.map M.aJ.en r.1.bB.Base.Stores),.own 239 2 (List.map M.aD.en r.1.bB.Base.Unique),.own 5 1 (List.map enB r.1.bB.Log),.ro (.int .i64 r.1.bB.Count),.ro (.str r.1.aE.Base.Name),.own 227 4 (List.map M.Item.en r.1.aE.Base.Items),.ro (.int .i64 r.1.aE.Base.Auto),.ro (.int .i64 r.1.aE.Seen),.ro (.int .i64 r.1.aE.Sync.aV.Device),.ro (.int .i64 r.1.aE.Sync.aV.Next),.own 359 7 (List.map M.aW.en r.1.aE.Sync.aV.Writes),.ro (.int .i64 r.1.aE.Sync.Tries),.ro (.int .i64 r.1.aE.Sync.WaitUntil),.ro (.int .i64 r.1.LastUsed),.ro (.bool r.1.Persistent)]),(false,[.ro (.bool r.2)])]:=by
 unfold mM at h
 simp only [M.Bucket.en]
 refine aKb (N:=17) (vars:=[.cell 4 46,.tmp 5]) Tryz.func37 rfl rfl rfl (by decide +kernel) (Nat.le_of_ble_eq_true rfl) fun base wd => ?_
 refine sq ?_
 apply fF
 ·simp +decide only [E,reduceIte,Nat.reduceAdd,Nat.reduceMul,qB,qC,L,aHt,EN]
  exact Is.mk _
 refine an (sq (sq ?_))
 obtain ⟨x1,h2,h⟩:=bind_some h
 rcases gO (!x1) with b3 | b3
 ·replace h:=bT b3 h
  apply fF
  ·simp +decide only [E,reduceIte,Nat.reduceAdd,Nat.reduceMul,qB,qC,L,aHt,EN,b3]
   refine ⟨_,c18 _ _ h2,?_⟩
   try simp +decide only [E,reduceIte,Nat.reduceAdd,Nat.reduceMul,qB,qC,L,aHt,EN,b3]
   exact Is.mk _
  refine an ?_
  refine aEa (by simp +decide only [F,reduceIte,Nat.reduceAdd,qB,qC,b3]) ?_
  refine sq ?_
  obtain ⟨x4,h5,h⟩:=bind_some h
  apply fF
  ·simp +decide only [E,reduceIte,Nat.reduceAdd,Nat.reduceMul,qB,qC,L,aHt,EN,b3]
   refine ⟨_,c35 _ _ h5,?_⟩
   try simp +decide only [E,reduceIte,Nat.reduceAdd,Nat.reduceMul,qB,qC,L,aHt,EN,b3]
   exact Is.mk _
  refine an (rt ?_)
  cases h
  simp [Ret,aHt,M.Cache.en,M.aD.en,M.Item.en,M.aJ.en,M.aW.en,enB,b3]
 replace h:=bR b3 h
 obtain ⟨x6,h7,h⟩:=bind_some h
 apply fF
 ·simp +decide only [E,reduceIte,Nat.reduceAdd,Nat.reduceMul,qB,qC,L,aHt,EN,b3]
  refine ⟨_,c18 _ _ h2,?_⟩
  try simp +decide only [E,reduceIte,Nat.reduceAdd,Nat.reduceMul,qB,qC,L,aHt,EN,b3]
  refine ⟨_,c18 _ _ h7,?_⟩
  try simp +decide only [E,reduceIte,Nat.reduceAdd,Nat.reduceMul,qB,qC,L,aHt,EN,b3]
  exact Is.mk _
 refine an ?_
 rcases aEL (!x6) with b8 | b8
 ·replace h:=bR b8 h
  refine aIG (by simp +decide only [F,reduceIte,Nat.reduceAdd,qB,qC,b3,b8]) ?_
  refine sk (an (sq ?_))
  apply fF
  ·simp +decide only [E,reduceIte,Nat.reduceAdd,Nat.reduceMul,qB,qC,L,aHt,EN,b3,b8]
   exact Is.mk _
  refine an (rt ?_)
  cases h
  exact absurd h2 (by simp)
 replace h:=bT b8 h
 refine aEa (by simp +decide only [F,reduceIte,Nat.reduceAdd,qB,qC,b3,b8]) ?_
 refine sq ?_
 obtain ⟨x9,h10,h⟩:=bind_some h
 apply fF
 ·simp +decide only [E,reduceIte,Nat.reduceAdd,Nat.reduceMul,qB,qC,L,aHt,EN,b3,b8]
  refine ⟨_,c35 _ _ h10,?_⟩
  try simp +decide only [E,reduceIte,Nat.reduceAdd,Nat.reduceMul,qB,qC,L,aHt,EN,b3,b8]
  exact Is.mk _
 refine an (rt ?_)
 cases h
 simp [Ret,aHt,M.Cache.en,M.aD.en,M.Item.en,M.aJ.en,M.aW.en,enB,b3,b8]
theorem aZG (p0 p1:M.Bucket) (r:(M.Bucket×Bool)) (h:mM p0 p1=some r) (h2:r.2=true):lD Tryz.prog 37 [(true,M.Bucket.en p0),(true,M.Bucket.en p1)] [(false,[.edit .pass])]:=by
 unfold mM at h
 simp only [M.Bucket.en]
 refine aRQ (N:=17) (vars:=[.cell 4 46,.tmp 5]) Tryz.func37 rfl rfl rfl (by decide +kernel) (by decide) fun base wd us => ?_
 refine sq ?_
 apply fF
 ·simp +decide only [LP,E,reduceIte,Nat.reduceAdd,Nat.reduceMul,qB,qC,L,aHt,EN]
  exact Is.mk _
 refine an (sq (sq ?_))
 obtain ⟨x1,h2,h⟩:=bind_some h
 rcases gO (!x1) with b3 | b3
 ·replace h:=bT b3 h
  apply fF
  ·simp +decide only [LP,E,reduceIte,Nat.reduceAdd,Nat.reduceMul,qB,qC,L,aHt,EN,b3]
   refine ⟨_,c18 _ _ h2,?_⟩
   try simp +decide only [LP,E,reduceIte,Nat.reduceAdd,Nat.reduceMul,qB,qC,L,aHt,EN,b3]
   exact Is.mk _
  refine an ?_
  refine aEa (by simp +decide only [LP,F,reduceIte,Nat.reduceAdd,qB,qC,b3]) ?_
  refine sq ?_
  obtain ⟨x4,h5,h⟩:=bind_some h
  apply fF
  ·simp +decide only [LP,E,reduceIte,Nat.reduceAdd,Nat.reduceMul,qB,qC,L,aHt,EN,b3]
   refine ⟨_,c35 _ _ h5,?_⟩
   try simp +decide only [LP,E,reduceIte,Nat.reduceAdd,Nat.reduceMul,qB,qC,L,aHt,EN,b3]
   exact Is.mk _
  refine an (rt ?_)
  cases h
  exact absurd h2 (by simp)
 replace h:=bR b3 h
 obtain ⟨x6,h7,h⟩:=bind_some h
 apply fF
 ·simp +decide only [LP,E,reduceIte,Nat.reduceAdd,Nat.reduceMul,qB,qC,L,aHt,EN,b3]
  refine ⟨_,c18 _ _ h2,?_⟩
  try simp +decide only [LP,E,reduceIte,Nat.reduceAdd,Nat.reduceMul,qB,qC,L,aHt,EN,b3]
  refine ⟨_,c18 _ _ h7,?_⟩
  try simp +decide only [LP,E,reduceIte,Nat.reduceAdd,Nat.reduceMul,qB,qC,L,aHt,EN,b3]
  exact Is.mk _
 refine an ?_
 rcases aEL (!x6) with b8 | b8
 ·replace h:=bR b8 h
  refine aIG (by simp +decide only [LP,F,reduceIte,Nat.reduceAdd,qB,qC,b3,b8]) ?_
  refine sk (an (sq ?_))
  apply fF
  ·simp +decide only [LP,E,reduceIte,Nat.reduceAdd,Nat.reduceMul,qB,qC,L,aHt,EN,b3,b8]
   exact Is.mk _
  refine an (rt ?_)
  cases h
  simp [aTn,LP,M.Bucket.en,aHt,b3,b8]
 replace h:=bT b8 h
 refine aEa (by simp +decide only [LP,F,reduceIte,Nat.reduceAdd,qB,qC,b3,b8]) ?_
 refine sq ?_
 obtain ⟨x9,h10,h⟩:=bind_some h
 apply fF
 ·simp +decide only [LP,E,reduceIte,Nat.reduceAdd,Nat.reduceMul,qB,qC,L,aHt,EN,b3,b8]
  refine ⟨_,c35 _ _ h10,?_⟩
  try simp +decide only [LP,E,reduceIte,Nat.reduceAdd,Nat.reduceMul,qB,qC,L,aHt,EN,b3,b8]
  exact Is.mk _
 refine an (rt ?_)
 cases h
 exact absurd h2 (by simp)
theorem c14 (p0 p1 p2 r) (h:nA p0 p1 p2=some r):Sc 14 [aX (M.Bucket.en p0),aX (M.aA.en p1),aX (M.Registration.en p2)] [(true,M.Bucket.rs r.1),rB r.2]:=by
 unfold nA at h
 simp only [EN]
 refine sgn 21 [.cell 6 46,.tmp 7] Tryz.func14 fun base wd => ?_
 refine sq (rn ?_)
 refine an (sq ?_)
 obtain ⟨x1,h2,h⟩:=bind_some h
 refine rn1 (c35 _ _ h2) ?_
 refine an (sq ?_)
 obtain ⟨x3,h4,h⟩:=bind_some h
 refine rn1 (c47 _ _ h4) ?_
 refine an (sq (rn ?_))
 refine an (sq ?_)
 obtain ⟨x5,h6,h⟩:=bind_some h
 rcases gO x5.2 with b7 | b7
 ·replace h:=bT b7 h
  refine rn1 (aZG _ _ _ h6 b7) ?_
  refine an (rt ?_)
  cases h
  simp [Ret,TB,EN, *]
 replace h:=bR b7 h
 refine rn1 (aYx _ _ _ h6 b7) ?_
 refine an (rt ?_)
 cases h
 simp [Ret,TB,EN, *]
instance:bA 14 (type_of% @c14):=⟨@c14⟩
theorem aX6 (p0 p1 r) (h:vX p0 p1=some r):Sc 219 [aX (M.aC.en p0),aX (M.Bucket.en p1)] [(true,M.aC.rs r.1),rB r.2]:=by
 have i1:=fun (x1:M.aC)=>inv fun m s=>∃v8:Int,(s.t 2=vP 2 1 0∧s.t 3=vP 3 1 0∧s.t 4=vP 4 1 0∧s.t 6=vP 6 1 0∧s.t 8=vI v8∧s.h 2=(1,oX 85 (M.aC.en p0))∧s.h 3=(1,oX 46 (M.Bucket.en p1))∧s.h 4=(1,oB 85 [.nil])∧s.h 6=(1,oB 85 [.row 100011 1])∧s.h 100011=(1,oW 46 24 M.Bucket.en x1.Buckets))∧iW p0 p1 x1 m v8=some r
 have e1:=@iW.eq_2
 unfold vX at h
 exact sgo 74 [.cell 4 85,.tmp 5] Tryz.func219
instance:bA 219 (type_of% @aX6):=⟨@aX6⟩
theorem aV9 (p0 p1 p2 r) (h:aB1 p0 p1 p2=some r):Sc 102 [aX (M.World.en p0),aX (M.Bucket.en p1),aB p2] [(true,M.World.rs r.1),rB r.2]:=by
 unfold aB1 at h
 exact sgo 30 [.cell 6 96,.tmp 7] Tryz.func102
instance:bA 102 (type_of% @aV9):=⟨@aV9⟩
theorem c27 (p0 p1 p2 r) (h:nY p0 p1 p2=some r):Sc 27 [aX (M.World.en p0),aS p1,aS p2] [(true,M.World.rs r.1),rB r.2]:=by
 unfold nY at h
 exact sgo 117 [.cell 6 96,.tmp 7] Tryz.func27
instance:bA 27 (type_of% @c27):=⟨@c27⟩
end Go.Proofs.YtidhkhdnjonjfaaGreat.gen
