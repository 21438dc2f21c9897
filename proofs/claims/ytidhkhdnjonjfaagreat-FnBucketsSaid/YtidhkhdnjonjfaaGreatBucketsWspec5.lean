/-
  Helper text. No conditions.
-/
import Derived.Test.YtidhkhdnjonjfaaGreatBucketsTi
import Derived.Test.YtidhkhdnjonjfaaGreatBucketsWspec0
import Derived.Test.YtidhkhdnjonjfaaGreatBucketsWspec1
import Derived.Test.YtidhkhdnjonjfaaGreatBucketsWspec2
import Derived.Test.YtidhkhdnjonjfaaGreatBucketsWspec3
import Derived.Test.YtidhkhdnjonjfaaGreatBucketsWspec4
set_option linter.unusedVariables false
set_option linter.unusedSimpArgs false
namespace Go.Proofs.YtidhkhdnjonjfaaGreat.gen
open Go Go.Sh
set_option maxRecDepth 20000
set_option maxHeartbeats 4000000
theorem aQ1 (p0 r) (h:iX p0=some r):Sc 382 [aI p0] [(true,M.aG.rs r.1),rB r.2]:=by
 unfold iX at h
 exact sgo 12 [.cell 2 40,.tmp 3] Tryz.func382
instance:bP 382 (type_of% @aQ1):=⟨@aQ1⟩
theorem c59 (p0 r) (h:iW p0=some r):Sc 59 [aX (M.aD.en p0)] [rB r]:=by
 unfold iW at h
 exact sgo 23 [.tmp 2] Tryz.func59
instance:bP 59 (type_of% @c59):=⟨@c59⟩
theorem aTK (p0 r) (h:mX p0=some r):Sc 165 [aX (M.aA.en p0)] [rI r]:=by
 have i1:=inv fun m s=>∃v3:Int,∃v4:Int,(s.t 1=vP 1 1 0∧s.t 3=vI v3∧s.t 4=vI v4∧s.h 1=(1,oX 37 (M.aA.en p0)))∧gP p0 m v3 v4=some r
 have e1:=@gP.eq_2
 unfold mX at h
 exact sgo 32 [.tmp 2] Tryz.func165
instance:bP 165 (type_of% @aTK):=⟨@aTK⟩
theorem aRU (p0 p1 p2 r) (h:mW p0 p1 p2=some r):Sc 131 [aL enB p0,aI p1,aL enB p2] [rW 5 1 enB r.1,rB r.2]:=by
 unfold mW at h
 exact sgo 29 [.tmp 6,.tmp 7] Tryz.func131
instance:bP 131 (type_of% @aRU):=⟨@aRU⟩
theorem aTX (p0 p1 p2 p3 p4 r) (h:iU p0 p1 p2 p3 p4=some r):Sc 216 [aX (M.aE.en p0),aI p1,aS p2,aS p3,aX (M.Response.en p4)] [(true,M.aE.rs r.1),rB r.2]:=by
 unfold iU at h
 simp only [EN]
 refine sgO 73 [.cell 10 28,.tmp 11] Tryz.func216 fun base wd => ?_
 refine sq ?_
 apply eD
 ·simp +decide only [LN,E,reduceIte,Nat.reduceAdd,Nat.reduceMul,qB,qC,L,uP,EN]
  exact Is.mk _
 refine an (sq ?_)
 obtain ⟨x1,h2,h⟩:=bind_some h
 apply eD
 ·simp +decide only [LN,E,reduceIte,Nat.reduceAdd,Nat.reduceMul,qB,qC,L,uP,EN]
  refine ⟨_,c47 _ _ h2,?_⟩
  try simp +decide only [LN,E,reduceIte,Nat.reduceAdd,Nat.reduceMul,qB,qC,L,uP,EN]
  exact Is.mk _
 refine an (sq ?_)
 obtain ⟨x3,h4,h⟩:=bind_some h
 apply eD
 ·simp +decide only [LN,E,reduceIte,Nat.reduceAdd,Nat.reduceMul,qB,qC,L,uP,EN]
  refine ⟨_,aQi _ _ _ h4,?_⟩
  try simp +decide only [LN,E,reduceIte,Nat.reduceAdd,Nat.reduceMul,qB,qC,L,uP,EN]
  exact Is.mk _
 refine an (sq (sq ?_))
 apply eD
 ·simp +decide only [LN,E,reduceIte,Nat.reduceAdd,Nat.reduceMul,qB,qC,L,EN]
  exact Is.mk _
 refine an ?_
 rcases lN (decide (x3<0)) with b5 | b5
 ·replace h:=cD b5 h
  refine aBC (by simp +decide only [LN,F,reduceIte,Nat.reduceAdd,qB,qC,EN,b5]) ?_
  refine sq ?_
  apply eD
  ·simp +decide only [LN,E,reduceIte,Nat.reduceAdd,Nat.reduceMul,qB,qC,L,uP,EN,b5]
   exact Is.mk _
  refine an (rt ?_)
  cases h
  simp [Ret,EN,uP,M.Cache.en,b5]
 replace h:=bY b5 h
 refine aDp (by simp +decide only [LN,F,reduceIte,Nat.reduceAdd,qB,qC,EN,b5]) ?_
 refine sk (an (sq ?_))
 obtain ⟨x6,h7,h⟩:=bind_some h
 apply eD
 ·simp +decide only [LN,E,reduceIte,Nat.reduceAdd,Nat.reduceMul,qB,qC,L,aOx,aE6,EN,b5]
  refine ⟨_,aQP _ _ h7,?_⟩
  try simp +decide only [LN,E,reduceIte,Nat.reduceAdd,Nat.reduceMul,qB,qC,L,aOx,aE6,EN,b5]
  exact Is.mk _
 refine an (sq (sq ?_))
 obtain ⟨x8,h9,h⟩:=bind_some h
 obtain ⟨q10,q11,q12⟩:=jG h9
 obtain ⟨x13,h14,h⟩:=bind_some h
 apply eD
 ·simp +decide only [LN,E,reduceIte,Nat.reduceAdd,Nat.reduceMul,qB,qC,L,aI8,uP,aA0,M.Cache.en,EN,b5,q10,q11,q12]
  refine ⟨_,aPy _ _ _ _ h14,?_⟩
  try simp +decide only [LN,E,reduceIte,Nat.reduceAdd,Nat.reduceMul,qB,qC,L,aI8,uP,aA0,M.Cache.en,EN,b5,q10,q11,q12]
  exact Is.mk _
 refine an (sq ?_)
 apply eD
 ·simp +decide only [LN,E,reduceIte,Nat.reduceAdd,Nat.reduceMul,qB,qC,L,EN,b5,q10,q11,q12]
  exact Is.mk _
 refine an ?_
 rcases wF (decide (x13≥0)) with b15 | b15
 ·replace h:=bY b15 h
  refine aDp (by simp +decide only [LN,F,reduceIte,Nat.reduceAdd,qB,qC,EN,b5,q10,q11,q12,b15]) ?_
  refine aIJ [5,10,12,13,14] [5,10,12,14,400027] (i:=100017) (ver:=1) (e:=212) (sz:=2) (xs:=List.map M.Cache.en x1.Caches) (j:=x3.toNat) (x:=M.Cache.en x8) (off:=1) (K:=7057000) (e':=221) (sz':=7) (ys:=List.map M.Cached.en x8.Entries) (by first | (simp +decide only [LN,F,reduceIte,Nat.reduceAdd,qB,qC,EN,M.Cache.en,enB,b5,q10,q11,q12,b15];done) | (simp +decide only [LN,F,reduceIte,Nat.reduceAdd,qB,qC,EN,M.Cache.en,enB,b5,q10,q11,q12,b15];rfl) | rfl) ?_ rfl ?_ rfl (.inl rfl) (fun _ h=>h.elim) (by decide) (by decide) (by decide) ?_ ?_ fun u => ?_
  ·rw [List.getElem?_map,q11];rfl
  ·rw [←(cP aA0).sl];rfl
  ·simp +decide only [LC,LN,F,reduceIte,Nat.reduceAdd,qB,qC,EN,M.Cache.en,enB,b5,q10,q11,q12,b15]
  ·simp +decide only [LC,LN,F,reduceIte,Nat.reduceAdd,qB,qC,EN,M.Cache.en,enB,b5,q10,q11,q12,b15]
  have q56:(List.set (List.map M.Cache.en x1.Caches) x3.toNat [.int .i64 x8.Version,.val u])[x3.toNat]? = some [.int .i64 x8.Version,.val u]:=aLq (b:=M.Cache.en x8) (by rw [List.getElem?_map,q11];rfl)
  refine gB (J:=fun s=>s.t 5 = .v false [.bp 5 1 0]∧s.t 10 = .v false [.bp 10 1 0]∧s.t 12 = .v false [.bp 12 1 0]∧s.t 13 = .v false [.dat (.int .i64 x3)]∧s.t 14 = .v false [.bp 14 1 0]∧s.h 5=(1,.box 28 [.old base (.sl (List.map M.Cache.en p0.Caches)) none])∧s.h 10=(1,.box 28 [.nil])∧s.h 12=(1,.box 28 [.row 100017 1])∧s.h 14=(1,.box 221 [.dat (.str p2),.dat (.str p3),.dat (.int .i64 x6.Type_),.dat (.int .i64 x6.Status),.dat (.int .i64 x6.Version),.row 400027 1,.dat (.bool x6.Shares)])∧s.h 100017=(1,.row 212 2 (List.set (List.map M.Cache.en x1.Caches) x3.toNat [.int .i64 x8.Version,.val u]) true)∧s.h 400027=(1,.row 5 1 (List.map enB x6.Body) true)∧s.h 7057000=(1,.row 221 7 (List.map M.Cached.en x8.Entries) true)∧s.h 7058000=(1,.pin 7057000 1 u)∧True) ?_ ?_
  ·refine ⟨?_,?_,?_,?_,?_,?_,?_,?_,?_,?_,?_,?_,?_,trivial⟩<;>(try first | (simp +decide only [LN,F,reduceIte,Nat.reduceAdd,qB,qC,EN,M.Cache.en,M.Cached.en,enB,b5,q10,q11,q12,b15,q56];done) | (simp +decide only [LN,F,reduceIte,Nat.reduceAdd,qB,qC,EN,M.Cache.en,M.Cached.en,enB,b5,q10,q11,q12,b15,q56];rfl) | rfl)
  rintro s55 ⟨f57,f58,f59,f60,f61,f62,f63,f64,f65,f66,f67,f68,f69,_⟩
  obtain ⟨x70,h71,h⟩:=bind_some h
  apply xG mixed
  ·simp +decide only [LN,E,reduceIte,Nat.reduceAdd,Nat.reduceMul,qB,qC,L,aI8,uP,aGg,aA0,aE6,M.Cache.en,M.Cached.en,EN,b5,q10,q11,q12,b15,q56,f57,f58,f59,f60,f61,f62,f63,f64,f65,f66,f67,f68,f69]
   refine ⟨by (have hb:=oA h71);simp [M.Cache.en,M.Cached.en,qE,aQ] at hb ⊢ <;> omega,?_⟩
   try simp +decide only [LN,E,reduceIte,Nat.reduceAdd,Nat.reduceMul,qB,qC,L,aI8,uP,aGg,aA0,aE6,M.Cache.en,M.Cached.en,EN,b5,q10,q11,q12,b15,q56,f57,f58,f59,f60,f61,f62,f63,f64,f65,f66,f67,f68,f69]
   exact ⟨.mk (by decide +kernel),Is.mk _⟩
  refine an (sq (sq ?_))
  refine gB (J:=fun s=>s.t 5 = .v false [.bp 5 1 0]∧s.t 10 = .v false [.bp 10 1 0]∧s.t 12 = .v false [.bp 12 1 0]∧s.h 5=(1,.box 28 [.old base (.sl (List.map M.Cache.en p0.Caches)) none])∧s.h 10=(1,.box 28 [.nil])∧s.h 12=(1,.box 28 [.row 100017 1])∧s.h 100017=(1,.row 212 2 (List.map M.Cache.en (List.set x1.Caches x3.toNat (⟨x8.Version,(x8.Entries++[(⟨p2,p3,x6⟩:M.Cached)])⟩:M.Cache))) true)∧True) ?_ ?_
  ·refine ⟨?_,?_,?_,?_,?_,?_,?_,trivial⟩<;>(try simp +decide only [LN,F,reduceIte,Nat.reduceAdd,qB,qC,EN,M.Cache.en,b5,q10,q11,q12,b15,q56,f57,f58,f59,f60,f61,f62,f63,f64,f65,f66,f67,f68,f69])
  rintro s72 ⟨f73,f74,f75,f76,f77,f78,f79,_⟩
  obtain ⟨x80,h81,h⟩:=bind_some h
  rcases lN (!x80) with b82 | b82
  ·replace h:=cD b82 h
   apply eD
   ·simp +decide only [LN,E,reduceIte,Nat.reduceAdd,Nat.reduceMul,qB,qC,L,uP,EN,b5,q10,q11,q12,b15,q56,f73,f74,f75,f76,f77,f78,f79,b82]
    refine ⟨_,c57 _ _ h81,?_⟩
    try simp +decide only [LN,E,reduceIte,Nat.reduceAdd,Nat.reduceMul,qB,qC,L,uP,EN,b5,q10,q11,q12,b15,q56,f73,f74,f75,f76,f77,f78,f79,b82]
    exact Is.mk _
   refine an ?_
   refine aBC (by simp +decide only [LN,F,reduceIte,Nat.reduceAdd,qB,qC,EN,b5,q10,q11,q12,b15,q56,f73,f74,f75,f76,f77,f78,f79,b82]) ?_
   refine sq ?_
   obtain ⟨x83,h84,h⟩:=bind_some h
   apply eD
   ·simp +decide only [LN,E,reduceIte,Nat.reduceAdd,Nat.reduceMul,qB,qC,L,uP,EN,b5,q10,q11,q12,b15,q56,f73,f74,f75,f76,f77,f78,f79,b82]
    refine ⟨_,c47 _ _ h84,?_⟩
    try simp +decide only [LN,E,reduceIte,Nat.reduceAdd,Nat.reduceMul,qB,qC,L,uP,EN,b5,q10,q11,q12,b15,q56,f73,f74,f75,f76,f77,f78,f79,b82]
    exact Is.mk _
   refine an (rt ?_)
   cases h
   simp [Ret,EN,uP,M.Cache.en,b5,q10,q11,q12,b15,q56,f73,f74,f75,f76,f77,f78,f79,b82]
  replace h:=bY b82 h
  obtain ⟨x85,h86,h⟩:=bind_some h
  apply eD
  ·simp +decide only [LN,E,reduceIte,Nat.reduceAdd,Nat.reduceMul,qB,qC,L,uP,EN,b5,q10,q11,q12,b15,q56,f73,f74,f75,f76,f77,f78,f79,b82]
   refine ⟨_,c57 _ _ h81,?_⟩
   try simp +decide only [LN,E,reduceIte,Nat.reduceAdd,Nat.reduceMul,qB,qC,L,uP,EN,b5,q10,q11,q12,b15,q56,f73,f74,f75,f76,f77,f78,f79,b82]
   refine ⟨_,c57 _ _ h86,?_⟩
   try simp +decide only [LN,E,reduceIte,Nat.reduceAdd,Nat.reduceMul,qB,qC,L,uP,EN,b5,q10,q11,q12,b15,q56,f73,f74,f75,f76,f77,f78,f79,b82]
   exact Is.mk _
  refine an ?_
  rcases wF (!x85) with b87 | b87
  ·replace h:=bY b87 h
   refine aDp (by simp +decide only [LN,F,reduceIte,Nat.reduceAdd,qB,qC,EN,b5,q10,q11,q12,b15,q56,f73,f74,f75,f76,f77,f78,f79,b82,b87]) ?_
   refine sk (an (sq ?_))
   apply eD
   ·simp +decide only [LN,E,reduceIte,Nat.reduceAdd,Nat.reduceMul,qB,qC,L,uP,EN,b5,q10,q11,q12,b15,q56,f73,f74,f75,f76,f77,f78,f79,b82,b87]
    exact Is.mk _
   refine an (rt ?_)
   cases h
   simp [Ret,EN,uP,M.Cache.en,b5,q10,q11,q12,b15,q56,f73,f74,f75,f76,f77,f78,f79,b82,b87]
  replace h:=cD b87 h
  refine aBC (by simp +decide only [LN,F,reduceIte,Nat.reduceAdd,qB,qC,EN,b5,q10,q11,q12,b15,q56,f73,f74,f75,f76,f77,f78,f79,b82,b87]) ?_
  refine sq ?_
  obtain ⟨x88,h89,h⟩:=bind_some h
  apply eD
  ·simp +decide only [LN,E,reduceIte,Nat.reduceAdd,Nat.reduceMul,qB,qC,L,uP,EN,b5,q10,q11,q12,b15,q56,f73,f74,f75,f76,f77,f78,f79,b82,b87]
   refine ⟨_,c47 _ _ h89,?_⟩
   try simp +decide only [LN,E,reduceIte,Nat.reduceAdd,Nat.reduceMul,qB,qC,L,uP,EN,b5,q10,q11,q12,b15,q56,f73,f74,f75,f76,f77,f78,f79,b82,b87]
   exact Is.mk _
  refine an (rt ?_)
  cases h
  simp [Ret,EN,uP,M.Cache.en,b5,q10,q11,q12,b15,q56,f73,f74,f75,f76,f77,f78,f79,b82,b87]
 replace h:=cD b15 h
 refine aBC (by simp +decide only [LN,F,reduceIte,Nat.reduceAdd,qB,qC,EN,b5,q10,q11,q12,b15]) ?_
 refine aIJ [5,10,12,13,14,15] [5,10,12,14,400027] (i:=100017) (ver:=1) (e:=212) (sz:=2) (xs:=List.map M.Cache.en x1.Caches) (j:=x3.toNat) (x:=M.Cache.en x8) (off:=1) (K:=7057000) (e':=221) (sz':=7) (ys:=List.map M.Cached.en x8.Entries) (by first | (simp +decide only [LN,F,reduceIte,Nat.reduceAdd,qB,qC,EN,M.Cache.en,enB,b5,q10,q11,q12,b15];done) | (simp +decide only [LN,F,reduceIte,Nat.reduceAdd,qB,qC,EN,M.Cache.en,enB,b5,q10,q11,q12,b15];rfl) | rfl) ?_ rfl ?_ rfl (.inl rfl) (fun _ h=>h.elim) (by decide) (by decide) (by decide) ?_ ?_ fun u => ?_
 ·rw [List.getElem?_map,q11];rfl
 ·rw [←(cP aA0).sl];rfl
 ·simp +decide only [LC,LN,F,reduceIte,Nat.reduceAdd,qB,qC,EN,M.Cache.en,enB,b5,q10,q11,q12,b15]
 ·simp +decide only [LC,LN,F,reduceIte,Nat.reduceAdd,qB,qC,EN,M.Cache.en,enB,b5,q10,q11,q12,b15]
 have q17:(List.set (List.map M.Cache.en x1.Caches) x3.toNat [.int .i64 x8.Version,.val u])[x3.toNat]? = some [.int .i64 x8.Version,.val u]:=aLq (b:=M.Cache.en x8) (by rw [List.getElem?_map,q11];rfl)
 refine gB (J:=fun s=>s.t 5 = .v false [.bp 5 1 0]∧s.t 10 = .v false [.bp 10 1 0]∧s.t 12 = .v false [.bp 12 1 0]∧s.t 13 = .v false [.dat (.int .i64 x3)]∧s.t 14 = .v false [.bp 14 1 0]∧s.t 15 = .v false [.dat (.int .i64 x13)]∧s.h 5=(1,.box 28 [.old base (.sl (List.map M.Cache.en p0.Caches)) none])∧s.h 10=(1,.box 28 [.nil])∧s.h 12=(1,.box 28 [.row 100017 1])∧s.h 14=(1,.box 221 [.dat (.str p2),.dat (.str p3),.dat (.int .i64 x6.Type_),.dat (.int .i64 x6.Status),.dat (.int .i64 x6.Version),.row 400027 1,.dat (.bool x6.Shares)])∧s.h 100017=(1,.row 212 2 (List.set (List.map M.Cache.en x1.Caches) x3.toNat [.int .i64 x8.Version,.val u]) true)∧s.h 400027=(1,.row 5 1 (List.map enB x6.Body) true)∧s.h 7057000=(1,.row 221 7 (List.map M.Cached.en x8.Entries) true)∧s.h 7058000=(1,.pin 7057000 1 u)∧True) ?_ ?_
 ·refine ⟨?_,?_,?_,?_,?_,?_,?_,?_,?_,?_,?_,?_,?_,?_,trivial⟩<;>(try first | (simp +decide only [LN,F,reduceIte,Nat.reduceAdd,qB,qC,EN,M.Cache.en,M.Cached.en,enB,b5,q10,q11,q12,b15,q17];done) | (simp +decide only [LN,F,reduceIte,Nat.reduceAdd,qB,qC,EN,M.Cache.en,M.Cached.en,enB,b5,q10,q11,q12,b15,q17];rfl) | rfl)
 rintro s16 ⟨f18,f19,f20,f21,f22,f23,f24,f25,f26,f27,f28,f29,f30,f31,_⟩
 obtain ⟨x32,h33,h⟩:=bind_some h
 obtain ⟨q34,q35,q36⟩:=jG h33
 apply xG mixed
 ·simp +decide only [LN,E,reduceIte,Nat.reduceAdd,Nat.reduceMul,qB,qC,L,aI8,uP,aGg,aA0,aE6,M.Cache.en,M.Cached.en,EN,b5,q10,q11,q12,b15,q17,f18,f19,f20,f21,f22,f23,f24,f25,f26,f27,f28,f29,f30,f31,q34,q35,q36]
  exact ⟨.mk (by decide +kernel),Is.mk _⟩
 refine an ?_
 refine aER (Gho.close (i:=100017) (ver:=1) (e:=212) (sz:=2) (xs:=List.set (List.map M.Cache.en x1.Caches) x3.toNat [.int .i64 x8.Version,.val u]) (j:=x3.toNat) (x:=[.int .i64 x8.Version,.val u]) (off:=1) (K:=7057000) (vK:=1) (e':=221) (sz':=7) (ys:=List.map M.Cached.en (List.set x8.Entries x13.toNat (⟨p2,p3,x6⟩:M.Cached))) (u:=u) (by first | (simp +decide only [LN,F,reduceIte,Nat.reduceAdd,qB,qC,EN,M.Cached.en,b5,q10,q11,q12,b15,q17,f18,f19,f20,f21,f22,f23,f24,f25,f26,f27,f28,f29,f30,f31,q34,q35,q36];done) | (simp +decide only [LN,F,reduceIte,Nat.reduceAdd,qB,qC,EN,M.Cached.en,b5,q10,q11,q12,b15,q17,f18,f19,f20,f21,f22,f23,f24,f25,f26,f27,f28,f29,f30,f31,q34,q35,q36];rfl) | rfl) q17 rfl (by first | (simp +decide only [LN,F,reduceIte,Nat.reduceAdd,qB,qC,EN,M.Cached.en,b5,q10,q11,q12,b15,q17,f18,f19,f20,f21,f22,f23,f24,f25,f26,f27,f28,f29,f30,f31,q34,q35,q36];done) | (simp +decide only [LN,F,reduceIte,Nat.reduceAdd,qB,qC,EN,M.Cached.en,b5,q10,q11,q12,b15,q17,f18,f19,f20,f21,f22,f23,f24,f25,f26,f27,f28,f29,f30,f31,q34,q35,q36];rfl) | rfl) (by first | (simp +decide only [LN,F,reduceIte,Nat.reduceAdd,qB,qC,EN,M.Cached.en,b5,q10,q11,q12,b15,q17,f18,f19,f20,f21,f22,f23,f24,f25,f26,f27,f28,f29,f30,f31,q34,q35,q36];done) | (simp +decide only [LN,F,reduceIte,Nat.reduceAdd,qB,qC,EN,M.Cached.en,b5,q10,q11,q12,b15,q17,f18,f19,f20,f21,f22,f23,f24,f25,f26,f27,f28,f29,f30,f31,q34,q35,q36];rfl) | rfl) (by rw [←(cP aA0).sl];rfl) rfl (by decide)) ?_
 refine sq (sq ?_)
 refine gB (J:=fun s=>s.t 5 = .v false [.bp 5 1 0]∧s.t 10 = .v false [.bp 10 1 0]∧s.t 12 = .v false [.bp 12 1 0]∧s.h 5=(1,.box 28 [.old base (.sl (List.map M.Cache.en p0.Caches)) none])∧s.h 10=(1,.box 28 [.nil])∧s.h 12=(1,.box 28 [.row 100017 1])∧s.h 100017=(1,.row 212 2 (List.map M.Cache.en (List.set x1.Caches x3.toNat (⟨x8.Version,(List.set x8.Entries x13.toNat (⟨p2,p3,x6⟩:M.Cached))⟩:M.Cache))) true)∧True) ?_ ?_
 ·refine ⟨?_,?_,?_,?_,?_,?_,?_,trivial⟩<;>(try simp +decide only [LN,F,reduceIte,Nat.reduceAdd,qB,qC,EN,M.Cache.en,b5,q10,q11,q12,b15,q17,f18,f19,f20,f21,f22,f23,f24,f25,f26,f27,f28,f29,f30,f31,q34,q35,q36])
 rintro s37 ⟨f38,f39,f40,f41,f42,f43,f44,_⟩
 obtain ⟨x45,h46,h⟩:=bind_some h
 rcases lN (!x45) with b47 | b47
 ·replace h:=cD b47 h
  apply eD
  ·simp +decide only [LN,E,reduceIte,Nat.reduceAdd,Nat.reduceMul,qB,qC,L,uP,EN,b5,q10,q11,q12,b15,q17,q34,q35,q36,f38,f39,f40,f41,f42,f43,f44,b47]
   refine ⟨_,c57 _ _ h46,?_⟩
   try simp +decide only [LN,E,reduceIte,Nat.reduceAdd,Nat.reduceMul,qB,qC,L,uP,EN,b5,q10,q11,q12,b15,q17,q34,q35,q36,f38,f39,f40,f41,f42,f43,f44,b47]
   exact Is.mk _
  refine an ?_
  refine aBC (by simp +decide only [LN,F,reduceIte,Nat.reduceAdd,qB,qC,EN,b5,q10,q11,q12,b15,q17,q34,q35,q36,f38,f39,f40,f41,f42,f43,f44,b47]) ?_
  refine sq ?_
  obtain ⟨x48,h49,h⟩:=bind_some h
  apply eD
  ·simp +decide only [LN,E,reduceIte,Nat.reduceAdd,Nat.reduceMul,qB,qC,L,uP,EN,b5,q10,q11,q12,b15,q17,q34,q35,q36,f38,f39,f40,f41,f42,f43,f44,b47]
   refine ⟨_,c47 _ _ h49,?_⟩
   try simp +decide only [LN,E,reduceIte,Nat.reduceAdd,Nat.reduceMul,qB,qC,L,uP,EN,b5,q10,q11,q12,b15,q17,q34,q35,q36,f38,f39,f40,f41,f42,f43,f44,b47]
   exact Is.mk _
  refine an (rt ?_)
  cases h
  simp [Ret,EN,uP,M.Cache.en,b5,q10,q11,q12,b15,q17,q34,q35,q36,f38,f39,f40,f41,f42,f43,f44,b47]
 replace h:=bY b47 h
 obtain ⟨x50,h51,h⟩:=bind_some h
 apply eD
 ·simp +decide only [LN,E,reduceIte,Nat.reduceAdd,Nat.reduceMul,qB,qC,L,uP,EN,b5,q10,q11,q12,b15,q17,q34,q35,q36,f38,f39,f40,f41,f42,f43,f44,b47]
  refine ⟨_,c57 _ _ h46,?_⟩
  try simp +decide only [LN,E,reduceIte,Nat.reduceAdd,Nat.reduceMul,qB,qC,L,uP,EN,b5,q10,q11,q12,b15,q17,q34,q35,q36,f38,f39,f40,f41,f42,f43,f44,b47]
  refine ⟨_,c57 _ _ h51,?_⟩
  try simp +decide only [LN,E,reduceIte,Nat.reduceAdd,Nat.reduceMul,qB,qC,L,uP,EN,b5,q10,q11,q12,b15,q17,q34,q35,q36,f38,f39,f40,f41,f42,f43,f44,b47]
  exact Is.mk _
 refine an ?_
 rcases wF (!x50) with b52 | b52
 ·replace h:=bY b52 h
  refine aDp (by simp +decide only [LN,F,reduceIte,Nat.reduceAdd,qB,qC,EN,b5,q10,q11,q12,b15,q17,q34,q35,q36,f38,f39,f40,f41,f42,f43,f44,b47,b52]) ?_
  refine sk (an (sq ?_))
  apply eD
  ·simp +decide only [LN,E,reduceIte,Nat.reduceAdd,Nat.reduceMul,qB,qC,L,uP,EN,b5,q10,q11,q12,b15,q17,q34,q35,q36,f38,f39,f40,f41,f42,f43,f44,b47,b52]
   exact Is.mk _
  refine an (rt ?_)
  cases h
  simp [Ret,EN,uP,M.Cache.en,b5,q10,q11,q12,b15,q17,q34,q35,q36,f38,f39,f40,f41,f42,f43,f44,b47,b52]
 replace h:=cD b52 h
 refine aBC (by simp +decide only [LN,F,reduceIte,Nat.reduceAdd,qB,qC,EN,b5,q10,q11,q12,b15,q17,q34,q35,q36,f38,f39,f40,f41,f42,f43,f44,b47,b52]) ?_
 refine sq ?_
 obtain ⟨x53,h54,h⟩:=bind_some h
 apply eD
 ·simp +decide only [LN,E,reduceIte,Nat.reduceAdd,Nat.reduceMul,qB,qC,L,uP,EN,b5,q10,q11,q12,b15,q17,q34,q35,q36,f38,f39,f40,f41,f42,f43,f44,b47,b52]
  refine ⟨_,c47 _ _ h54,?_⟩
  try simp +decide only [LN,E,reduceIte,Nat.reduceAdd,Nat.reduceMul,qB,qC,L,uP,EN,b5,q10,q11,q12,b15,q17,q34,q35,q36,f38,f39,f40,f41,f42,f43,f44,b47,b52]
  exact Is.mk _
 refine an (rt ?_)
 cases h
 simp [Ret,EN,uP,M.Cache.en,b5,q10,q11,q12,b15,q17,q34,q35,q36,f38,f39,f40,f41,f42,f43,f44,b47,b52]
instance:bP 216 (type_of% @aTX):=⟨@aTX⟩
end Go.Proofs.YtidhkhdnjonjfaaGreat.gen
