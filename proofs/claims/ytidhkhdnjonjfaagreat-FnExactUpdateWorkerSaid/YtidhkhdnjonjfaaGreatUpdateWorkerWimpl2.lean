/-
  Helper text. No conditions.
-/
import Derived.Test.YtidhkhdnjonjfaaGreatUpdateWorkerTi
import Derived.Test.YtidhkhdnjonjfaaGreatUpdateWorkerWimpl0
import Derived.Test.YtidhkhdnjonjfaaGreatUpdateWorkerWimpl1
import Derived.Test.YtidhkhdnjonjfaaGreatUpdateWorkerWlib1
import Derived.Test.YtidhkhdnjonjfaaGreatUpdateWorkerWlib2
set_option linter.unusedVariables false
set_option linter.unusedSimpArgs false
namespace Go.Proofs.YtidhkhdnjonjfaaGreat.gen
open Go Go.Sh
set_option maxRecDepth 20000
set_option maxHeartbeats 4000000
theorem aW0 (p0 p1 p2 p3 p4 r) (h:mW p0 p1 p2 p3 p4=some r):Sc 235 [aX (M.aA.en p0),aI p1,aS p2,aS p3,aX (M.Response.en p4)] [(true,M.aA.rs r.1),rB r.2]:=by
 unfold mW at h
 simp only [EN]
 refine sgO 70 [.cell 10 28,.tmp 11] Tryz.func235 fun base wd => ?_
 refine sq ?_
 apply fF
 ·simp +decide only [LN,E,reduceIte,Nat.reduceAdd,Nat.reduceMul,qB,qC,L,wX,EN]
  exact Is.mk _
 refine an (sq ?_)
 obtain ⟨x1,h2,h⟩:=bind_some h
 apply fF
 ·simp +decide only [LN,E,reduceIte,Nat.reduceAdd,Nat.reduceMul,qB,qC,L,wX,EN]
  refine ⟨_,aRo _ _ h2,?_⟩
  try simp +decide only [LN,E,reduceIte,Nat.reduceAdd,Nat.reduceMul,qB,qC,L,wX,EN]
  exact Is.mk _
 refine an (sq ?_)
 obtain ⟨x3,h4,h⟩:=bind_some h
 apply fF
 ·simp +decide only [LN,E,reduceIte,Nat.reduceAdd,Nat.reduceMul,qB,qC,L,wX,EN]
  refine ⟨_,aTd _ _ _ h4,?_⟩
  try simp +decide only [LN,E,reduceIte,Nat.reduceAdd,Nat.reduceMul,qB,qC,L,wX,EN]
  exact Is.mk _
 refine an (sq (sq ?_))
 apply fF
 ·simp +decide only [LN,E,reduceIte,Nat.reduceAdd,Nat.reduceMul,qB,qC,L,EN]
  exact Is.mk _
 refine an ?_
 rcases gO (decide (x3<0)) with b5 | b5
 ·replace h:=bT b5 h
  refine aEa (by simp +decide only [LN,F,reduceIte,Nat.reduceAdd,qB,qC,EN,b5]) ?_
  refine sq ?_
  apply fF
  ·simp +decide only [LN,E,reduceIte,Nat.reduceAdd,Nat.reduceMul,qB,qC,L,wX,EN,b5]
   exact Is.mk _
  refine an (rt ?_)
  cases h
  simp [Ret,wX,M.Cache.en,b5]
 replace h:=bR b5 h
 refine aIG (by simp +decide only [LN,F,reduceIte,Nat.reduceAdd,qB,qC,EN,b5]) ?_
 refine sk (an (sq ?_))
 obtain ⟨x6,h7,h⟩:=bind_some h
 obtain ⟨q8,q9,q10⟩:=aT h7
 apply fF
 ·simp +decide only [LN,E,reduceIte,Nat.reduceAdd,Nat.reduceMul,qB,qC,L,aPN,wX,aC4,M.Cache.en,EN,b5,q8,q9,q10]
  exact Is.mk _
 refine an (sq (sq ?_))
 obtain ⟨x11,h12,h⟩:=bind_some h
 apply fF
 ·simp +decide only [LN,E,reduceIte,Nat.reduceAdd,Nat.reduceMul,qB,qC,L,aC4,M.Cache.en,EN,b5,q8,q9,q10]
  refine ⟨_,aTz _ _ _ _ h12,?_⟩
  try simp +decide only [LN,E,reduceIte,Nat.reduceAdd,Nat.reduceMul,qB,qC,L,aC4,M.Cache.en,EN,b5,q8,q9,q10]
  exact Is.mk _
 refine an (sq ?_)
 apply fF
 ·simp +decide only [LN,E,reduceIte,Nat.reduceAdd,Nat.reduceMul,qB,qC,L,EN,b5,q8,q9,q10]
  exact Is.mk _
 refine an ?_
 rcases aEL (decide (x11≥0)) with b13 | b13
 ·replace h:=bR b13 h
  refine aIG (by simp +decide only [LN,F,reduceIte,Nat.reduceAdd,qB,qC,EN,b5,q8,q9,q10,b13]) ?_
  refine aKu [2,3,5,9,10,12,14] [5,9,10,12] (i:=100017) (ver:=1) (e:=212) (sz:=2) (xs:=List.map M.Cache.en x1.Caches) (j:=x3.toNat) (x:=M.Cache.en x6) (off:=1) (K:=7057000) (e':=221) (sz':=7) (ys:=List.map M.Cached.en x6.Entries) (by first | (simp +decide only [LN,F,reduceIte,Nat.reduceAdd,qB,qC,EN,M.Cache.en,b5,q8,q9,q10,b13];done) | (simp +decide only [LN,F,reduceIte,Nat.reduceAdd,qB,qC,EN,M.Cache.en,b5,q8,q9,q10,b13];rfl) | rfl) ?_ rfl ?_ rfl (.inl rfl) (fun _ h=>h.elim) (by decide) (by decide) (by decide) ?_ ?_ fun u => ?_
  ·rw [List.getElem?_map,q9];rfl
  ·rw [←(cC aC4).sl];rfl
  ·simp +decide only [LC,LN,F,reduceIte,Nat.reduceAdd,qB,qC,EN,M.Cache.en,b5,q8,q9,q10,b13]
  ·simp +decide only [LC,LN,F,reduceIte,Nat.reduceAdd,qB,qC,EN,M.Cache.en,b5,q8,q9,q10,b13]
  have q55:(List.set (List.map M.Cache.en x1.Caches) x3.toNat [.int .i64 x6.Version,.val u])[x3.toNat]? = some [.int .i64 x6.Version,.val u]:=aND (b:=M.Cache.en x6) (by rw [List.getElem?_map,q9];rfl)
  refine aHj (J:=fun s=>s.t 2 = .v false [.dat (.str p2)]∧s.t 3 = .v false [.dat (.str p3)]∧s.t 5 = .v false [.bp 5 1 0]∧s.t 9 = .v false [.bp 9 1 0]∧s.t 10 = .v false [.bp 10 1 0]∧s.t 12 = .v false [.bp 12 1 0]∧s.t 14 = .v false [.rp 100017 1 x3.toNat 0]∧s.h 5=(1,.box 28 [.old base (.sl (List.map M.Cache.en p0.Caches)) none])∧s.h 9=(1,.box 219 [.dat (.int .i64 p4.Type_),.dat (.int .i64 p4.Status),.dat (.int .i64 p4.Version),.old base (.sl (List.map enB p4.Body)) none,.dat (.bool p4.Shares)])∧s.h 10=(1,.box 28 [.nil])∧s.h 12=(1,.box 28 [.row 100017 1])∧s.h 100017=(1,.row 212 2 (List.set (List.map M.Cache.en x1.Caches) x3.toNat [.int .i64 x6.Version,.val u]) true)∧s.h 7057000=(1,.row 221 7 (List.map M.Cached.en x6.Entries) true)∧s.h 7058000=(1,.pin 7057000 1 u)∧True) ?_ ?_
  ·refine ⟨?_,?_,?_,?_,?_,?_,?_,?_,?_,?_,?_,?_,?_,?_,trivial⟩<;>(try first | (simp +decide only [LN,F,reduceIte,Nat.reduceAdd,qB,qC,EN,M.Cache.en,M.Cached.en,b5,q8,q9,q10,b13,q55];done) | (simp +decide only [LN,F,reduceIte,Nat.reduceAdd,qB,qC,EN,M.Cache.en,M.Cached.en,b5,q8,q9,q10,b13,q55];rfl) | rfl)
  rintro s54 ⟨f56,f57,f58,f59,f60,f61,f62,f63,f64,f65,f66,f67,f68,f69,_⟩
  obtain ⟨x70,h71,h⟩:=bind_some h
  obtain ⟨x72,h73,h⟩:=bind_some h
  apply aFb mixed
  ·simp +decide only [LN,E,reduceIte,Nat.reduceAdd,Nat.reduceMul,qB,qC,L,aKO,aC4,aLw,aIm,M.Cache.en,M.Cached.en,EN,b5,q8,q9,q10,b13,q55,f56,f57,f58,f59,f60,f61,f62,f63,f64,f65,f66,f67,f68,f69]
   refine ⟨_,aSY _ _ h71,?_⟩
   try simp +decide only [LN,E,reduceIte,Nat.reduceAdd,Nat.reduceMul,qB,qC,L,aKO,aC4,aLw,aIm,M.Cache.en,M.Cached.en,EN,b5,q8,q9,q10,b13,q55,f56,f57,f58,f59,f60,f61,f62,f63,f64,f65,f66,f67,f68,f69]
   refine ⟨by (have hb:=aCL h73);simp [M.Cache.en,M.Cached.en,qE,bG] at hb ⊢ <;> omega,?_⟩
   try simp +decide only [LN,E,reduceIte,Nat.reduceAdd,Nat.reduceMul,qB,qC,L,aKO,aC4,aLw,aIm,M.Cache.en,M.Cached.en,EN,b5,q8,q9,q10,b13,q55,f56,f57,f58,f59,f60,f61,f62,f63,f64,f65,f66,f67,f68,f69]
   exact ⟨.mk (by decide +kernel),Is.mk _⟩
  refine an (sq (sq ?_))
  refine aHj (J:=fun s=>s.t 5 = .v false [.bp 5 1 0]∧s.t 10 = .v false [.bp 10 1 0]∧s.t 12 = .v false [.bp 12 1 0]∧s.h 5=(1,.box 28 [.old base (.sl (List.map M.Cache.en p0.Caches)) none])∧s.h 10=(1,.box 28 [.nil])∧s.h 12=(1,.box 28 [.row 100017 1])∧s.h 100017=(1,.row 212 2 (List.map M.Cache.en (List.set x1.Caches x3.toNat (⟨x6.Version,(x6.Entries++[(⟨p2,p3,x70⟩:M.Cached)])⟩:M.Cache))) true)∧True) ?_ ?_
  ·refine ⟨?_,?_,?_,?_,?_,?_,?_,trivial⟩<;>(try simp +decide only [LN,F,reduceIte,Nat.reduceAdd,qB,qC,EN,M.Cache.en,b5,q8,q9,q10,b13,q55,f56,f57,f58,f59,f60,f61,f62,f63,f64,f65,f66,f67,f68,f69])
  rintro s74 ⟨f75,f76,f77,f78,f79,f80,f81,_⟩
  obtain ⟨x82,h83,h⟩:=bind_some h
  rcases gO (!x82) with b84 | b84
  ·replace h:=bT b84 h
   apply fF
   ·simp +decide only [LN,E,reduceIte,Nat.reduceAdd,Nat.reduceMul,qB,qC,L,wX,EN,b5,q8,q9,q10,b13,q55,f75,f76,f77,f78,f79,f80,f81,b84]
    refine ⟨_,c51 _ _ h83,?_⟩
    try simp +decide only [LN,E,reduceIte,Nat.reduceAdd,Nat.reduceMul,qB,qC,L,wX,EN,b5,q8,q9,q10,b13,q55,f75,f76,f77,f78,f79,f80,f81,b84]
    exact Is.mk _
   refine an ?_
   refine aEa (by simp +decide only [LN,F,reduceIte,Nat.reduceAdd,qB,qC,EN,b5,q8,q9,q10,b13,q55,f75,f76,f77,f78,f79,f80,f81,b84]) ?_
   refine sq ?_
   obtain ⟨x85,h86,h⟩:=bind_some h
   apply fF
   ·simp +decide only [LN,E,reduceIte,Nat.reduceAdd,Nat.reduceMul,qB,qC,L,wX,EN,b5,q8,q9,q10,b13,q55,f75,f76,f77,f78,f79,f80,f81,b84]
    refine ⟨_,aRo _ _ h86,?_⟩
    try simp +decide only [LN,E,reduceIte,Nat.reduceAdd,Nat.reduceMul,qB,qC,L,wX,EN,b5,q8,q9,q10,b13,q55,f75,f76,f77,f78,f79,f80,f81,b84]
    exact Is.mk _
   refine an (rt ?_)
   cases h
   simp [Ret,wX,M.Cache.en,b5,q8,q9,q10,b13,q55,f75,f76,f77,f78,f79,f80,f81,b84]
  replace h:=bR b84 h
  obtain ⟨x87,h88,h⟩:=bind_some h
  apply fF
  ·simp +decide only [LN,E,reduceIte,Nat.reduceAdd,Nat.reduceMul,qB,qC,L,wX,EN,b5,q8,q9,q10,b13,q55,f75,f76,f77,f78,f79,f80,f81,b84]
   refine ⟨_,c51 _ _ h83,?_⟩
   try simp +decide only [LN,E,reduceIte,Nat.reduceAdd,Nat.reduceMul,qB,qC,L,wX,EN,b5,q8,q9,q10,b13,q55,f75,f76,f77,f78,f79,f80,f81,b84]
   refine ⟨_,c51 _ _ h88,?_⟩
   try simp +decide only [LN,E,reduceIte,Nat.reduceAdd,Nat.reduceMul,qB,qC,L,wX,EN,b5,q8,q9,q10,b13,q55,f75,f76,f77,f78,f79,f80,f81,b84]
   exact Is.mk _
  refine an ?_
  rcases aEL (!x87) with b89 | b89
  ·replace h:=bR b89 h
   refine aIG (by simp +decide only [LN,F,reduceIte,Nat.reduceAdd,qB,qC,EN,b5,q8,q9,q10,b13,q55,f75,f76,f77,f78,f79,f80,f81,b84,b89]) ?_
   refine sk (an (sq ?_))
   apply fF
   ·simp +decide only [LN,E,reduceIte,Nat.reduceAdd,Nat.reduceMul,qB,qC,L,wX,EN,b5,q8,q9,q10,b13,q55,f75,f76,f77,f78,f79,f80,f81,b84,b89]
    exact Is.mk _
   refine an (rt ?_)
   cases h
   simp [Ret,wX,M.Cache.en,b5,q8,q9,q10,b13,q55,f75,f76,f77,f78,f79,f80,f81,b84,b89]
  replace h:=bT b89 h
  refine aEa (by simp +decide only [LN,F,reduceIte,Nat.reduceAdd,qB,qC,EN,b5,q8,q9,q10,b13,q55,f75,f76,f77,f78,f79,f80,f81,b84,b89]) ?_
  refine sq ?_
  obtain ⟨x90,h91,h⟩:=bind_some h
  apply fF
  ·simp +decide only [LN,E,reduceIte,Nat.reduceAdd,Nat.reduceMul,qB,qC,L,wX,EN,b5,q8,q9,q10,b13,q55,f75,f76,f77,f78,f79,f80,f81,b84,b89]
   refine ⟨_,aRo _ _ h91,?_⟩
   try simp +decide only [LN,E,reduceIte,Nat.reduceAdd,Nat.reduceMul,qB,qC,L,wX,EN,b5,q8,q9,q10,b13,q55,f75,f76,f77,f78,f79,f80,f81,b84,b89]
   exact Is.mk _
  refine an (rt ?_)
  cases h
  simp [Ret,wX,M.Cache.en,b5,q8,q9,q10,b13,q55,f75,f76,f77,f78,f79,f80,f81,b84,b89]
 replace h:=bT b13 h
 refine aEa (by simp +decide only [LN,F,reduceIte,Nat.reduceAdd,qB,qC,EN,b5,q8,q9,q10,b13]) ?_
 refine aKu [5,9,10,12,14,15] [5,9,10,12] (i:=100017) (ver:=1) (e:=212) (sz:=2) (xs:=List.map M.Cache.en x1.Caches) (j:=x3.toNat) (x:=M.Cache.en x6) (off:=1) (K:=7057000) (e':=221) (sz':=7) (ys:=List.map M.Cached.en x6.Entries) (by first | (simp +decide only [LN,F,reduceIte,Nat.reduceAdd,qB,qC,EN,M.Cache.en,b5,q8,q9,q10,b13];done) | (simp +decide only [LN,F,reduceIte,Nat.reduceAdd,qB,qC,EN,M.Cache.en,b5,q8,q9,q10,b13];rfl) | rfl) ?_ rfl ?_ rfl (.inl rfl) (fun _ h=>h.elim) (by decide) (by decide) (by decide) ?_ ?_ fun u => ?_
 ·rw [List.getElem?_map,q9];rfl
 ·rw [←(cC aC4).sl];rfl
 ·simp +decide only [LC,LN,F,reduceIte,Nat.reduceAdd,qB,qC,EN,M.Cache.en,b5,q8,q9,q10,b13]
 ·simp +decide only [LC,LN,F,reduceIte,Nat.reduceAdd,qB,qC,EN,M.Cache.en,b5,q8,q9,q10,b13]
 have q15:(List.set (List.map M.Cache.en x1.Caches) x3.toNat [.int .i64 x6.Version,.val u])[x3.toNat]? = some [.int .i64 x6.Version,.val u]:=aND (b:=M.Cache.en x6) (by rw [List.getElem?_map,q9];rfl)
 refine aHj (J:=fun s=>s.t 5 = .v false [.bp 5 1 0]∧s.t 9 = .v false [.bp 9 1 0]∧s.t 10 = .v false [.bp 10 1 0]∧s.t 12 = .v false [.bp 12 1 0]∧s.t 14 = .v false [.rp 100017 1 x3.toNat 0]∧s.t 15 = .v false [.dat (.int .i64 x11)]∧s.h 5=(1,.box 28 [.old base (.sl (List.map M.Cache.en p0.Caches)) none])∧s.h 9=(1,.box 219 [.dat (.int .i64 p4.Type_),.dat (.int .i64 p4.Status),.dat (.int .i64 p4.Version),.old base (.sl (List.map enB p4.Body)) none,.dat (.bool p4.Shares)])∧s.h 10=(1,.box 28 [.nil])∧s.h 12=(1,.box 28 [.row 100017 1])∧s.h 100017=(1,.row 212 2 (List.set (List.map M.Cache.en x1.Caches) x3.toNat [.int .i64 x6.Version,.val u]) true)∧s.h 7057000=(1,.row 221 7 (List.map M.Cached.en x6.Entries) true)∧s.h 7058000=(1,.pin 7057000 1 u)∧True) ?_ ?_
 ·refine ⟨?_,?_,?_,?_,?_,?_,?_,?_,?_,?_,?_,?_,?_,trivial⟩<;>(try first | (simp +decide only [LN,F,reduceIte,Nat.reduceAdd,qB,qC,EN,M.Cache.en,M.Cached.en,b5,q8,q9,q10,b13,q15];done) | (simp +decide only [LN,F,reduceIte,Nat.reduceAdd,qB,qC,EN,M.Cache.en,M.Cached.en,b5,q8,q9,q10,b13,q15];rfl) | rfl)
 rintro s14 ⟨f16,f17,f18,f19,f20,f21,f22,f23,f24,f25,f26,f27,f28,_⟩
 obtain ⟨x29,h30,h⟩:=bind_some h
 obtain ⟨x31,h32,h⟩:=bind_some h
 obtain ⟨q33,q34,q35⟩:=aT h32
 apply aFb mixed
 ·simp +decide only [LN,E,reduceIte,Nat.reduceAdd,Nat.reduceMul,qB,qC,L,aKO,aC4,aLw,aIm,M.Cache.en,M.Cached.en,EN,b5,q8,q9,q10,b13,q15,f16,f17,f18,f19,f20,f21,f22,f23,f24,f25,f26,f27,f28,q33,q34,q35]
  refine ⟨_,aSY _ _ h30,?_⟩
  try simp +decide only [LN,E,reduceIte,Nat.reduceAdd,Nat.reduceMul,qB,qC,L,aKO,aC4,aLw,aIm,M.Cache.en,M.Cached.en,EN,b5,q8,q9,q10,b13,q15,f16,f17,f18,f19,f20,f21,f22,f23,f24,f25,f26,f27,f28,q33,q34,q35]
  exact ⟨.mk (by decide +kernel),Is.mk _⟩
 refine an ?_
 refine aO0 (Gho.close (i:=100017) (ver:=1) (e:=212) (sz:=2) (xs:=List.set (List.map M.Cache.en x1.Caches) x3.toNat [.int .i64 x6.Version,.val u]) (j:=x3.toNat) (x:=[.int .i64 x6.Version,.val u]) (off:=1) (K:=7057000) (vK:=1) (e':=221) (sz':=7) (ys:=List.map M.Cached.en (List.set x6.Entries x11.toNat (⟨x31.Site,x31.Path,x29⟩:M.Cached))) (u:=u) (by first | (simp +decide only [LN,F,reduceIte,Nat.reduceAdd,qB,qC,EN,M.Cached.en,b5,q8,q9,q10,b13,q15,f16,f17,f18,f19,f20,f21,f22,f23,f24,f25,f26,f27,f28,q33,q34,q35];done) | (simp +decide only [LN,F,reduceIte,Nat.reduceAdd,qB,qC,EN,M.Cached.en,b5,q8,q9,q10,b13,q15,f16,f17,f18,f19,f20,f21,f22,f23,f24,f25,f26,f27,f28,q33,q34,q35];rfl) | rfl) q15 rfl (by first | (simp +decide only [LN,F,reduceIte,Nat.reduceAdd,qB,qC,EN,M.Cached.en,b5,q8,q9,q10,b13,q15,f16,f17,f18,f19,f20,f21,f22,f23,f24,f25,f26,f27,f28,q33,q34,q35];done) | (simp +decide only [LN,F,reduceIte,Nat.reduceAdd,qB,qC,EN,M.Cached.en,b5,q8,q9,q10,b13,q15,f16,f17,f18,f19,f20,f21,f22,f23,f24,f25,f26,f27,f28,q33,q34,q35];rfl) | rfl) (by first | (simp +decide only [LN,F,reduceIte,Nat.reduceAdd,qB,qC,EN,M.Cached.en,b5,q8,q9,q10,b13,q15,f16,f17,f18,f19,f20,f21,f22,f23,f24,f25,f26,f27,f28,q33,q34,q35];done) | (simp +decide only [LN,F,reduceIte,Nat.reduceAdd,qB,qC,EN,M.Cached.en,b5,q8,q9,q10,b13,q15,f16,f17,f18,f19,f20,f21,f22,f23,f24,f25,f26,f27,f28,q33,q34,q35];rfl) | rfl) (by rw [←(cC aC4).sl];rfl) rfl (by decide)) ?_
 refine sq (sq ?_)
 refine aHj (J:=fun s=>s.t 5 = .v false [.bp 5 1 0]∧s.t 10 = .v false [.bp 10 1 0]∧s.t 12 = .v false [.bp 12 1 0]∧s.h 5=(1,.box 28 [.old base (.sl (List.map M.Cache.en p0.Caches)) none])∧s.h 10=(1,.box 28 [.nil])∧s.h 12=(1,.box 28 [.row 100017 1])∧s.h 100017=(1,.row 212 2 (List.map M.Cache.en (List.set x1.Caches x3.toNat (⟨x6.Version,(List.set x6.Entries x11.toNat (⟨x31.Site,x31.Path,x29⟩:M.Cached))⟩:M.Cache))) true)∧True) ?_ ?_
 ·refine ⟨?_,?_,?_,?_,?_,?_,?_,trivial⟩<;>(try simp +decide only [LN,F,reduceIte,Nat.reduceAdd,qB,qC,EN,M.Cache.en,b5,q8,q9,q10,b13,q15,f16,f17,f18,f19,f20,f21,f22,f23,f24,f25,f26,f27,f28,q33,q34,q35])
 rintro s36 ⟨f37,f38,f39,f40,f41,f42,f43,_⟩
 obtain ⟨x44,h45,h⟩:=bind_some h
 rcases gO (!x44) with b46 | b46
 ·replace h:=bT b46 h
  apply fF
  ·simp +decide only [LN,E,reduceIte,Nat.reduceAdd,Nat.reduceMul,qB,qC,L,wX,EN,b5,q8,q9,q10,b13,q15,q33,q34,q35,f37,f38,f39,f40,f41,f42,f43,b46]
   refine ⟨_,c51 _ _ h45,?_⟩
   try simp +decide only [LN,E,reduceIte,Nat.reduceAdd,Nat.reduceMul,qB,qC,L,wX,EN,b5,q8,q9,q10,b13,q15,q33,q34,q35,f37,f38,f39,f40,f41,f42,f43,b46]
   exact Is.mk _
  refine an ?_
  refine aEa (by simp +decide only [LN,F,reduceIte,Nat.reduceAdd,qB,qC,EN,b5,q8,q9,q10,b13,q15,q33,q34,q35,f37,f38,f39,f40,f41,f42,f43,b46]) ?_
  refine sq ?_
  obtain ⟨x47,h48,h⟩:=bind_some h
  apply fF
  ·simp +decide only [LN,E,reduceIte,Nat.reduceAdd,Nat.reduceMul,qB,qC,L,wX,EN,b5,q8,q9,q10,b13,q15,q33,q34,q35,f37,f38,f39,f40,f41,f42,f43,b46]
   refine ⟨_,aRo _ _ h48,?_⟩
   try simp +decide only [LN,E,reduceIte,Nat.reduceAdd,Nat.reduceMul,qB,qC,L,wX,EN,b5,q8,q9,q10,b13,q15,q33,q34,q35,f37,f38,f39,f40,f41,f42,f43,b46]
   exact Is.mk _
  refine an (rt ?_)
  cases h
  simp [Ret,wX,M.Cache.en,b5,q8,q9,q10,b13,q15,q33,q34,q35,f37,f38,f39,f40,f41,f42,f43,b46]
 replace h:=bR b46 h
 obtain ⟨x49,h50,h⟩:=bind_some h
 apply fF
 ·simp +decide only [LN,E,reduceIte,Nat.reduceAdd,Nat.reduceMul,qB,qC,L,wX,EN,b5,q8,q9,q10,b13,q15,q33,q34,q35,f37,f38,f39,f40,f41,f42,f43,b46]
  refine ⟨_,c51 _ _ h45,?_⟩
  try simp +decide only [LN,E,reduceIte,Nat.reduceAdd,Nat.reduceMul,qB,qC,L,wX,EN,b5,q8,q9,q10,b13,q15,q33,q34,q35,f37,f38,f39,f40,f41,f42,f43,b46]
  refine ⟨_,c51 _ _ h50,?_⟩
  try simp +decide only [LN,E,reduceIte,Nat.reduceAdd,Nat.reduceMul,qB,qC,L,wX,EN,b5,q8,q9,q10,b13,q15,q33,q34,q35,f37,f38,f39,f40,f41,f42,f43,b46]
  exact Is.mk _
 refine an ?_
 rcases aEL (!x49) with b51 | b51
 ·replace h:=bR b51 h
  refine aIG (by simp +decide only [LN,F,reduceIte,Nat.reduceAdd,qB,qC,EN,b5,q8,q9,q10,b13,q15,q33,q34,q35,f37,f38,f39,f40,f41,f42,f43,b46,b51]) ?_
  refine sk (an (sq ?_))
  apply fF
  ·simp +decide only [LN,E,reduceIte,Nat.reduceAdd,Nat.reduceMul,qB,qC,L,wX,EN,b5,q8,q9,q10,b13,q15,q33,q34,q35,f37,f38,f39,f40,f41,f42,f43,b46,b51]
   exact Is.mk _
  refine an (rt ?_)
  cases h
  simp [Ret,wX,M.Cache.en,b5,q8,q9,q10,b13,q15,q33,q34,q35,f37,f38,f39,f40,f41,f42,f43,b46,b51]
 replace h:=bT b51 h
 refine aEa (by simp +decide only [LN,F,reduceIte,Nat.reduceAdd,qB,qC,EN,b5,q8,q9,q10,b13,q15,q33,q34,q35,f37,f38,f39,f40,f41,f42,f43,b46,b51]) ?_
 refine sq ?_
 obtain ⟨x52,h53,h⟩:=bind_some h
 apply fF
 ·simp +decide only [LN,E,reduceIte,Nat.reduceAdd,Nat.reduceMul,qB,qC,L,wX,EN,b5,q8,q9,q10,b13,q15,q33,q34,q35,f37,f38,f39,f40,f41,f42,f43,b46,b51]
  refine ⟨_,aRo _ _ h53,?_⟩
  try simp +decide only [LN,E,reduceIte,Nat.reduceAdd,Nat.reduceMul,qB,qC,L,wX,EN,b5,q8,q9,q10,b13,q15,q33,q34,q35,f37,f38,f39,f40,f41,f42,f43,b46,b51]
  exact Is.mk _
 refine an (rt ?_)
 cases h
 simp [Ret,wX,M.Cache.en,b5,q8,q9,q10,b13,q15,q33,q34,q35,f37,f38,f39,f40,f41,f42,f43,b46,b51]
instance:bA 235 (type_of% @aW0):=⟨@aW0⟩
theorem aVY (p0 p1 p2 p3 r) (h:oF p0 p1 p2 p3=some r):Sc 108 [aX (M.aA.en p0),aX (M.Site.en p1),aI p2,aB p3] [(true,M.aA.rs r.1),rB r.2]:=by
 have i1:=aLA [.b 10 0 7050000 212 2] fun m s=>∃v11:Bool,∃v33:Int,∃r50000:List M.Cache,∃u50000:Nat,(s.t 2=vI p2∧s.t 4=vP 4 1 0∧s.t 5=vP 5 1 0∧s.t 8=vP 8 1 0∧s.t 10=vP 10 1 0∧s.t 11=vB v11∧s.t 31=vL enS p1.Files∧s.t 32=vI (List.length p1.Files:Int)∧s.t 33=vI v33∧s.h 4=(1,oX 28 (M.aA.en p0))∧s.h 5=(1,oX 180 (M.Site.en p1))∧s.h 8=(1,oB 28 [.nil])∧s.h 10=(1,oB 28 [.row 7050000 u50000])∧s.h 7050000=(u50000,oW 212 2 M.Cache.en r50000))∧dE p0 p1 p2 m v11 v33 r50000=some r
 have e1:=@dE.eq_2
 unfold oF at h
 exact sgo 57 [.cell 8 28,.tmp 9] Tryz.func108
instance:bA 108 (type_of% @aVY):=⟨@aVY⟩
theorem aVo (p0 p1 r) (h:sZ p0 p1=some r):Sc 109 [aX (M.Registration.en p0),aB p1] [(true,M.Registration.rs r.1),rI r.2]:=by
 unfold sZ at h
 exact sgo 27 [.cell 4 25,.tmp 5] Tryz.func109
instance:bA 109 (type_of% @aVo):=⟨@aVo⟩
theorem aWP (p0 p1 r) (h:wM p0 p1=some r):Sc 110 [aX (M.aA.en p0),aI p1] [(true,M.aA.rs r.1),rB r.2]:=by
 unfold wM at h
 exact sgo 24 [.cell 4 28,.tmp 5] Tryz.func110 (h:=by
   intro base wd
   (try simp only [EN])
   repeat' (first
    | (with_reducible refine an ?_)
    | (with_reducible refine sq ?_)
    | (with_reducible refine bk ?_)
    | (with_reducible refine ab ?_)
    | (with_reducible refine sk ?_)
    | (with_reducible refine xt ?_)
    | (with_reducible refine aE2 ?_)
    | (with_reducible refine aIs ?_)
    | ((with_reducible refine aEo ?_);(try dsimp only at h))
    | (with_reducible refine aTZ (by decide) ?_)
    | ((with_reducible refine hK _ ?_);clear hK;clear K)
    | ((with_reducible refine rgK fun K hK => ?_);simp +decide only [E,reduceIte,Nat.reduceAdd,Nat.reduceMul,Int.reduceEq,Int.reduceLT,qB,qC,←List.map_take,←List.map_drop,Nat.sub_zero,aCy,aCx,L,TB,EN, *,-h,-hK])
    | ((with_reducible refine rgD mixed fun K hK => ?_);simp +decide only [E,reduceIte,Nat.reduceAdd,Nat.reduceMul,Int.reduceEq,Int.reduceLT,qB,qC,←List.map_take,←List.map_drop,Nat.sub_zero,aCy,aCx,L,TB,EN, *,-h,-hK])
    | ((with_reducible refine rt ?_);cases h;simp [Ret,TB,EN, *];done)
    | ((with_reducible refine rz ?_);cases h;simp [Ret,TB,EN, *];done)
    | (with_reducible refine And.intro (.mk (by decide +kernel)) ?_)
    | (refine cnd (b:=_) (by (simp +decide only [F,reduceIte,Nat.reduceAdd,qB,qC,EN, *,-h]);exact rfl) ?_ ?_)
    | ((with_reducible refine yes fun hb => ?_);(first | exact absurd hb (by decide) | (replace h:=bT hb h) | (replace h:=bR hb h) | clear hb))
    | ((with_reducible refine And.intro (by first | exact aQ1 (aFw (by assumption)).1 | exact (aQ1 (aFw (by assumption)).1).2) ?_);(try simp +decide only [E,reduceIte,Nat.reduceAdd,Nat.reduceMul,Int.reduceEq,Int.reduceLT,qB,qC,←List.map_take,←List.map_drop,Nat.sub_zero,aCy,aCx,L,TB,EN, *,-h,-hK]))
    | (with_reducible exact nns h)
    | (obtain ⟨x,hb,h⟩:=bind_some h;(first | (obtain ⟨q1,q2,q3⟩:=aT hb;simp +decide only [E,reduceIte,Nat.reduceAdd,Nat.reduceMul,Int.reduceEq,Int.reduceLT,qB,qC,←List.map_take,←List.map_drop,Nat.sub_zero,aCy,aCx,L,TB,EN, *,-h,-hK]) | (obtain ⟨q1,q2⟩:=aOH hb;simp +decide only [E,reduceIte,Nat.reduceAdd,Nat.reduceMul,Int.reduceEq,Int.reduceLT,qB,qC,←List.map_take,←List.map_drop,Nat.sub_zero,aCy,aCx,L,TB,EN, *,-h,-hK]) | (refine aSD fun hC => ?_;(first | refine ⟨_,hC (h:=hb),?_⟩ | (have hc:=hC (h:=hb);simp only [List.map_append,List.map_cons,List.map_nil,List.map_set,EN] at hc;refine ⟨_,hc,?_⟩) | (have hc:=hC (h:=hb);simp only [List.map_append,List.map_cons,List.map_nil,List.map_set,EN, *,-h,-hK,-hC] at hc;refine ⟨_,hc,?_⟩));(try clear hC);(try simp +decide only [E,reduceIte,Nat.reduceAdd,Nat.reduceMul,Int.reduceEq,Int.reduceLT,qB,qC,←List.map_take,←List.map_drop,Nat.sub_zero,aCy,aCx,L,TB,EN, *,-h,-hK])) | (refine ⟨aQc hb,?_⟩;(try simp +decide only [E,reduceIte,Nat.reduceAdd,Nat.reduceMul,Int.reduceEq,Int.reduceLT,qB,qC,←List.map_take,←List.map_drop,Nat.sub_zero,aCy,aCx,L,TB,EN, *,-h,-hK])) | (refine ⟨aNe hb,?_⟩;(try simp +decide only [E,reduceIte,Nat.reduceAdd,Nat.reduceMul,Int.reduceEq,Int.reduceLT,qB,qC,←List.map_take,←List.map_drop,Nat.sub_zero,aCy,aCx,L,TB,EN, *,-h,-hK])) | (refine ⟨by (have hb:=aCL hb;first | (simp [EN,qE,bG] at hb ⊢ <;> omega) | (simp [EN,aMm,aPl,qE,bG,←List.map_take,←List.map_drop,-List.map_take,-List.map_drop] at hb ⊢ <;> omega)),?_⟩;(try simp +decide only [E,reduceIte,Nat.reduceAdd,Nat.reduceMul,Int.reduceEq,Int.reduceLT,qB,qC,←List.map_take,←List.map_drop,Nat.sub_zero,aCy,aCx,L,TB,EN, *,-h,-hK])) | (refine ⟨by (have hb:=aCf hb;simp [EN,qE,bG] at hb ⊢ <;> omega),?_⟩;(try simp +decide only [E,reduceIte,Nat.reduceAdd,Nat.reduceMul,Int.reduceEq,Int.reduceLT,qB,qC,←List.map_take,←List.map_drop,Nat.sub_zero,aCy,aCx,L,TB,EN, *,-h,-hK])) | (have hb:=aP4 hb;refine ⟨hb,?_⟩;(try simp +decide only [E,reduceIte,Nat.reduceAdd,Nat.reduceMul,Int.reduceEq,Int.reduceLT,qB,qC,←List.map_take,←List.map_drop,Nat.sub_zero,aCy,aCx,L,TB,EN, *,-h,-hK])) | (refine ⟨by first | exact aJ6 (fun _=>rfl) hb | exact aJz (fun _=>rfl) hb | exact aGw (fun _=>rfl) hb | exact And.right (aJ6 (fun _=>rfl) hb) | exact And.right (aJz (fun _=>rfl) hb) | exact And.right (aGw (fun _=>rfl) hb) | exact And.right (And.right (aGw (fun _=>rfl) hb)) | exact aJJ hb | exact aFw hb | exact (aJJ hb).2 | exact (aFw hb).2,?_⟩;(try simp +decide only [E,reduceIte,Nat.reduceAdd,Nat.reduceMul,Int.reduceEq,Int.reduceLT,qB,qC,←List.map_take,←List.map_drop,Nat.sub_zero,aCy,aCx,L,TB,EN, *,-h,-hK])) | (with_reducible refine And.intro (by first | (have hb:=aJs hb;simp [EN,qE,bG] at hb ⊢ <;> omega) | (have hb:=aJ3 hb;simp [EN,qE,bG] at hb ⊢ <;> omega)) ?_;(try simp +decide only [E,reduceIte,Nat.reduceAdd,Nat.reduceMul,Int.reduceEq,Int.reduceLT,qB,qC,←List.map_take,←List.map_drop,Nat.sub_zero,aCy,aCx,L,TB,EN, *,-h,-hK])) | (refine aSD fun hC => ?_;refine ⟨_,hC _,?_⟩;(try simp +decide only [E,reduceIte,Nat.reduceAdd,Nat.reduceMul,Int.reduceEq,Int.reduceLT,qB,qC,←List.map_take,←List.map_drop,Nat.sub_zero,aCy,aCx,L,TB,EN, *,-h,-hK]);with_reducible refine And.intro (by first | (have hb:=aJs hb;simp [EN,qE,bG] at hb ⊢ <;> omega) | (have hb:=aJ3 hb;simp [EN,qE,bG] at hb ⊢ <;> omega)) ?_;(try simp +decide only [E,reduceIte,Nat.reduceAdd,Nat.reduceMul,Int.reduceEq,Int.reduceLT,qB,qC,←List.map_take,←List.map_drop,Nat.sub_zero,aCy,aCx,L,TB,EN, *,-h,-hK])) | ((first | have hb2:=aJ3 hb | have hb2:=aJs hb);refine aSD fun hC => ?_;refine ⟨_,hC _,?_⟩;simp +decide only [E,reduceIte,Nat.reduceAdd,Nat.reduceMul,Int.reduceEq,Int.reduceLT,qB,qC,←List.map_take,←List.map_drop,Nat.sub_zero,aCy,aCx,L,TB,EN, *,-h,-hK];clear hC;clear hb2)))
    | (revert hK;intro hK;(rcases aR4 h with ⟨hb,h⟩ | ⟨hb,h⟩)<;>simp +decide only [E,reduceIte,Nat.reduceAdd,Nat.reduceMul,Int.reduceEq,Int.reduceLT,qB,qC,←List.map_take,←List.map_drop,Nat.sub_zero,aCy,aCx,L,TB,EN, *,-h,-hK])))
instance:bA 110 (type_of% @aWP):=⟨@aWP⟩
theorem c34 (p0 p1 r) (h:mX p0 p1=some r):Sc 34 [aX (M.Bucket.en p0),aX (M.Bucket.en p1)] [(true,M.Bucket.rs r.1),rB r.2]:=by
 unfold mX at h
 exact sgo 18 [.cell 4 46,.tmp 5] Tryz.func34
instance:bA 34 (type_of% @c34):=⟨@c34⟩
theorem c13 (p0 p1 p2 r) (h:mZ p0 p1 p2=some r):Sc 13 [aX (M.Bucket.en p0),aX (M.aA.en p1),aX (M.Registration.en p2)] [(true,M.Bucket.rs r.1),rB r.2]:=by
 unfold mZ at h
 exact sgo 19 [.cell 6 46,.tmp 7] Tryz.func13
instance:bA 13 (type_of% @c13):=⟨@c13⟩
theorem aWg (p0 p1 r) (h:wD p0 p1=some r):Sc 239 [aX (M.aC.en p0),aX (M.Bucket.en p1)] [(true,M.aC.rs r.1),rB r.2]:=by
 have i1:=fun (x1:M.aC)=>inv fun m s=>∃v8:Int,(s.t 2=vP 2 1 0∧s.t 3=vP 3 1 0∧s.t 4=vP 4 1 0∧s.t 6=vP 6 1 0∧s.t 8=vI v8∧s.h 2=(1,oX 85 (M.aC.en p0))∧s.h 3=(1,oX 46 (M.Bucket.en p1))∧s.h 4=(1,oB 85 [.nil])∧s.h 6=(1,oB 85 [.row 100010 1])∧s.h 100010=(1,oW 46 24 M.Bucket.en x1.Buckets))∧iT p0 p1 x1 m v8=some r
 have e1:=@iT.eq_2
 unfold wD at h
 exact sgo 60 [.cell 4 85,.tmp 5] Tryz.func239
instance:bA 239 (type_of% @aWg):=⟨@aWg⟩
theorem aUa (p0 p1 p2 p3 r) (h:hH p0 p1 p2 p3=some r):Sc 111 [aX (M.World.en p0),aX (M.Bucket.en p1),aX (M.aA.en p2),aX (M.Registration.en p3)] [(true,M.World.rs r.1),rB r.2]:=by
 unfold hH at h
 exact sgo 41 [.cell 8 96,.tmp 9] Tryz.func111
instance:bA 111 (type_of% @aUa):=⟨@aUa⟩
theorem c28 (p0 p1 p2 r) (h:kX p0 p1 p2=some r):Sc 28 [aX (M.World.en p0),aS p1,aS p2] [(true,M.World.rs r.1),rB r.2]:=by
 unfold kX at h
 exact sgo 96 [.cell 6 96,.tmp 7] Tryz.func28
instance:bA 28 (type_of% @c28):=⟨@c28⟩
end Go.Proofs.YtidhkhdnjonjfaaGreat.gen
