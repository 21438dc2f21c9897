/-
  Helper text. No conditions.
-/
import Derived.Test.YtidhkhdnjonjfaaGreatBucketsTi
import Derived.Test.YtidhkhdnjonjfaaGreatBucketsWimpl5
import Derived.Test.YtidhkhdnjonjfaaGreatBucketsWmark
import Derived.Test.YtidhkhdnjonjfaaGreatBucketsWspec10
import Derived.Test.YtidhkhdnjonjfaaGreatBucketsWspec11
set_option linter.unusedVariables false
set_option linter.unusedSimpArgs false
namespace Go.Proofs.YtidhkhdnjonjfaaGreat.gen
open Go Go.Sh
set_option maxRecDepth 20000
set_option maxHeartbeats 4000000
theorem wJ (p0 r) (h:pL p0=some r):Sc 3 [aL enB p0] [rB r]:=by
 unfold pL at h
 simp only [EN]
 refine sgn 125 [.tmp 2] Tryz.func3 fun base wd => ?_
 refine sq (rn ?_)
 refine an (sq (sq ?_))
 obtain ⟨x1,h2,h⟩:=bind_some h
 refine rn1 (c6 _ _ h2) ?_
 refine an ?_
 rcases lN x1 with b3 | b3
 ·replace h:=cD b3 h
  refine ct (sq (rn ?_))
  refine an (rt ?_)
  cases h
  simp [Ret,TB,EN, *]
 replace h:=bY b3 h
 refine cf (sk (an (sq ?_)))
 obtain ⟨x4,h5,h⟩:=bind_some h
 refine rn1 (c7 _ _ h5) ?_
 refine an (sq ?_)
 obtain ⟨x6,h7,h⟩:=bind_some h
 refine rn1 (c8 _ _ _ h7) ?_
 refine an (sq ?_)
 obtain ⟨x8,h9,h⟩:=bind_some h
 refine rn1 (c9 _ _ _ h9) ?_
 refine an (sq ?_)
 obtain ⟨x10,h11,h⟩:=bind_some h
 refine rV (fun s=>s.t 0=vL enB p0∧s.t 3=vP 3 1 0∧s.t 63=vB x10∧s.h 3=(1,oB 46 [cS x4.1.Site,cS x4.1.Top,cS x4.1.Registration.Site,cI x4.1.Registration.Installing,cI x4.1.Registration.Waiting,cI x4.1.Registration.Active,.row 700022 1,cS x4.1.bF.Base.Name,cI x4.1.bF.Base.Version,.row 1000022 1,.row 1100022 1,.row 1200022 1,cI x4.1.bF.Count,cS x4.1.aD.Base.Name,.row 1500022 1,cI x4.1.aD.Base.Auto,cI x4.1.aD.Seen,cI x4.1.aD.Sync.aG.Device,cI x4.1.aD.Sync.aG.Next,.row 2000022 1,cI x4.1.aD.Sync.Tries,cI x4.1.aD.Sync.WaitUntil,cI x4.1.LastUsed,cB x4.1.Persistent])∧s.h 700022=(1,oW 212 2 M.Cache.en x4.1.Caches.Caches)∧s.h 1000022=(1,oW 37 3 M.aA.en x4.1.bF.Base.Stores)∧s.h 1100022=(1,oW 239 2 M.aH.en x4.1.bF.Base.Unique)∧s.h 1200022=(1,oW 5 1 enB x4.1.bF.Log)∧s.h 1500022=(1,oW 227 4 M.Item.en x4.1.aD.Base.Items)∧s.h 2000022=(1,oW 359 7 M.aT.en x4.1.aD.Sync.aG.Writes)∧True) ?_ ?_
 ·replace h:=h11
  clear h11
  rcases lN (!(x6.2==x8.2)) with b23 | b23
  ·replace h:=cD b23 h
   refine rn ?_
   cases h
   refine iB ⟨?_,?_,?_,?_,?_,?_,?_,?_,?_,?_,trivial⟩<;>(try simp +decide only [F,reduceIte,Nat.reduceAdd,qB,qC,EN, *,-h])
  replace h:=bY b23 h
  obtain ⟨x24,h25,h⟩:=bind_some h
  rcases lN (!x24) with b26 | b26
  ·replace h:=cD b26 h
   refine rn1 (c10 _ _ _ h25) ?_
   cases h
   refine iB ⟨?_,?_,?_,?_,?_,?_,?_,?_,?_,?_,trivial⟩<;>(try simp +decide only [F,reduceIte,Nat.reduceAdd,qB,qC,EN, *,-h])
  replace h:=bY b26 h
  rcases wF x6.2 with b27 | b27
  ·replace h:=bY b27 h
   try rw [b27] at b23
   rcases wF (!x6.2) with b34 | b34
   ·replace h:=bY b34 h
    exact absurd b34 (by rw [b27];decide)
   replace h:=cD b34 h
   obtain ⟨x35,h36,h⟩:=bind_some h
   refine rn2 (c10 _ _ _ h25) (c10 _ _ _ h36) ?_
   cases h
   refine iB ⟨?_,?_,?_,?_,?_,?_,?_,?_,?_,?_,trivial⟩<;>(try simp +decide only [F,reduceIte,Nat.reduceAdd,qB,qC,EN, *,-h])
  replace h:=cD b27 h
  try rw [b27] at b23
  obtain ⟨x28,h29,h⟩:=bind_some h
  rcases lN (decide (x28>2500)) with b30 | b30
  ·replace h:=cD b30 h
   refine rn2 (c10 _ _ _ h25) (c11 _ _ h29) ?_
   cases h
   refine iB ⟨?_,?_,?_,?_,?_,?_,?_,?_,?_,?_,trivial⟩<;>(try simp +decide only [F,reduceIte,Nat.reduceAdd,qB,qC,EN, *,-h])
  replace h:=bY b30 h
  rcases lN (!x6.2) with b31 | b31
  ·replace h:=cD b31 h
   exact absurd b31 (by rw [b27];decide)
  replace h:=bY b31 h
  refine rn2 (c10 _ _ _ h25) (c11 _ _ h29) ?_
  cases h
  refine iB ⟨?_,?_,?_,?_,?_,?_,?_,?_,?_,?_,trivial⟩<;>(try simp +decide only [F,reduceIte,Nat.reduceAdd,qB,qC,EN, *,-h])
 clear h11
 rintro s12 ⟨f13,f14,f15,f16,f17,f18,f19,f20,f21,f22,_⟩
 rcases lN x10 with b37 | b37
 ·replace h:=cD b37 h
  refine ct (sq (rn ?_))
  refine an (rt ?_)
  cases h
  simp [Ret,TB,EN, *]
 replace h:=bY b37 h
 refine cf (sk (an (sq ?_)))
 obtain ⟨x38,h39,h⟩:=bind_some h
 refine rn1 (c12 _ _ h39) ?_
 refine an (sq ?_)
 obtain ⟨x40,h41,h⟩:=bind_some h
 refine rn1 (c13 _ _ _ _ h41) ?_
 refine an (sq (sq ?_))
 obtain ⟨x42,h43,h⟩:=bind_some h
 refine rn1 (c14 _ _ _ _ h43) ?_
 refine an ?_
 obtain ⟨x44,h45,h⟩:=bind_some h
 refine rV (fun s=>s.t 0=vL enB p0∧s.t 3=vP 3 1 0∧s.t 100=vB x44∧s.h 3=s12.h 3∧s.h 700022=(1,oW 212 2 M.Cache.en x4.1.Caches.Caches)∧s.h 1000022=(1,oW 37 3 M.aA.en x4.1.bF.Base.Stores)∧s.h 1100022=(1,oW 239 2 M.aH.en x4.1.bF.Base.Unique)∧s.h 1200022=(1,oW 5 1 enB x4.1.bF.Log)∧s.h 1500022=(1,oW 227 4 M.Item.en x4.1.aD.Base.Items)∧s.h 2000022=(1,oW 359 7 M.aT.en x4.1.aD.Sync.aG.Writes)∧True) ?_ ?_
 ·replace h:=h45
  clear h45
  rcases lN (!(x40.2==x42.2)) with b57 | b57
  ·replace h:=cD b57 h
   refine rn ?_
   cases h
   refine iB ⟨?_,?_,?_,?_,?_,?_,?_,?_,?_,?_,trivial⟩<;>(try simp +decide only [F,reduceIte,Nat.reduceAdd,qB,qC,EN, *,-h])
  replace h:=bY b57 h
  rcases wF x40.2 with b58 | b58
  ·replace h:=bY b58 h
   try rw [b58] at b57
   refine rn ?_
   cases h
   refine iB ⟨?_,?_,?_,?_,?_,?_,?_,?_,?_,?_,trivial⟩<;>(try simp +decide only [F,reduceIte,Nat.reduceAdd,qB,qC,EN, *,-h])
  replace h:=cD b58 h
  try rw [b58] at b57
  obtain ⟨x59,h60,h⟩:=bind_some h
  rcases lN (decide (x59>2500)) with b61 | b61
  ·replace h:=cD b61 h
   refine rn1 (c11 _ _ h60) ?_
   cases h
   refine iB ⟨?_,?_,?_,?_,?_,?_,?_,?_,?_,?_,trivial⟩<;>(try simp +decide only [F,reduceIte,Nat.reduceAdd,qB,qC,EN, *,-h])
  replace h:=bY b61 h
  refine rn1 (c11 _ _ h60) ?_
  cases h
  refine iB ⟨?_,?_,?_,?_,?_,?_,?_,?_,?_,?_,trivial⟩<;>(try simp +decide only [F,reduceIte,Nat.reduceAdd,qB,qC,EN, *,-h])
 clear h45
 rintro s46 ⟨f47,f48,f49,f50,f51,f52,f53,f54,f55,f56,_⟩
 replace f50:=f50.trans f16
 rcases lN x44 with b62 | b62
 ·replace h:=cD b62 h
  refine ct (sq (rn ?_))
  refine an (rt ?_)
  cases h
  simp [Ret,TB,EN, *]
 replace h:=bY b62 h
 refine cf (sk (an (sq ?_)))
 obtain ⟨x63,h64,h⟩:=bind_some h
 obtain ⟨x65,h66,h⟩:=bind_some h
 refine rn2 (c16 _ _ _ h64) (c15 _ _ _ _ h66) ?_
 refine an ?_
 obtain ⟨x67,h68,h⟩:=bind_some h
 refine rV (fun s=>s.t 2=vB x67∧True) ?_ ?_
 ·replace h:=h68
  clear h68
  rcases wF x65.2 with b71 | b71
  ·replace h:=bY b71 h
   refine rd mixed ?_
   cases h
   refine iB ⟨?_,trivial⟩<;>(try simp +decide only [F,reduceIte,Nat.reduceAdd,qB,qC,EN, *,-h])
  replace h:=cD b71 h
  obtain ⟨x72,h73,h⟩:=bind_some h
  rcases wF x72 with b74 | b74
  ·replace h:=bY b74 h
   refine rd1 mixed (c17 _ _ h73) ?_
   cases h
   refine iB ⟨?_,trivial⟩<;>(try simp +decide only [F,reduceIte,Nat.reduceAdd,qB,qC,EN, *,-h])
  replace h:=cD b74 h
  obtain ⟨x75,h76,h⟩:=bind_some h
  rcases wF (x75==0) with b77 | b77
  ·replace h:=bY b77 h
   refine rd2 mixed (c17 _ _ h73) (c11 _ _ h76) ?_
   cases h
   refine iB ⟨?_,trivial⟩<;>(try simp +decide only [F,reduceIte,Nat.reduceAdd,qB,qC,EN, *,-h])
  replace h:=cD b77 h
  obtain ⟨x78,h79,h⟩:=bind_some h
  obtain ⟨x80,h81,h⟩:=bind_some h
  apply xG mixed
  ·simp +decide only [E,reduceIte,Nat.reduceAdd,Nat.reduceMul,qB,qC,L,ti4,aAO,EN,b3,b37,f47,f48,f49,f50,f51,f52,f53,f54,f55,f56,b62,b71,b74,b77]
   refine ⟨_,c17 _ _ h73,?_⟩
   try simp +decide only [E,reduceIte,Nat.reduceAdd,Nat.reduceMul,qB,qC,L,ti4,aAO,EN,b3,b37,f47,f48,f49,f50,f51,f52,f53,f54,f55,f56,b62,b71,b74,b77]
   refine ⟨_,c11 _ _ h76,?_⟩
   try simp +decide only [E,reduceIte,Nat.reduceAdd,Nat.reduceMul,qB,qC,L,ti4,aAO,EN,b3,b37,f47,f48,f49,f50,f51,f52,f53,f54,f55,f56,b62,b71,b74,b77]
   refine ⟨_,c17 _ _ h79,?_⟩
   try simp +decide only [E,reduceIte,Nat.reduceAdd,Nat.reduceMul,qB,qC,L,ti4,aAO,EN,b3,b37,f47,f48,f49,f50,f51,f52,f53,f54,f55,f56,b62,b71,b74,b77]
   refine ⟨_,c18 _ _ h81,?_⟩
   try simp +decide only [E,reduceIte,Nat.reduceAdd,Nat.reduceMul,qB,qC,L,ti4,aAO,EN,b3,b37,f47,f48,f49,f50,f51,f52,f53,f54,f55,f56,b62,b71,b74,b77]
   exact ⟨.mk (by decide +kernel),Is.mk _⟩
  cases h
  refine iB ⟨?_,trivial⟩<;>(try simp +decide only [F,reduceIte,Nat.reduceAdd,qB,qC,EN, *,-h])
 clear h68
 rintro s69 ⟨f70,_⟩
 refine rt ?_
 cases h
 simp [Ret,TB,EN, *]
instance:bP 3 (type_of% @wJ):=⟨@wJ⟩
end Go.Proofs.YtidhkhdnjonjfaaGreat.gen
