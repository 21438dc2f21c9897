/-
  Helper text. No conditions.
-/
import Derived.Test.YtidhkhdnjonjfaaGreatBucketsTi
import Derived.Test.YtidhkhdnjonjfaaGreatBucketsWspec0
import Derived.Test.YtidhkhdnjonjfaaGreatBucketsWspec1
import Derived.Test.YtidhkhdnjonjfaaGreatBucketsWspec2
import Derived.Test.YtidhkhdnjonjfaaGreatBucketsWspec3
import Derived.Test.YtidhkhdnjonjfaaGreatBucketsWspec4
import Derived.Test.YtidhkhdnjonjfaaGreatBucketsWspec5
import Derived.Test.YtidhkhdnjonjfaaGreatBucketsWspec6
import Derived.Test.YtidhkhdnjonjfaaGreatBucketsWspec7
import Derived.Test.YtidhkhdnjonjfaaGreatBucketsWspec8
set_option linter.unusedVariables false
set_option linter.unusedSimpArgs false
namespace Go.Proofs.YtidhkhdnjonjfaaGreat.gen
open Go Go.Sh
set_option maxRecDepth 20000
set_option maxHeartbeats 4000000
theorem c61 (p0 r) (h:tD p0=some r):Sc 61 [aX (M.Bucket.en p0)] [rI r]:=by
 unfold tD at h
 exact sgo 23 [.tmp 2] Tryz.func61
instance:bP 61 (type_of% @c61):=⟨@c61⟩
theorem aSY (p0 p1 r) (h:tP p0 p1=some r):Sc 429 [aX (M.Database.en p0),aX (M.Op.en p1)] [(true,M.Database.rs r.1),rI r.2.1,rB r.2.2]:=by
 unfold tP at h
 exact sgo 58 [.cell 4 32,.tmp 5,.tmp 6] Tryz.func429
instance:bP 429 (type_of% @aSY):=⟨@aSY⟩
theorem aTN (p0 r) (h:sI p0=some r):Sc 387 [aX (M.aD.en p0)] [(true,M.aA.rs r)]:=by
 unfold sI at h
 exact sgo 10 [.cell 2 37] Tryz.func387
instance:bP 387 (type_of% @aTN):=⟨@aTN⟩
theorem aSd (p0 p1 r) (h:gU p0 p1=some r):Sc 399 [aX (M.Database.en p0),aX (M.gK.en p1)] [(true,M.Database.rs r.1),rB r.2]:=by
 unfold gU at h
 simp only [EN]
 refine sgn 130 [.cell 4 32,.tmp 5] Tryz.func399 fun base wd => ?_
 refine sq (rn ?_)
 refine an (sq ?_)
 obtain ⟨x1,h2,h⟩:=bind_some h
 refine rn1 (aOb _ _ h2) ?_
 refine an (sq ?_)
 obtain ⟨x3,h4,h⟩:=bind_some h
 refine rn1 (aQE _ _ _ h4) ?_
 refine an (sq ?_)
 obtain ⟨x5,h6,h⟩:=bind_some h
 refine rn1 (aQX _ _ _ h6) ?_
 refine an (sq (bk ?_))
 obtain ⟨x7,h8,h⟩:=bind_some h
 refine rV (fun s=>s.t 2=vP 2 1 0∧s.t 3=vP 3 1 0∧s.t 4=vP 4 1 0∧s.t 6=vP 6 1 0∧s.t 7=vI x3∧s.t 8=vI x5∧s.t 21=vB x7∧s.h 2=(1,oX 32 (M.Database.en p0))∧s.h 3=(1,oX 469 (M.gK.en p1))∧s.h 4=(1,aEy)∧s.h 6=(1,oB 32 [cS x1.Name,cI x1.Version,.row 300012 1,.row 400012 1])∧s.h 300012=(1,oW 37 3 M.aA.en x1.Stores)∧s.h 400012=(1,oW 239 2 M.aH.en x1.Unique)∧True) ?_ ?_
 ·replace h:=h8
  clear h8
  rcases lN (p1.Kind==1) with b23 | b23
  ·replace h:=cD b23 h
   refine rn ?_
   cases h
   refine iB ⟨?_,?_,?_,?_,?_,?_,?_,?_,?_,?_,?_,?_,?_,trivial⟩<;>(try simp +decide only [F,reduceIte,Nat.reduceAdd,qB,qC,EN, *,-h])
  replace h:=bY b23 h
  refine rn ?_
  cases h
  refine iB ⟨?_,?_,?_,?_,?_,?_,?_,?_,?_,?_,?_,?_,?_,trivial⟩<;>(try simp +decide only [F,reduceIte,Nat.reduceAdd,qB,qC,EN, *,-h])
 clear h8
 rintro s9 ⟨f10,f11,f12,f13,f14,f15,f16,f17,f18,f19,f20,f21,f22,_⟩
 rcases lN x7 with b24 | b24
 ·replace h:=cD b24 h
  refine ct (sq (rn ?_))
  refine an (sq (bk ?_))
  refine wH (fun m s=>∃v9:Int,s.t 2=vP 2 1 0∧s.t 3=vP 3 1 0∧s.t 4=vP 4 1 0∧s.t 6=vP 6 1 0∧s.t 9=vI v9∧s.h 2=(1,oX 32 (M.Database.en p0))∧s.h 3=(1,oX 469 (M.gK.en p1))∧s.h 4=(1,aEy)∧s.h 6=(1,oB 32 [cS x1.Name,cI x1.Version,.row 300012 1,.row 400012 1])∧s.h 300012=(1,oW 37 3 M.aA.en x1.Stores)∧s.h 400012=(1,oW 239 2 M.aH.en x1.Unique)∧jI p0 p1 x1 m v9=some r) fuel ?_ ?_
  ·refine ⟨0,?_,?_,?_,?_,?_,?_,?_,?_,?_,?_,?_,h⟩
   all_goals simp +decide only [F,reduceIte,Nat.reduceAdd,qB,qC,EN, *,-h]
  rintro mL1 s25 ⟨v9,f26,f27,f28,f29,f30,f31,f32,f33,f34,f35,f36,h⟩
  rcases mL1 with _ | mL1
  ·exact absurd h (by simp [jI])
  simp only [jI] at h
  refine sq ?_
  obtain ⟨x37,h38,h⟩:=bind_some h
  refine rV (fun s=>s.t 2=vP 2 1 0∧s.t 3=vP 3 1 0∧s.t 4=vP 4 1 0∧s.t 6=vP 6 1 0∧s.t 9=vI v9∧s.t 44=vB x37∧s.h 2=(1,oX 32 (M.Database.en p0))∧s.h 3=(1,oX 469 (M.gK.en p1))∧s.h 4=(1,aEy)∧s.h 6=(1,oB 32 [cS x1.Name,cI x1.Version,.row 300012 1,.row 400012 1])∧s.h 300012=(1,oW 37 3 M.aA.en x1.Stores)∧s.h 400012=(1,oW 239 2 M.aH.en x1.Unique)∧True) ?_ ?_
  ·replace h:=h38
   clear h38
   rcases wF (decide (v9<(List.length p0.Stores:Int))) with b52 | b52
   ·replace h:=bY b52 h
    refine rd mixed ?_
    cases h
    refine iB ⟨?_,?_,?_,?_,?_,?_,?_,?_,?_,?_,?_,?_,trivial⟩<;>(try simp +decide only [F,reduceIte,Nat.reduceAdd,qB,qC,EN, *,-h])
   replace h:=cD b52 h
   obtain ⟨x53,h54,h⟩:=bind_some h
   obtain ⟨q55,q56,q57⟩:=jG h54
   refine rd mixed ?_
   cases h
   refine iB ⟨?_,?_,?_,?_,?_,?_,?_,?_,?_,?_,?_,?_,trivial⟩<;>(try simp +decide only [F,reduceIte,Nat.reduceAdd,qB,qC,EN, *,-h])
  clear h38
  rintro s39 ⟨f40,f41,f42,f43,f44,f45,f46,f47,f48,f49,f50,f51,_⟩
  rcases lN x37 with b58 | b58
  ·replace h:=cD b58 h
   refine ct (sk (an (bk (rn ?_))))
   refine ab ?_
   refine iB ⟨mL1,by omega,(IntKind.i64.wrap (v9+1)),?_,?_,?_,?_,?_,?_,?_,?_,?_,?_,?_,h⟩
   all_goals simp +decide only [F,reduceIte,Nat.reduceAdd,qB,qC,EN, *,-h]
  replace h:=bY b58 h
  refine cf (xt (wD (vT (aAi (an (sq ?_))))))
  obtain ⟨x59,h60,h⟩:=bind_some h
  obtain ⟨x61,h62,h⟩:=bind_some h
  apply eD
  ·simp +decide only [E,reduceIte,Nat.reduceAdd,Nat.reduceMul,qB,qC,←List.map_take,←List.map_drop,L,aOi,aLa,aOC,M.aA.en,EN,b24,f40,f41,f42,f43,f44,f45,f46,f47,f48,f49,f50,f51,b58]
   refine ⟨by first | exact rX h60 | exact (rX h60).2 | exact (rX h60).2.2,?_⟩
   try simp +decide only [E,reduceIte,Nat.reduceAdd,Nat.reduceMul,qB,qC,←List.map_take,←List.map_drop,L,aOi,aLa,aOC,M.aA.en,EN,b24,f40,f41,f42,f43,f44,f45,f46,f47,f48,f49,f50,f51,b58]
   refine ⟨by (have hb:=oA h62);simp [M.aA.en,qE,aQ,←List.map_take,←List.map_drop,-List.map_take,-List.map_drop] at hb ⊢ <;> omega,?_⟩
   try simp +decide only [E,reduceIte,Nat.reduceAdd,Nat.reduceMul,qB,qC,←List.map_take,←List.map_drop,L,aOi,aLa,aOC,M.aA.en,EN,b24,f40,f41,f42,f43,f44,f45,f46,f47,f48,f49,f50,f51,b58]
   exact Is.mk _
  refine an (sq ?_)
  refine cu (fun s=>s.t 2=vP 2 1 0∧s.t 3=vP 3 1 0∧s.t 4=vP 4 1 0∧s.t 6=vP 6 1 0∧s.t 9=vI v9∧s.t 10=vR 100047 (((s39.h 100047).1+1)+1)∧s.h 2=(1,oX 32 (M.Database.en p0))∧s.h 3=(1,oX 469 (M.gK.en p1))∧s.h 4=(1,aEy)∧s.h 6=(1,oB 32 [cS x1.Name,cI x1.Version,.row 300012 1,.row 400012 1])∧s.h 100047=((((s39.h 100047).1+1)+1),oW 37 3 M.aA.en (List.take v9.toNat x1.Stores))∧s.h 300012=(1,.row 37 3 (aDn 3 0 v9.toNat (List.map M.aA.en x1.Stores)) true)∧s.h 400012=(1,oW 239 2 M.aH.en x1.Unique)∧True) ?_
  rintro s63 ⟨f64,f65,f66,f67,f68,f69,f70,f71,f72,f73,f74,f75,f76,_⟩
  obtain ⟨x77,h78,h⟩:=bind_some h
  refine rn1 h78 ?_
  refine an ?_
  refine cu (fun s=>s.t 2=vP 2 1 0∧s.t 4=vP 4 1 0∧s.t 6=vP 6 1 0∧s.t 9=vI v9∧s.t 10=vR 100047 ((((s39.h 100047).1+1)+1)+1)∧s.h 2=(1,oX 32 (M.Database.en p0))∧s.h 4=(1,aEy)∧s.h 6=(1,oB 32 [cS x1.Name,cI x1.Version,.row 300012 1,.row 400012 1])∧s.h 100047=(((((s39.h 100047).1+1)+1)+1),oW 37 3 M.aA.en ((List.take v9.toNat x1.Stores)++[(⟨p1.aA,([]:List M.Item),0⟩:M.aA)]))∧s.h 300012=(1,.row 37 3 (aDn 3 0 v9.toNat (List.map M.aA.en x1.Stores)) true)∧s.h 400012=(1,oW 239 2 M.aH.en x1.Unique)∧True) ?_
  rintro s79 ⟨f80,f81,f82,f83,f84,f85,f86,f87,f88,f89,f90,_⟩
  obtain ⟨x91,h92,h⟩:=bind_some h
  apply eD
  ·simp +decide only [E,reduceIte,Nat.reduceAdd,Nat.reduceMul,qB,qC,←List.map_take,←List.map_drop,L,aOi,aLa,aOC,M.aA.en,EN,b24,b58,f80,f81,f82,f83,f84,f85,f86,f87,f88,f89,f90]
   refine ⟨by first | exact aG3 (rX h60).1 | exact (aG3 (rX h60).1).2 | exact (aG3 (rX h60).1).2.2,?_⟩
   try simp +decide only [E,reduceIte,Nat.reduceAdd,Nat.reduceMul,qB,qC,←List.map_take,←List.map_drop,L,aOi,aLa,aOC,M.aA.en,EN,b24,b58,f80,f81,f82,f83,f84,f85,f86,f87,f88,f89,f90]
   refine ⟨by (have hb:=oA h92);simp [M.aA.en,qE,aQ,←List.map_take,←List.map_drop,-List.map_take,-List.map_drop] at hb ⊢ <;> omega,?_⟩
   try simp +decide only [E,reduceIte,Nat.reduceAdd,Nat.reduceMul,qB,qC,←List.map_take,←List.map_drop,L,aOi,aLa,aOC,M.aA.en,EN,b24,b58,f80,f81,f82,f83,f84,f85,f86,f87,f88,f89,f90]
   exact Is.mk _
  refine ab (an (sq ?_))
  refine cu (fun s=>s.t 2=vP 2 1 0∧s.t 4=vP 4 1 0∧s.t 6=vP 6 1 0∧s.h 2=(1,oX 32 (M.Database.en p0))∧s.h 4=(1,aEy)∧s.h 6=(1,oB 32 [cS x1.Name,cI x1.Version,.row 100047 (((((s39.h 100047).1+1)+1)+1)+1),.row 400012 1])∧s.h 100047=((((((s39.h 100047).1+1)+1)+1)+1),oW 37 3 M.aA.en (((List.take v9.toNat x1.Stores)++[(⟨p1.aA,([]:List M.Item),0⟩:M.aA)])++(List.drop v9.toNat x1.Stores)))∧s.h 400012=(1,oW 239 2 M.aH.en x1.Unique)∧True) ?_
  rintro s93 ⟨f94,f95,f96,f97,f98,f99,f100,f101,_⟩
  obtain ⟨x102,h103,h⟩:=bind_some h
  refine rV (fun s=>s.t 2=vP 2 1 0∧s.t 4=vP 4 1 0∧s.t 6=vP 6 1 0∧s.t 126=vB x102∧s.h 2=(1,oX 32 (M.Database.en p0))∧s.h 4=(1,aEy)∧s.h 6=s93.h 6∧s.h 100047=s93.h 100047∧s.h 400012=(1,oW 239 2 M.aH.en x1.Unique)∧True) ?_ ?_
  ·replace h:=h103
   clear h103
   obtain ⟨x114,h115,h⟩:=bind_some h
   rcases lN (!x114) with b116 | b116
   ·replace h:=cD b116 h
    refine rn1 (c58 _ _ h115) ?_
    cases h
    refine iB ⟨?_,?_,?_,?_,?_,?_,?_,?_,?_,trivial⟩<;>(try simp +decide only [F,reduceIte,Nat.reduceAdd,qB,qC,EN, *,-h])
   replace h:=bY b116 h
   obtain ⟨x117,h118,h⟩:=bind_some h
   refine rn2 (c58 _ _ h115) (c58 _ _ h118) ?_
   cases h
   refine iB ⟨?_,?_,?_,?_,?_,?_,?_,?_,?_,trivial⟩<;>(try simp +decide only [F,reduceIte,Nat.reduceAdd,qB,qC,EN, *,-h])
  clear h103
  rintro s104 ⟨f105,f106,f107,f108,f109,f110,f111,f112,f113,_⟩
  replace f111:=f111.trans f99
  replace f112:=f112.trans f100
  rcases wF x102 with b119 | b119
  ·replace h:=bY b119 h
   refine cf (sk (an (sq (rn ?_))))
   refine an (rt ?_)
   cases h
   simp [Ret,TB,EN, *]
  replace h:=cD b119 h
  refine ct (sq ?_)
  obtain ⟨x120,h121,h⟩:=bind_some h
  refine rn1 (aOb _ _ h121) ?_
  refine an (rt ?_)
  cases h
  simp [Ret,TB,EN, *]
 replace h:=bY b24 h
 refine cf ?_
 obtain ⟨x122,h123,h⟩:=bind_some h
 refine rV (fun s=>s.t 2=vP 2 1 0∧s.t 3=vP 3 1 0∧s.t 4=vP 4 1 0∧s.t 6=vP 6 1 0∧s.t 7=vI x3∧s.t 8=vI x5∧s.t 66=vB x122∧s.h 2=(1,oX 32 (M.Database.en p0))∧s.h 3=(1,oX 469 (M.gK.en p1))∧s.h 4=(1,aEy)∧s.h 6=(1,oB 32 [cS x1.Name,cI x1.Version,.row 300012 1,.row 400012 1])∧s.h 300012=(1,oW 37 3 M.aA.en x1.Stores)∧s.h 400012=(1,oW 239 2 M.aH.en x1.Unique)∧True) ?_ ?_
 ·replace h:=h123
  clear h123
  rcases lN (p1.Kind==2) with b138 | b138
  ·replace h:=cD b138 h
   refine rn ?_
   cases h
   refine iB ⟨?_,?_,?_,?_,?_,?_,?_,?_,?_,?_,?_,?_,?_,trivial⟩<;>(try simp +decide only [F,reduceIte,Nat.reduceAdd,qB,qC,EN, *,-h])
  replace h:=bY b138 h
  refine rn ?_
  cases h
  refine iB ⟨?_,?_,?_,?_,?_,?_,?_,?_,?_,?_,?_,?_,?_,trivial⟩<;>(try simp +decide only [F,reduceIte,Nat.reduceAdd,qB,qC,EN, *,-h])
 clear h123
 rintro s124 ⟨f125,f126,f127,f128,f129,f130,f131,f132,f133,f134,f135,f136,f137,_⟩
 rcases lN x122 with b139 | b139
 ·replace h:=cD b139 h
  refine ct ?_
  obtain ⟨x140,h141,h⟩:=bind_some h
  refine rn1 (aP7 _ _ _ h141) ?_
  refine ab (an (sq ?_))
  obtain ⟨x142,h143,h⟩:=bind_some h
  refine rV (fun s=>s.t 2=vP 2 1 0∧s.t 4=vP 4 1 0∧s.t 6=vP 6 1 0∧s.t 126=vB x142∧s.h 2=(1,oX 32 (M.Database.en p0))∧s.h 4=(1,aEy)∧s.h 6=(1,oB 32 [cS x140.Name,cI x140.Version,.row 300077 ((s124.h 300077).1+1),.row 400077 ((s124.h 400077).1+1)])∧s.h 300077=(((s124.h 300077).1+1),oW 37 3 M.aA.en x140.Stores)∧s.h 400077=(((s124.h 400077).1+1),oW 239 2 M.aH.en x140.Unique)∧True) ?_ ?_
  ·replace h:=h143
   clear h143
   obtain ⟨x154,h155,h⟩:=bind_some h
   rcases lN (!x154) with b156 | b156
   ·replace h:=cD b156 h
    refine rn1 (c58 _ _ h155) ?_
    cases h
    refine iB ⟨?_,?_,?_,?_,?_,?_,?_,?_,?_,trivial⟩<;>(try simp +decide only [F,reduceIte,Nat.reduceAdd,qB,qC,EN, *,-h])
   replace h:=bY b156 h
   obtain ⟨x157,h158,h⟩:=bind_some h
   refine rn2 (c58 _ _ h155) (c58 _ _ h158) ?_
   cases h
   refine iB ⟨?_,?_,?_,?_,?_,?_,?_,?_,?_,trivial⟩<;>(try simp +decide only [F,reduceIte,Nat.reduceAdd,qB,qC,EN, *,-h])
  clear h143
  rintro s144 ⟨f145,f146,f147,f148,f149,f150,f151,f152,f153,_⟩
  rcases wF x142 with b159 | b159
  ·replace h:=bY b159 h
   refine cf (sk (an (sq (rn ?_))))
   refine an (rt ?_)
   cases h
   simp [Ret,TB,EN, *]
  replace h:=cD b159 h
  refine ct (sq ?_)
  obtain ⟨x160,h161,h⟩:=bind_some h
  refine rn1 (aOb _ _ h161) ?_
  refine an (rt ?_)
  cases h
  simp [Ret,TB,EN, *]
 replace h:=bY b139 h
 refine cf ?_
 obtain ⟨x162,h163,h⟩:=bind_some h
 refine rV (fun s=>s.t 2=vP 2 1 0∧s.t 3=vP 3 1 0∧s.t 4=vP 4 1 0∧s.t 6=vP 6 1 0∧s.t 8=vI x5∧s.t 78=vB x162∧s.h 2=(1,oX 32 (M.Database.en p0))∧s.h 3=(1,oX 469 (M.gK.en p1))∧s.h 4=(1,aEy)∧s.h 6=(1,oB 32 [cS x1.Name,cI x1.Version,.row 300012 1,.row 400012 1])∧s.h 300012=(1,oW 37 3 M.aA.en x1.Stores)∧s.h 400012=(1,oW 239 2 M.aH.en x1.Unique)∧True) ?_ ?_
 ·replace h:=h163
  clear h163
  rcases wF (p1.Kind==3) with b177 | b177
  ·replace h:=bY b177 h
   refine rn ?_
   cases h
   refine iB ⟨?_,?_,?_,?_,?_,?_,?_,?_,?_,?_,?_,?_,trivial⟩<;>(try simp +decide only [F,reduceIte,Nat.reduceAdd,qB,qC,EN, *,-h])
  replace h:=cD b177 h
  rcases lN (decide (x3≥0)) with b178 | b178
  ·replace h:=cD b178 h
   refine rn ?_
   cases h
   refine iB ⟨?_,?_,?_,?_,?_,?_,?_,?_,?_,?_,?_,?_,trivial⟩<;>(try simp +decide only [F,reduceIte,Nat.reduceAdd,qB,qC,EN, *,-h])
  replace h:=bY b178 h
  refine rn ?_
  cases h
  refine iB ⟨?_,?_,?_,?_,?_,?_,?_,?_,?_,?_,?_,?_,trivial⟩<;>(try simp +decide only [F,reduceIte,Nat.reduceAdd,qB,qC,EN, *,-h])
 clear h163
 rintro s164 ⟨f165,f166,f167,f168,f169,f170,f171,f172,f173,f174,f175,f176,_⟩
 rcases lN x162 with b179 | b179
 ·replace h:=cD b179 h
  refine ct ?_
  obtain ⟨x180,h181,h⟩:=bind_some h
  refine rn1 h181 ?_
  refine ab (an (sq ?_))
  refine cu (fun s=>s.t 2=vP 2 1 0∧s.t 4=vP 4 1 0∧s.t 6=vP 6 1 0∧s.h 2=(1,oX 32 (M.Database.en p0))∧s.h 4=(1,aEy)∧s.h 6=(1,oB 32 [cS x1.Name,cI x1.Version,.row 300012 1,.row 400012 2])∧s.h 300012=(1,oW 37 3 M.aA.en x1.Stores)∧s.h 400012=(2,oW 239 2 M.aH.en (x1.Unique++[(⟨p1.aA,p1.Field⟩:M.aH)]))∧True) ?_
  rintro s182 ⟨f183,f184,f185,f186,f187,f188,f189,f190,_⟩
  obtain ⟨x191,h192,h⟩:=bind_some h
  refine rV (fun s=>s.t 2=vP 2 1 0∧s.t 4=vP 4 1 0∧s.t 6=vP 6 1 0∧s.t 126=vB x191∧s.h 2=(1,oX 32 (M.Database.en p0))∧s.h 4=(1,aEy)∧s.h 6=(1,oB 32 [cS x1.Name,cI x1.Version,.row 300012 1,.row 400012 2])∧s.h 300012=(1,oW 37 3 M.aA.en x1.Stores)∧s.h 400012=s182.h 400012∧True) ?_ ?_
  ·replace h:=h192
   clear h192
   obtain ⟨x203,h204,h⟩:=bind_some h
   rcases lN (!x203) with b205 | b205
   ·replace h:=cD b205 h
    refine rn1 (c58 _ _ h204) ?_
    cases h
    refine iB ⟨?_,?_,?_,?_,?_,?_,?_,?_,?_,trivial⟩<;>(try simp +decide only [F,reduceIte,Nat.reduceAdd,qB,qC,EN, *,-h])
   replace h:=bY b205 h
   obtain ⟨x206,h207,h⟩:=bind_some h
   refine rn2 (c58 _ _ h204) (c58 _ _ h207) ?_
   cases h
   refine iB ⟨?_,?_,?_,?_,?_,?_,?_,?_,?_,trivial⟩<;>(try simp +decide only [F,reduceIte,Nat.reduceAdd,qB,qC,EN, *,-h])
  clear h192
  rintro s193 ⟨f194,f195,f196,f197,f198,f199,f200,f201,f202,_⟩
  replace f202:=f202.trans f190
  rcases wF x191 with b208 | b208
  ·replace h:=bY b208 h
   refine cf (sk (an (sq (rn ?_))))
   refine an (rt ?_)
   cases h
   simp [Ret,TB,EN, *]
  replace h:=cD b208 h
  refine ct (sq ?_)
  obtain ⟨x209,h210,h⟩:=bind_some h
  refine rn1 (aOb _ _ h210) ?_
  refine an (rt ?_)
  cases h
  simp [Ret,TB,EN, *]
 replace h:=bY b179 h
 refine cf ?_
 obtain ⟨x211,h212,h⟩:=bind_some h
 refine rV (fun s=>s.t 2=vP 2 1 0∧s.t 4=vP 4 1 0∧s.t 6=vP 6 1 0∧s.t 8=vI x5∧s.t 100=vB x211∧s.h 2=(1,oX 32 (M.Database.en p0))∧s.h 4=(1,aEy)∧s.h 6=(1,oB 32 [cS x1.Name,cI x1.Version,.row 300012 1,.row 400012 1])∧s.h 300012=(1,oW 37 3 M.aA.en x1.Stores)∧s.h 400012=(1,oW 239 2 M.aH.en x1.Unique)∧True) ?_ ?_
 ·replace h:=h212
  clear h212
  rcases lN (p1.Kind==4) with b224 | b224
  ·replace h:=cD b224 h
   refine rn ?_
   cases h
   refine iB ⟨?_,?_,?_,?_,?_,?_,?_,?_,?_,?_,trivial⟩<;>(try simp +decide only [F,reduceIte,Nat.reduceAdd,qB,qC,EN, *,-h])
  replace h:=bY b224 h
  refine rn ?_
  cases h
  refine iB ⟨?_,?_,?_,?_,?_,?_,?_,?_,?_,?_,trivial⟩<;>(try simp +decide only [F,reduceIte,Nat.reduceAdd,qB,qC,EN, *,-h])
 clear h212
 rintro s213 ⟨f214,f215,f216,f217,f218,f219,f220,f221,f222,f223,_⟩
 rcases wF x211 with b225 | b225
 ·replace h:=bY b225 h
  refine cf (sq (rn ?_))
  refine an (rt ?_)
  cases h
  simp [Ret,TB,EN, *]
 replace h:=cD b225 h
 refine ct ?_
 obtain ⟨x226,h227,h⟩:=bind_some h
 obtain ⟨x228,h229,h⟩:=bind_some h
 obtain ⟨x230,h231,h⟩:=bind_some h
 apply xG mixed
 ·simp +decide only [E,reduceIte,Nat.reduceAdd,Nat.reduceMul,qB,qC,←List.map_take,←List.map_drop,Nat.sub_zero,L,aPa,aLa,aLu,M.aH.en,EN,b24,b139,b179,f214,f215,f216,f217,f218,f219,f220,f221,f222,f223,b225]
  refine ⟨by first | exact rX h227 | exact (rX h227).2 | exact (rX h227).2.2,?_⟩
  try simp +decide only [E,reduceIte,Nat.reduceAdd,Nat.reduceMul,qB,qC,←List.map_take,←List.map_drop,Nat.sub_zero,L,aPa,aLa,aLu,M.aH.en,EN,b24,b139,b179,f214,f215,f216,f217,f218,f219,f220,f221,f222,f223,b225]
  refine ⟨by first | exact aEp h229 | exact (aEp h229).2 | exact (aEp h229).2.2,?_⟩
  try simp +decide only [E,reduceIte,Nat.reduceAdd,Nat.reduceMul,qB,qC,←List.map_take,←List.map_drop,Nat.sub_zero,L,aPa,aLa,aLu,M.aH.en,EN,b24,b139,b179,f214,f215,f216,f217,f218,f219,f220,f221,f222,f223,b225]
  refine ⟨by first | exact aHH (f:=M.aH.en) (sz:=2) (fun _=>rfl) (by decide) h227 h229 h231 | (have hb:=aHH (f:=M.aH.en) (sz:=2) (fun _=>rfl) (by decide) h227 h229 h231;simpa using hb),?_⟩
  try simp +decide only [E,reduceIte,Nat.reduceAdd,Nat.reduceMul,qB,qC,←List.map_take,←List.map_drop,Nat.sub_zero,L,aPa,aLa,aLu,M.aH.en,EN,b24,b139,b179,f214,f215,f216,f217,f218,f219,f220,f221,f222,f223,b225]
  exact ⟨.mk (by decide +kernel),Is.mk _⟩
 refine ab (an (sq ?_))
 refine cu (fun s=>s.t 2=vP 2 1 0∧s.t 4=vP 4 1 0∧s.t 6=vP 6 1 0∧s.h 2=(1,oX 32 (M.Database.en p0))∧s.h 4=(1,aEy)∧s.h 6=(1,oB 32 [cS x1.Name,cI x1.Version,.row 300012 1,.row 400012 2])∧s.h 300012=(1,oW 37 3 M.aA.en x1.Stores)∧s.h 400012=(2,oW 239 2 M.aH.en ((List.take x5.toNat x1.Unique)++(List.drop (IntKind.i64.wrap (x5+1)).toNat x1.Unique)))∧True) ?_
 rintro s232 ⟨f233,f234,f235,f236,f237,f238,f239,f240,_⟩
 obtain ⟨x241,h242,h⟩:=bind_some h
 refine rV (fun s=>s.t 2=vP 2 1 0∧s.t 4=vP 4 1 0∧s.t 6=vP 6 1 0∧s.t 126=vB x241∧s.h 2=(1,oX 32 (M.Database.en p0))∧s.h 4=(1,aEy)∧s.h 6=(1,oB 32 [cS x1.Name,cI x1.Version,.row 300012 1,.row 400012 2])∧s.h 300012=(1,oW 37 3 M.aA.en x1.Stores)∧s.h 400012=s232.h 400012∧True) ?_ ?_
 ·replace h:=h242
  clear h242
  obtain ⟨x253,h254,h⟩:=bind_some h
  rcases lN (!x253) with b255 | b255
  ·replace h:=cD b255 h
   refine rn1 (c58 _ _ h254) ?_
   cases h
   refine iB ⟨?_,?_,?_,?_,?_,?_,?_,?_,?_,trivial⟩<;>(try simp +decide only [F,reduceIte,Nat.reduceAdd,qB,qC,EN, *,-h])
  replace h:=bY b255 h
  obtain ⟨x256,h257,h⟩:=bind_some h
  refine rn2 (c58 _ _ h254) (c58 _ _ h257) ?_
  cases h
  refine iB ⟨?_,?_,?_,?_,?_,?_,?_,?_,?_,trivial⟩<;>(try simp +decide only [F,reduceIte,Nat.reduceAdd,qB,qC,EN, *,-h])
 clear h242
 rintro s243 ⟨f244,f245,f246,f247,f248,f249,f250,f251,f252,_⟩
 replace f252:=f252.trans f240
 rcases wF x241 with b258 | b258
 ·replace h:=bY b258 h
  refine cf (sk (an (sq (rn ?_))))
  refine an (rt ?_)
  cases h
  simp [Ret,TB,EN, *]
 replace h:=cD b258 h
 refine ct (sq ?_)
 obtain ⟨x259,h260,h⟩:=bind_some h
 refine rn1 (aOb _ _ h260) ?_
 refine an (rt ?_)
 cases h
 simp [Ret,TB,EN, *]
instance:bP 399 (type_of% @aSd):=⟨@aSd⟩
theorem aRq (p0 r) (h:pK p0=some r):Sc 388 [(false,[.ptr [.sl (List.map enB p0.b),.int .i64 p0.i,.int .i64 p0.h]])] [(false,[.edit (.lend 199 [.int .i64 r.1,.int .i64 r.2.1])]),(true,M.Server.rs r.2.2)]:=by
 unfold pK at h
 simp only [EN]
 refine sgB 36 [.cell 2 274] Tryz.func388 fun base wd B0 u0 hw0 => ?_
 refine gB (J:=fun s=>s.t 0=vP 7059000 1 0∧s.h 7059000=(1,oB 199 [.old B0 (.sl (List.map enB p0.b)) (some u0),cI p0.i,cI p0.h])∧True) ?_ ?_
 ·refine ⟨?_,?_,trivial⟩<;>(try simp only [LN,List.map_cons,List.map_nil])<;>rfl
 rintro s1 ⟨f2,f3,_⟩
 have i1:=aBx [.b 3 1 7050000 227 4,.b 3 3 7050001 431 2,.b 3 4 7050002 359 7] fun m s=>∃v4:Int,∃w3_0:ByteArray,∃w3_2:Int,∃w7059000_1:Int,∃w7059000_2:Int,∃r50000:List M.Item,∃r50001:List M.aP,∃r50002:List M.aT,∃u50000:Nat,∃u50001:Nat,∃u50002:Nat,(s.t 0=vP 7059000 1 0∧s.t 2=vP 2 ((s1.h 2).1+1) 0∧s.t 3=vP 3 ((s1.h 3).1+1) 0∧s.t 4=vI v4∧s.h 2=(((s1.h 2).1+1),aOf)∧s.h 3=(((s1.h 3).1+1),oB 274 [cS w3_0,.row 7050000 u50000,cI w3_2,.row 7050001 u50001,.row 7050002 u50002])∧s.h 7050000=(u50000,oW 227 4 M.Item.en r50000)∧s.h 7050001=(u50001,oW 431 2 M.aP.en r50001)∧s.h 7050002=(u50002,oW 359 7 M.aT.en r50002)∧s.h 7059000=(1,oB 199 [.old B0 (.sl (List.map enB p0.b)) (some u0),cI w7059000_1,cI w7059000_2]))∧gS p0 m v4 w3_0 w3_2 w7059000_1 w7059000_2 r50000 r50001 r50002=some r
 have e1:=@gS.eq_2
 exact sgX
instance:bP 388 (type_of% @aRq):=⟨@aRq⟩
theorem aSw (p0 p1 p2 p3 r) (h:rR p0 p1 p2 p3=some r):Sc 390 [aX (M.Sync.en p0),aX (M.Server.en p1),aI p2,aI p3] [(true,M.Sync.rs r.1),(true,M.Server.rs r.2.1),rI r.2.2]:=by
 unfold rR at h
 exact sgo 113 [.cell 8 42,.cell 9 274,.tmp 10] Tryz.func390
instance:bP 390 (type_of% @aSw):=⟨@aSw⟩
theorem aS6 (p0 p1 r) (h:nN p0 p1=some r):Sc 393 [aX (M.aD.en p0),aX (M.Server.en p1)] [(true,M.aD.rs r.1),rI r.2]:=by
 unfold nN at h
 exact sgo 64 [.cell 4 44,.tmp 5] Tryz.func393
instance:bP 393 (type_of% @aS6):=⟨@aS6⟩
theorem aQ3 (p0 r) (h:vO p0=some r):Sc 269 [(false,[.ptr [.sl (List.map enB p0.b),.int .i64 p0.i,.int .i64 p0.h]])] [(false,[.edit (.lend 199 [.int .i64 r.1,.int .i64 r.2.1])]),(true,M.aA.rs r.2.2)]:=by
 unfold vO at h
 simp only [EN]
 refine sgB 50 [.cell 2 37] Tryz.func269 fun base wd B0 u0 hw0 => ?_
 refine gB (J:=fun s=>s.t 0=vP 7059000 1 0∧s.h 7059000=(1,oB 199 [.old B0 (.sl (List.map enB p0.b)) (some u0),cI p0.i,cI p0.h])∧True) ?_ ?_
 ·refine ⟨?_,?_,trivial⟩<;>(try simp only [LN,List.map_cons,List.map_nil])<;>rfl
 rintro s1 ⟨f2,f3,_⟩
 have i1:=fun (x14:(Int×Int×Int)) (s16:St)=>aBx [.b 3 1 7050000 227 4] fun m s=>∃w3_0:ByteArray,∃w3_2:Int,∃r50000:List M.Item,∃u50000:Nat,(s.t 0=vP 7059000 1 0∧s.t 2=vP 2 ((s1.h 2).1+1) 0∧s.t 3=vP 3 ((s1.h 3).1+1) 0∧s.h 2=(((s1.h 2).1+1),oB 37 [cS (⟨#[]⟩:ByteArray),.nil,cI 0])∧s.h 3=(((s1.h 3).1+1),oB 37 [cS w3_0,.row 7050000 u50000,cI w3_2])∧s.h 7050000=(u50000,oW 227 4 M.Item.en r50000)∧s.h 7059000=s16.h 7059000)∧oZ x14 m w3_0 w3_2 r50000=some r
 have e1:=@oZ.eq_2
 exact sgX
instance:bP 269 (type_of% @aQ3):=⟨@aQ3⟩
end Go.Proofs.YtidhkhdnjonjfaaGreat.gen
