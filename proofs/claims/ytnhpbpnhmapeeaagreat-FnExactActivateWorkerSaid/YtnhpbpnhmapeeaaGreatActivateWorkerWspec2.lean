/-
  Helper text. No conditions.
-/
import Derived.Test.YtnhpbpnhmapeeaaGreatActivateWorkerTi
import Derived.Test.YtnhpbpnhmapeeaaGreatActivateWorkerWspec0
import Derived.Test.YtnhpbpnhmapeeaaGreatActivateWorkerWspec1
namespace Go.Proofs.YtnhpbpnhmapeeaaGreat.gen
open Go Go.Sh
set_option linter.unusedVariables false
set_option linter.unusedSimpArgs false
set_option maxRecDepth 20000
set_option maxHeartbeats 4000000
theorem c43 (p0 p1 r) (h:sW p0 p1=some r):Sc 43 [aX (M.aC.en p0),aX (M.aA.en p1)] [(true,M.aC.rs r.1),rB r.2]:=by
 unfold sW at h
 simp only [EN]
 refine sgn 74 [.cell 4 26,.tmp 5] Tryz.func43 fun base wd => ?_
 refine sq (rn ?_)
 refine an (sq ?_)
 obtain ⟨x1,h2,h⟩:=bind_some h
 refine rn1 (aN9 _ _ h2) ?_
 refine an (sq (sq ?_))
 obtain ⟨x3,h4,h⟩:=bind_some h
 refine rn1 (c41 _ _ _ _ h4) ?_
 refine an (sq (rn ?_))
 refine an ?_
 rcases cF (decide (x3≥0)) with b5 | b5
 ·replace h:=bH b5 h
  refine ct ?_
  obtain ⟨x6,h7,h⟩:=bind_some h
  obtain ⟨x8,h9,h⟩:=bind_some h
  obtain ⟨q10,q11,q12⟩:=aT h9
  refine rd1 mixed (c42 _ _ h7) ?_
  refine an (sq (sq ?_))
  refine cu (fun s=>s.t 2=vP 2 1 0∧s.t 4=vP 4 1 0∧s.t 6=vP 6 1 0∧s.h 2=(1,oX 26 (M.aC.en p0))∧s.h 4=(1,oB 26 [.nil])∧s.h 6=(1,oB 26 [.row 100011 1])∧s.h 100011=(1,oW 124 24 M.aA.en (List.set x1.Buckets x3.toNat x6))∧True) ?_
  rintro s13 ⟨f14,f15,f16,f17,f18,f19,f20,_⟩
  obtain ⟨x21,h22,h⟩:=bind_some h
  rcases cF (!x21) with b23 | b23
  ·replace h:=bH b23 h
   refine rn1 (aMe _ _ h22) ?_
   refine an (ct (sq ?_))
   obtain ⟨x24,h25,h⟩:=bind_some h
   refine rn1 (aN9 _ _ h25) ?_
   refine an (rt ?_)
   cases h
   simp [Ret,TB,EN, *]
  replace h:=bG b23 h
  obtain ⟨x26,h27,h⟩:=bind_some h
  refine rn2 (aMe _ _ h22) (aMe _ _ h27) ?_
  refine an ?_
  rcases aBM (!x26) with b28 | b28
  ·replace h:=bG b28 h
   refine cf (sk (an (sq (rn ?_))))
   refine an (rt ?_)
   cases h
   simp [Ret,TB,EN, *]
  replace h:=bH b28 h
  refine ct (sq ?_)
  obtain ⟨x29,h30,h⟩:=bind_some h
  refine rn1 (aN9 _ _ h30) ?_
  refine an (rt ?_)
  cases h
  simp [Ret,TB,EN, *]
 replace h:=bG b5 h
 refine cf (sq (rn ?_))
 refine an (sq (bk ?_))
 refine mR (fun m s=>∃v8:Int,s.t 2=vP 2 1 0∧s.t 3=vP 3 1 0∧s.t 4=vP 4 1 0∧s.t 6=vP 6 1 0∧s.t 8=vI v8∧s.h 2=(1,oX 26 (M.aC.en p0))∧s.h 3=(1,oX 124 (M.aA.en p1))∧s.h 4=(1,oB 26 [.nil])∧s.h 6=(1,oB 26 [.row 100011 1])∧s.h 100011=(1,oW 124 24 M.aA.en x1.Buckets)∧gH p0 p1 x1 m v8=some r) fuel ?_ ?_
 ·refine ⟨0,?_,?_,?_,?_,?_,?_,?_,?_,?_,?_,h⟩
  all_goals simp +decide only [F,reduceIte,Nat.reduceAdd,Bool.not_true,Bool.not_false,EN, *,-h]
 rintro mL1 s31 ⟨v8,f32,f33,f34,f35,f36,f37,f38,f39,f40,f41,h⟩
 rcases mL1 with _ | mL1
 ·exact absurd h (by simp [gH])
 simp only [gH] at h
 refine sq (sq ?_)
 rcases aBM (decide (v8<(List.length p0.Buckets:Int))) with b42 | b42
 ·replace h:=bG b42 h
  refine rd mixed ?_
  refine an (cf (xt (nI (oS (aAK (an (sq ?_)))))))
  obtain ⟨x103,h104,h⟩:=bind_some h
  obtain ⟨x105,h106,h⟩:=bind_some h
  apply lO
  ·simp +decide only [E,reduceIte,Nat.reduceAdd,Nat.reduceMul,Bool.not_true,Bool.not_false,←List.map_take,←List.map_drop,L,aHb,aHd,mZ,M.aA.en,EN,b5,f32,f33,f34,f35,f36,f37,f38,f39,f40,f41,b42]
   refine ⟨by first | exact jZ h104 | exact (jZ h104).2 | exact (jZ h104).2.2,?_⟩
   try simp +decide only [E,reduceIte,Nat.reduceAdd,Nat.reduceMul,Bool.not_true,Bool.not_false,←List.map_take,←List.map_drop,L,aHb,aHd,mZ,M.aA.en,EN,b5,f32,f33,f34,f35,f36,f37,f38,f39,f40,f41,b42]
   refine ⟨by (have hb:=kC h106);simp [M.aA.en,List.length_append,bF,←List.map_take,←List.map_drop,-List.map_take,-List.map_drop] at hb ⊢ <;> omega,?_⟩
   try simp +decide only [E,reduceIte,Nat.reduceAdd,Nat.reduceMul,Bool.not_true,Bool.not_false,←List.map_take,←List.map_drop,L,aHb,aHd,mZ,M.aA.en,EN,b5,f32,f33,f34,f35,f36,f37,f38,f39,f40,f41,b42]
   exact Is.mk _
  refine an (sq ?_)
  refine cu (fun s=>s.t 2=vP 2 1 0∧s.t 3=vP 3 1 0∧s.t 4=vP 4 1 0∧s.t 6=vP 6 1 0∧s.t 8=vI v8∧s.t 9=vR 100045 (((s31.h 100045).1+1)+1)∧s.h 2=(1,oX 26 (M.aC.en p0))∧s.h 3=(1,oX 124 (M.aA.en p1))∧s.h 4=(1,oB 26 [.nil])∧s.h 6=(1,oB 26 [.row 100011 1])∧s.h 100011=(1,.row 124 24 (aC7 24 0 v8.toNat (List.map M.aA.en x1.Buckets)) true)∧s.h 100045=((((s31.h 100045).1+1)+1),oW 124 24 M.aA.en (List.take v8.toNat x1.Buckets))∧True) ?_
  rintro s107 ⟨f108,f109,f110,f111,f112,f113,f114,f115,f116,f117,f118,f119,_⟩
  obtain ⟨x120,h121,h⟩:=bind_some h
  obtain ⟨x122,h123,h⟩:=bind_some h
  refine rn2 (c42 _ _ h121) h123 ?_
  refine an ?_
  refine cu (fun s=>s.t 2=vP 2 1 0∧s.t 4=vP 4 1 0∧s.t 6=vP 6 1 0∧s.t 8=vI v8∧s.t 9=vR 100045 ((((s31.h 100045).1+1)+1)+1)∧s.h 2=(1,oX 26 (M.aC.en p0))∧s.h 4=(1,oB 26 [.nil])∧s.h 6=(1,oB 26 [.row 100011 1])∧s.h 100011=(1,.row 124 24 (aC7 24 0 v8.toNat (List.map M.aA.en x1.Buckets)) true)∧s.h 100045=(((((s31.h 100045).1+1)+1)+1),oW 124 24 M.aA.en ((List.take v8.toNat x1.Buckets)++[x120]))∧True) ?_
  rintro s124 ⟨f125,f126,f127,f128,f129,f130,f131,f132,f133,f134,_⟩
  obtain ⟨x135,h136,h⟩:=bind_some h
  apply lO
  ·simp +decide only [E,reduceIte,Nat.reduceAdd,Nat.reduceMul,Bool.not_true,Bool.not_false,←List.map_take,←List.map_drop,L,aHb,aHd,mZ,M.aA.en,EN,b5,b42,f125,f126,f127,f128,f129,f130,f131,f132,f133,f134]
   refine ⟨by first | exact aC0 (jZ h104).1 | exact (aC0 (jZ h104).1).2 | exact (aC0 (jZ h104).1).2.2,?_⟩
   try simp +decide only [E,reduceIte,Nat.reduceAdd,Nat.reduceMul,Bool.not_true,Bool.not_false,←List.map_take,←List.map_drop,L,aHb,aHd,mZ,M.aA.en,EN,b5,b42,f125,f126,f127,f128,f129,f130,f131,f132,f133,f134]
   refine ⟨by (have hb:=kC h136);simp [M.aA.en,List.length_append,bF,←List.map_take,←List.map_drop,-List.map_take,-List.map_drop] at hb ⊢ <;> omega,?_⟩
   try simp +decide only [E,reduceIte,Nat.reduceAdd,Nat.reduceMul,Bool.not_true,Bool.not_false,←List.map_take,←List.map_drop,L,aHb,aHd,mZ,M.aA.en,EN,b5,b42,f125,f126,f127,f128,f129,f130,f131,f132,f133,f134]
   exact Is.mk _
  refine an (sq (sq ?_))
  refine cu (fun s=>s.t 2=vP 2 1 0∧s.t 4=vP 4 1 0∧s.t 6=vP 6 1 0∧s.h 2=(1,oX 26 (M.aC.en p0))∧s.h 4=(1,oB 26 [.nil])∧s.h 6=(1,oB 26 [.row 100045 (((((s31.h 100045).1+1)+1)+1)+1)])∧s.h 100045=((((((s31.h 100045).1+1)+1)+1)+1),oW 124 24 M.aA.en (((List.take v8.toNat x1.Buckets)++[x120])++(List.drop v8.toNat x1.Buckets)))∧True) ?_
  rintro s137 ⟨f138,f139,f140,f141,f142,f143,f144,_⟩
  obtain ⟨x145,h146,h⟩:=bind_some h
  rcases cF (!x145) with b147 | b147
  ·replace h:=bH b147 h
   refine rn1 (aMe _ _ h146) ?_
   refine an (ct (sq ?_))
   obtain ⟨x148,h149,h⟩:=bind_some h
   refine rn1 (aN9 _ _ h149) ?_
   refine an (rt ?_)
   cases h
   simp [Ret,TB,EN, *]
  replace h:=bG b147 h
  obtain ⟨x150,h151,h⟩:=bind_some h
  refine rn2 (aMe _ _ h146) (aMe _ _ h151) ?_
  refine an ?_
  rcases aBM (!x150) with b152 | b152
  ·replace h:=bG b152 h
   refine cf (sk (an (sq (rn ?_))))
   refine an (rt ?_)
   cases h
   simp [Ret,TB,EN, *]
  replace h:=bH b152 h
  refine ct (sq ?_)
  obtain ⟨x153,h154,h⟩:=bind_some h
  refine rn1 (aN9 _ _ h154) ?_
  refine an (rt ?_)
  cases h
  simp [Ret,TB,EN, *]
 replace h:=bH b42 h
 obtain ⟨x43,h44,h⟩:=bind_some h
 obtain ⟨q45,q46,q47⟩:=aT h44
 obtain ⟨x48,h49,h⟩:=bind_some h
 refine rd1 mixed (aRD _ _ _ _ h49) ?_
 refine an ?_
 rcases cF x48 with b50 | b50
 ·replace h:=bH b50 h
  refine ct (sk (an (bk (rn ?_))))
  refine ab ?_
  refine yH ⟨mL1,by omega,(IntKind.i64.wrap (v8+1)),?_,?_,?_,?_,?_,?_,?_,?_,?_,?_,h⟩
  all_goals simp +decide only [F,reduceIte,Nat.reduceAdd,Bool.not_true,Bool.not_false,EN, *,-h]
 replace h:=bG b50 h
 refine cf (xt (nI (oS (aAK (an (sq ?_))))))
 obtain ⟨x51,h52,h⟩:=bind_some h
 obtain ⟨x53,h54,h⟩:=bind_some h
 apply lO
 ·simp +decide only [E,reduceIte,Nat.reduceAdd,Nat.reduceMul,Bool.not_true,Bool.not_false,←List.map_take,←List.map_drop,L,aHb,aHd,mZ,M.aA.en,EN,b5,f32,f33,f34,f35,f36,f37,f38,f39,f40,f41,b42,q45,q46,q47,b50]
  refine ⟨by first | exact jZ h52 | exact (jZ h52).2 | exact (jZ h52).2.2,?_⟩
  try simp +decide only [E,reduceIte,Nat.reduceAdd,Nat.reduceMul,Bool.not_true,Bool.not_false,←List.map_take,←List.map_drop,L,aHb,aHd,mZ,M.aA.en,EN,b5,f32,f33,f34,f35,f36,f37,f38,f39,f40,f41,b42,q45,q46,q47,b50]
  refine ⟨by (have hb:=kC h54);simp [M.aA.en,List.length_append,bF,←List.map_take,←List.map_drop,-List.map_take,-List.map_drop] at hb ⊢ <;> omega,?_⟩
  try simp +decide only [E,reduceIte,Nat.reduceAdd,Nat.reduceMul,Bool.not_true,Bool.not_false,←List.map_take,←List.map_drop,L,aHb,aHd,mZ,M.aA.en,EN,b5,f32,f33,f34,f35,f36,f37,f38,f39,f40,f41,b42,q45,q46,q47,b50]
  exact Is.mk _
 refine an (sq ?_)
 refine cu (fun s=>s.t 2=vP 2 1 0∧s.t 3=vP 3 1 0∧s.t 4=vP 4 1 0∧s.t 6=vP 6 1 0∧s.t 8=vI v8∧s.t 9=vR 100045 (((s31.h 100045).1+1)+1)∧s.h 2=(1,oX 26 (M.aC.en p0))∧s.h 3=(1,oX 124 (M.aA.en p1))∧s.h 4=(1,oB 26 [.nil])∧s.h 6=(1,oB 26 [.row 100011 1])∧s.h 100011=(1,.row 124 24 (aC7 24 0 v8.toNat (List.map M.aA.en x1.Buckets)) true)∧s.h 100045=((((s31.h 100045).1+1)+1),oW 124 24 M.aA.en (List.take v8.toNat x1.Buckets))∧True) ?_
 rintro s55 ⟨f56,f57,f58,f59,f60,f61,f62,f63,f64,f65,f66,f67,_⟩
 obtain ⟨x68,h69,h⟩:=bind_some h
 obtain ⟨x70,h71,h⟩:=bind_some h
 refine rn2 (c42 _ _ h69) h71 ?_
 refine an ?_
 refine cu (fun s=>s.t 2=vP 2 1 0∧s.t 4=vP 4 1 0∧s.t 6=vP 6 1 0∧s.t 8=vI v8∧s.t 9=vR 100045 ((((s31.h 100045).1+1)+1)+1)∧s.h 2=(1,oX 26 (M.aC.en p0))∧s.h 4=(1,oB 26 [.nil])∧s.h 6=(1,oB 26 [.row 100011 1])∧s.h 100011=(1,.row 124 24 (aC7 24 0 v8.toNat (List.map M.aA.en x1.Buckets)) true)∧s.h 100045=(((((s31.h 100045).1+1)+1)+1),oW 124 24 M.aA.en ((List.take v8.toNat x1.Buckets)++[x68]))∧True) ?_
 rintro s72 ⟨f73,f74,f75,f76,f77,f78,f79,f80,f81,f82,_⟩
 obtain ⟨x83,h84,h⟩:=bind_some h
 apply lO
 ·simp +decide only [E,reduceIte,Nat.reduceAdd,Nat.reduceMul,Bool.not_true,Bool.not_false,←List.map_take,←List.map_drop,L,aHb,aHd,mZ,M.aA.en,EN,b5,b42,q45,q46,q47,b50,f73,f74,f75,f76,f77,f78,f79,f80,f81,f82]
  refine ⟨by first | exact aC0 (jZ h52).1 | exact (aC0 (jZ h52).1).2 | exact (aC0 (jZ h52).1).2.2,?_⟩
  try simp +decide only [E,reduceIte,Nat.reduceAdd,Nat.reduceMul,Bool.not_true,Bool.not_false,←List.map_take,←List.map_drop,L,aHb,aHd,mZ,M.aA.en,EN,b5,b42,q45,q46,q47,b50,f73,f74,f75,f76,f77,f78,f79,f80,f81,f82]
  refine ⟨by (have hb:=kC h84);simp [M.aA.en,List.length_append,bF,←List.map_take,←List.map_drop,-List.map_take,-List.map_drop] at hb ⊢ <;> omega,?_⟩
  try simp +decide only [E,reduceIte,Nat.reduceAdd,Nat.reduceMul,Bool.not_true,Bool.not_false,←List.map_take,←List.map_drop,L,aHb,aHd,mZ,M.aA.en,EN,b5,b42,q45,q46,q47,b50,f73,f74,f75,f76,f77,f78,f79,f80,f81,f82]
  exact Is.mk _
 refine an (sq (sq ?_))
 refine cu (fun s=>s.t 2=vP 2 1 0∧s.t 4=vP 4 1 0∧s.t 6=vP 6 1 0∧s.h 2=(1,oX 26 (M.aC.en p0))∧s.h 4=(1,oB 26 [.nil])∧s.h 6=(1,oB 26 [.row 100045 (((((s31.h 100045).1+1)+1)+1)+1)])∧s.h 100045=((((((s31.h 100045).1+1)+1)+1)+1),oW 124 24 M.aA.en (((List.take v8.toNat x1.Buckets)++[x68])++(List.drop v8.toNat x1.Buckets)))∧True) ?_
 rintro s85 ⟨f86,f87,f88,f89,f90,f91,f92,_⟩
 obtain ⟨x93,h94,h⟩:=bind_some h
 rcases cF (!x93) with b95 | b95
 ·replace h:=bH b95 h
  refine rn1 (aMe _ _ h94) ?_
  refine an (ct (sq ?_))
  obtain ⟨x96,h97,h⟩:=bind_some h
  refine rn1 (aN9 _ _ h97) ?_
  refine an (rt ?_)
  cases h
  simp [Ret,TB,EN, *]
 replace h:=bG b95 h
 obtain ⟨x98,h99,h⟩:=bind_some h
 refine rn2 (aMe _ _ h94) (aMe _ _ h99) ?_
 refine an ?_
 rcases aBM (!x98) with b100 | b100
 ·replace h:=bG b100 h
  refine cf (sk (an (sq (rn ?_))))
  refine an (rt ?_)
  cases h
  simp [Ret,TB,EN, *]
 replace h:=bH b100 h
 refine ct (sq ?_)
 obtain ⟨x101,h102,h⟩:=bind_some h
 refine rn1 (aN9 _ _ h102) ?_
 refine an (rt ?_)
 cases h
 simp [Ret,TB,EN, *]
instance:bC 43 (type_of% @c43):=⟨@c43⟩
theorem c93 (p0 p1 p2 r) (h:yA p0 p1 p2=some r):Sc 93 [aX (M.World.en p0),aX (M.aA.en p1),aB p2] [(true,M.World.rs r.1),rB r.2]:=by
 unfold yA at h
 exact sgo 30 [.cell 6 37,.tmp 7] Tryz.func93
instance:bC 93 (type_of% @c93):=⟨@c93⟩
theorem c27 (p0 p1 p2 r) (h:kJ p0 p1 p2=some r):Sc 27 [aX (M.World.en p0),aS p1,aS p2] [(true,M.World.rs r.1),rB r.2]:=by
 unfold kJ at h
 exact sgo 73 [.cell 6 37,.tmp 7] Tryz.func27
instance:bC 27 (type_of% @c27):=⟨@c27⟩
end Go.Proofs.YtnhpbpnhmapeeaaGreat.gen
