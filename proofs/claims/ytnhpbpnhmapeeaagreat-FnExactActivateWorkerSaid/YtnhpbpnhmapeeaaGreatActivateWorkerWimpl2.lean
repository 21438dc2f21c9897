/-
  Helper text. No conditions.
-/
import Derived.Test.YtnhpbpnhmapeeaaGreatActivateWorkerTi
import Derived.Test.YtnhpbpnhmapeeaaGreatActivateWorkerWimpl0
import Derived.Test.YtnhpbpnhmapeeaaGreatActivateWorkerWimpl1
import Derived.Test.YtnhpbpnhmapeeaaGreatActivateWorkerWlib0
import Derived.Test.YtnhpbpnhmapeeaaGreatActivateWorkerWlib1
namespace Go.Proofs.YtnhpbpnhmapeeaaGreat.gen
open Go Go.Sh
set_option linter.unusedVariables false
set_option linter.unusedSimpArgs false
set_option maxRecDepth 20000
set_option maxHeartbeats 4000000
theorem aSD (p0 r) (h:aAo p0=some r):Sc 160 [aX (M.Site.en p0)] [rB r]:=by
 have i1:=inv fun m s=>∃v8:Int,(s.t 1=vP 1 1 0∧s.t 6=vL enS p0.Files∧s.t 7=vI (List.length p0.Files:Int)∧s.t 8=vI v8∧s.h 1=(1,oX 95 (M.Site.en p0)))∧iB p0 m v8=some r
 have e1:=@iB.eq_2
 unfold aAo at h
 exact sgo 45 [.tmp 2] Tryz.func160
instance:bC 160 (type_of% @aSD):=⟨@aSD⟩
theorem aU4 (p0 p1 r) (h:pC p0 p1=some r):Sc 233 [aL enS p0,aS p1] [rI r]:=by
 have i1:=inv fun m s=>∃v8:Int,(s.t 0=vL enS p0∧s.t 1=vS p1∧s.t 7=vI (List.length p0:Int)∧s.t 8=vI v8)∧eT p0 p1 m v8=some r
 have e1:=@eT.eq_2
 unfold pC at h
 exact sgo 19 [.tmp 4] Tryz.func233
instance:bC 233 (type_of% @aU4):=⟨@aU4⟩
theorem aRh (p0 r) (h:qK p0=some r):Sc 117 [aS p0] [rI r]:=by
 unfold qK at h
 exact sgo 6 [.tmp 2] Tryz.func117
instance:bC 117 (type_of% @aRh):=⟨@aRh⟩
theorem aRZ (p0 r) (h:wX p0=some r):Sc 161 [aX (M.Server.en p0)] [rB r]:=by
 have i1:=inv fun m s=>∃v10:Int,(s.t 1=vP 1 1 0∧s.t 8=vL M.aJ.en p0.aJ∧s.t 9=vI (List.length p0.aJ:Int)∧s.t 10=vI v10∧s.h 1=(1,oX 102 (M.Server.en p0)))∧fZ p0 m v10=some r
 have e1:=@fZ.eq_2
 have i2:=inv fun m s=>∃v45:Int,(s.t 1=vP 1 1 0∧s.t 43=vL M.aY.en p0.Changes∧s.t 44=vI (List.length p0.Changes:Int)∧s.t 45=vI v45∧s.h 1=(1,oX 102 (M.Server.en p0)))∧hT p0 m v45=some r
 have e2:=@hT.eq_2
 unfold wX at h
 exact sgo 68 [.tmp 2] Tryz.func161
instance:bC 161 (type_of% @aRZ):=⟨@aRZ⟩
theorem c50 (p0 r) (h:uY p0=some r):Sc 50 [aX (M.World.en p0)] [rB r]:=by
 have i1:=inv fun m s=>∃v56:Int,(s.t 1=vP 1 1 0∧s.t 54=vL M.bI.en p0.Pages∧s.t 55=vI (List.length p0.Pages:Int)∧s.t 56=vI v56∧s.h 1=(1,oX 37 (M.World.en p0)))∧eS p0 m v56=some r
 have e1:=@eS.eq_2
 have i2:=inv fun m s=>∃v101:Int,(s.t 1=vP 1 1 0∧s.t 99=vL M.Site.en p0.Sites∧s.t 100=vI (List.length p0.Sites:Int)∧s.t 101=vI v101∧s.h 1=(1,oX 37 (M.World.en p0)))∧gS p0 m v101=some r
 have e2:=@gS.eq_2
 unfold uY at h
 exact sgo 126 [.tmp 2] Tryz.func50
instance:bC 50 (type_of% @c50):=⟨@c50⟩
theorem aRO (p0 p1 p2 r) (h:yR p0 p1 p2=some r):Sc 112 [aX (M.World.en p0),aS p1,aS p2] [rW 80 11 M.bI.en r]:=by
 have i1:=inv fun m s=>∃v14:Int,∃r10:List M.bI,∃u10:Nat,(s.t 1=vS p1∧s.t 2=vS p2∧s.t 7=vR 100010 u10∧s.t 12=vL M.bI.en p0.Pages∧s.t 13=vI (List.length p0.Pages:Int)∧s.t 14=vI v14∧s.h 100010=(u10,oW 80 11 M.bI.en r10))∧gR p0 p1 p2 m v14 r10=some r
 have e1:=@gR.eq_2
 unfold yR at h
 exact sgo 35 [.tmp 6] Tryz.func112
instance:bC 112 (type_of% @aRO):=⟨@aRO⟩
theorem aRq (p0 p1 r) (h:nJ p0 p1=some r):Sc 111 [aL M.bI.en p0,aS p1] [rW 3 1 enI r]:=by
 have i1:=inv fun m s=>∃v11:Int,∃r8:List Int,∃u8:Nat,(s.t 1=vS p1∧s.t 5=vR 100008 u8∧s.t 9=vL M.bI.en p0∧s.t 10=vI (List.length p0:Int)∧s.t 11=vI v11∧s.h 100008=(u8,oW 3 1 enI r8))∧eB p0 p1 m v11 r8=some r
 have e1:=@eB.eq_2
 unfold nJ at h
 exact sgo 26 [.tmp 4] Tryz.func111
instance:bC 111 (type_of% @aRq):=⟨@aRq⟩
theorem aUN (p0 p1 r) (h:vT p0 p1=some r):Sc 380 [aL enI p0,aI p1] [rI r]:=by
 have i1:=inv fun m s=>∃v8:Int,(s.t 0=vL enI p0∧s.t 1=vI p1∧s.t 7=vI (List.length p0:Int)∧s.t 8=vI v8)∧gE p0 p1 m v8=some r
 have e1:=@gE.eq_2
 unfold vT at h
 exact sgo 19 [.tmp 4] Tryz.func380
instance:bC 380 (type_of% @aUN):=⟨@aUN⟩
theorem aSJ (p0 p1 r) (h:kK p0 p1=some r):Sc 314 [aL enI p0,aI p1] [rB r]:=by
 unfold kK at h
 exact sgo 9 [.tmp 4] Tryz.func314
instance:bC 314 (type_of% @aSJ):=⟨@aSJ⟩
theorem aRn (p0 p1 r) (h:oQ p0 p1=some r):Sc 227 [aX (M.Registration.en p0),aL enI p1] [rB r]:=by
 unfold oQ at h
 exact sgo 19 [.tmp 4] Tryz.func227
instance:bC 227 (type_of% @aRn):=⟨@aRn⟩
theorem aTZ (p0 p1 r) (h:xG p0 p1=some r):Sc 110 [aX (M.Registration.en p0),aL enI p1] [(true,M.Registration.rs r.1),rI r.2.1,rB r.2.2]:=by
 unfold xG at h
 exact sgo 21 [.cell 4 107,.tmp 5,.tmp 6] Tryz.func110
instance:bC 110 (type_of% @aTZ):=⟨@aTZ⟩
theorem aRG (p0 c0 r) (h:oV p0 c0=some r):Sc 318 [aX (M.Cache.en p0),(false,[.ptr [.int .i64 c0]])] [rB r]:=by
 unfold oV at h
 exact sgo 8 [.tmp 3] Tryz.func318
instance:bC 318 (type_of% @aRG):=⟨@aRG⟩
theorem aRL (p0:List M.Cache) (p1:M.Cache→Option Bool) (f1_:FuncId) (k1_:List D) (hp1 : ∀z0 r,p1 z0=some r→nH Tryz.prog f1_ ((true,M.Cache.en z0) ::  k1_.map fun c=>(false,[c])) [(false,[.ro (.bool r)])]) (r:Int) (h:iM p0 p1=some r):Sc 317 [(false,[.sl (List.map M.Cache.en p0)]),(false,[.fn f1_ k1_])] [rI r]:=by
 unfold iM at h
 simp only [EN]
 refine sgn 19 [.tmp 4] Tryz.func317 fun base wd => ?_
 refine sq (rn ?_)
 refine an (sq (sq (rn ?_)))
 refine an (bk ?_)
 refine mR (fun m s=>∃v8:Int,s.t 0=vL M.Cache.en p0∧s.t 1 = .v false [.dat (.fn f1_ k1_)]∧s.t 7=vI (List.length p0:Int)∧s.t 8=vI v8∧bY p0 p1 m v8=some r) fuel ?_ ?_
 ·refine ⟨0,?_,?_,?_,?_,h⟩
  all_goals simp +decide only [F,reduceIte,Nat.reduceAdd,Bool.not_true,Bool.not_false,EN, *,-h]
 rintro mL1 s1 ⟨v8,f2,f3,f4,f5,h⟩
 rcases mL1 with _ | mL1
 ·exact absurd h (by simp [bY])
 simp only [bY] at h
 refine sq (rn ?_)
 refine an (sq ?_)
 rcases aBM (decide (v8<(List.length p0:Int))) with b6 | b6
 ·replace h:=bG b6 h
  refine cf (xt (nI (oS (aAK (an (sq (rn ?_)))))))
  refine an (rt ?_)
  cases h
  simp [Ret,TB,EN, *]
 replace h:=bH b6 h
 refine ct (sk (an (sq (bk (sq (rn ?_))))))
 refine an (sq ?_)
 obtain ⟨x7,h8,h⟩:=bind_some h
 obtain ⟨q9,q10,q11⟩:=aT h8
 obtain ⟨x12,h13,h⟩:=bind_some h
 refine rn1 (hp1 x7 x12 h13) ?_
 refine an ?_
 rcases cF x12 with b14 | b14
 ·replace h:=bH b14 h
  refine ct (sq (rn ?_))
  refine an (rt ?_)
  cases h
  simp [Ret,TB,EN, *]
 replace h:=bG b14 h
 refine cf (sk (ab (an (rn ?_))))
 refine yH ⟨mL1,by omega,(IntKind.i64.wrap (v8+1)),?_,?_,?_,?_,h⟩
 all_goals simp +decide only [F,reduceIte,Nat.reduceAdd,Bool.not_true,Bool.not_false,EN, *,-h]
instance:bC 317 (type_of% @aRL):=⟨@aRL⟩
theorem aQ8 (p0 p1 r) (h:uS p0 p1=some r):Sc 230 [aX (M.aM.en p0),aI p1] [rI r]:=by
 unfold uS at h
 simp only [EN]
 refine sgn 9 [.tmp 4] Tryz.func230 fun base wd => ?_
 refine sq (rn ?_)
 refine an (sq ?_)
 obtain ⟨x1,h2,h⟩:=bind_some h
 refine rn1 (aRL p0.Caches (fun z0=>oV z0 p1) 318 [.ptr [.int .i64 p1]] (fun z0 r hr=>aRG z0 p1 r hr) x1 h2) ?_
 refine an (rt ?_)
 cases h
 simp [Ret,TB,EN, *]
instance:bC 230 (type_of% @aQ8):=⟨@aQ8⟩
theorem aTe (p0 p1 r) (h:tN p0 p1=some r):Sc 113 [aX (M.aM.en p0),aI p1] [(true,M.aM.rs r.1),rB r.2]:=by
 unfold tN at h
 simp only [EN]
 refine sgn 24 [.cell 4 110,.tmp 5] Tryz.func113 fun base wd => ?_
 refine sq (rn ?_)
 refine an (sq ?_)
 obtain ⟨x1,h2,h⟩:=bind_some h
 refine rn1 (aRK _ _ h2) ?_
 refine an (sq ?_)
 obtain ⟨x3,h4,h⟩:=bind_some h
 refine rn1 (aQ8 _ _ _ h4) ?_
 refine an (sq (sq (rn ?_)))
 refine an ?_
 rcases cF (decide (x3<0)) with b5 | b5
 ·replace h:=bH b5 h
  refine ct (sq (rn ?_))
  refine an (rt ?_)
  cases h
  simp [Ret,TB,EN, *]
 replace h:=bG b5 h
 refine cf (sk (an (sq ?_)))
 obtain ⟨x6,h7,h⟩:=bind_some h
 apply lO
 ·simp +decide only [E,reduceIte,Nat.reduceAdd,Nat.reduceMul,Bool.not_true,Bool.not_false,←List.map_take,←List.map_drop,L,aIr,aIj,aI8,M.Cache.en,EN,b5]
  refine ⟨_,L231.aRH _,?_⟩
  try simp +decide only [E,reduceIte,Nat.reduceAdd,Nat.reduceMul,Bool.not_true,Bool.not_false,←List.map_take,←List.map_drop,L,aIr,aIj,aI8,M.Cache.en,EN,b5]
  refine ⟨by (have hb:=aLt h7);simp [M.Cache.en,List.length_append] at hb ⊢ <;> omega,?_⟩
  try simp +decide only [E,reduceIte,Nat.reduceAdd,Nat.reduceMul,Bool.not_true,Bool.not_false,←List.map_take,←List.map_drop,L,aIr,aIj,aI8,M.Cache.en,EN,b5]
  exact Is.mk _
 refine an (sq (rn ?_))
 refine an (rt ?_)
 cases h
 simp [Ret,TB,EN, *]
instance:bC 113 (type_of% @aTe):=⟨@aTe⟩
theorem aVI (p0 p1 r) (h:lR p0 p1=some r):Sc 219 [aX (M.aA.en p0),aX (M.aA.en p1)] [(true,M.aA.rs r.1),rB r.2]:=by
 unfold lR at h
 exact sgo 18 [.cell 4 124,.tmp 5] Tryz.func219
instance:bC 219 (type_of% @aVI):=⟨@aVI⟩
theorem aSm (p0 p1 p2 r) (h:lS p0 p1 p2=some r):Sc 232 [aX (M.aA.en p0),aX (M.aM.en p1),aX (M.Registration.en p2)] [(true,M.aA.rs r.1),rB r.2]:=by
 unfold lS at h
 exact sgo 19 [.cell 6 124,.tmp 7] Tryz.func232
instance:bC 232 (type_of% @aSm):=⟨@aSm⟩
theorem aUJ (p0 p1 r) (h:tC p0 p1=some r):Sc 100 [aX (M.aC.en p0),aX (M.aA.en p1)] [(true,M.aC.rs r.1),rB r.2]:=by
 unfold tC at h
 simp only [EN]
 refine sgn 60 [.cell 4 26,.tmp 5] Tryz.func100 fun base wd => ?_
 refine sq (rn ?_)
 refine an (sq ?_)
 obtain ⟨x1,h2,h⟩:=bind_some h
 refine rn1 (aNz _ _ h2) ?_
 refine an (sq (sq ?_))
 obtain ⟨x3,h4,h⟩:=bind_some h
 refine rn1 (aRB _ _ _ _ h4) ?_
 refine an (sq (rn ?_))
 refine an ?_
 rcases cF (decide (x3≥0)) with b5 | b5
 ·replace h:=bH b5 h
  refine ct ?_
  obtain ⟨x6,h7,h⟩:=bind_some h
  obtain ⟨x8,h9,h⟩:=bind_some h
  obtain ⟨q10,q11,q12⟩:=aT h9
  refine rd1 mixed (aPi _ _ h7) ?_
  refine an (sq (sq ?_))
  refine cu (fun s=>s.t 2=vP 2 1 0∧s.t 4=vP 4 1 0∧s.t 6=vP 6 1 0∧s.h 2=(1,oX 26 (M.aC.en p0))∧s.h 4=(1,oB 26 [.nil])∧s.h 6=(1,oB 26 [.row 100010 1])∧s.h 100010=(1,oW 124 24 M.aA.en (List.set x1.Buckets x3.toNat x6))∧True) ?_
  rintro s13 ⟨f14,f15,f16,f17,f18,f19,f20,_⟩
  obtain ⟨x21,h22,h⟩:=bind_some h
  rcases cF (!x21) with b23 | b23
  ·replace h:=bH b23 h
   refine rn1 (aNF _ _ h22) ?_
   refine an (ct (sq ?_))
   obtain ⟨x24,h25,h⟩:=bind_some h
   refine rn1 (aNz _ _ h25) ?_
   refine an (rt ?_)
   cases h
   simp [Ret,TB,EN, *]
  replace h:=bG b23 h
  obtain ⟨x26,h27,h⟩:=bind_some h
  refine rn2 (aNF _ _ h22) (aNF _ _ h27) ?_
  refine an ?_
  rcases aBM (!x26) with b28 | b28
  ·replace h:=bG b28 h
   refine cf (sk (an (sq (rn ?_))))
   refine an (rt ?_)
   cases h
   simp [Ret,TB,EN, *]
  replace h:=bH b28 h
  refine ct (sq ?_)
  obtain ⟨x29,h30,h⟩:=bind_some h
  refine rn1 (aNz _ _ h30) ?_
  refine an (rt ?_)
  cases h
  simp [Ret,TB,EN, *]
 replace h:=bG b5 h
 refine cf (sq (rn ?_))
 refine an (sq (bk ?_))
 refine mR (fun m s=>∃v8:Int,s.t 2=vP 2 1 0∧s.t 3=vP 3 1 0∧s.t 4=vP 4 1 0∧s.t 6=vP 6 1 0∧s.t 8=vI v8∧s.h 2=(1,oX 26 (M.aC.en p0))∧s.h 3=(1,oX 124 (M.aA.en p1))∧s.h 4=(1,oB 26 [.nil])∧s.h 6=(1,oB 26 [.row 100010 1])∧s.h 100010=(1,oW 124 24 M.aA.en x1.Buckets)∧gF p0 p1 x1 m v8=some r) fuel ?_ ?_
 ·refine ⟨0,?_,?_,?_,?_,?_,?_,?_,?_,?_,?_,h⟩
  all_goals simp +decide only [F,reduceIte,Nat.reduceAdd,Bool.not_true,Bool.not_false,EN, *,-h]
 rintro mL1 s31 ⟨v8,f32,f33,f34,f35,f36,f37,f38,f39,f40,f41,h⟩
 rcases mL1 with _ | mL1
 ·exact absurd h (by simp [gF])
 simp only [gF] at h
 refine sq (sq ?_)
 rcases aBM (decide (v8<(List.length x1.Buckets:Int))) with b42 | b42
 ·replace h:=bG b42 h
  refine rd mixed ?_
  refine an (cf (xt (nI (oS (aAK (an ?_))))))
  obtain ⟨x73,h74,h⟩:=bind_some h
  obtain ⟨x75,h76,h⟩:=bind_some h
  apply aD1 mixed
  ·simp +decide only [E,reduceIte,Nat.reduceAdd,Nat.reduceMul,Bool.not_true,Bool.not_false,←List.map_take,←List.map_drop,L,aHb,aHd,mZ,M.aA.en,EN,b5,f32,f33,f34,f35,f36,f37,f38,f39,f40,f41,b42]
   refine ⟨_,aPi _ _ h74,?_⟩
   try simp +decide only [E,reduceIte,Nat.reduceAdd,Nat.reduceMul,Bool.not_true,Bool.not_false,←List.map_take,←List.map_drop,L,aHb,aHd,mZ,M.aA.en,EN,b5,f32,f33,f34,f35,f36,f37,f38,f39,f40,f41,b42]
   refine ⟨_,L222.aPL _,?_⟩
   try simp +decide only [E,reduceIte,Nat.reduceAdd,Nat.reduceMul,Bool.not_true,Bool.not_false,←List.map_take,←List.map_drop,L,aHb,aHd,mZ,M.aA.en,EN,b5,f32,f33,f34,f35,f36,f37,f38,f39,f40,f41,b42]
   refine ⟨by (have hb:=aDX h76);simp [M.aA.en,List.length_append] at hb ⊢ <;> omega,?_⟩
   try simp +decide only [E,reduceIte,Nat.reduceAdd,Nat.reduceMul,Bool.not_true,Bool.not_false,←List.map_take,←List.map_drop,L,aHb,aHd,mZ,M.aA.en,EN,b5,f32,f33,f34,f35,f36,f37,f38,f39,f40,f41,b42]
   exact ⟨.mk (by decide +kernel),Is.mk _⟩
  refine an (sq (sq ?_))
  refine cu (fun s=>s.t 2=vP 2 1 0∧s.t 4=vP 4 1 0∧s.t 6=vP 6 1 0∧s.h 2=(1,oX 26 (M.aC.en p0))∧s.h 4=(1,oB 26 [.nil])∧s.h 6=(1,oB 26 [.row 100010 2])∧s.h 100010=(2,oW 124 24 M.aA.en (List.take v8.toNat x1.Buckets++([x73]++List.drop v8.toNat x1.Buckets)))∧True) ?_
  rintro s77 ⟨f78,f79,f80,f81,f82,f83,f84,_⟩
  obtain ⟨x85,h86,h⟩:=bind_some h
  rcases cF (!x85) with b87 | b87
  ·replace h:=bH b87 h
   refine rn1 (aNF _ _ h86) ?_
   refine an (ct (sq ?_))
   obtain ⟨x88,h89,h⟩:=bind_some h
   refine rn1 (aNz _ _ h89) ?_
   refine an (rt ?_)
   cases h
   simp [Ret,TB,EN, *]
  replace h:=bG b87 h
  obtain ⟨x90,h91,h⟩:=bind_some h
  refine rn2 (aNF _ _ h86) (aNF _ _ h91) ?_
  refine an ?_
  rcases aBM (!x90) with b92 | b92
  ·replace h:=bG b92 h
   refine cf (sk (an (sq (rn ?_))))
   refine an (rt ?_)
   cases h
   simp [Ret,TB,EN, *]
  replace h:=bH b92 h
  refine ct (sq ?_)
  obtain ⟨x93,h94,h⟩:=bind_some h
  refine rn1 (aNz _ _ h94) ?_
  refine an (rt ?_)
  cases h
  simp [Ret,TB,EN, *]
 replace h:=bH b42 h
 obtain ⟨x43,h44,h⟩:=bind_some h
 obtain ⟨q45,q46,q47⟩:=aT h44
 obtain ⟨x48,h49,h⟩:=bind_some h
 refine rd1 mixed (aRA _ _ _ h49) ?_
 refine an ?_
 rcases cF x48 with b50 | b50
 ·replace h:=bH b50 h
  refine ct (sk (an (bk (rn ?_))))
  refine ab ?_
  refine yH ⟨mL1,by omega,(IntKind.i64.wrap (v8+1)),?_,?_,?_,?_,?_,?_,?_,?_,?_,?_,h⟩
  all_goals simp +decide only [F,reduceIte,Nat.reduceAdd,Bool.not_true,Bool.not_false,EN, *,-h]
 replace h:=bG b50 h
 refine cf (xt (nI (oS (aAK (an ?_)))))
 obtain ⟨x51,h52,h⟩:=bind_some h
 obtain ⟨x53,h54,h⟩:=bind_some h
 apply aD1 mixed
 ·simp +decide only [E,reduceIte,Nat.reduceAdd,Nat.reduceMul,Bool.not_true,Bool.not_false,←List.map_take,←List.map_drop,L,aHb,aHd,mZ,M.aA.en,EN,b5,f32,f33,f34,f35,f36,f37,f38,f39,f40,f41,b42,q45,q46,q47,b50]
  refine ⟨_,aPi _ _ h52,?_⟩
  try simp +decide only [E,reduceIte,Nat.reduceAdd,Nat.reduceMul,Bool.not_true,Bool.not_false,←List.map_take,←List.map_drop,L,aHb,aHd,mZ,M.aA.en,EN,b5,f32,f33,f34,f35,f36,f37,f38,f39,f40,f41,b42,q45,q46,q47,b50]
  refine ⟨_,L222.aPL _,?_⟩
  try simp +decide only [E,reduceIte,Nat.reduceAdd,Nat.reduceMul,Bool.not_true,Bool.not_false,←List.map_take,←List.map_drop,L,aHb,aHd,mZ,M.aA.en,EN,b5,f32,f33,f34,f35,f36,f37,f38,f39,f40,f41,b42,q45,q46,q47,b50]
  refine ⟨by (have hb:=aDX h54);simp [M.aA.en,List.length_append] at hb ⊢ <;> omega,?_⟩
  try simp +decide only [E,reduceIte,Nat.reduceAdd,Nat.reduceMul,Bool.not_true,Bool.not_false,←List.map_take,←List.map_drop,L,aHb,aHd,mZ,M.aA.en,EN,b5,f32,f33,f34,f35,f36,f37,f38,f39,f40,f41,b42,q45,q46,q47,b50]
  exact ⟨.mk (by decide +kernel),Is.mk _⟩
 refine an (sq (sq ?_))
 refine cu (fun s=>s.t 2=vP 2 1 0∧s.t 4=vP 4 1 0∧s.t 6=vP 6 1 0∧s.h 2=(1,oX 26 (M.aC.en p0))∧s.h 4=(1,oB 26 [.nil])∧s.h 6=(1,oB 26 [.row 100010 2])∧s.h 100010=(2,oW 124 24 M.aA.en (List.take v8.toNat x1.Buckets++([x51]++List.drop v8.toNat x1.Buckets)))∧True) ?_
 rintro s55 ⟨f56,f57,f58,f59,f60,f61,f62,_⟩
 obtain ⟨x63,h64,h⟩:=bind_some h
 rcases cF (!x63) with b65 | b65
 ·replace h:=bH b65 h
  refine rn1 (aNF _ _ h64) ?_
  refine an (ct (sq ?_))
  obtain ⟨x66,h67,h⟩:=bind_some h
  refine rn1 (aNz _ _ h67) ?_
  refine an (rt ?_)
  cases h
  simp [Ret,TB,EN, *]
 replace h:=bG b65 h
 obtain ⟨x68,h69,h⟩:=bind_some h
 refine rn2 (aNF _ _ h64) (aNF _ _ h69) ?_
 refine an ?_
 rcases aBM (!x68) with b70 | b70
 ·replace h:=bG b70 h
  refine cf (sk (an (sq (rn ?_))))
  refine an (rt ?_)
  cases h
  simp [Ret,TB,EN, *]
 replace h:=bH b70 h
 refine ct (sq ?_)
 obtain ⟨x71,h72,h⟩:=bind_some h
 refine rn1 (aNz _ _ h72) ?_
 refine an (rt ?_)
 cases h
 simp [Ret,TB,EN, *]
instance:bC 100 (type_of% @aUJ):=⟨@aUJ⟩
theorem aTw (p0 p1 p2 p3 r) (h:qU p0 p1 p2 p3=some r):Sc 114 [aX (M.World.en p0),aX (M.aA.en p1),aX (M.aM.en p2),aX (M.Registration.en p3)] [(true,M.World.rs r.1),rB r.2]:=by
 unfold qU at h
 exact sgo 41 [.cell 8 37,.tmp 9] Tryz.func114
instance:bC 114 (type_of% @aTw):=⟨@aTw⟩
theorem c28 (p0 p1 p2 r) (h:iT p0 p1 p2=some r):Sc 28 [aX (M.World.en p0),aS p1,aS p2] [(true,M.World.rs r.1),rB r.2]:=by
 unfold iT at h
 exact sgo 63 [.cell 6 37,.tmp 7] Tryz.func28
instance:bC 28 (type_of% @c28):=⟨@c28⟩
end Go.Proofs.YtnhpbpnhmapeeaaGreat.gen
