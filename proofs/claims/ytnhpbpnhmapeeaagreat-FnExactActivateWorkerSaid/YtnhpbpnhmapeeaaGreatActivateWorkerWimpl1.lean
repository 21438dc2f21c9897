/-
  Helper text. No conditions.
-/
import Derived.Test.YtnhpbpnhmapeeaaGreatActivateWorkerTi
import Derived.Test.YtnhpbpnhmapeeaaGreatActivateWorkerWimpl0
import Derived.Test.YtnhpbpnhmapeeaaGreatActivateWorkerWlib0
namespace Go.Proofs.YtnhpbpnhmapeeaaGreat.gen
open Go Go.Sh
open Go.IntKind (i64)
set_option linter.unusedVariables false
set_option linter.unusedSimpArgs false
set_option maxRecDepth 20000
set_option maxHeartbeats 4000000
theorem aQ3 (p0:List M.Field) (p1:M.Field→Option Bool) (f1_:FuncId) (k1_:List D) (hp1 : ∀z0 r,p1 z0=some r→nH Tryz.prog f1_ ((true,M.Field.en z0) ::  k1_.map fun c=>(false,[c])) [(false,[.ro (.bool r)])]) (r:Int) (h:iR p0 p1=some r):Sc 427 [(false,[.sl (List.map M.Field.en p0)]),(false,[.fn f1_ k1_])] [rI r]:=by
 unfold iR at h
 simp only [EN]
 refine sgn 19 [.tmp 4] Tryz.func427 fun base wd => ?_
 refine sq (rn ?_)
 refine an (sq (sq (rn ?_)))
 refine an (bk ?_)
 refine mR (fun m s=>∃v8:Int,s.t 0=vL M.Field.en p0∧s.t 1 = .v false [.dat (.fn f1_ k1_)]∧s.t 7=vI (List.length p0:Int)∧s.t 8=vI v8∧bX p0 p1 m v8=some r) fuel ?_ ?_
 ·refine ⟨0,?_,?_,?_,?_,h⟩
  all_goals simp +decide only [F,reduceIte,Nat.reduceAdd,Bool.not_true,Bool.not_false,EN, *,-h]
 rintro mL1 s1 ⟨v8,f2,f3,f4,f5,h⟩
 rcases mL1 with _ | mL1
 ·exact absurd h (by simp [bX])
 simp only [bX] at h
 refine sq (rn ?_)
 refine an (sq ?_)
 rcases aBM (decide (v8<(List.length p0:Int))) with b6 | b6
 ·replace h:=bG b6 h
  refine cf (xt (nI (oS (aAK (an (sq (rn ?_)))))))
  refine an (rt ?_)
  cases h
  simp [Ret,TB,EN, *]
 replace h:=bH b6 h
 refine ct (sk (an (sq (bk (sq (rn ?_))))))
 refine an (sq ?_)
 obtain ⟨x7,h8,h⟩:=bind_some h
 obtain ⟨q9,q10,q11⟩:=aT h8
 obtain ⟨x12,h13,h⟩:=bind_some h
 refine rn1 (hp1 x7 x12 h13) ?_
 refine an ?_
 rcases cF x12 with b14 | b14
 ·replace h:=bH b14 h
  refine ct (sq (rn ?_))
  refine an (rt ?_)
  cases h
  simp [Ret,TB,EN, *]
 replace h:=bG b14 h
 refine cf (sk (ab (an (rn ?_))))
 refine yH ⟨mL1,by omega,(i64.wrap (v8+1)),?_,?_,?_,?_,h⟩
 all_goals simp +decide only [F,reduceIte,Nat.reduceAdd,Bool.not_true,Bool.not_false,EN, *,-h]
instance:bC 427 (type_of% @aQ3):=⟨@aQ3⟩
theorem aRp (p0 p1 r) (h:aBY p0 p1=some r):Sc 374 [aX (M.aU.en p0),aS p1] [rI r]:=by
 unfold aBY at h
 simp only [EN]
 refine sgn 9 [.tmp 4] Tryz.func374 fun base wd => ?_
 refine sq (rn ?_)
 refine an (sq ?_)
 obtain ⟨x1,h2,h⟩:=bind_some h
 refine rn1 (aQ3 p0.Fields (fun z0=>sP z0 p1) 428 [.ptr [.str p1]] (fun z0 r hr=>aQY z0 p1 r hr) x1 h2) ?_
 refine an (rt ?_)
 cases h
 simp [Ret,TB,EN, *]
instance:bC 374 (type_of% @aRp):=⟨@aRp⟩
theorem aQ0 (p0 p1 r) (h:iZ p0 p1=some r):Sc 438 [aX (M.aU.en p0),aS p1] [rI r.1,rB r.2]:=by
 unfold iZ at h
 exact sgo 18 [.tmp 4,.tmp 5] Tryz.func438
instance:bC 438 (type_of% @aQ0):=⟨@aQ0⟩
theorem aQ2 (p0 p1 p2 r) (h:pA p0 p1 p2=some r):Sc 468 [aX (M.Item.en p0),aX (M.Item.en p1),aS p2] [rB r]:=by
 unfold pA at h
 exact sgo 41 [.tmp 6] Tryz.func468
instance:bC 468 (type_of% @aQ2):=⟨@aQ2⟩
theorem aUw (p0 p1 r) (h:yZ p0 p1=some r):Sc 437 [aX (M.aH.en p0),aS p1] [rW 357 4 M.Item.en r]:=by
 unfold yZ at h
 simp only [EN]
 refine sgn 52 [.tmp 4] Tryz.func437 fun base wd => ?_
 refine sq (rn ?_)
 refine an (sq (rn ?_))
 refine an (sq (sq ?_))
 refine cu (fun s=>s.t 1=vS p1∧s.t 2=vP 2 1 0∧s.t 5=vR 100011 1∧s.h 2=(1,oX 98 (M.aH.en p0))∧s.h 100011=(1,oW 357 4 M.Item.en ([]:List M.Item))∧True) ?_
 rintro s1 ⟨f2,f3,f4,f5,f6,_⟩
 refine rn ?_
 refine an (bk ?_)
 refine mR (fun m s=>∃v15:Int,∃r11:List M.Item,∃u11:Nat,s.t 1=vS p1∧s.t 5=vR 100011 u11∧s.t 13=vL M.Item.en p0.Items∧s.t 14=vI (List.length p0.Items:Int)∧s.t 15=vI v15∧s.h 100011=(u11,oW 357 4 M.Item.en r11)∧gP p0 p1 m v15 r11=some r) fuel ?_ ?_
 ·refine ⟨0,([]:List M.Item),1,?_,?_,?_,?_,?_,?_,h⟩
  all_goals simp +decide only [F,reduceIte,Nat.reduceAdd,Bool.not_true,Bool.not_false,EN, *,-h]
 rintro mL1 s7 ⟨v15,r11,u11,f8,f9,f10,f11,f12,f13,h⟩
 rcases mL1 with _ | mL1
 ·exact absurd h (by simp [gP])
 simp only [gP] at h
 refine sq (rn ?_)
 refine an (sq ?_)
 rcases aBM (decide (v15<(List.length p0.Items:Int))) with b14 | b14
 ·replace h:=bG b14 h
  refine cf (xt (nI (oS (aAK (an (sq (rn ?_)))))))
  refine an (rt ?_)
  cases h
  simp [Ret,TB,EN, *]
 replace h:=bH b14 h
 refine ct (sk (an (sq (bk (sq ?_)))))
 obtain ⟨x15,h16,h⟩:=bind_some h
 obtain ⟨q17,q18,q19⟩:=aT h16
 refine rn ?_
 refine an (sq (sq ?_))
 obtain ⟨x20,h21,h⟩:=bind_some h
 refine rn1 (aQ0 _ _ _ h21) ?_
 refine an (sq (rn ?_))
 refine an ?_
 rcases cF (!x20.2) with b22 | b22
 ·replace h:=bH b22 h
  refine ct (xt (nI (aAK (an (rn ?_)))))
  refine yH ⟨mL1,by omega,(i64.wrap (v15+1)),r11,u11,?_,?_,?_,?_,?_,?_,h⟩
  all_goals simp +decide only [F,reduceIte,Nat.reduceAdd,Bool.not_true,Bool.not_false,EN, *,-h]
 replace h:=bG b22 h
 refine cf (sk (an (sq (rn ?_))))
 refine an (sq (bk ?_))
 obtain ⟨k24,e25,h⟩:=aQl (f:=fun kk=>gV p1 r11 x15 kk fuel (List.length r11:Int)) h
 refine mR (fun m s=>∃v10_L2:Int,s.t 1=vS p1∧s.t 5=vR 100011 u11∧s.t 7=vP 7 ((s7.h 7).1+1) 0∧s.t 10=vI v10_L2∧s.t 13=vL M.Item.en p0.Items∧s.t 14=vI (List.length p0.Items:Int)∧s.t 15=vI v15∧s.h 7=(((s7.h 7).1+1),oX 357 (M.Item.en x15))∧s.h 100011=(u11,oW 357 4 M.Item.en r11)∧gV p1 r11 x15 k24 m v10_L2=some r) fuel ?_ ?_
 ·refine ⟨(List.length r11:Int),?_,?_,?_,?_,?_,?_,?_,?_,?_,h⟩
  all_goals simp +decide only [F,reduceIte,Nat.reduceAdd,Bool.not_true,Bool.not_false,EN, *,-h]
 rintro mL2 s23 ⟨v10_L2,f26,f27,f28,f29,f30,f31,f32,f33,f34,h⟩
 rcases mL2 with _ | mL2
 ·exact absurd h (by simp [gV])
 simp only [gV] at h
 refine sq (sq ?_)
 rcases aBM (decide (v10_L2>0)) with b35 | b35
 ·replace h:=bG b35 h
  refine rd mixed ?_
  refine an (cf (xt (nI ?_)))
  subst e25
  refine oS (aAK (an ?_))
  obtain ⟨x55,h56,h⟩:=bind_some h
  obtain ⟨x57,h58,h⟩:=bind_some h
  apply lO
  ·simp +decide only [E,reduceIte,Nat.reduceAdd,Nat.reduceMul,Bool.not_true,Bool.not_false,←List.map_take,←List.map_drop,L,aHc,aCC,M.Item.en,EN,b14,q17,q18,q19,b22,f26,f27,f28,f29,f30,f31,f32,f33,f34,b35]
   refine ⟨_,aQM _ _ h56,?_⟩
   try simp +decide only [E,reduceIte,Nat.reduceAdd,Nat.reduceMul,Bool.not_true,Bool.not_false,←List.map_take,←List.map_drop,L,aHc,aCC,M.Item.en,EN,b14,q17,q18,q19,b22,f26,f27,f28,f29,f30,f31,f32,f33,f34,b35]
   refine ⟨_,L376.aPZ _,?_⟩
   try simp +decide only [E,reduceIte,Nat.reduceAdd,Nat.reduceMul,Bool.not_true,Bool.not_false,←List.map_take,←List.map_drop,L,aHc,aCC,M.Item.en,EN,b14,q17,q18,q19,b22,f26,f27,f28,f29,f30,f31,f32,f33,f34,b35]
   refine ⟨by (have hb:=aDX h58);simp [M.Item.en,List.length_append] at hb ⊢ <;> omega,?_⟩
   try simp +decide only [E,reduceIte,Nat.reduceAdd,Nat.reduceMul,Bool.not_true,Bool.not_false,←List.map_take,←List.map_drop,L,aHc,aCC,M.Item.en,EN,b14,q17,q18,q19,b22,f26,f27,f28,f29,f30,f31,f32,f33,f34,b35]
   exact Is.mk _
  refine ab (an ?_)
  refine cu (fun s=>s.t 1=vS p1∧s.t 5=vR 100011 (u11+1)∧s.t 13=vL M.Item.en p0.Items∧s.t 14=vI (List.length p0.Items:Int)∧s.t 15=vI v15∧s.h 100011=((u11+1),oW 357 4 M.Item.en (List.take v10_L2.toNat r11++([x55]++List.drop v10_L2.toNat r11)))∧True) ?_
  rintro s59 ⟨f60,f61,f62,f63,f64,f65,_⟩
  refine rn ?_
  refine yH ⟨mL1,by omega,(i64.wrap (v15+1)),(List.take v10_L2.toNat r11++([x55]++List.drop v10_L2.toNat r11)),(u11+1),?_,?_,?_,?_,?_,?_,h⟩
  all_goals simp +decide only [F,reduceIte,Nat.reduceAdd,Bool.not_true,Bool.not_false,EN, *,-h]
 replace h:=bH b35 h
 obtain ⟨x36,h37,h⟩:=bind_some h
 obtain ⟨q38,q39,q40⟩:=aT h37
 obtain ⟨x41,h42,h⟩:=bind_some h
 refine rd1 mixed (aQ2 _ _ _ _ h42) ?_
 refine an ?_
 rcases cF x41 with b43 | b43
 ·replace h:=bH b43 h
  refine ct (sk (an (bk (rn ?_))))
  refine ab ?_
  refine yH ⟨mL2,by omega,(i64.wrap (v10_L2-1)),?_,?_,?_,?_,?_,?_,?_,?_,?_,h⟩
  all_goals simp +decide only [F,reduceIte,Nat.reduceAdd,Bool.not_true,Bool.not_false,EN, *,-h]
 replace h:=bG b43 h
 refine cf (xt (nI ?_))
 subst e25
 refine oS (aAK (an ?_))
 obtain ⟨x44,h45,h⟩:=bind_some h
 obtain ⟨x46,h47,h⟩:=bind_some h
 apply lO
 ·simp +decide only [E,reduceIte,Nat.reduceAdd,Nat.reduceMul,Bool.not_true,Bool.not_false,←List.map_take,←List.map_drop,L,aHc,aCC,M.Item.en,EN,b14,q17,q18,q19,b22,f26,f27,f28,f29,f30,f31,f32,f33,f34,b35,q38,q39,q40,b43]
  refine ⟨_,aQM _ _ h45,?_⟩
  try simp +decide only [E,reduceIte,Nat.reduceAdd,Nat.reduceMul,Bool.not_true,Bool.not_false,←List.map_take,←List.map_drop,L,aHc,aCC,M.Item.en,EN,b14,q17,q18,q19,b22,f26,f27,f28,f29,f30,f31,f32,f33,f34,b35,q38,q39,q40,b43]
  refine ⟨_,L376.aPZ _,?_⟩
  try simp +decide only [E,reduceIte,Nat.reduceAdd,Nat.reduceMul,Bool.not_true,Bool.not_false,←List.map_take,←List.map_drop,L,aHc,aCC,M.Item.en,EN,b14,q17,q18,q19,b22,f26,f27,f28,f29,f30,f31,f32,f33,f34,b35,q38,q39,q40,b43]
  refine ⟨by (have hb:=aDX h47);simp [M.Item.en,List.length_append] at hb ⊢ <;> omega,?_⟩
  try simp +decide only [E,reduceIte,Nat.reduceAdd,Nat.reduceMul,Bool.not_true,Bool.not_false,←List.map_take,←List.map_drop,L,aHc,aCC,M.Item.en,EN,b14,q17,q18,q19,b22,f26,f27,f28,f29,f30,f31,f32,f33,f34,b35,q38,q39,q40,b43]
  exact Is.mk _
 refine ab (an ?_)
 refine cu (fun s=>s.t 1=vS p1∧s.t 5=vR 100011 (u11+1)∧s.t 13=vL M.Item.en p0.Items∧s.t 14=vI (List.length p0.Items:Int)∧s.t 15=vI v15∧s.h 100011=((u11+1),oW 357 4 M.Item.en (List.take v10_L2.toNat r11++([x44]++List.drop v10_L2.toNat r11)))∧True) ?_
 rintro s48 ⟨f49,f50,f51,f52,f53,f54,_⟩
 refine rn ?_
 refine yH ⟨mL1,by omega,(i64.wrap (v15+1)),(List.take v10_L2.toNat r11++([x44]++List.drop v10_L2.toNat r11)),(u11+1),?_,?_,?_,?_,?_,?_,h⟩
 all_goals simp +decide only [F,reduceIte,Nat.reduceAdd,Bool.not_true,Bool.not_false,EN, *,-h]
instance:bC 437 (type_of% @aUw):=⟨@aUw⟩
theorem aQz (p0 p1 r) (h:hU p0 p1=some r):Sc 384 [aX (M.aH.en p0),aS p1] [(true,M.Key.rs r.1),(true,M.Key.rs r.2.1),rB r.2.2]:=by
 have i1:=fun (x1:(List M.Item))=>inv fun m s=>∃v8:Int,(s.t 1=vS p1∧s.t 4=vP 4 1 0∧s.t 5=vP 5 1 0∧s.t 7=vR 100015 1∧s.t 8=vI v8∧s.h 4=(1,oB 174 [cI 0,cI 0,cS (⟨#[]⟩:ByteArray)])∧s.h 5=(1,oB 174 [cI 0,cI 0,cS (⟨#[]⟩:ByteArray)])∧s.h 100015=(1,oW 357 4 M.Item.en x1))∧eY p1 x1 m v8=some r
 have e1:=@eY.eq_2
 unfold hU at h
 exact sgo 59 [.cell 4 174,.cell 5 174,.tmp 6] Tryz.func384
instance:bC 384 (type_of% @aQz):=⟨@aQz⟩
theorem aTY (p0 r) (h:qB p0=some r):Sc 320 [aX (M.Database.en p0)] [rB r]:=by
 unfold qB at h
 simp only [EN]
 refine sgn 103 [.tmp 2] Tryz.func320 fun base wd => ?_
 refine sq (rn ?_)
 refine an (sq (sq ?_))
 obtain ⟨x1,h2,h⟩:=bind_some h
 rcases cF (!x1) with b3 | b3
 ·replace h:=bH b3 h
  refine rn1 (aOG _ _ h2) ?_
  refine an (ct (sq (rn ?_)))
  refine an (rt ?_)
  cases h
  simp [Ret,TB,EN, *]
 replace h:=bG b3 h
 obtain ⟨x4,h5,h⟩:=bind_some h
 rcases cF (!x4) with b6 | b6
 ·replace h:=bH b6 h
  refine rn2 (aOG _ _ h2) (aNi _ _ _ _ h5) ?_
  refine an (ct (sq (rn ?_)))
  refine an (rt ?_)
  cases h
  simp [Ret,TB,EN, *]
 replace h:=bG b6 h
 rcases cF (decide ((List.length p0.Stores:Int)>4)) with b7 | b7
 ·replace h:=bH b7 h
  refine rn2 (aOG _ _ h2) (aNi _ _ _ _ h5) ?_
  refine an (ct (sq (rn ?_)))
  refine an (rt ?_)
  cases h
  simp [Ret,TB,EN, *]
 replace h:=bG b7 h
 refine rn2 (aOG _ _ h2) (aNi _ _ _ _ h5) ?_
 refine an ?_
 rcases cF (decide ((List.length p0.Unique:Int)>4)) with b8 | b8
 ·replace h:=bH b8 h
  refine ct (sq (rn ?_))
  refine an (rt ?_)
  cases h
  simp [Ret,TB,EN, *]
 replace h:=bG b8 h
 refine cf (sk (an (sq (sq (rn ?_)))))
 refine an (bk ?_)
 refine mR (fun m s=>∃v36:Int,s.t 1=vP 1 1 0∧s.t 34=vL M.aH.en p0.Stores∧s.t 35=vI (List.length p0.Stores:Int)∧s.t 36=vI v36∧s.h 1=(1,oX 114 (M.Database.en p0))∧dC p0 m v36=some r) fuel ?_ ?_
 ·refine ⟨0,?_,?_,?_,?_,?_,h⟩
  all_goals simp +decide only [F,reduceIte,Nat.reduceAdd,Bool.not_true,Bool.not_false,EN, *,-h]
 rintro mL1 s9 ⟨v36,f10,f11,f12,f13,f14,h⟩
 rcases mL1 with _ | mL1
 ·exact absurd h (by simp [dC])
 simp only [dC] at h
 refine sq (rn ?_)
 refine an (sq ?_)
 rcases cF (decide (v36<(List.length p0.Stores:Int))) with b15 | b15
 ·replace h:=bH b15 h
  refine ct (sk (an (sq (bk (sq ?_)))))
  obtain ⟨x16,h17,h⟩:=bind_some h
  obtain ⟨q18,q19,q20⟩:=aT h17
  refine rn ?_
  refine an (sq ?_)
  obtain ⟨x21,h22,h⟩:=bind_some h
  rcases cF (!x21) with b23 | b23
  ·replace h:=bH b23 h
   refine rd1 mixed (aPX _ _ h22) ?_
   refine an (ct (sq (rn ?_)))
   refine an (rt ?_)
   cases h
   simp [Ret,TB,EN, *]
  replace h:=bG b23 h
  rcases aBM (decide (v36>0)) with b24 | b24
  ·replace h:=bG b24 h
   refine rd1 mixed (aPX _ _ h22) ?_
   refine an (cf (sk (ab (an (rn ?_)))))
   refine yH ⟨mL1,by omega,(i64.wrap (v36+1)),?_,?_,?_,?_,?_,h⟩
   all_goals simp +decide only [F,reduceIte,Nat.reduceAdd,Bool.not_true,Bool.not_false,EN, *,-h]
  replace h:=bH b24 h
  obtain ⟨x25,h26,h⟩:=bind_some h
  obtain ⟨q27,q28,q29⟩:=aT h26
  refine rd1 mixed (aPX _ _ h22) ?_
  refine an ?_
  rcases cF (Op.bytesLess x16.Name.toList x25.Name.toList||x16.Name.toList==x25.Name.toList) with b30 | b30
  ·replace h:=bH b30 h
   refine ct (sq (rn ?_))
   refine an (rt ?_)
   cases h
   simp [Ret,TB,EN, *]
  replace h:=bG b30 h
  refine cf (sk (ab (an (rn ?_))))
  refine yH ⟨mL1,by omega,(i64.wrap (v36+1)),?_,?_,?_,?_,?_,h⟩
  all_goals simp +decide only [F,reduceIte,Nat.reduceAdd,Bool.not_true,Bool.not_false,EN, *,-h]
 replace h:=bG b15 h
 refine cf (xt (nI (oS (aAK (an (sq (sq (rn ?_))))))))
 refine an (bk ?_)
 refine mR (fun m s=>∃v64:Int,s.t 1=vP 1 1 0∧s.t 62=vL M.aD.en p0.Unique∧s.t 63=vI (List.length p0.Unique:Int)∧s.t 64=vI v64∧s.h 1=(1,oX 114 (M.Database.en p0))∧dE p0 m v64=some r) fuel ?_ ?_
 ·refine ⟨0,?_,?_,?_,?_,?_,h⟩
  all_goals simp +decide only [F,reduceIte,Nat.reduceAdd,Bool.not_true,Bool.not_false,EN, *,-h]
 rintro mL2 s31 ⟨v64,f32,f33,f34,f35,f36,h⟩
 rcases mL2 with _ | mL2
 ·exact absurd h (by simp [dE])
 simp only [dE] at h
 refine sq (rn ?_)
 refine an (sq ?_)
 rcases aBM (decide (v64<(List.length p0.Unique:Int))) with b37 | b37
 ·replace h:=bG b37 h
  refine cf (xt (nI (oS (aAK (an (sq (rn ?_)))))))
  refine an (rt ?_)
  cases h
  simp [Ret,TB,EN, *]
 replace h:=bH b37 h
 refine ct (sk (an (sq (bk (sq ?_)))))
 obtain ⟨x38,h39,h⟩:=bind_some h
 obtain ⟨q40,q41,q42⟩:=aT h39
 refine rn ?_
 refine an (sq ?_)
 obtain ⟨x43,h44,h⟩:=bind_some h
 refine rn1 (aQT _ _ _ h44) ?_
 refine an (sq (sq ?_))
 rcases cF (decide (x43<0)) with b45 | b45
 ·replace h:=bH b45 h
  refine rd mixed ?_
  refine an (ct (sq (rn ?_)))
  refine an (rt ?_)
  cases h
  simp [Ret,TB,EN, *]
 replace h:=bG b45 h
 obtain ⟨x46,h47,h⟩:=bind_some h
 rcases cF (!x46) with b48 | b48
 ·replace h:=bH b48 h
  refine rd1 mixed (aOG _ _ h47) ?_
  refine an (ct (sq (rn ?_)))
  refine an (rt ?_)
  cases h
  simp [Ret,TB,EN, *]
 replace h:=bG b48 h
 obtain ⟨x49,h50,h⟩:=bind_some h
 obtain ⟨x51,h52,h⟩:=bind_some h
 apply aD1 mixed
 ·simp +decide only [E,reduceIte,Nat.reduceAdd,Nat.reduceMul,Bool.not_true,Bool.not_false,←List.map_take,←List.map_drop,L,ti9,aLo,aL0,aLv,M.aD.en,EN,b3,b6,b7,b8,b15,f32,f33,f34,f35,f36,b37,q40,q41,q42,b45,b48]
  refine ⟨_,aOG _ _ h47,?_⟩
  try simp +decide only [E,reduceIte,Nat.reduceAdd,Nat.reduceMul,Bool.not_true,Bool.not_false,←List.map_take,←List.map_drop,L,ti9,aLo,aL0,aLv,M.aD.en,EN,b3,b6,b7,b8,b15,f32,f33,f34,f35,f36,b37,q40,q41,q42,b45,b48]
  refine ⟨by first | exact aB1 (f:=M.aD.en) (n:=2) (fun _=>rfl) h50 | exact (aB1 (f:=M.aD.en) (n:=2) (fun _=>rfl) h50).2 | exact (aB1 (f:=M.aD.en) (n:=2) (fun _=>rfl) h50).2.2,?_⟩
  try simp +decide only [E,reduceIte,Nat.reduceAdd,Nat.reduceMul,Bool.not_true,Bool.not_false,←List.map_take,←List.map_drop,L,ti9,aLo,aL0,aLv,M.aD.en,EN,b3,b6,b7,b8,b15,f32,f33,f34,f35,f36,b37,q40,q41,q42,b45,b48]
  refine ⟨_,aQy _ _ _ h52,?_⟩
  try simp +decide only [E,reduceIte,Nat.reduceAdd,Nat.reduceMul,Bool.not_true,Bool.not_false,←List.map_take,←List.map_drop,L,ti9,aLo,aL0,aLv,M.aD.en,EN,b3,b6,b7,b8,b15,f32,f33,f34,f35,f36,b37,q40,q41,q42,b45,b48]
  exact ⟨.mk (by decide +kernel),Is.mk _⟩
 refine an ?_
 rcases cF x51 with b53 | b53
 ·replace h:=bH b53 h
  refine ct (sq (rn ?_))
  refine an (rt ?_)
  cases h
  simp [Ret,TB,EN, *]
 replace h:=bG b53 h
 refine cf (sk (an (sq ?_)))
 obtain ⟨x54,h55,h⟩:=bind_some h
 obtain ⟨q56,q57,q58⟩:=aT h55
 obtain ⟨x59,h60,h⟩:=bind_some h
 refine rd1 mixed (aQz _ _ _ h60) ?_
 refine an (sq (rn ?_))
 refine an ?_
 rcases cF x59.2.2 with b61 | b61
 ·replace h:=bH b61 h
  refine ct (sq (rn ?_))
  refine an (rt ?_)
  cases h
  simp [Ret,TB,EN, *]
 replace h:=bG b61 h
 refine cf (sk (ab (an (rn ?_))))
 refine yH ⟨mL2,by omega,(i64.wrap (v64+1)),?_,?_,?_,?_,?_,h⟩
 all_goals simp +decide only [F,reduceIte,Nat.reduceAdd,Bool.not_true,Bool.not_false,EN, *,-h]
instance:bC 320 (type_of% @aTY):=⟨@aTY⟩
theorem aVW (p0 r) (h:jB p0=some r):Sc 263 [aX (M.aY.en p0)] [rB r]:=by
 unfold jB at h
 exact sgo 26 [.tmp 2] Tryz.func263
instance:bC 263 (type_of% @aVW):=⟨@aVW⟩
theorem aR1 (p0 r) (h:wN p0=some r):Sc 305 [aX (M.aV.en p0)] [rB r]:=by
 have i1:=inv fun m s=>∃v12:Int,(s.t 1=vP 1 1 0∧s.t 3=vI (List.length p0.Writes:Int)∧s.t 10=vL M.aY.en p0.Writes∧s.t 11=vI (List.length p0.Writes:Int)∧s.t 12=vI v12∧s.h 1=(1,oX 118 (M.aV.en p0)))∧iX p0 m v12=some r
 have e1:=@iX.eq_2
 unfold wN at h
 exact sgo 51 [.tmp 2] Tryz.func305
instance:bC 305 (type_of% @aR1):=⟨@aR1⟩
theorem aUz (p0 r) (h:uQ p0=some r):Sc 218 [aX (M.aE.en p0)] [rB r]:=by
 unfold uQ at h
 exact sgo 23 [.tmp 2] Tryz.func218
instance:bC 218 (type_of% @aUz):=⟨@aUz⟩
theorem aTR (p0 p1 r) (h:rM p0 p1=some r):Sc 439 [aX (M.Response.en p0),aB p1] [rI r]:=by
 unfold rM at h
 exact sgo 10 [.tmp 4] Tryz.func439
instance:bC 439 (type_of% @aTR):=⟨@aTR⟩
theorem aU5 (p0 r) (h:qY p0=some r):Sc 385 [aX (M.aM.en p0)] [rI r]:=by
 have i1:=inv fun m s=>∃v3:Int,∃v11:Int,(s.t 3=vI v3∧s.t 9=vL M.Cache.en p0.Caches∧s.t 10=vI (List.length p0.Caches:Int)∧s.t 11=vI v11)∧eP p0 m v3 v11=some r
 have e1:=@eP.eq_2
 have i2:=fun (v11:Int) (x7:M.Cache) (k13:Int→Int→Option Int)=>inv fun m s=>∃v3_L2:Int,∃v18_L2:Int,(s.t 3=vI v3_L2∧s.t 9=vL M.Cache.en p0.Caches∧s.t 10=vI (List.length p0.Caches:Int)∧s.t 11=vI v11∧s.t 16=vL M.Cached.en x7.Entries∧s.t 17=vI (List.length x7.Entries:Int)∧s.t 18=vI v18_L2)∧hH x7 k13 m v3_L2 v18_L2=some r
 have e2:=@hH.eq_2
 unfold qY at h
 exact sgo 34 [.tmp 2] Tryz.func385
instance:bC 385 (type_of% @aU5):=⟨@aU5⟩
theorem aRv (p0 r) (h:uG p0=some r):Sc 441 [aX (M.Key.en p0)] [rW 5 1 enB r]:=by
 unfold uG at h
 simp only [EN]
 refine sgn 34 [.tmp 2] Tryz.func441 fun base wd => ?_
 refine sq (rn ?_)
 refine an (sq (sq ?_))
 obtain ⟨x1,h2,h⟩:=bind_some h
 refine rn1 (aRJ _ _ h2) ?_
 refine an ?_
 rcases cF (!x1) with b3 | b3
 ·replace h:=bH b3 h
  refine ct (sq (rn ?_))
  refine an (rt ?_)
  cases h
  simp [Ret,TB,EN, *]
 replace h:=bG b3 h
 refine cf (sk (an (sq (rn ?_))))
 refine an (sq (sq ?_))
 refine cu (fun s=>s.t 1=vP 1 1 0∧s.t 3=vR 100012 1∧s.h 1=(1,oX 174 (M.Key.en p0))∧s.h 100012=(1,oW 5 1 enB ([(IntKind.u8.wrap p0.Kind)]))∧True) ?_
 rintro s4 ⟨f5,f6,f7,f8,_⟩
 refine rn ?_
 refine an ?_
 rcases aBM (p0.Kind != 2) with b9 | b9
 ·replace h:=bG b9 h
  refine cf (sk (an (sq ?_)))
  obtain ⟨x28,h29,h⟩:=bind_some h
  refine rn1 h29 ?_
  refine an (rt ?_)
  cases h
  simp [Ret,TB,EN, *]
 replace h:=bH b9 h
 refine ct (sq (rn ?_))
 refine an (bk ?_)
 refine mR (fun m s=>∃v4:Int,∃r12:List Int,∃u12:Nat,s.t 1=vP 1 1 0∧s.t 3=vR 100012 u12∧s.t 4=vI v4∧s.h 1=(1,oX 174 (M.Key.en p0))∧s.h 100012=(u12,oW 5 1 enB r12)∧dV p0 m v4 r12=some r) fuel ?_ ?_
 ·refine ⟨5,([(IntKind.u8.wrap p0.Kind)]),1,?_,?_,?_,?_,?_,h⟩
  all_goals simp +decide only [F,reduceIte,Nat.reduceAdd,Bool.not_true,Bool.not_false,EN, *,-h]
 rintro mL1 s10 ⟨v4,r12,u12,f11,f12,f13,f14,f15,h⟩
 rcases mL1 with _ | mL1
 ·exact absurd h (by simp [dV])
 simp only [dV] at h
 refine sq (sq (rn ?_))
 refine an ?_
 rcases aBM (decide (v4≥0)) with b16 | b16
 ·replace h:=bG b16 h
  refine cf (xt (nI (oS (aAK (an (sq ?_))))))
  obtain ⟨x26,h27,h⟩:=bind_some h
  refine rn1 h27 ?_
  refine an (rt ?_)
  cases h
  simp [Ret,TB,EN, *]
 replace h:=bH b16 h
 refine ct (sk (an (sq (bk ?_))))
 rcases aBM (decide (0≤(i64.wrap (8*v4)))) with b17 | b17
 ·replace h:=bG b17 h
  cases h
 replace h:=bH b17 h
 obtain ⟨x18,h19,h⟩:=bind_some h
 apply lO
 ·simp +decide only [E,reduceIte,Nat.reduceAdd,Nat.reduceMul,Bool.not_true,Bool.not_false,aJ1,L,ti3,ti5,aO8,aLs,enB,EN,b3,b9,f11,f12,f13,f14,f15,b16,b17]
  refine ⟨by (have hb:=kC h19);simp [enB,List.length_append,bF] at hb ⊢ <;> omega,?_⟩
  try simp +decide only [E,reduceIte,Nat.reduceAdd,Nat.reduceMul,Bool.not_true,Bool.not_false,aJ1,L,ti3,ti5,aO8,aLs,enB,EN,b3,b9,f11,f12,f13,f14,f15,b16,b17]
  exact Is.mk _
 refine ab (an ?_)
 refine cu (fun s=>s.t 1=vP 1 1 0∧s.t 3=vR 100012 (u12+1)∧s.t 4=vI v4∧s.h 1=(1,oX 174 (M.Key.en p0))∧s.h 100012=((u12+1),oW 5 1 enB (r12++[(IntKind.u8.wrap (Int.fdiv (i64.wrap (p0.N+1000000000000)) (2^(min (i64.wrap (8*v4)).toNat IntKind.i64.bits))))]))∧True) ?_
 rintro s20 ⟨f21,f22,f23,f24,f25,_⟩
 refine rn ?_
 refine yH ⟨mL1,by omega,(i64.wrap (v4-1)),(r12++[(IntKind.u8.wrap (Int.fdiv (i64.wrap (p0.N+1000000000000)) (2^(min (i64.wrap (8*v4)).toNat IntKind.i64.bits))))]),(u12+1),?_,?_,?_,?_,?_,h⟩
 all_goals simp +decide only [F,reduceIte,Nat.reduceAdd,Bool.not_true,Bool.not_false,EN, *,-h]
instance:bC 441 (type_of% @aRv):=⟨@aRv⟩
theorem aTJ (p0 p1 r) (h:hD p0 p1=some r):Sc 469 [aL enB p0,aI p1] [rW 5 1 enB r]:=by
 have i1:=inv fun m s=>∃v1:Int,∃r7:List Int,∃u7:Nat,(s.t 1=vI v1∧s.t 5=vR 100007 u7∧s.h 100007=(u7,oW 5 1 enB r7))∧fD m v1 r7=some r
 have e1:=@fD.eq_2
 unfold hD at h
 exact sgo 28 [.tmp 4] Tryz.func469
instance:bC 469 (type_of% @aTJ):=⟨@aTJ⟩
theorem aTk (p0 p1 r) (h:pE p0 p1=some r):Sc 470 [aL enB p0,aL enB p1] [rW 5 1 enB r]:=by
 unfold pE at h
 exact sgo 11 [.tmp 4] Tryz.func470
instance:bC 470 (type_of% @aTk):=⟨@aTk⟩
theorem aRY (p0 r) (h:mW p0=some r):Sc 442 [aX (M.aU.en p0)] [rW 5 1 enB r]:=by
 have i1:=aK4 [.t 3 7050000 5 1] fun m s=>∃v17:Int,∃r50000:List Int,∃u50000:Nat,(s.t 3=vR 7050000 u50000∧s.t 15=vL M.Field.en p0.Fields∧s.t 16=vI (List.length p0.Fields:Int)∧s.t 17=vI v17∧s.h 7050000=(u50000,oW 5 1 enB r50000))∧fV p0 m v17 r50000=some r
 have e1:=@fV.eq_2
 unfold mW at h
 exact sgo 31 [.tmp 2] Tryz.func442
instance:bC 442 (type_of% @aRY):=⟨@aRY⟩
theorem aVN (p0 r) (h:nQ p0=some r):Sc 387 [aX (M.aH.en p0)] [rI r]:=by
 have i1:=inv fun m s=>∃v3:Int,∃v9:Int,(s.t 3=vI v3∧s.t 7=vL M.Item.en p0.Items∧s.t 8=vI (List.length p0.Items:Int)∧s.t 9=vI v9)∧iD p0 m v3 v9=some r
 have e1:=@iD.eq_2
 unfold nQ at h
 exact sgo 26 [.tmp 2] Tryz.func387
instance:bC 387 (type_of% @aVN):=⟨@aVN⟩
theorem aSL (p0 r) (h:mU p0=some r):Sc 440 [aX (M.Database.en p0)] [rI r]:=by
 have i1:=inv fun m s=>∃v3:Int,∃v9:Int,(s.t 3=vI v3∧s.t 7=vL M.aH.en p0.Stores∧s.t 8=vI (List.length p0.Stores:Int)∧s.t 9=vI v9)∧fQ p0 m v3 v9=some r
 have e1:=@fQ.eq_2
 unfold mU at h
 exact sgo 19 [.tmp 2] Tryz.func440
instance:bC 440 (type_of% @aSL):=⟨@aSL⟩
theorem aSk (p0 r) (h:aAl p0=some r):Sc 386 [aX (M.bB.en p0)] [rI r]:=by
 unfold aAl at h
 exact sgo 10 [.tmp 2] Tryz.func386
instance:bC 386 (type_of% @aSk):=⟨@aSk⟩
theorem aSi (p0 r) (h:yY p0=some r):Sc 321 [aX (M.aA.en p0)] [rI r]:=by
 unfold yY at h
 exact sgo 23 [.tmp 2] Tryz.func321
instance:bC 321 (type_of% @aSi):=⟨@aSi⟩
theorem aUA (p0 r) (h:kF p0=some r):Sc 235 [aX (M.aA.en p0)] [rB r]:=by
 unfold kF at h
 exact sgo 50 [.tmp 2] Tryz.func235
instance:bC 235 (type_of% @aUA):=⟨@aUA⟩
theorem aRA (p0 p1 r) (h:jY p0 p1=some r):Sc 221 [aX (M.aA.en p0),aX (M.aA.en p1)] [rB r]:=by
 unfold jY at h
 exact sgo 24 [.tmp 4] Tryz.func221
instance:bC 221 (type_of% @aRA):=⟨@aRA⟩
theorem aNF (p0 r) (h:bT p0=some r):Sc 156 [aX (M.aC.en p0)] [rB r]:=by
 have i1:=inv fun m s=>∃v8:Int,(s.t 1=vP 1 1 0∧s.t 6=vL M.aA.en p0.Buckets∧s.t 7=vI (List.length p0.Buckets:Int)∧s.t 8=vI v8∧s.h 1=(1,oX 26 (M.aC.en p0)))∧fE p0 m v8=some r
 have e1:=@fE.eq_2
 unfold bT at h
 exact sgo 36 [.tmp 2] Tryz.func156
instance:bC 156 (type_of% @aNF):=⟨@aNF⟩
theorem aQP (p0 r) (h:qE p0=some r):Sc 259 [aS p0] [rB r]:=by
 unfold qE at h
 exact sgo 5 [.tmp 2] Tryz.func259
instance:bC 259 (type_of% @aQP):=⟨@aQP⟩
theorem aT1 (p0 r) (h:oF p0=some r):Sc 157 [aX (M.aR.en p0)] [rB r]:=by
 unfold oF at h
 simp only [EN]
 refine sgn 64 [.tmp 2] Tryz.func157 fun base wd => ?_
 refine sq (rn ?_)
 refine an (sq (sq (rn ?_)))
 refine an (bk ?_)
 refine mR (fun m s=>∃v10:Int,s.t 1=vP 1 1 0∧s.t 8=vL M.cG.en p0.Locks∧s.t 9=vI (List.length p0.Locks:Int)∧s.t 10=vI v10∧s.h 1=(1,oX 30 (M.aR.en p0))∧dN p0 m v10=some r) fuel ?_ ?_
 ·refine ⟨0,?_,?_,?_,?_,?_,h⟩
  all_goals simp +decide only [F,reduceIte,Nat.reduceAdd,Bool.not_true,Bool.not_false,EN, *,-h]
 rintro mL1 s1 ⟨v10,f2,f3,f4,f5,f6,h⟩
 rcases mL1 with _ | mL1
 ·exact absurd h (by simp [dN])
 simp only [dN] at h
 refine sq (rn ?_)
 refine an (sq ?_)
 rcases aBM (decide (v10<(List.length p0.Locks:Int))) with b7 | b7
 ·replace h:=bG b7 h
  refine cf (xt (nI (oS (aAK (an (sq (rn ?_)))))))
  refine an (rt ?_)
  cases h
  simp [Ret,TB,EN, *]
 replace h:=bH b7 h
 refine ct (sk (an (sq (bk (sq ?_)))))
 obtain ⟨x8,h9,h⟩:=bind_some h
 obtain ⟨q10,q11,q12⟩:=aT h9
 refine rn ?_
 refine an (sq (sq ?_))
 obtain ⟨x13,h14,h⟩:=bind_some h
 rcases cF (!x13) with b15 | b15
 ·replace h:=bH b15 h
  refine rn1 (aQP _ _ h14) ?_
  refine an (ct (sq (rn ?_)))
  refine an (rt ?_)
  cases h
  simp [Ret,TB,EN, *]
 replace h:=bG b15 h
 obtain ⟨x16,h17,h⟩:=bind_some h
 refine rn2 (aQP _ _ h14) (aNi _ _ _ _ h17) ?_
 refine an ?_
 rcases cF (!x16) with b18 | b18
 ·replace h:=bH b18 h
  refine ct (sq (rn ?_))
  refine an (rt ?_)
  cases h
  simp [Ret,TB,EN, *]
 replace h:=bG b18 h
 refine cf (sk (an (sq ?_)))
 obtain ⟨x19,h20,h⟩:=bind_some h
 apply lO
 ·simp +decide only [E,reduceIte,Nat.reduceAdd,Nat.reduceMul,Bool.not_true,Bool.not_false,←List.map_take,←List.map_drop,L,aQN,aQS,aNv,M.cG.en,EN,f2,f3,f4,f5,f6,b7,q10,q11,q12,b15,b18]
  refine ⟨by first | exact aB1 (f:=M.cG.en) (n:=4) (fun _=>rfl) h20 | exact (aB1 (f:=M.cG.en) (n:=4) (fun _=>rfl) h20).2 | exact (aB1 (f:=M.cG.en) (n:=4) (fun _=>rfl) h20).2.2,?_⟩
  try simp +decide only [E,reduceIte,Nat.reduceAdd,Nat.reduceMul,Bool.not_true,Bool.not_false,←List.map_take,←List.map_drop,L,aQN,aQS,aNv,M.cG.en,EN,f2,f3,f4,f5,f6,b7,q10,q11,q12,b15,b18]
  exact Is.mk _
 refine an (bk ?_)
 obtain ⟨k22,e23,h⟩:=aQl (f:=fun kk=>bL p0 v10 x8 kk fuel 0) h
 refine mR (fun m s=>∃v30_L2:Int,s.t 1=vP 1 1 0∧s.t 4=vP 4 ((s1.h 4).1+1) 0∧s.t 8=vL M.cG.en p0.Locks∧s.t 9=vI (List.length p0.Locks:Int)∧s.t 10=vI v10∧s.t 28=vL M.cG.en (List.take v10.toNat p0.Locks)∧s.t 29=vI (List.length (List.take v10.toNat p0.Locks):Int)∧s.t 30=vI v30_L2∧s.h 1=(1,oX 30 (M.aR.en p0))∧s.h 4=(((s1.h 4).1+1),oX 144 (M.cG.en x8))∧bL p0 v10 x8 k22 m v30_L2=some r) fuel ?_ ?_
 ·refine ⟨0,?_,?_,?_,?_,?_,?_,?_,?_,?_,?_,h⟩
  all_goals simp +decide only [F,reduceIte,Nat.reduceAdd,Bool.not_true,Bool.not_false,EN, *,-h]
 rintro mL2 s21 ⟨v30_L2,f24,f25,f26,f27,f28,f29,f30,f31,f32,f33,h⟩
 rcases mL2 with _ | mL2
 ·exact absurd h (by simp [bL])
 simp only [bL] at h
 refine sq (rn ?_)
 refine an (sq ?_)
 rcases aBM (decide (v30_L2<(List.length (List.take v10.toNat p0.Locks):Int))) with b34 | b34
 ·replace h:=bG b34 h
  refine cf (xt (nI ?_))
  subst e23
  refine oS (aAK (ab (an (rn ?_))))
  refine yH ⟨mL1,by omega,(i64.wrap (v10+1)),?_,?_,?_,?_,?_,h⟩
  all_goals simp +decide only [F,reduceIte,Nat.reduceAdd,Bool.not_true,Bool.not_false,EN, *,-h]
 replace h:=bH b34 h
 refine ct (sk (an (sq (bk (sq ?_)))))
 obtain ⟨x35,h36,h⟩:=bind_some h
 obtain ⟨q37,q38,q39⟩:=aT h36
 refine rn ?_
 refine an (sq ?_)
 rcases aBM (x35.Name.toList==x8.Name.toList) with b40 | b40
 ·replace h:=bG b40 h
  refine rn ?_
  refine an (cf (sk (ab (an (rn ?_)))))
  refine yH ⟨mL2,by omega,(i64.wrap (v30_L2+1)),?_,?_,?_,?_,?_,?_,?_,?_,?_,?_,h⟩
  all_goals simp +decide only [F,reduceIte,Nat.reduceAdd,Bool.not_true,Bool.not_false,EN, *,-h]
 replace h:=bH b40 h
 rcases aBM x8.Held with b41 | b41
 ·replace h:=bG b41 h
  refine rn ?_
  refine an (cf (sk (ab (an (rn ?_)))))
  refine yH ⟨mL2,by omega,(i64.wrap (v30_L2+1)),?_,?_,?_,?_,?_,?_,?_,?_,?_,?_,h⟩
  all_goals simp +decide only [F,reduceIte,Nat.reduceAdd,Bool.not_true,Bool.not_false,EN, *,-h]
 replace h:=bH b41 h
 rcases cF (!x35.Held) with b42 | b42
 ·replace h:=bH b42 h
  refine rn ?_
  refine an (ct (sq (rn ?_)))
  refine an (rt ?_)
  cases h
  simp [Ret,TB,EN, *]
 replace h:=bG b42 h
 rcases cF (!x8.Shared) with b43 | b43
 ·replace h:=bH b43 h
  refine rn ?_
  refine an (ct (sq (rn ?_)))
  refine an (rt ?_)
  cases h
  simp [Ret,TB,EN, *]
 replace h:=bG b43 h
 refine rn ?_
 refine an ?_
 rcases cF (!x35.Shared) with b44 | b44
 ·replace h:=bH b44 h
  refine ct (sq (rn ?_))
  refine an (rt ?_)
  cases h
  simp [Ret,TB,EN, *]
 replace h:=bG b44 h
 refine cf (sk (ab (an (rn ?_))))
 refine yH ⟨mL2,by omega,(i64.wrap (v30_L2+1)),?_,?_,?_,?_,?_,?_,?_,?_,?_,?_,h⟩
 all_goals simp +decide only [F,reduceIte,Nat.reduceAdd,Bool.not_true,Bool.not_false,EN, *,-h]
instance:bC 157 (type_of% @aT1):=⟨@aT1⟩
theorem aS4 (p0 r) (h:aBH p0=some r):Sc 158 [aX (M.bI.en p0)] [rB r]:=by
 have i1:=inv fun m s=>∃v8:Int,(s.t 1=vP 1 1 0∧s.t 6=vL M.aN.en p0.aN∧s.t 7=vI (List.length p0.aN:Int)∧s.t 8=vI v8∧s.h 1=(1,oX 80 (M.bI.en p0)))∧lM p0 m v8=some r
 have e1:=@lM.eq_2
 unfold aBH at h
 exact sgo 48 [.tmp 2] Tryz.func158
instance:bC 158 (type_of% @aS4):=⟨@aS4⟩
end Go.Proofs.YtnhpbpnhmapeeaaGreat.gen
