/-
  Helper text. No conditions.
-/
import Derived.Test.YtnhpbpnhmapeeaaGreatSendNoteTi
import Derived.Test.YtnhpbpnhmapeeaaGreatSendNoteWimpl0
import Derived.Test.YtnhpbpnhmapeeaaGreatSendNoteWimpl1
import Derived.Test.YtnhpbpnhmapeeaaGreatSendNoteWlib1
namespace Go.Proofs.YtnhpbpnhmapeeaaGreat.gen
open Go Go.Sh
open Go.IntKind (i64)
set_option linter.unusedVariables false
set_option linter.unusedSimpArgs false
set_option maxRecDepth 20000
set_option maxHeartbeats 4000000
theorem aQL (p0 p1 r) (h:sZ p0 p1=some r):Sc 382 [aX (M.Database.en p0),aS p1] [rI r]:=by
 unfold sZ at h
 simp only [EN]
 refine sgn 9 [.tmp 4] Tryz.func382 fun base wd => ?_
 refine sq (rn ?_)
 refine an (sq ?_)
 obtain ⟨x1,h2,h⟩:=bind_some h
 refine rn1 (aQw p0.Stores (fun z0=>oQ z0 p1) 435 [.ptr [.str p1]] (fun z0 r hr=>aQr z0 p1 r hr) x1 h2) ?_
 refine an (rt ?_)
 cases h
 simp [Ret,TB,EN, *]
instance:bG 382 (type_of% @aQL):=⟨@aQL⟩
theorem aUI (p0 p1 r) (h:iM p0 p1=some r):Sc 436 [aL M.aD.en p0,aX (M.aD.en p1)] [rI r]:=by
 have i1:=inv fun m s=>∃v8:Int,(s.t 0=vL M.aD.en p0∧s.t 3=vP 3 1 0∧s.t 7=vI (List.length p0:Int)∧s.t 8=vI v8∧s.h 3=(1,oX 383 (M.aD.en p1)))∧dD p0 p1 m v8=some r
 have e1:=@dD.eq_2
 unfold iM at h
 exact sgo 19 [.tmp 4] Tryz.func436
instance:bG 436 (type_of% @aUI):=⟨@aUI⟩
theorem aQt (p0 p1 r) (h:gQ p0 p1=some r):Sc 383 [aL M.aD.en p0,aX (M.aD.en p1)] [rB r]:=by
 unfold gQ at h
 exact sgo 9 [.tmp 4] Tryz.func383
instance:bG 383 (type_of% @aQt):=⟨@aQt⟩
theorem aQv (p0 p1 r) (h:iN p0 p1=some r):Sc 438 [aX (M.aH.en p0),aS p1] [rI r.1,rB r.2]:=by
 unfold iN at h
 exact sgo 18 [.tmp 4,.tmp 5] Tryz.func438
instance:bG 438 (type_of% @aQv):=⟨@aQv⟩
theorem aQx (p0 p1 p2 r) (h:pB p0 p1 p2=some r):Sc 468 [aX (M.Item.en p0),aX (M.Item.en p1),aS p2] [rB r]:=by
 unfold pB at h
 exact sgo 41 [.tmp 6] Tryz.func468
instance:bG 468 (type_of% @aQx):=⟨@aQx⟩
theorem aUQ (p0 p1 r) (h:yO p0 p1=some r):Sc 437 [aX (M.aE.en p0),aS p1] [rW 357 4 M.Item.en r]:=by
 unfold yO at h
 simp only [EN]
 refine sgn 52 [.tmp 4] Tryz.func437 fun base wd => ?_
 refine sq (rn ?_)
 refine an (sq (rn ?_))
 refine an (sq (sq ?_))
 refine cu (fun s=>s.t 1=vS p1∧s.t 2=vP 2 1 0∧s.t 5=vR 100011 1∧s.h 2=(1,oX 98 (M.aE.en p0))∧s.h 100011=(1,oW 357 4 M.Item.en ([]:List M.Item))∧True) ?_
 rintro s1 ⟨f2,f3,f4,f5,f6,_⟩
 refine rn ?_
 refine an (bk ?_)
 refine kX (fun m s=>∃v15:Int,∃r11:List M.Item,∃u11:Nat,s.t 1=vS p1∧s.t 5=vR 100011 u11∧s.t 13=vL M.Item.en p0.Items∧s.t 14=vI (List.length p0.Items:Int)∧s.t 15=vI v15∧s.h 100011=(u11,oW 357 4 M.Item.en r11)∧gJ p0 p1 m v15 r11=some r) fuel ?_ ?_
 ·refine ⟨0,([]:List M.Item),1,?_,?_,?_,?_,?_,?_,h⟩
  all_goals simp +decide only [F,reduceIte,Nat.reduceAdd,Bool.not_true,Bool.not_false,EN, *,-h]
 rintro mL1 s7 ⟨v15,r11,u11,f8,f9,f10,f11,f12,f13,h⟩
 rcases mL1 with _ | mL1
 ·exact absurd h (by simp [gJ])
 simp only [gJ] at h
 refine sq (rn ?_)
 refine an (sq ?_)
 rcases rQ (decide (v15<(List.length p0.Items:Int))) with b14 | b14
 ·replace h:=bA b14 h
  refine cf (xt (jD (jY (uX (an (sq (rn ?_)))))))
  refine an (rt ?_)
  cases h
  simp [Ret,TB,EN, *]
 replace h:=bB b14 h
 refine ct (sk (an (sq (bk (sq ?_)))))
 obtain ⟨x15,h16,h⟩:=bind_some h
 obtain ⟨q17,q18,q19⟩:=aR h16
 refine rn ?_
 refine an (sq (sq ?_))
 obtain ⟨x20,h21,h⟩:=bind_some h
 refine rn1 (aQv _ _ _ h21) ?_
 refine an (sq (rn ?_))
 refine an ?_
 rcases bO (!x20.2) with b22 | b22
 ·replace h:=bB b22 h
  refine ct (xt (jD (uX (an (rn ?_)))))
  refine xY ⟨mL1,by omega,(i64.wrap (v15+1)),r11,u11,?_,?_,?_,?_,?_,?_,h⟩
  all_goals simp +decide only [F,reduceIte,Nat.reduceAdd,Bool.not_true,Bool.not_false,EN, *,-h]
 replace h:=bA b22 h
 refine cf (sk (an (sq (rn ?_))))
 refine an (sq (bk ?_))
 obtain ⟨k24,e25,h⟩:=aSZ (f:=fun kk=>gM p1 r11 x15 kk fuel (List.length r11:Int)) h
 refine kX (fun m s=>∃v10_L2:Int,s.t 1=vS p1∧s.t 5=vR 100011 u11∧s.t 7=vP 7 ((s7.h 7).1+1) 0∧s.t 10=vI v10_L2∧s.t 13=vL M.Item.en p0.Items∧s.t 14=vI (List.length p0.Items:Int)∧s.t 15=vI v15∧s.h 7=(((s7.h 7).1+1),oX 357 (M.Item.en x15))∧s.h 100011=(u11,oW 357 4 M.Item.en r11)∧gM p1 r11 x15 k24 m v10_L2=some r) fuel ?_ ?_
 ·refine ⟨(List.length r11:Int),?_,?_,?_,?_,?_,?_,?_,?_,?_,h⟩
  all_goals simp +decide only [F,reduceIte,Nat.reduceAdd,Bool.not_true,Bool.not_false,EN, *,-h]
 rintro mL2 s23 ⟨v10_L2,f26,f27,f28,f29,f30,f31,f32,f33,f34,h⟩
 rcases mL2 with _ | mL2
 ·exact absurd h (by simp [gM])
 simp only [gM] at h
 refine sq (sq ?_)
 rcases rQ (decide (v10_L2>0)) with b35 | b35
 ·replace h:=bA b35 h
  refine rd mixed ?_
  refine an (cf (xt (jD ?_)))
  subst e25
  refine jY (uX (an ?_))
  obtain ⟨x55,h56,h⟩:=bind_some h
  obtain ⟨x57,h58,h⟩:=bind_some h
  apply jC
  ·simp +decide only [E,reduceIte,Nat.reduceAdd,Nat.reduceMul,Bool.not_true,Bool.not_false,←List.map_take,←List.map_drop,L,aCL,pQ,M.Item.en,EN,b14,q17,q18,q19,b22,f26,f27,f28,f29,f30,f31,f32,f33,f34,b35]
   refine ⟨_,aQE _ _ h56,?_⟩
   try simp +decide only [E,reduceIte,Nat.reduceAdd,Nat.reduceMul,Bool.not_true,Bool.not_false,←List.map_take,←List.map_drop,L,aCL,pQ,M.Item.en,EN,b14,q17,q18,q19,b22,f26,f27,f28,f29,f30,f31,f32,f33,f34,b35]
   refine ⟨_,L376.aNZ _,?_⟩
   try simp +decide only [E,reduceIte,Nat.reduceAdd,Nat.reduceMul,Bool.not_true,Bool.not_false,←List.map_take,←List.map_drop,L,aCL,pQ,M.Item.en,EN,b14,q17,q18,q19,b22,f26,f27,f28,f29,f30,f31,f32,f33,f34,b35]
   refine ⟨by (have hb:=aAA h58);simp [M.Item.en,List.length_append] at hb ⊢ <;> omega,?_⟩
   try simp +decide only [E,reduceIte,Nat.reduceAdd,Nat.reduceMul,Bool.not_true,Bool.not_false,←List.map_take,←List.map_drop,L,aCL,pQ,M.Item.en,EN,b14,q17,q18,q19,b22,f26,f27,f28,f29,f30,f31,f32,f33,f34,b35]
   exact Is.mk _
  refine ab (an ?_)
  refine cu (fun s=>s.t 1=vS p1∧s.t 5=vR 100011 (u11+1)∧s.t 13=vL M.Item.en p0.Items∧s.t 14=vI (List.length p0.Items:Int)∧s.t 15=vI v15∧s.h 100011=((u11+1),oW 357 4 M.Item.en (List.take v10_L2.toNat r11++([x55]++List.drop v10_L2.toNat r11)))∧True) ?_
  rintro s59 ⟨f60,f61,f62,f63,f64,f65,_⟩
  refine rn ?_
  refine xY ⟨mL1,by omega,(i64.wrap (v15+1)),(List.take v10_L2.toNat r11++([x55]++List.drop v10_L2.toNat r11)),(u11+1),?_,?_,?_,?_,?_,?_,h⟩
  all_goals simp +decide only [F,reduceIte,Nat.reduceAdd,Bool.not_true,Bool.not_false,EN, *,-h]
 replace h:=bB b35 h
 obtain ⟨x36,h37,h⟩:=bind_some h
 obtain ⟨q38,q39,q40⟩:=aR h37
 obtain ⟨x41,h42,h⟩:=bind_some h
 refine rd1 mixed (aQx _ _ _ _ h42) ?_
 refine an ?_
 rcases bO x41 with b43 | b43
 ·replace h:=bB b43 h
  refine ct (sk (an (bk (rn ?_))))
  refine ab ?_
  refine xY ⟨mL2,by omega,(i64.wrap (v10_L2-1)),?_,?_,?_,?_,?_,?_,?_,?_,?_,h⟩
  all_goals simp +decide only [F,reduceIte,Nat.reduceAdd,Bool.not_true,Bool.not_false,EN, *,-h]
 replace h:=bA b43 h
 refine cf (xt (jD ?_))
 subst e25
 refine jY (uX (an ?_))
 obtain ⟨x44,h45,h⟩:=bind_some h
 obtain ⟨x46,h47,h⟩:=bind_some h
 apply jC
 ·simp +decide only [E,reduceIte,Nat.reduceAdd,Nat.reduceMul,Bool.not_true,Bool.not_false,←List.map_take,←List.map_drop,L,aCL,pQ,M.Item.en,EN,b14,q17,q18,q19,b22,f26,f27,f28,f29,f30,f31,f32,f33,f34,b35,q38,q39,q40,b43]
  refine ⟨_,aQE _ _ h45,?_⟩
  try simp +decide only [E,reduceIte,Nat.reduceAdd,Nat.reduceMul,Bool.not_true,Bool.not_false,←List.map_take,←List.map_drop,L,aCL,pQ,M.Item.en,EN,b14,q17,q18,q19,b22,f26,f27,f28,f29,f30,f31,f32,f33,f34,b35,q38,q39,q40,b43]
  refine ⟨_,L376.aNZ _,?_⟩
  try simp +decide only [E,reduceIte,Nat.reduceAdd,Nat.reduceMul,Bool.not_true,Bool.not_false,←List.map_take,←List.map_drop,L,aCL,pQ,M.Item.en,EN,b14,q17,q18,q19,b22,f26,f27,f28,f29,f30,f31,f32,f33,f34,b35,q38,q39,q40,b43]
  refine ⟨by (have hb:=aAA h47);simp [M.Item.en,List.length_append] at hb ⊢ <;> omega,?_⟩
  try simp +decide only [E,reduceIte,Nat.reduceAdd,Nat.reduceMul,Bool.not_true,Bool.not_false,←List.map_take,←List.map_drop,L,aCL,pQ,M.Item.en,EN,b14,q17,q18,q19,b22,f26,f27,f28,f29,f30,f31,f32,f33,f34,b35,q38,q39,q40,b43]
  exact Is.mk _
 refine ab (an ?_)
 refine cu (fun s=>s.t 1=vS p1∧s.t 5=vR 100011 (u11+1)∧s.t 13=vL M.Item.en p0.Items∧s.t 14=vI (List.length p0.Items:Int)∧s.t 15=vI v15∧s.h 100011=((u11+1),oW 357 4 M.Item.en (List.take v10_L2.toNat r11++([x44]++List.drop v10_L2.toNat r11)))∧True) ?_
 rintro s48 ⟨f49,f50,f51,f52,f53,f54,_⟩
 refine rn ?_
 refine xY ⟨mL1,by omega,(i64.wrap (v15+1)),(List.take v10_L2.toNat r11++([x44]++List.drop v10_L2.toNat r11)),(u11+1),?_,?_,?_,?_,?_,?_,h⟩
 all_goals simp +decide only [F,reduceIte,Nat.reduceAdd,Bool.not_true,Bool.not_false,EN, *,-h]
instance:bG 437 (type_of% @aUQ):=⟨@aUQ⟩
theorem aQu (p0 p1 r) (h:gY p0 p1=some r):Sc 384 [aX (M.aE.en p0),aS p1] [(true,M.Key.rs r.1),(true,M.Key.rs r.2.1),rB r.2.2]:=by
 have i1:=fun (x1:(List M.Item))=>inv fun m s=>∃v8:Int,(s.t 1=vS p1∧s.t 4=vP 4 1 0∧s.t 5=vP 5 1 0∧s.t 7=vR 100015 1∧s.t 8=vI v8∧s.h 4=(1,oB 174 [cI 0,cI 0,cS (⟨#[]⟩:ByteArray)])∧s.h 5=(1,oB 174 [cI 0,cI 0,cS (⟨#[]⟩:ByteArray)])∧s.h 100015=(1,oW 357 4 M.Item.en x1))∧eS p1 x1 m v8=some r
 have e1:=@eS.eq_2
 unfold gY at h
 exact sgo 59 [.cell 4 174,.cell 5 174,.tmp 6] Tryz.func384
instance:bG 384 (type_of% @aQu):=⟨@aQu⟩
theorem aTC (p0 r) (h:pY p0=some r):Sc 320 [aX (M.Database.en p0)] [rB r]:=by
 unfold pY at h
 simp only [EN]
 refine sgn 103 [.tmp 2] Tryz.func320 fun base wd => ?_
 refine sq (rn ?_)
 refine an (sq (sq ?_))
 obtain ⟨x1,h2,h⟩:=bind_some h
 rcases bO (!x1) with b3 | b3
 ·replace h:=bB b3 h
  refine rn1 (aNy _ _ h2) ?_
  refine an (ct (sq (rn ?_)))
  refine an (rt ?_)
  cases h
  simp [Ret,TB,EN, *]
 replace h:=bA b3 h
 obtain ⟨x4,h5,h⟩:=bind_some h
 rcases bO (!x4) with b6 | b6
 ·replace h:=bB b6 h
  refine rn2 (aNy _ _ h2) (aN3 _ _ _ _ h5) ?_
  refine an (ct (sq (rn ?_)))
  refine an (rt ?_)
  cases h
  simp [Ret,TB,EN, *]
 replace h:=bA b6 h
 rcases bO (decide ((List.length p0.Stores:Int)>4)) with b7 | b7
 ·replace h:=bB b7 h
  refine rn2 (aNy _ _ h2) (aN3 _ _ _ _ h5) ?_
  refine an (ct (sq (rn ?_)))
  refine an (rt ?_)
  cases h
  simp [Ret,TB,EN, *]
 replace h:=bA b7 h
 refine rn2 (aNy _ _ h2) (aN3 _ _ _ _ h5) ?_
 refine an ?_
 rcases bO (decide ((List.length p0.Unique:Int)>4)) with b8 | b8
 ·replace h:=bB b8 h
  refine ct (sq (rn ?_))
  refine an (rt ?_)
  cases h
  simp [Ret,TB,EN, *]
 replace h:=bA b8 h
 refine cf (sk (an (sq (sq (rn ?_)))))
 refine an (bk ?_)
 refine kX (fun m s=>∃v36:Int,s.t 1=vP 1 1 0∧s.t 34=vL M.aE.en p0.Stores∧s.t 35=vI (List.length p0.Stores:Int)∧s.t 36=vI v36∧s.h 1=(1,oX 114 (M.Database.en p0))∧dA p0 m v36=some r) fuel ?_ ?_
 ·refine ⟨0,?_,?_,?_,?_,?_,h⟩
  all_goals simp +decide only [F,reduceIte,Nat.reduceAdd,Bool.not_true,Bool.not_false,EN, *,-h]
 rintro mL1 s9 ⟨v36,f10,f11,f12,f13,f14,h⟩
 rcases mL1 with _ | mL1
 ·exact absurd h (by simp [dA])
 simp only [dA] at h
 refine sq (rn ?_)
 refine an (sq ?_)
 rcases bO (decide (v36<(List.length p0.Stores:Int))) with b15 | b15
 ·replace h:=bB b15 h
  refine ct (sk (an (sq (bk (sq ?_)))))
  obtain ⟨x16,h17,h⟩:=bind_some h
  obtain ⟨q18,q19,q20⟩:=aR h17
  refine rn ?_
  refine an (sq ?_)
  obtain ⟨x21,h22,h⟩:=bind_some h
  rcases bO (!x21) with b23 | b23
  ·replace h:=bB b23 h
   refine rd1 mixed (aJ1 _ _ h22) ?_
   refine an (ct (sq (rn ?_)))
   refine an (rt ?_)
   cases h
   simp [Ret,TB,EN, *]
  replace h:=bA b23 h
  rcases rQ (decide (v36>0)) with b24 | b24
  ·replace h:=bA b24 h
   refine rd1 mixed (aJ1 _ _ h22) ?_
   refine an (cf (sk (ab (an (rn ?_)))))
   refine xY ⟨mL1,by omega,(i64.wrap (v36+1)),?_,?_,?_,?_,?_,h⟩
   all_goals simp +decide only [F,reduceIte,Nat.reduceAdd,Bool.not_true,Bool.not_false,EN, *,-h]
  replace h:=bB b24 h
  obtain ⟨x25,h26,h⟩:=bind_some h
  obtain ⟨q27,q28,q29⟩:=aR h26
  refine rd1 mixed (aJ1 _ _ h22) ?_
  refine an ?_
  rcases bO (Op.bytesLess x16.Name.toList x25.Name.toList||x16.Name.toList==x25.Name.toList) with b30 | b30
  ·replace h:=bB b30 h
   refine ct (sq (rn ?_))
   refine an (rt ?_)
   cases h
   simp [Ret,TB,EN, *]
  replace h:=bA b30 h
  refine cf (sk (ab (an (rn ?_))))
  refine xY ⟨mL1,by omega,(i64.wrap (v36+1)),?_,?_,?_,?_,?_,h⟩
  all_goals simp +decide only [F,reduceIte,Nat.reduceAdd,Bool.not_true,Bool.not_false,EN, *,-h]
 replace h:=bA b15 h
 refine cf (xt (jD (jY (uX (an (sq (sq (rn ?_))))))))
 refine an (bk ?_)
 refine kX (fun m s=>∃v64:Int,s.t 1=vP 1 1 0∧s.t 62=vL M.aD.en p0.Unique∧s.t 63=vI (List.length p0.Unique:Int)∧s.t 64=vI v64∧s.h 1=(1,oX 114 (M.Database.en p0))∧dC p0 m v64=some r) fuel ?_ ?_
 ·refine ⟨0,?_,?_,?_,?_,?_,h⟩
  all_goals simp +decide only [F,reduceIte,Nat.reduceAdd,Bool.not_true,Bool.not_false,EN, *,-h]
 rintro mL2 s31 ⟨v64,f32,f33,f34,f35,f36,h⟩
 rcases mL2 with _ | mL2
 ·exact absurd h (by simp [dC])
 simp only [dC] at h
 refine sq (rn ?_)
 refine an (sq ?_)
 rcases rQ (decide (v64<(List.length p0.Unique:Int))) with b37 | b37
 ·replace h:=bA b37 h
  refine cf (xt (jD (jY (uX (an (sq (rn ?_)))))))
  refine an (rt ?_)
  cases h
  simp [Ret,TB,EN, *]
 replace h:=bB b37 h
 refine ct (sk (an (sq (bk (sq ?_)))))
 obtain ⟨x38,h39,h⟩:=bind_some h
 obtain ⟨q40,q41,q42⟩:=aR h39
 refine rn ?_
 refine an (sq ?_)
 obtain ⟨x43,h44,h⟩:=bind_some h
 refine rn1 (aQL _ _ _ h44) ?_
 refine an (sq (sq ?_))
 rcases bO (decide (x43<0)) with b45 | b45
 ·replace h:=bB b45 h
  refine rd mixed ?_
  refine an (ct (sq (rn ?_)))
  refine an (rt ?_)
  cases h
  simp [Ret,TB,EN, *]
 replace h:=bA b45 h
 obtain ⟨x46,h47,h⟩:=bind_some h
 rcases bO (!x46) with b48 | b48
 ·replace h:=bB b48 h
  refine rd1 mixed (aNy _ _ h47) ?_
  refine an (ct (sq (rn ?_)))
  refine an (rt ?_)
  cases h
  simp [Ret,TB,EN, *]
 replace h:=bA b48 h
 obtain ⟨x49,h50,h⟩:=bind_some h
 obtain ⟨x51,h52,h⟩:=bind_some h
 apply aBC mixed
 ·simp +decide only [E,reduceIte,Nat.reduceAdd,Nat.reduceMul,Bool.not_true,Bool.not_false,←List.map_take,←List.map_drop,L,ti9,aLU,aLc,aLY,M.aD.en,EN,b3,b6,b7,b8,b15,f32,f33,f34,f35,f36,b37,q40,q41,q42,b45,b48]
  refine ⟨_,aNy _ _ h47,?_⟩
  try simp +decide only [E,reduceIte,Nat.reduceAdd,Nat.reduceMul,Bool.not_true,Bool.not_false,←List.map_take,←List.map_drop,L,ti9,aLU,aLc,aLY,M.aD.en,EN,b3,b6,b7,b8,b15,f32,f33,f34,f35,f36,b37,q40,q41,q42,b45,b48]
  refine ⟨by first | exact xK (f:=M.aD.en) (n:=2) (fun _=>rfl) h50 | exact (xK (f:=M.aD.en) (n:=2) (fun _=>rfl) h50).2 | exact (xK (f:=M.aD.en) (n:=2) (fun _=>rfl) h50).2.2,?_⟩
  try simp +decide only [E,reduceIte,Nat.reduceAdd,Nat.reduceMul,Bool.not_true,Bool.not_false,←List.map_take,←List.map_drop,L,ti9,aLU,aLc,aLY,M.aD.en,EN,b3,b6,b7,b8,b15,f32,f33,f34,f35,f36,b37,q40,q41,q42,b45,b48]
  refine ⟨_,aQt _ _ _ h52,?_⟩
  try simp +decide only [E,reduceIte,Nat.reduceAdd,Nat.reduceMul,Bool.not_true,Bool.not_false,←List.map_take,←List.map_drop,L,ti9,aLU,aLc,aLY,M.aD.en,EN,b3,b6,b7,b8,b15,f32,f33,f34,f35,f36,b37,q40,q41,q42,b45,b48]
  exact ⟨.mk (by decide +kernel),Is.mk _⟩
 refine an ?_
 rcases bO x51 with b53 | b53
 ·replace h:=bB b53 h
  refine ct (sq (rn ?_))
  refine an (rt ?_)
  cases h
  simp [Ret,TB,EN, *]
 replace h:=bA b53 h
 refine cf (sk (an (sq ?_)))
 obtain ⟨x54,h55,h⟩:=bind_some h
 obtain ⟨q56,q57,q58⟩:=aR h55
 obtain ⟨x59,h60,h⟩:=bind_some h
 refine rd1 mixed (aQu _ _ _ h60) ?_
 refine an (sq (rn ?_))
 refine an ?_
 rcases bO x59.2.2 with b61 | b61
 ·replace h:=bB b61 h
  refine ct (sq (rn ?_))
  refine an (rt ?_)
  cases h
  simp [Ret,TB,EN, *]
 replace h:=bA b61 h
 refine cf (sk (ab (an (rn ?_))))
 refine xY ⟨mL2,by omega,(i64.wrap (v64+1)),?_,?_,?_,?_,?_,h⟩
 all_goals simp +decide only [F,reduceIte,Nat.reduceAdd,Bool.not_true,Bool.not_false,EN, *,-h]
instance:bG 320 (type_of% @aTC):=⟨@aTC⟩
theorem aS5 (p0 p1 r) (h:rG p0 p1=some r):Sc 439 [aX (M.Response.en p0),aB p1] [rI r]:=by
 unfold rG at h
 exact sgo 10 [.tmp 4] Tryz.func439
instance:bG 439 (type_of% @aS5):=⟨@aS5⟩
theorem aUZ (p0 r) (h:qV p0=some r):Sc 385 [aX (M.aU.en p0)] [rI r]:=by
 have i1:=inv fun m s=>∃v3:Int,∃v11:Int,(s.t 3=vI v3∧s.t 9=vL M.Cache.en p0.Caches∧s.t 10=vI (List.length p0.Caches:Int)∧s.t 11=vI v11)∧eH p0 m v3 v11=some r
 have e1:=@eH.eq_2
 have i2:=fun (v11:Int) (x7:M.Cache) (k13:Int→Int→Option Int)=>inv fun m s=>∃v3_L2:Int,∃v18_L2:Int,(s.t 3=vI v3_L2∧s.t 9=vL M.Cache.en p0.Caches∧s.t 10=vI (List.length p0.Caches:Int)∧s.t 11=vI v11∧s.t 16=vL M.Cached.en x7.Entries∧s.t 17=vI (List.length x7.Entries:Int)∧s.t 18=vI v18_L2)∧gS x7 k13 m v3_L2 v18_L2=some r
 have e2:=@gS.eq_2
 unfold qV at h
 exact sgo 34 [.tmp 2] Tryz.func385
instance:bG 385 (type_of% @aUZ):=⟨@aUZ⟩
theorem aRi (p0 r) (h:tY p0=some r):Sc 441 [aX (M.Key.en p0)] [rW 5 1 enB r]:=by
 unfold tY at h
 simp only [EN]
 refine sgn 34 [.tmp 2] Tryz.func441 fun base wd => ?_
 refine sq (rn ?_)
 refine an (sq (sq ?_))
 obtain ⟨x1,h2,h⟩:=bind_some h
 refine rn1 (aQK _ _ h2) ?_
 refine an ?_
 rcases bO (!x1) with b3 | b3
 ·replace h:=bB b3 h
  refine ct (sq (rn ?_))
  refine an (rt ?_)
  cases h
  simp [Ret,TB,EN, *]
 replace h:=bA b3 h
 refine cf (sk (an (sq (rn ?_))))
 refine an (sq (sq ?_))
 refine cu (fun s=>s.t 1=vP 1 1 0∧s.t 3=vR 100012 1∧s.h 1=(1,oX 174 (M.Key.en p0))∧s.h 100012=(1,oW 5 1 enB ([(IntKind.u8.wrap p0.Kind)]))∧True) ?_
 rintro s4 ⟨f5,f6,f7,f8,_⟩
 refine rn ?_
 refine an ?_
 rcases rQ (p0.Kind != 2) with b9 | b9
 ·replace h:=bA b9 h
  refine cf (sk (an (sq ?_)))
  obtain ⟨x28,h29,h⟩:=bind_some h
  refine rn1 h29 ?_
  refine an (rt ?_)
  cases h
  simp [Ret,TB,EN, *]
 replace h:=bB b9 h
 refine ct (sq (rn ?_))
 refine an (bk ?_)
 refine kX (fun m s=>∃v4:Int,∃r12:List Int,∃u12:Nat,s.t 1=vP 1 1 0∧s.t 3=vR 100012 u12∧s.t 4=vI v4∧s.h 1=(1,oX 174 (M.Key.en p0))∧s.h 100012=(u12,oW 5 1 enB r12)∧dO p0 m v4 r12=some r) fuel ?_ ?_
 ·refine ⟨5,([(IntKind.u8.wrap p0.Kind)]),1,?_,?_,?_,?_,?_,h⟩
  all_goals simp +decide only [F,reduceIte,Nat.reduceAdd,Bool.not_true,Bool.not_false,EN, *,-h]
 rintro mL1 s10 ⟨v4,r12,u12,f11,f12,f13,f14,f15,h⟩
 rcases mL1 with _ | mL1
 ·exact absurd h (by simp [dO])
 simp only [dO] at h
 refine sq (sq (rn ?_))
 refine an ?_
 rcases rQ (decide (v4≥0)) with b16 | b16
 ·replace h:=bA b16 h
  refine cf (xt (jD (jY (uX (an (sq ?_))))))
  obtain ⟨x26,h27,h⟩:=bind_some h
  refine rn1 h27 ?_
  refine an (rt ?_)
  cases h
  simp [Ret,TB,EN, *]
 replace h:=bB b16 h
 refine ct (sk (an (sq (bk ?_))))
 rcases rQ (decide (0≤(i64.wrap (8*v4)))) with b17 | b17
 ·replace h:=bA b17 h
  cases h
 replace h:=bB b17 h
 obtain ⟨x18,h19,h⟩:=bind_some h
 apply jC
 ·simp +decide only [E,reduceIte,Nat.reduceAdd,Nat.reduceMul,Bool.not_true,Bool.not_false,aJe,L,ti3,ti5,aOt,aEi,enB,EN,b3,b9,f11,f12,f13,f14,f15,b16,b17]
  refine ⟨by (have hb:=eI h19);simp [enB,List.length_append,aY] at hb ⊢ <;> omega,?_⟩
  try simp +decide only [E,reduceIte,Nat.reduceAdd,Nat.reduceMul,Bool.not_true,Bool.not_false,aJe,L,ti3,ti5,aOt,aEi,enB,EN,b3,b9,f11,f12,f13,f14,f15,b16,b17]
  exact Is.mk _
 refine ab (an ?_)
 refine cu (fun s=>s.t 1=vP 1 1 0∧s.t 3=vR 100012 (u12+1)∧s.t 4=vI v4∧s.h 1=(1,oX 174 (M.Key.en p0))∧s.h 100012=((u12+1),oW 5 1 enB (r12++[(IntKind.u8.wrap (Int.fdiv (i64.wrap (p0.N+1000000000000)) (2^(min (i64.wrap (8*v4)).toNat IntKind.i64.bits))))]))∧True) ?_
 rintro s20 ⟨f21,f22,f23,f24,f25,_⟩
 refine rn ?_
 refine xY ⟨mL1,by omega,(i64.wrap (v4-1)),(r12++[(IntKind.u8.wrap (Int.fdiv (i64.wrap (p0.N+1000000000000)) (2^(min (i64.wrap (8*v4)).toNat IntKind.i64.bits))))]),(u12+1),?_,?_,?_,?_,?_,h⟩
 all_goals simp +decide only [F,reduceIte,Nat.reduceAdd,Bool.not_true,Bool.not_false,EN, *,-h]
instance:bG 441 (type_of% @aRi):=⟨@aRi⟩
theorem aSy (p0 p1 r) (h:gR p0 p1=some r):Sc 469 [aL enB p0,aI p1] [rW 5 1 enB r]:=by
 have i1:=inv fun m s=>∃v1:Int,∃r7:List Int,∃u7:Nat,(s.t 1=vI v1∧s.t 5=vR 100007 u7∧s.h 100007=(u7,oW 5 1 enB r7))∧eW m v1 r7=some r
 have e1:=@eW.eq_2
 unfold gR at h
 exact sgo 28 [.tmp 4] Tryz.func469
instance:bG 469 (type_of% @aSy):=⟨@aSy⟩
theorem aTM (p0 p1 r) (h:pE p0 p1=some r):Sc 470 [aL enB p0,aL enB p1] [rW 5 1 enB r]:=by
 unfold pE at h
 exact sgo 11 [.tmp 4] Tryz.func470
instance:bG 470 (type_of% @aTM):=⟨@aTM⟩
theorem aRO (p0 r) (h:mX p0=some r):Sc 442 [aX (M.aH.en p0)] [rW 5 1 enB r]:=by
 have i1:=aJ0 [.t 3 7050000 5 1] fun m s=>∃v17:Int,∃r50000:List Int,∃u50000:Nat,(s.t 3=vR 7050000 u50000∧s.t 15=vL M.Field.en p0.Fields∧s.t 16=vI (List.length p0.Fields:Int)∧s.t 17=vI v17∧s.h 7050000=(u50000,oW 5 1 enB r50000))∧fR p0 m v17 r50000=some r
 have e1:=@fR.eq_2
 unfold mX at h
 exact sgo 31 [.tmp 2] Tryz.func442
instance:bG 442 (type_of% @aRO):=⟨@aRO⟩
theorem aUo (p0 r) (h:nY p0=some r):Sc 387 [aX (M.aE.en p0)] [rI r]:=by
 have i1:=inv fun m s=>∃v3:Int,∃v9:Int,(s.t 3=vI v3∧s.t 7=vL M.Item.en p0.Items∧s.t 8=vI (List.length p0.Items:Int)∧s.t 9=vI v9)∧hM p0 m v3 v9=some r
 have e1:=@hM.eq_2
 unfold nY at h
 exact sgo 26 [.tmp 2] Tryz.func387
instance:bG 387 (type_of% @aUo):=⟨@aUo⟩
theorem aR6 (p0 r) (h:mT p0=some r):Sc 440 [aX (M.Database.en p0)] [rI r]:=by
 have i1:=inv fun m s=>∃v3:Int,∃v9:Int,(s.t 3=vI v3∧s.t 7=vL M.aE.en p0.Stores∧s.t 8=vI (List.length p0.Stores:Int)∧s.t 9=vI v9)∧fM p0 m v3 v9=some r
 have e1:=@fM.eq_2
 unfold mT at h
 exact sgo 19 [.tmp 2] Tryz.func440
instance:bG 440 (type_of% @aR6):=⟨@aR6⟩
theorem aST (p0 r) (h:aAf p0=some r):Sc 386 [aX (M.bD.en p0)] [rI r]:=by
 unfold aAf at h
 exact sgo 10 [.tmp 2] Tryz.func386
instance:bG 386 (type_of% @aST):=⟨@aST⟩
theorem aSR (p0 r) (h:yN p0=some r):Sc 321 [aX (M.aA.en p0)] [rI r]:=by
 unfold yN at h
 exact sgo 23 [.tmp 2] Tryz.func321
instance:bG 321 (type_of% @aSR):=⟨@aSR⟩
theorem aTk (p0 r) (h:jZ p0=some r):Sc 235 [aX (M.aA.en p0)] [rB r]:=by
 unfold jZ at h
 exact sgo 50 [.tmp 2] Tryz.func235
instance:bG 235 (type_of% @aTk):=⟨@aTk⟩
theorem aUk (p0 p1 r) (h:lI p0 p1=some r):Sc 219 [aX (M.aA.en p0),aX (M.aA.en p1)] [(true,M.aA.rs r.1),rB r.2]:=by
 unfold lI at h
 exact sgo 18 [.cell 4 124,.tmp 5] Tryz.func219
instance:bG 219 (type_of% @aUk):=⟨@aUk⟩
theorem c99 (p0 p1 r) (h:jX p0 p1=some r):Sc 99 [aX (M.aA.en p0),aX (M.aC.en p1)] [(true,M.aA.rs r.1),rB r.2]:=by
 unfold jX at h
 exact sgo 15 [.cell 4 124,.tmp 5] Tryz.func99
instance:bG 99 (type_of% @c99):=⟨@c99⟩
theorem aQ4 (p0 p1 r) (h:jS p0 p1=some r):Sc 221 [aX (M.aA.en p0),aX (M.aA.en p1)] [rB r]:=by
 unfold jS at h
 exact sgo 24 [.tmp 4] Tryz.func221
instance:bG 221 (type_of% @aQ4):=⟨@aQ4⟩
theorem aMv (p0 r) (h:cD p0=some r):Sc 156 [aX (M.aF.en p0)] [rB r]:=by
 have i1:=inv fun m s=>∃v8:Int,(s.t 1=vP 1 1 0∧s.t 6=vL M.aA.en p0.Buckets∧s.t 7=vI (List.length p0.Buckets:Int)∧s.t 8=vI v8∧s.h 1=(1,oX 26 (M.aF.en p0)))∧eX p0 m v8=some r
 have e1:=@eX.eq_2
 unfold cD at h
 exact sgo 36 [.tmp 2] Tryz.func156
instance:bG 156 (type_of% @aMv):=⟨@aMv⟩
end Go.Proofs.YtnhpbpnhmapeeaaGreat.gen
