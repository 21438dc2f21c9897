/-
  Helper text. No conditions.
-/
import Derived.Test.YtnhpbpnhmapeeaaGreatClosePageTi
import Derived.Test.YtnhpbpnhmapeeaaGreatClosePageWimpl0
import Derived.Test.YtnhpbpnhmapeeaaGreatClosePageWlib
namespace Go.Proofs.YtnhpbpnhmapeeaaGreat.gen
open Go Go.Sh
open Go.IntKind (i64)
set_option linter.unusedVariables false
set_option linter.unusedSimpArgs false
set_option maxRecDepth 20000
set_option maxHeartbeats 4000000
theorem aTv (p0 p1 r) (h:yH p0 p1=some r):Sc 437 [aX (M.aH.en p0),aS p1] [rW 357 4 M.Item.en r]:=by
 unfold yH at h
 simp only [EN]
 refine sgn 52 [.tmp 4] Tryz.func437 fun base wd => ?_
 refine sq (rn ?_)
 refine an (sq (rn ?_))
 refine an (sq (sq ?_))
 refine cu (fun s=>s.t 1=vS p1∧s.t 2=vP 2 1 0∧s.t 5=vR 100011 1∧s.h 2=(1,oX 98 (M.aH.en p0))∧s.h 100011=(1,oW 357 4 M.Item.en ([]:List M.Item))∧True) ?_
 rintro s1 ⟨f2,f3,f4,f5,f6,_⟩
 refine rn ?_
 refine an (bk ?_)
 refine jY (fun m s=>∃v15:Int,∃r11:List M.Item,∃u11:Nat,s.t 1=vS p1∧s.t 5=vR 100011 u11∧s.t 13=vL M.Item.en p0.Items∧s.t 14=vI (List.length p0.Items:Int)∧s.t 15=vI v15∧s.h 100011=(u11,oW 357 4 M.Item.en r11)∧gJ p0 p1 m v15 r11=some r) fuel ?_ ?_
 ·refine ⟨0,([]:List M.Item),1,?_,?_,?_,?_,?_,?_,h⟩
  all_goals simp +decide only [F,reduceIte,Nat.reduceAdd,Bool.not_true,Bool.not_false,EN, *,-h]
 rintro mL1 s7 ⟨v15,r11,u11,f8,f9,f10,f11,f12,f13,h⟩
 rcases mL1 with _ | mL1
 ·exact absurd h (by simp [gJ])
 simp only [gJ] at h
 refine sq (rn ?_)
 refine an (sq ?_)
 rcases aA5 (decide (v15<(List.length p0.Items:Int))) with b14 | b14
 ·replace h:=bH b14 h
  refine cf (xt (lO (nE (yR (an (sq (rn ?_)))))))
  refine an (rt ?_)
  cases h
  simp [Ret,TB,EN, *]
 replace h:=bI b14 h
 refine ct (sk (an (sq (bk (sq ?_)))))
 obtain ⟨x15,h16,h⟩:=bind_some h
 obtain ⟨q17,q18,q19⟩:=aR h16
 refine rn ?_
 refine an (sq (sq ?_))
 obtain ⟨x20,h21,h⟩:=bind_some h
 refine rn1 (aQG _ _ _ h21) ?_
 refine an (sq (rn ?_))
 refine an ?_
 rcases cU (!x20.2) with b22 | b22
 ·replace h:=bI b22 h
  refine ct (xt (lO (yR (an (rn ?_)))))
  refine rQ ⟨mL1,by omega,(i64.wrap (v15+1)),r11,u11,?_,?_,?_,?_,?_,?_,h⟩
  all_goals simp +decide only [F,reduceIte,Nat.reduceAdd,Bool.not_true,Bool.not_false,EN, *,-h]
 replace h:=bH b22 h
 refine cf (sk (an (sq (rn ?_))))
 refine an (sq (bk ?_))
 obtain ⟨k24,e25,h⟩:=aPz (f:=fun kk=>gN p1 r11 x15 kk fuel (List.length r11:Int)) h
 refine jY (fun m s=>∃v10_L2:Int,s.t 1=vS p1∧s.t 5=vR 100011 u11∧s.t 7=vP 7 ((s7.h 7).1+1) 0∧s.t 10=vI v10_L2∧s.t 13=vL M.Item.en p0.Items∧s.t 14=vI (List.length p0.Items:Int)∧s.t 15=vI v15∧s.h 7=(((s7.h 7).1+1),oX 357 (M.Item.en x15))∧s.h 100011=(u11,oW 357 4 M.Item.en r11)∧gN p1 r11 x15 k24 m v10_L2=some r) fuel ?_ ?_
 ·refine ⟨(List.length r11:Int),?_,?_,?_,?_,?_,?_,?_,?_,?_,h⟩
  all_goals simp +decide only [F,reduceIte,Nat.reduceAdd,Bool.not_true,Bool.not_false,EN, *,-h]
 rintro mL2 s23 ⟨v10_L2,f26,f27,f28,f29,f30,f31,f32,f33,f34,h⟩
 rcases mL2 with _ | mL2
 ·exact absurd h (by simp [gN])
 simp only [gN] at h
 refine sq (sq ?_)
 rcases aA5 (decide (v10_L2>0)) with b35 | b35
 ·replace h:=bH b35 h
  refine rd mixed ?_
  refine an (cf (xt (lO ?_)))
  subst e25
  refine nE (yR (an ?_))
  obtain ⟨x55,h56,h⟩:=bind_some h
  obtain ⟨x57,h58,h⟩:=bind_some h
  apply gS
  ·simp +decide only [E,reduceIte,Nat.reduceAdd,Nat.reduceMul,Bool.not_true,Bool.not_false,←List.map_take,←List.map_drop,L,aHD,aBl,M.Item.en,EN,b14,q17,q18,q19,b22,f26,f27,f28,f29,f30,f31,f32,f33,f34,b35]
   refine ⟨_,aPa _ _ h56,?_⟩
   try simp +decide only [E,reduceIte,Nat.reduceAdd,Nat.reduceMul,Bool.not_true,Bool.not_false,←List.map_take,←List.map_drop,L,aHD,aBl,M.Item.en,EN,b14,q17,q18,q19,b22,f26,f27,f28,f29,f30,f31,f32,f33,f34,b35]
   refine ⟨_,L376.aOn _,?_⟩
   try simp +decide only [E,reduceIte,Nat.reduceAdd,Nat.reduceMul,Bool.not_true,Bool.not_false,←List.map_take,←List.map_drop,L,aHD,aBl,M.Item.en,EN,b14,q17,q18,q19,b22,f26,f27,f28,f29,f30,f31,f32,f33,f34,b35]
   refine ⟨by (have hb:=aHg h58);simp [M.Item.en,List.length_append] at hb ⊢ <;> omega,?_⟩
   try simp +decide only [E,reduceIte,Nat.reduceAdd,Nat.reduceMul,Bool.not_true,Bool.not_false,←List.map_take,←List.map_drop,L,aHD,aBl,M.Item.en,EN,b14,q17,q18,q19,b22,f26,f27,f28,f29,f30,f31,f32,f33,f34,b35]
   exact Is.mk _
  refine ab (an ?_)
  refine cu (fun s=>s.t 1=vS p1∧s.t 5=vR 100011 (u11+1)∧s.t 13=vL M.Item.en p0.Items∧s.t 14=vI (List.length p0.Items:Int)∧s.t 15=vI v15∧s.h 100011=((u11+1),oW 357 4 M.Item.en (List.take v10_L2.toNat r11++([x55]++List.drop v10_L2.toNat r11)))∧True) ?_
  rintro s59 ⟨f60,f61,f62,f63,f64,f65,_⟩
  refine rn ?_
  refine rQ ⟨mL1,by omega,(i64.wrap (v15+1)),(List.take v10_L2.toNat r11++([x55]++List.drop v10_L2.toNat r11)),(u11+1),?_,?_,?_,?_,?_,?_,h⟩
  all_goals simp +decide only [F,reduceIte,Nat.reduceAdd,Bool.not_true,Bool.not_false,EN, *,-h]
 replace h:=bI b35 h
 obtain ⟨x36,h37,h⟩:=bind_some h
 obtain ⟨q38,q39,q40⟩:=aR h37
 obtain ⟨x41,h42,h⟩:=bind_some h
 refine rd1 mixed (aQJ _ _ _ _ h42) ?_
 refine an ?_
 rcases cU x41 with b43 | b43
 ·replace h:=bI b43 h
  refine ct (sk (an (bk (rn ?_))))
  refine ab ?_
  refine rQ ⟨mL2,by omega,(i64.wrap (v10_L2-1)),?_,?_,?_,?_,?_,?_,?_,?_,?_,h⟩
  all_goals simp +decide only [F,reduceIte,Nat.reduceAdd,Bool.not_true,Bool.not_false,EN, *,-h]
 replace h:=bH b43 h
 refine cf (xt (lO ?_))
 subst e25
 refine nE (yR (an ?_))
 obtain ⟨x44,h45,h⟩:=bind_some h
 obtain ⟨x46,h47,h⟩:=bind_some h
 apply gS
 ·simp +decide only [E,reduceIte,Nat.reduceAdd,Nat.reduceMul,Bool.not_true,Bool.not_false,←List.map_take,←List.map_drop,L,aHD,aBl,M.Item.en,EN,b14,q17,q18,q19,b22,f26,f27,f28,f29,f30,f31,f32,f33,f34,b35,q38,q39,q40,b43]
  refine ⟨_,aPa _ _ h45,?_⟩
  try simp +decide only [E,reduceIte,Nat.reduceAdd,Nat.reduceMul,Bool.not_true,Bool.not_false,←List.map_take,←List.map_drop,L,aHD,aBl,M.Item.en,EN,b14,q17,q18,q19,b22,f26,f27,f28,f29,f30,f31,f32,f33,f34,b35,q38,q39,q40,b43]
  refine ⟨_,L376.aOn _,?_⟩
  try simp +decide only [E,reduceIte,Nat.reduceAdd,Nat.reduceMul,Bool.not_true,Bool.not_false,←List.map_take,←List.map_drop,L,aHD,aBl,M.Item.en,EN,b14,q17,q18,q19,b22,f26,f27,f28,f29,f30,f31,f32,f33,f34,b35,q38,q39,q40,b43]
  refine ⟨by (have hb:=aHg h47);simp [M.Item.en,List.length_append] at hb ⊢ <;> omega,?_⟩
  try simp +decide only [E,reduceIte,Nat.reduceAdd,Nat.reduceMul,Bool.not_true,Bool.not_false,←List.map_take,←List.map_drop,L,aHD,aBl,M.Item.en,EN,b14,q17,q18,q19,b22,f26,f27,f28,f29,f30,f31,f32,f33,f34,b35,q38,q39,q40,b43]
  exact Is.mk _
 refine ab (an ?_)
 refine cu (fun s=>s.t 1=vS p1∧s.t 5=vR 100011 (u11+1)∧s.t 13=vL M.Item.en p0.Items∧s.t 14=vI (List.length p0.Items:Int)∧s.t 15=vI v15∧s.h 100011=((u11+1),oW 357 4 M.Item.en (List.take v10_L2.toNat r11++([x44]++List.drop v10_L2.toNat r11)))∧True) ?_
 rintro s48 ⟨f49,f50,f51,f52,f53,f54,_⟩
 refine rn ?_
 refine rQ ⟨mL1,by omega,(i64.wrap (v15+1)),(List.take v10_L2.toNat r11++([x44]++List.drop v10_L2.toNat r11)),(u11+1),?_,?_,?_,?_,?_,?_,h⟩
 all_goals simp +decide only [F,reduceIte,Nat.reduceAdd,Bool.not_true,Bool.not_false,EN, *,-h]
instance:bD 437 (type_of% @aTv):=⟨@aTv⟩
theorem aQF (p0 p1 r) (h:hH p0 p1=some r):Sc 384 [aX (M.aH.en p0),aS p1] [(true,M.Key.rs r.1),(true,M.Key.rs r.2.1),rB r.2.2]:=by
 have i1:=fun (x1:(List M.Item))=>inv fun m s=>∃v8:Int,(s.t 1=vS p1∧s.t 4=vP 4 1 0∧s.t 5=vP 5 1 0∧s.t 7=vR 100015 1∧s.t 8=vI v8∧s.h 4=(1,oB 174 [cI 0,cI 0,cS (⟨#[]⟩:ByteArray)])∧s.h 5=(1,oB 174 [cI 0,cI 0,cS (⟨#[]⟩:ByteArray)])∧s.h 100015=(1,oW 357 4 M.Item.en x1))∧eX p1 x1 m v8=some r
 have e1:=@eX.eq_2
 unfold hH at h
 exact sgo 59 [.cell 4 174,.cell 5 174,.tmp 6] Tryz.func384
instance:bD 384 (type_of% @aQF):=⟨@aQF⟩
theorem aSc (p0 r) (h:pQ p0=some r):Sc 320 [aX (M.Database.en p0)] [rB r]:=by
 unfold pQ at h
 simp only [EN]
 refine sgn 103 [.tmp 2] Tryz.func320 fun base wd => ?_
 refine sq (rn ?_)
 refine an (sq (sq ?_))
 obtain ⟨x1,h2,h⟩:=bind_some h
 rcases cU (!x1) with b3 | b3
 ·replace h:=bI b3 h
  refine rn1 (aNY _ _ h2) ?_
  refine an (ct (sq (rn ?_)))
  refine an (rt ?_)
  cases h
  simp [Ret,TB,EN, *]
 replace h:=bH b3 h
 obtain ⟨x4,h5,h⟩:=bind_some h
 rcases cU (!x4) with b6 | b6
 ·replace h:=bI b6 h
  refine rn2 (aNY _ _ h2) (aM4 _ _ _ _ h5) ?_
  refine an (ct (sq (rn ?_)))
  refine an (rt ?_)
  cases h
  simp [Ret,TB,EN, *]
 replace h:=bH b6 h
 rcases cU (decide ((List.length p0.Stores:Int)>4)) with b7 | b7
 ·replace h:=bI b7 h
  refine rn2 (aNY _ _ h2) (aM4 _ _ _ _ h5) ?_
  refine an (ct (sq (rn ?_)))
  refine an (rt ?_)
  cases h
  simp [Ret,TB,EN, *]
 replace h:=bH b7 h
 refine rn2 (aNY _ _ h2) (aM4 _ _ _ _ h5) ?_
 refine an ?_
 rcases cU (decide ((List.length p0.Unique:Int)>4)) with b8 | b8
 ·replace h:=bI b8 h
  refine ct (sq (rn ?_))
  refine an (rt ?_)
  cases h
  simp [Ret,TB,EN, *]
 replace h:=bH b8 h
 refine cf (sk (an (sq (sq (rn ?_)))))
 refine an (bk ?_)
 refine jY (fun m s=>∃v36:Int,s.t 1=vP 1 1 0∧s.t 34=vL M.aH.en p0.Stores∧s.t 35=vI (List.length p0.Stores:Int)∧s.t 36=vI v36∧s.h 1=(1,oX 114 (M.Database.en p0))∧dC p0 m v36=some r) fuel ?_ ?_
 ·refine ⟨0,?_,?_,?_,?_,?_,h⟩
  all_goals simp +decide only [F,reduceIte,Nat.reduceAdd,Bool.not_true,Bool.not_false,EN, *,-h]
 rintro mL1 s9 ⟨v36,f10,f11,f12,f13,f14,h⟩
 rcases mL1 with _ | mL1
 ·exact absurd h (by simp [dC])
 simp only [dC] at h
 refine sq (rn ?_)
 refine an (sq ?_)
 rcases cU (decide (v36<(List.length p0.Stores:Int))) with b15 | b15
 ·replace h:=bI b15 h
  refine ct (sk (an (sq (bk (sq ?_)))))
  obtain ⟨x16,h17,h⟩:=bind_some h
  obtain ⟨q18,q19,q20⟩:=aR h17
  refine rn ?_
  refine an (sq ?_)
  obtain ⟨x21,h22,h⟩:=bind_some h
  rcases cU (!x21) with b23 | b23
  ·replace h:=bI b23 h
   refine rd1 mixed (aOk _ _ h22) ?_
   refine an (ct (sq (rn ?_)))
   refine an (rt ?_)
   cases h
   simp [Ret,TB,EN, *]
  replace h:=bH b23 h
  rcases aA5 (decide (v36>0)) with b24 | b24
  ·replace h:=bH b24 h
   refine rd1 mixed (aOk _ _ h22) ?_
   refine an (cf (sk (ab (an (rn ?_)))))
   refine rQ ⟨mL1,by omega,(i64.wrap (v36+1)),?_,?_,?_,?_,?_,h⟩
   all_goals simp +decide only [F,reduceIte,Nat.reduceAdd,Bool.not_true,Bool.not_false,EN, *,-h]
  replace h:=bI b24 h
  obtain ⟨x25,h26,h⟩:=bind_some h
  obtain ⟨q27,q28,q29⟩:=aR h26
  refine rd1 mixed (aOk _ _ h22) ?_
  refine an ?_
  rcases cU (Op.bytesLess x16.Name.toList x25.Name.toList||x16.Name.toList==x25.Name.toList) with b30 | b30
  ·replace h:=bI b30 h
   refine ct (sq (rn ?_))
   refine an (rt ?_)
   cases h
   simp [Ret,TB,EN, *]
  replace h:=bH b30 h
  refine cf (sk (ab (an (rn ?_))))
  refine rQ ⟨mL1,by omega,(i64.wrap (v36+1)),?_,?_,?_,?_,?_,h⟩
  all_goals simp +decide only [F,reduceIte,Nat.reduceAdd,Bool.not_true,Bool.not_false,EN, *,-h]
 replace h:=bH b15 h
 refine cf (xt (lO (nE (yR (an (sq (sq (rn ?_))))))))
 refine an (bk ?_)
 refine jY (fun m s=>∃v64:Int,s.t 1=vP 1 1 0∧s.t 62=vL M.aA.en p0.Unique∧s.t 63=vI (List.length p0.Unique:Int)∧s.t 64=vI v64∧s.h 1=(1,oX 114 (M.Database.en p0))∧dE p0 m v64=some r) fuel ?_ ?_
 ·refine ⟨0,?_,?_,?_,?_,?_,h⟩
  all_goals simp +decide only [F,reduceIte,Nat.reduceAdd,Bool.not_true,Bool.not_false,EN, *,-h]
 rintro mL2 s31 ⟨v64,f32,f33,f34,f35,f36,h⟩
 rcases mL2 with _ | mL2
 ·exact absurd h (by simp [dE])
 simp only [dE] at h
 refine sq (rn ?_)
 refine an (sq ?_)
 rcases aA5 (decide (v64<(List.length p0.Unique:Int))) with b37 | b37
 ·replace h:=bH b37 h
  refine cf (xt (lO (nE (yR (an (sq (rn ?_)))))))
  refine an (rt ?_)
  cases h
  simp [Ret,TB,EN, *]
 replace h:=bI b37 h
 refine ct (sk (an (sq (bk (sq ?_)))))
 obtain ⟨x38,h39,h⟩:=bind_some h
 obtain ⟨q40,q41,q42⟩:=aR h39
 refine rn ?_
 refine an (sq ?_)
 obtain ⟨x43,h44,h⟩:=bind_some h
 refine rn1 (aPg _ _ _ h44) ?_
 refine an (sq (sq ?_))
 rcases cU (decide (x43<0)) with b45 | b45
 ·replace h:=bI b45 h
  refine rd mixed ?_
  refine an (ct (sq (rn ?_)))
  refine an (rt ?_)
  cases h
  simp [Ret,TB,EN, *]
 replace h:=bH b45 h
 obtain ⟨x46,h47,h⟩:=bind_some h
 rcases cU (!x46) with b48 | b48
 ·replace h:=bI b48 h
  refine rd1 mixed (aNY _ _ h47) ?_
  refine an (ct (sq (rn ?_)))
  refine an (rt ?_)
  cases h
  simp [Ret,TB,EN, *]
 replace h:=bH b48 h
 obtain ⟨x49,h50,h⟩:=bind_some h
 obtain ⟨x51,h52,h⟩:=bind_some h
 apply aEq mixed
 ·simp +decide only [E,reduceIte,Nat.reduceAdd,Nat.reduceMul,Bool.not_true,Bool.not_false,←List.map_take,←List.map_drop,L,ti9,aLC,aLN,aLI,M.aA.en,EN,b3,b6,b7,b8,b15,f32,f33,f34,f35,f36,b37,q40,q41,q42,b45,b48]
  refine ⟨_,aNY _ _ h47,?_⟩
  try simp +decide only [E,reduceIte,Nat.reduceAdd,Nat.reduceMul,Bool.not_true,Bool.not_false,←List.map_take,←List.map_drop,L,ti9,aLC,aLN,aLI,M.aA.en,EN,b3,b6,b7,b8,b15,f32,f33,f34,f35,f36,b37,q40,q41,q42,b45,b48]
  refine ⟨by first | exact xH (f:=M.aA.en) (n:=2) (fun _=>rfl) h50 | exact (xH (f:=M.aA.en) (n:=2) (fun _=>rfl) h50).2 | exact (xH (f:=M.aA.en) (n:=2) (fun _=>rfl) h50).2.2,?_⟩
  try simp +decide only [E,reduceIte,Nat.reduceAdd,Nat.reduceMul,Bool.not_true,Bool.not_false,←List.map_take,←List.map_drop,L,ti9,aLC,aLN,aLI,M.aA.en,EN,b3,b6,b7,b8,b15,f32,f33,f34,f35,f36,b37,q40,q41,q42,b45,b48]
  refine ⟨_,aQE _ _ _ h52,?_⟩
  try simp +decide only [E,reduceIte,Nat.reduceAdd,Nat.reduceMul,Bool.not_true,Bool.not_false,←List.map_take,←List.map_drop,L,ti9,aLC,aLN,aLI,M.aA.en,EN,b3,b6,b7,b8,b15,f32,f33,f34,f35,f36,b37,q40,q41,q42,b45,b48]
  exact ⟨.mk (by decide +kernel),Is.mk _⟩
 refine an ?_
 rcases cU x51 with b53 | b53
 ·replace h:=bI b53 h
  refine ct (sq (rn ?_))
  refine an (rt ?_)
  cases h
  simp [Ret,TB,EN, *]
 replace h:=bH b53 h
 refine cf (sk (an (sq ?_)))
 obtain ⟨x54,h55,h⟩:=bind_some h
 obtain ⟨q56,q57,q58⟩:=aR h55
 obtain ⟨x59,h60,h⟩:=bind_some h
 refine rd1 mixed (aQF _ _ _ h60) ?_
 refine an (sq (rn ?_))
 refine an ?_
 rcases cU x59.2.2 with b61 | b61
 ·replace h:=bI b61 h
  refine ct (sq (rn ?_))
  refine an (rt ?_)
  cases h
  simp [Ret,TB,EN, *]
 replace h:=bH b61 h
 refine cf (sk (ab (an (rn ?_))))
 refine rQ ⟨mL2,by omega,(i64.wrap (v64+1)),?_,?_,?_,?_,?_,h⟩
 all_goals simp +decide only [F,reduceIte,Nat.reduceAdd,Bool.not_true,Bool.not_false,EN, *,-h]
instance:bD 320 (type_of% @aSc):=⟨@aSc⟩
theorem aUa (p0 r) (h:iV p0=some r):Sc 263 [aX (M.aY.en p0)] [rB r]:=by
 unfold iV at h
 exact sgo 26 [.tmp 2] Tryz.func263
instance:bD 263 (type_of% @aUa):=⟨@aUa⟩
theorem aRC (p0 r) (h:vX p0=some r):Sc 305 [aX (M.aV.en p0)] [rB r]:=by
 have i1:=inv fun m s=>∃v12:Int,(s.t 1=vP 1 1 0∧s.t 3=vI (List.length p0.Writes:Int)∧s.t 10=vL M.aY.en p0.Writes∧s.t 11=vI (List.length p0.Writes:Int)∧s.t 12=vI v12∧s.h 1=(1,oX 118 (M.aV.en p0)))∧iO p0 m v12=some r
 have e1:=@iO.eq_2
 unfold vX at h
 exact sgo 51 [.tmp 2] Tryz.func305
instance:bD 305 (type_of% @aRC):=⟨@aRC⟩
theorem aTy (p0 r) (h:uD p0=some r):Sc 218 [aX (M.aD.en p0)] [rB r]:=by
 unfold uD at h
 exact sgo 23 [.tmp 2] Tryz.func218
instance:bD 218 (type_of% @aTy):=⟨@aTy⟩
theorem aSV (p0 p1 r) (h:qZ p0 p1=some r):Sc 439 [aX (M.Response.en p0),aB p1] [rI r]:=by
 unfold qZ at h
 exact sgo 10 [.tmp 4] Tryz.func439
instance:bD 439 (type_of% @aSV):=⟨@aSV⟩
theorem aT6 (p0 r) (h:qN p0=some r):Sc 385 [aX (M.aT.en p0)] [rI r]:=by
 have i1:=inv fun m s=>∃v3:Int,∃v11:Int,(s.t 3=vI v3∧s.t 9=vL M.Cache.en p0.Caches∧s.t 10=vI (List.length p0.Caches:Int)∧s.t 11=vI v11)∧eP p0 m v3 v11=some r
 have e1:=@eP.eq_2
 have i2:=fun (v11:Int) (x7:M.Cache) (k13:Int→Int→Option Int)=>inv fun m s=>∃v3_L2:Int,∃v18_L2:Int,(s.t 3=vI v3_L2∧s.t 9=vL M.Cache.en p0.Caches∧s.t 10=vI (List.length p0.Caches:Int)∧s.t 11=vI v11∧s.t 16=vL M.Cached.en x7.Entries∧s.t 17=vI (List.length x7.Entries:Int)∧s.t 18=vI v18_L2)∧gV x7 k13 m v3_L2 v18_L2=some r
 have e2:=@gV.eq_2
 unfold qN at h
 exact sgo 34 [.tmp 2] Tryz.func385
instance:bD 385 (type_of% @aT6):=⟨@aT6⟩
theorem aQ6 (p0 r) (h:tR p0=some r):Sc 441 [aX (M.Key.en p0)] [rW 5 1 enB r]:=by
 unfold tR at h
 simp only [EN]
 refine sgn 34 [.tmp 2] Tryz.func441 fun base wd => ?_
 refine sq (rn ?_)
 refine an (sq (sq ?_))
 obtain ⟨x1,h2,h⟩:=bind_some h
 refine rn1 (aQV _ _ h2) ?_
 refine an ?_
 rcases cU (!x1) with b3 | b3
 ·replace h:=bI b3 h
  refine ct (sq (rn ?_))
  refine an (rt ?_)
  cases h
  simp [Ret,TB,EN, *]
 replace h:=bH b3 h
 refine cf (sk (an (sq (rn ?_))))
 refine an (sq (sq ?_))
 refine cu (fun s=>s.t 1=vP 1 1 0∧s.t 3=vR 100012 1∧s.h 1=(1,oX 174 (M.Key.en p0))∧s.h 100012=(1,oW 5 1 enB ([(IntKind.u8.wrap p0.Kind)]))∧True) ?_
 rintro s4 ⟨f5,f6,f7,f8,_⟩
 refine rn ?_
 refine an ?_
 rcases aA5 (p0.Kind != 2) with b9 | b9
 ·replace h:=bH b9 h
  refine cf (sk (an (sq ?_)))
  obtain ⟨x28,h29,h⟩:=bind_some h
  refine rn1 h29 ?_
  refine an (rt ?_)
  cases h
  simp [Ret,TB,EN, *]
 replace h:=bI b9 h
 refine ct (sq (rn ?_))
 refine an (bk ?_)
 refine jY (fun m s=>∃v4:Int,∃r12:List Int,∃u12:Nat,s.t 1=vP 1 1 0∧s.t 3=vR 100012 u12∧s.t 4=vI v4∧s.h 1=(1,oX 174 (M.Key.en p0))∧s.h 100012=(u12,oW 5 1 enB r12)∧dV p0 m v4 r12=some r) fuel ?_ ?_
 ·refine ⟨5,([(IntKind.u8.wrap p0.Kind)]),1,?_,?_,?_,?_,?_,h⟩
  all_goals simp +decide only [F,reduceIte,Nat.reduceAdd,Bool.not_true,Bool.not_false,EN, *,-h]
 rintro mL1 s10 ⟨v4,r12,u12,f11,f12,f13,f14,f15,h⟩
 rcases mL1 with _ | mL1
 ·exact absurd h (by simp [dV])
 simp only [dV] at h
 refine sq (sq (rn ?_))
 refine an ?_
 rcases aA5 (decide (v4≥0)) with b16 | b16
 ·replace h:=bH b16 h
  refine cf (xt (lO (nE (yR (an (sq ?_))))))
  obtain ⟨x26,h27,h⟩:=bind_some h
  refine rn1 h27 ?_
  refine an (rt ?_)
  cases h
  simp [Ret,TB,EN, *]
 replace h:=bI b16 h
 refine ct (sk (an (sq (bk ?_))))
 rcases aA5 (decide (0≤(i64.wrap (8*v4)))) with b17 | b17
 ·replace h:=bH b17 h
  cases h
 replace h:=bI b17 h
 obtain ⟨x18,h19,h⟩:=bind_some h
 apply gS
 ·simp +decide only [E,reduceIte,Nat.reduceAdd,Nat.reduceMul,Bool.not_true,Bool.not_false,aJV,L,ti3,ti5,aOK,aLG,enB,EN,b3,b9,f11,f12,f13,f14,f15,b16,b17]
  refine ⟨by (have hb:=oY h19);simp [enB,List.length_append,bJ] at hb ⊢ <;> omega,?_⟩
  try simp +decide only [E,reduceIte,Nat.reduceAdd,Nat.reduceMul,Bool.not_true,Bool.not_false,aJV,L,ti3,ti5,aOK,aLG,enB,EN,b3,b9,f11,f12,f13,f14,f15,b16,b17]
  exact Is.mk _
 refine ab (an ?_)
 refine cu (fun s=>s.t 1=vP 1 1 0∧s.t 3=vR 100012 (u12+1)∧s.t 4=vI v4∧s.h 1=(1,oX 174 (M.Key.en p0))∧s.h 100012=((u12+1),oW 5 1 enB (r12++[(IntKind.u8.wrap (Int.fdiv (i64.wrap (p0.N+1000000000000)) (2^(min (i64.wrap (8*v4)).toNat IntKind.i64.bits))))]))∧True) ?_
 rintro s20 ⟨f21,f22,f23,f24,f25,_⟩
 refine rn ?_
 refine rQ ⟨mL1,by omega,(i64.wrap (v4-1)),(r12++[(IntKind.u8.wrap (Int.fdiv (i64.wrap (p0.N+1000000000000)) (2^(min (i64.wrap (8*v4)).toNat IntKind.i64.bits))))]),(u12+1),?_,?_,?_,?_,?_,h⟩
 all_goals simp +decide only [F,reduceIte,Nat.reduceAdd,Bool.not_true,Bool.not_false,EN, *,-h]
instance:bD 441 (type_of% @aQ6):=⟨@aQ6⟩
theorem aSO (p0 p1 r) (h:gU p0 p1=some r):Sc 469 [aL enB p0,aI p1] [rW 5 1 enB r]:=by
 have i1:=inv fun m s=>∃v1:Int,∃r7:List Int,∃u7:Nat,(s.t 1=vI v1∧s.t 5=vR 100007 u7∧s.h 100007=(u7,oW 5 1 enB r7))∧fB m v1 r7=some r
 have e1:=@fB.eq_2
 unfold gU at h
 exact sgo 28 [.tmp 4] Tryz.func469
instance:bD 469 (type_of% @aSO):=⟨@aSO⟩
theorem aSn (p0 p1 r) (h:oR p0 p1=some r):Sc 470 [aL enB p0,aL enB p1] [rW 5 1 enB r]:=by
 unfold oR at h
 exact sgo 11 [.tmp 4] Tryz.func470
instance:bD 470 (type_of% @aSn):=⟨@aSn⟩
theorem aQh (p0 r) (h:mP p0=some r):Sc 442 [aX (M.aU.en p0)] [rW 5 1 enB r]:=by
 have i1:=aJj [.t 3 7050000 5 1] fun m s=>∃v17:Int,∃r50000:List Int,∃u50000:Nat,(s.t 3=vR 7050000 u50000∧s.t 15=vL M.Field.en p0.Fields∧s.t 16=vI (List.length p0.Fields:Int)∧s.t 17=vI v17∧s.h 7050000=(u50000,oW 5 1 enB r50000))∧fT p0 m v17 r50000=some r
 have e1:=@fT.eq_2
 unfold mP at h
 exact sgo 31 [.tmp 2] Tryz.func442
instance:bD 442 (type_of% @aQh):=⟨@aQh⟩
theorem aUR (p0 r) (h:nJ p0=some r):Sc 387 [aX (M.aH.en p0)] [rI r]:=by
 have i1:=inv fun m s=>∃v3:Int,∃v9:Int,(s.t 3=vI v3∧s.t 7=vL M.Item.en p0.Items∧s.t 8=vI (List.length p0.Items:Int)∧s.t 9=vI v9)∧hU p0 m v3 v9=some r
 have e1:=@hU.eq_2
 unfold nJ at h
 exact sgo 26 [.tmp 2] Tryz.func387
instance:bD 387 (type_of% @aUR):=⟨@aUR⟩
theorem aRU (p0 r) (h:mM p0=some r):Sc 440 [aX (M.Database.en p0)] [rI r]:=by
 have i1:=inv fun m s=>∃v3:Int,∃v9:Int,(s.t 3=vI v3∧s.t 7=vL M.aH.en p0.Stores∧s.t 8=vI (List.length p0.Stores:Int)∧s.t 9=vI v9)∧fO p0 m v3 v9=some r
 have e1:=@fO.eq_2
 unfold mM at h
 exact sgo 19 [.tmp 2] Tryz.func440
instance:bD 440 (type_of% @aRU):=⟨@aRU⟩
theorem aRs (p0 r) (h:aAU p0=some r):Sc 386 [aX (M.bE.en p0)] [rI r]:=by
 unfold aAU at h
 exact sgo 10 [.tmp 2] Tryz.func386
instance:bD 386 (type_of% @aRs):=⟨@aRs⟩
theorem aRq (p0 r) (h:yG p0=some r):Sc 321 [aX (M.aF.en p0)] [rI r]:=by
 unfold yG at h
 exact sgo 23 [.tmp 2] Tryz.func321
instance:bD 321 (type_of% @aRq):=⟨@aRq⟩
theorem aTC (p0 r) (h:wG p0=some r):Sc 235 [aX (M.aF.en p0)] [rB r]:=by
 unfold wG at h
 exact sgo 50 [.tmp 2] Tryz.func235
instance:bD 235 (type_of% @aTC):=⟨@aTC⟩
theorem aT1 (p0 p1 r) (h:mY p0 p1=some r):Sc 221 [aX (M.aF.en p0),aX (M.aF.en p1)] [rB r]:=by
 unfold mY at h
 exact sgo 24 [.tmp 4] Tryz.func221
instance:bD 221 (type_of% @aT1):=⟨@aT1⟩
theorem aUO (p0 r) (h:tN p0=some r):Sc 156 [aX (M.aM.en p0)] [rB r]:=by
 have i1:=inv fun m s=>∃v8:Int,(s.t 1=vP 1 1 0∧s.t 6=vL M.aF.en p0.Buckets∧s.t 7=vI (List.length p0.Buckets:Int)∧s.t 8=vI v8∧s.h 1=(1,oX 26 (M.aM.en p0)))∧fC p0 m v8=some r
 have e1:=@fC.eq_2
 unfold tN at h
 exact sgo 36 [.tmp 2] Tryz.func156
instance:bD 156 (type_of% @aUO):=⟨@aUO⟩
theorem aPc (p0 r) (h:pT p0=some r):Sc 259 [aS p0] [rB r]:=by
 unfold pT at h
 exact sgo 5 [.tmp 2] Tryz.func259
instance:bD 259 (type_of% @aPc):=⟨@aPc⟩
theorem aS3 (p0 r) (h:nX p0=some r):Sc 157 [aX (M.aE.en p0)] [rB r]:=by
 unfold nX at h
 simp only [EN]
 refine sgn 64 [.tmp 2] Tryz.func157 fun base wd => ?_
 refine sq (rn ?_)
 refine an (sq (sq (rn ?_)))
 refine an (bk ?_)
 refine jY (fun m s=>∃v10:Int,s.t 1=vP 1 1 0∧s.t 8=vL M.bF.en p0.Locks∧s.t 9=vI (List.length p0.Locks:Int)∧s.t 10=vI v10∧s.h 1=(1,oX 30 (M.aE.en p0))∧dN p0 m v10=some r) fuel ?_ ?_
 ·refine ⟨0,?_,?_,?_,?_,?_,h⟩
  all_goals simp +decide only [F,reduceIte,Nat.reduceAdd,Bool.not_true,Bool.not_false,EN, *,-h]
 rintro mL1 s1 ⟨v10,f2,f3,f4,f5,f6,h⟩
 rcases mL1 with _ | mL1
 ·exact absurd h (by simp [dN])
 simp only [dN] at h
 refine sq (rn ?_)
 refine an (sq ?_)
 rcases aA5 (decide (v10<(List.length p0.Locks:Int))) with b7 | b7
 ·replace h:=bH b7 h
  refine cf (xt (lO (nE (yR (an (sq (rn ?_)))))))
  refine an (rt ?_)
  cases h
  simp [Ret,TB,EN, *]
 replace h:=bI b7 h
 refine ct (sk (an (sq (bk (sq ?_)))))
 obtain ⟨x8,h9,h⟩:=bind_some h
 obtain ⟨q10,q11,q12⟩:=aR h9
 refine rn ?_
 refine an (sq (sq ?_))
 obtain ⟨x13,h14,h⟩:=bind_some h
 rcases cU (!x13) with b15 | b15
 ·replace h:=bI b15 h
  refine rn1 (aPc _ _ h14) ?_
  refine an (ct (sq (rn ?_)))
  refine an (rt ?_)
  cases h
  simp [Ret,TB,EN, *]
 replace h:=bH b15 h
 obtain ⟨x16,h17,h⟩:=bind_some h
 refine rn2 (aPc _ _ h14) (aM4 _ _ _ _ h17) ?_
 refine an ?_
 rcases cU (!x16) with b18 | b18
 ·replace h:=bI b18 h
  refine ct (sq (rn ?_))
  refine an (rt ?_)
  cases h
  simp [Ret,TB,EN, *]
 replace h:=bH b18 h
 refine cf (sk (an (sq ?_)))
 obtain ⟨x19,h20,h⟩:=bind_some h
 apply gS
 ·simp +decide only [E,reduceIte,Nat.reduceAdd,Nat.reduceMul,Bool.not_true,Bool.not_false,←List.map_take,←List.map_drop,L,aKk,aOL,aDj,M.bF.en,EN,f2,f3,f4,f5,f6,b7,q10,q11,q12,b15,b18]
  refine ⟨by first | exact xH (f:=M.bF.en) (n:=4) (fun _=>rfl) h20 | exact (xH (f:=M.bF.en) (n:=4) (fun _=>rfl) h20).2 | exact (xH (f:=M.bF.en) (n:=4) (fun _=>rfl) h20).2.2,?_⟩
  try simp +decide only [E,reduceIte,Nat.reduceAdd,Nat.reduceMul,Bool.not_true,Bool.not_false,←List.map_take,←List.map_drop,L,aKk,aOL,aDj,M.bF.en,EN,f2,f3,f4,f5,f6,b7,q10,q11,q12,b15,b18]
  exact Is.mk _
 refine an (bk ?_)
 obtain ⟨k22,e23,h⟩:=aPz (f:=fun kk=>bM p0 v10 x8 kk fuel 0) h
 refine jY (fun m s=>∃v30_L2:Int,s.t 1=vP 1 1 0∧s.t 4=vP 4 ((s1.h 4).1+1) 0∧s.t 8=vL M.bF.en p0.Locks∧s.t 9=vI (List.length p0.Locks:Int)∧s.t 10=vI v10∧s.t 28=vL M.bF.en (List.take v10.toNat p0.Locks)∧s.t 29=vI (List.length (List.take v10.toNat p0.Locks):Int)∧s.t 30=vI v30_L2∧s.h 1=(1,oX 30 (M.aE.en p0))∧s.h 4=(((s1.h 4).1+1),oX 144 (M.bF.en x8))∧bM p0 v10 x8 k22 m v30_L2=some r) fuel ?_ ?_
 ·refine ⟨0,?_,?_,?_,?_,?_,?_,?_,?_,?_,?_,h⟩
  all_goals simp +decide only [F,reduceIte,Nat.reduceAdd,Bool.not_true,Bool.not_false,EN, *,-h]
 rintro mL2 s21 ⟨v30_L2,f24,f25,f26,f27,f28,f29,f30,f31,f32,f33,h⟩
 rcases mL2 with _ | mL2
 ·exact absurd h (by simp [bM])
 simp only [bM] at h
 refine sq (rn ?_)
 refine an (sq ?_)
 rcases aA5 (decide (v30_L2<(List.length (List.take v10.toNat p0.Locks):Int))) with b34 | b34
 ·replace h:=bH b34 h
  refine cf (xt (lO ?_))
  subst e23
  refine nE (yR (ab (an (rn ?_))))
  refine rQ ⟨mL1,by omega,(i64.wrap (v10+1)),?_,?_,?_,?_,?_,h⟩
  all_goals simp +decide only [F,reduceIte,Nat.reduceAdd,Bool.not_true,Bool.not_false,EN, *,-h]
 replace h:=bI b34 h
 refine ct (sk (an (sq (bk (sq ?_)))))
 obtain ⟨x35,h36,h⟩:=bind_some h
 obtain ⟨q37,q38,q39⟩:=aR h36
 refine rn ?_
 refine an (sq ?_)
 rcases aA5 (x35.Name.toList==x8.Name.toList) with b40 | b40
 ·replace h:=bH b40 h
  refine rn ?_
  refine an (cf (sk (ab (an (rn ?_)))))
  refine rQ ⟨mL2,by omega,(i64.wrap (v30_L2+1)),?_,?_,?_,?_,?_,?_,?_,?_,?_,?_,h⟩
  all_goals simp +decide only [F,reduceIte,Nat.reduceAdd,Bool.not_true,Bool.not_false,EN, *,-h]
 replace h:=bI b40 h
 rcases aA5 x8.Held with b41 | b41
 ·replace h:=bH b41 h
  refine rn ?_
  refine an (cf (sk (ab (an (rn ?_)))))
  refine rQ ⟨mL2,by omega,(i64.wrap (v30_L2+1)),?_,?_,?_,?_,?_,?_,?_,?_,?_,?_,h⟩
  all_goals simp +decide only [F,reduceIte,Nat.reduceAdd,Bool.not_true,Bool.not_false,EN, *,-h]
 replace h:=bI b41 h
 rcases cU (!x35.Held) with b42 | b42
 ·replace h:=bI b42 h
  refine rn ?_
  refine an (ct (sq (rn ?_)))
  refine an (rt ?_)
  cases h
  simp [Ret,TB,EN, *]
 replace h:=bH b42 h
 rcases cU (!x8.Shared) with b43 | b43
 ·replace h:=bI b43 h
  refine rn ?_
  refine an (ct (sq (rn ?_)))
  refine an (rt ?_)
  cases h
  simp [Ret,TB,EN, *]
 replace h:=bH b43 h
 refine rn ?_
 refine an ?_
 rcases cU (!x35.Shared) with b44 | b44
 ·replace h:=bI b44 h
  refine ct (sq (rn ?_))
  refine an (rt ?_)
  cases h
  simp [Ret,TB,EN, *]
 replace h:=bH b44 h
 refine cf (sk (ab (an (rn ?_))))
 refine rQ ⟨mL2,by omega,(i64.wrap (v30_L2+1)),?_,?_,?_,?_,?_,?_,?_,?_,?_,?_,h⟩
 all_goals simp +decide only [F,reduceIte,Nat.reduceAdd,Bool.not_true,Bool.not_false,EN, *,-h]
instance:bD 157 (type_of% @aS3):=⟨@aS3⟩
theorem aSA (p0 r) (h:aA0 p0=some r):Sc 158 [aX (M.bG.en p0)] [rB r]:=by
 have i1:=inv fun m s=>∃v8:Int,(s.t 1=vP 1 1 0∧s.t 6=vL M.aN.en p0.aN∧s.t 7=vI (List.length p0.aN:Int)∧s.t 8=vI v8∧s.h 1=(1,oX 80 (M.bG.en p0)))∧lD p0 m v8=some r
 have e1:=@lD.eq_2
 unfold aA0 at h
 exact sgo 48 [.tmp 2] Tryz.func158
instance:bD 158 (type_of% @aSA):=⟨@aSA⟩
theorem aPs (p0 c0 c1 r) (h:mK p0 c0 c1=some r):Sc 262 [aX (M.aF.en p0),(false,[.ptr [.str c0]]),(false,[.ptr [.str c1]])] [rB r]:=by
 unfold mK at h
 exact sgo 15 [.tmp 4] Tryz.func262
instance:bD 262 (type_of% @aPs):=⟨@aPs⟩
theorem aPx (p0:List M.aF) (p1:M.aF→Option Bool) (f1_:FuncId) (k1_:List D) (hp1 : ∀z0 r,p1 z0=some r→lH Tryz.prog f1_ ((true,M.aF.en z0) ::  k1_.map fun c=>(false,[c])) [(false,[.ro (.bool r)])]) (r:Int) (h:hJ p0 p1=some r):Sc 261 [(false,[.sl (List.map M.aF.en p0)]),(false,[.fn f1_ k1_])] [rI r]:=by
 unfold hJ at h
 simp only [EN]
 refine sgn 19 [.tmp 4] Tryz.func261 fun base wd => ?_
 refine sq (rn ?_)
 refine an (sq (sq (rn ?_)))
 refine an (bk ?_)
 refine jY (fun m s=>∃v8:Int,s.t 0=vL M.aF.en p0∧s.t 1 = .v false [.dat (.fn f1_ k1_)]∧s.t 7=vI (List.length p0:Int)∧s.t 8=vI v8∧bS p0 p1 m v8=some r) fuel ?_ ?_
 ·refine ⟨0,?_,?_,?_,?_,h⟩
  all_goals simp +decide only [F,reduceIte,Nat.reduceAdd,Bool.not_true,Bool.not_false,EN, *,-h]
 rintro mL1 s1 ⟨v8,f2,f3,f4,f5,h⟩
 rcases mL1 with _ | mL1
 ·exact absurd h (by simp [bS])
 simp only [bS] at h
 refine sq (rn ?_)
 refine an (sq ?_)
 rcases aA5 (decide (v8<(List.length p0:Int))) with b6 | b6
 ·replace h:=bH b6 h
  refine cf (xt (lO (nE (yR (an (sq (rn ?_)))))))
  refine an (rt ?_)
  cases h
  simp [Ret,TB,EN, *]
 replace h:=bI b6 h
 refine ct (sk (an (sq (bk (sq (rn ?_))))))
 refine an (sq ?_)
 obtain ⟨x7,h8,h⟩:=bind_some h
 obtain ⟨q9,q10,q11⟩:=aR h8
 obtain ⟨x12,h13,h⟩:=bind_some h
 refine rn1 (hp1 x7 x12 h13) ?_
 refine an ?_
 rcases cU x12 with b14 | b14
 ·replace h:=bI b14 h
  refine ct (sq (rn ?_))
  refine an (rt ?_)
  cases h
  simp [Ret,TB,EN, *]
 replace h:=bH b14 h
 refine cf (sk (ab (an (rn ?_))))
 refine rQ ⟨mL1,by omega,(i64.wrap (v8+1)),?_,?_,?_,?_,h⟩
 all_goals simp +decide only [F,reduceIte,Nat.reduceAdd,Bool.not_true,Bool.not_false,EN, *,-h]
instance:bD 261 (type_of% @aPx):=⟨@aPx⟩
theorem aT2 (p0 p1 p2 r) (h:lR p0 p1 p2=some r):Sc 159 [aX (M.aM.en p0),aS p1,aS p2] [rI r]:=by
 unfold lR at h
 simp only [EN]
 refine sgn 11 [.tmp 6] Tryz.func159 fun base wd => ?_
 refine sq (rn ?_)
 refine an (sq ?_)
 obtain ⟨x1,h2,h⟩:=bind_some h
 refine rn1 (aPx p0.Buckets (fun z0=>mK z0 p1 p2) 262 [.ptr [.str p1],.ptr [.str p2]] (fun z0 r hr=>aPs z0 p1 p2 r hr) x1 h2) ?_
 refine an (rt ?_)
 cases h
 simp [Ret,TB,EN, *]
instance:bD 159 (type_of% @aT2):=⟨@aT2⟩
end Go.Proofs.YtnhpbpnhmapeeaaGreat.gen
