/-
  Helper text. No conditions.
-/
import Derived.Test.YtblghjofnielnaaGreatSharedLocksTi
import Derived.Test.YtblghjofnielnaaGreatSharedLocksWimpl0
import Derived.Test.YtblghjofnielnaaGreatSharedLocksWlib
namespace Go.Proofs.YtblghjofnielnaaGreat.gen
open Go Go.Sh
open Go.IntKind (i64)
set_option linter.unusedVariables false
set_option linter.unusedSimpArgs false
set_option maxRecDepth 20000
set_option maxHeartbeats 4000000
theorem aFM (p0 p1 r) (h:qE p0 p1=some r):Sc 380 [aX (M.aP.en p0),aS p1] [rW 293 4 M.Item.en r]:=by
 unfold qE at h
 simp only [EN]
 refine sgn 52 [.tmp 4] Tryz.func380 fun base wd => ?_
 refine sq (rn ?_)
 refine an (sq (rn ?_))
 refine an (sq (sq ?_))
 refine cu (fun s=>s.t 1=vS p1∧s.t 2=vP 2 1 0∧s.t 5=vR 100011 1∧s.h 2=(1,oX 61 (M.aP.en p0))∧s.h 100011=(1,oW 293 4 M.Item.en ([]:List M.Item))∧True) ?_
 rintro s1 ⟨f2,f3,f4,f5,f6,_⟩
 refine rn ?_
 refine an (bk ?_)
 refine dH (fun m s=>∃v15:Int,∃r11:List M.Item,∃u11:Nat,s.t 1=vS p1∧s.t 5=vR 100011 u11∧s.t 13=vL M.Item.en p0.Items∧s.t 14=vI (List.length p0.Items:Int)∧s.t 15=vI v15∧s.h 100011=(u11,oW 293 4 M.Item.en r11)∧eC p0 p1 m v15 r11=some r) fuel ?_ ?_
 ·refine ⟨0,([]:List M.Item),1,?_,?_,?_,?_,?_,?_,h⟩
  all_goals simp +decide only [F,reduceIte,Nat.reduceAdd,Bool.not_true,Bool.not_false,EN, *,-h]
 rintro mL1 s7 ⟨v15,r11,u11,f8,f9,f10,f11,f12,f13,h⟩
 rcases mL1 with _ | mL1
 ·exact absurd h (by simp [eC])
 simp only [eC] at h
 refine sq (rn ?_)
 refine an (sq ?_)
 rcases nX (decide (v15<(List.length p0.Items:Int))) with b14 | b14
 ·replace h:=aR b14 h
  refine cf (xt (eA (eX (kB (an (sq (rn ?_)))))))
  refine an (rt ?_)
  cases h
  simp [Ret,TB,EN, *]
 replace h:=aT b14 h
 refine ct (sk (an (sq (bk (sq ?_)))))
 obtain ⟨x15,h16,h⟩:=bind_some h
 obtain ⟨q17,q18,q19⟩:=bK h16
 refine rn ?_
 refine an (sq (sq ?_))
 obtain ⟨x20,h21,h⟩:=bind_some h
 refine rn1 (aDk _ _ _ h21) ?_
 refine an (sq (rn ?_))
 refine an ?_
 rcases cF (!x20.2) with b22 | b22
 ·replace h:=aT b22 h
  refine ct (xt (eA (kB (an (rn ?_)))))
  refine cN ⟨mL1,by omega,(i64.wrap (v15+1)),r11,u11,?_,?_,?_,?_,?_,?_,h⟩
  all_goals simp +decide only [F,reduceIte,Nat.reduceAdd,Bool.not_true,Bool.not_false,EN, *,-h]
 replace h:=aR b22 h
 refine cf (sk (an (sq (rn ?_))))
 refine an (sq (bk ?_))
 obtain ⟨k24,e25,h⟩:=aDl (f:=fun kk=>eE p1 r11 x15 kk fuel (List.length r11:Int)) h
 refine dH (fun m s=>∃v10_L2:Int,s.t 1=vS p1∧s.t 5=vR 100011 u11∧s.t 7=vP 7 ((s7.h 7).1+1) 0∧s.t 10=vI v10_L2∧s.t 13=vL M.Item.en p0.Items∧s.t 14=vI (List.length p0.Items:Int)∧s.t 15=vI v15∧s.h 7=(((s7.h 7).1+1),oX 293 (M.Item.en x15))∧s.h 100011=(u11,oW 293 4 M.Item.en r11)∧eE p1 r11 x15 k24 m v10_L2=some r) fuel ?_ ?_
 ·refine ⟨(List.length r11:Int),?_,?_,?_,?_,?_,?_,?_,?_,?_,h⟩
  all_goals simp +decide only [F,reduceIte,Nat.reduceAdd,Bool.not_true,Bool.not_false,EN, *,-h]
 rintro mL2 s23 ⟨v10_L2,f26,f27,f28,f29,f30,f31,f32,f33,f34,h⟩
 rcases mL2 with _ | mL2
 ·exact absurd h (by simp [eE])
 simp only [eE] at h
 refine sq (sq ?_)
 rcases nX (decide (v10_L2>0)) with b35 | b35
 ·replace h:=aR b35 h
  refine rd mixed ?_
  refine an (cf (xt (eA ?_)))
  subst e25
  refine eX (kB (an ?_))
  obtain ⟨x55,h56,h⟩:=bind_some h
  obtain ⟨x57,h58,h⟩:=bind_some h
  apply bC
  ·simp +decide only [E,reduceIte,Nat.reduceAdd,Nat.reduceMul,Bool.not_true,Bool.not_false,←List.map_take,←List.map_drop,L,wN,pS,M.Item.en,EN,b14,q17,q18,q19,b22,f26,f27,f28,f29,f30,f31,f32,f33,f34,b35]
   refine ⟨_,aDN _ _ h56,?_⟩
   try simp +decide only [E,reduceIte,Nat.reduceAdd,Nat.reduceMul,Bool.not_true,Bool.not_false,←List.map_take,←List.map_drop,L,wN,pS,M.Item.en,EN,b14,q17,q18,q19,b22,f26,f27,f28,f29,f30,f31,f32,f33,f34,b35]
   refine ⟨_,L480.aCz _,?_⟩
   try simp +decide only [E,reduceIte,Nat.reduceAdd,Nat.reduceMul,Bool.not_true,Bool.not_false,←List.map_take,←List.map_drop,L,wN,pS,M.Item.en,EN,b14,q17,q18,q19,b22,f26,f27,f28,f29,f30,f31,f32,f33,f34,b35]
   refine ⟨by (have hb:=wS h58);simp [M.Item.en,List.length_append] at hb ⊢ <;> omega,?_⟩
   try simp +decide only [E,reduceIte,Nat.reduceAdd,Nat.reduceMul,Bool.not_true,Bool.not_false,←List.map_take,←List.map_drop,L,wN,pS,M.Item.en,EN,b14,q17,q18,q19,b22,f26,f27,f28,f29,f30,f31,f32,f33,f34,b35]
   exact Is.mk _
  refine ab (an ?_)
  refine cu (fun s=>s.t 1=vS p1∧s.t 5=vR 100011 (u11+1)∧s.t 13=vL M.Item.en p0.Items∧s.t 14=vI (List.length p0.Items:Int)∧s.t 15=vI v15∧s.h 100011=((u11+1),oW 293 4 M.Item.en (List.take v10_L2.toNat r11++([x55]++List.drop v10_L2.toNat r11)))∧True) ?_
  rintro s59 ⟨f60,f61,f62,f63,f64,f65,_⟩
  refine rn ?_
  refine cN ⟨mL1,by omega,(i64.wrap (v15+1)),(List.take v10_L2.toNat r11++([x55]++List.drop v10_L2.toNat r11)),(u11+1),?_,?_,?_,?_,?_,?_,h⟩
  all_goals simp +decide only [F,reduceIte,Nat.reduceAdd,Bool.not_true,Bool.not_false,EN, *,-h]
 replace h:=aT b35 h
 obtain ⟨x36,h37,h⟩:=bind_some h
 obtain ⟨q38,q39,q40⟩:=bK h37
 obtain ⟨x41,h42,h⟩:=bind_some h
 refine rd1 mixed (aDh _ _ _ _ h42) ?_
 refine an ?_
 rcases cF x41 with b43 | b43
 ·replace h:=aT b43 h
  refine ct (sk (an (bk (rn ?_))))
  refine ab ?_
  refine cN ⟨mL2,by omega,(i64.wrap (v10_L2-1)),?_,?_,?_,?_,?_,?_,?_,?_,?_,h⟩
  all_goals simp +decide only [F,reduceIte,Nat.reduceAdd,Bool.not_true,Bool.not_false,EN, *,-h]
 replace h:=aR b43 h
 refine cf (xt (eA ?_))
 subst e25
 refine eX (kB (an ?_))
 obtain ⟨x44,h45,h⟩:=bind_some h
 obtain ⟨x46,h47,h⟩:=bind_some h
 apply bC
 ·simp +decide only [E,reduceIte,Nat.reduceAdd,Nat.reduceMul,Bool.not_true,Bool.not_false,←List.map_take,←List.map_drop,L,wN,pS,M.Item.en,EN,b14,q17,q18,q19,b22,f26,f27,f28,f29,f30,f31,f32,f33,f34,b35,q38,q39,q40,b43]
  refine ⟨_,aDN _ _ h45,?_⟩
  try simp +decide only [E,reduceIte,Nat.reduceAdd,Nat.reduceMul,Bool.not_true,Bool.not_false,←List.map_take,←List.map_drop,L,wN,pS,M.Item.en,EN,b14,q17,q18,q19,b22,f26,f27,f28,f29,f30,f31,f32,f33,f34,b35,q38,q39,q40,b43]
  refine ⟨_,L480.aCz _,?_⟩
  try simp +decide only [E,reduceIte,Nat.reduceAdd,Nat.reduceMul,Bool.not_true,Bool.not_false,←List.map_take,←List.map_drop,L,wN,pS,M.Item.en,EN,b14,q17,q18,q19,b22,f26,f27,f28,f29,f30,f31,f32,f33,f34,b35,q38,q39,q40,b43]
  refine ⟨by (have hb:=wS h47);simp [M.Item.en,List.length_append] at hb ⊢ <;> omega,?_⟩
  try simp +decide only [E,reduceIte,Nat.reduceAdd,Nat.reduceMul,Bool.not_true,Bool.not_false,←List.map_take,←List.map_drop,L,wN,pS,M.Item.en,EN,b14,q17,q18,q19,b22,f26,f27,f28,f29,f30,f31,f32,f33,f34,b35,q38,q39,q40,b43]
  exact Is.mk _
 refine ab (an ?_)
 refine cu (fun s=>s.t 1=vS p1∧s.t 5=vR 100011 (u11+1)∧s.t 13=vL M.Item.en p0.Items∧s.t 14=vI (List.length p0.Items:Int)∧s.t 15=vI v15∧s.h 100011=((u11+1),oW 293 4 M.Item.en (List.take v10_L2.toNat r11++([x44]++List.drop v10_L2.toNat r11)))∧True) ?_
 rintro s48 ⟨f49,f50,f51,f52,f53,f54,_⟩
 refine rn ?_
 refine cN ⟨mL1,by omega,(i64.wrap (v15+1)),(List.take v10_L2.toNat r11++([x44]++List.drop v10_L2.toNat r11)),(u11+1),?_,?_,?_,?_,?_,?_,h⟩
 all_goals simp +decide only [F,reduceIte,Nat.reduceAdd,Bool.not_true,Bool.not_false,EN, *,-h]
instance:aZ 380 (type_of% @aFM):=⟨@aFM⟩
theorem aD1 (p0 p1 r) (h:mJ p0 p1=some r):Sc 252 [aX (M.aP.en p0),aS p1] [(true,M.Key.rs r.1),(true,M.Key.rs r.2.1),rB r.2.2]:=by
 have i1:=fun (x1:(List M.Item))=>inv fun m s=>∃v8:Int,(s.t 1=vS p1∧s.t 4=vP 4 1 0∧s.t 5=vP 5 1 0∧s.t 7=vR 100015 1∧s.t 8=vI v8∧s.h 4=(1,oB 288 [cI 0,cI 0,cS (⟨#[]⟩:ByteArray)])∧s.h 5=(1,oB 288 [cI 0,cI 0,cS (⟨#[]⟩:ByteArray)])∧s.h 100015=(1,oW 293 4 M.Item.en x1))∧fG p1 x1 m v8=some r
 have e1:=@fG.eq_2
 unfold mJ at h
 exact sgo 59 [.cell 4 288,.cell 5 288,.tmp 6] Tryz.func252
instance:aZ 252 (type_of% @aD1):=⟨@aD1⟩
theorem c96 (p0 r) (h:mO p0=some r):Sc 96 [aX (M.Database.en p0)] [rB r]:=by
 unfold mO at h
 simp only [EN]
 refine sgn 103 [.tmp 2] Tryz.func96 fun base wd => ?_
 refine sq (rn ?_)
 refine an (sq (sq ?_))
 obtain ⟨x1,h2,h⟩:=bind_some h
 rcases cF (!x1) with b3 | b3
 ·replace h:=aT b3 h
  refine rn1 (c93 _ _ h2) ?_
  refine an (ct (sq (rn ?_)))
  refine an (rt ?_)
  cases h
  simp [Ret,TB,EN, *]
 replace h:=aR b3 h
 obtain ⟨x4,h5,h⟩:=bind_some h
 rcases cF (!x4) with b6 | b6
 ·replace h:=aT b6 h
  refine rn2 (c93 _ _ h2) (c98 _ _ _ _ h5) ?_
  refine an (ct (sq (rn ?_)))
  refine an (rt ?_)
  cases h
  simp [Ret,TB,EN, *]
 replace h:=aR b6 h
 rcases cF (decide ((List.length p0.Stores:Int)>4)) with b7 | b7
 ·replace h:=aT b7 h
  refine rn2 (c93 _ _ h2) (c98 _ _ _ _ h5) ?_
  refine an (ct (sq (rn ?_)))
  refine an (rt ?_)
  cases h
  simp [Ret,TB,EN, *]
 replace h:=aR b7 h
 refine rn2 (c93 _ _ h2) (c98 _ _ _ _ h5) ?_
 refine an ?_
 rcases cF (decide ((List.length p0.Unique:Int)>4)) with b8 | b8
 ·replace h:=aT b8 h
  refine ct (sq (rn ?_))
  refine an (rt ?_)
  cases h
  simp [Ret,TB,EN, *]
 replace h:=aR b8 h
 refine cf (sk (an (sq (sq (rn ?_)))))
 refine an (bk ?_)
 refine dH (fun m s=>∃v36:Int,s.t 1=vP 1 1 0∧s.t 34=vL M.aP.en p0.Stores∧s.t 35=vI (List.length p0.Stores:Int)∧s.t 36=vI v36∧s.h 1=(1,oX 56 (M.Database.en p0))∧cT p0 m v36=some r) fuel ?_ ?_
 ·refine ⟨0,?_,?_,?_,?_,?_,h⟩
  all_goals simp +decide only [F,reduceIte,Nat.reduceAdd,Bool.not_true,Bool.not_false,EN, *,-h]
 rintro mL1 s9 ⟨v36,f10,f11,f12,f13,f14,h⟩
 rcases mL1 with _ | mL1
 ·exact absurd h (by simp [cT])
 simp only [cT] at h
 refine sq (rn ?_)
 refine an (sq ?_)
 rcases cF (decide (v36<(List.length p0.Stores:Int))) with b15 | b15
 ·replace h:=aT b15 h
  refine ct (sk (an (sq (bk (sq ?_)))))
  obtain ⟨x16,h17,h⟩:=bind_some h
  obtain ⟨q18,q19,q20⟩:=bK h17
  refine rn ?_
  refine an (sq ?_)
  obtain ⟨x21,h22,h⟩:=bind_some h
  rcases cF (!x21) with b23 | b23
  ·replace h:=aT b23 h
   refine rd1 mixed (aDA _ _ h22) ?_
   refine an (ct (sq (rn ?_)))
   refine an (rt ?_)
   cases h
   simp [Ret,TB,EN, *]
  replace h:=aR b23 h
  rcases nX (decide (v36>0)) with b24 | b24
  ·replace h:=aR b24 h
   refine rd1 mixed (aDA _ _ h22) ?_
   refine an (cf (sk (ab (an (rn ?_)))))
   refine cN ⟨mL1,by omega,(i64.wrap (v36+1)),?_,?_,?_,?_,?_,h⟩
   all_goals simp +decide only [F,reduceIte,Nat.reduceAdd,Bool.not_true,Bool.not_false,EN, *,-h]
  replace h:=aT b24 h
  obtain ⟨x25,h26,h⟩:=bind_some h
  obtain ⟨q27,q28,q29⟩:=bK h26
  refine rd1 mixed (aDA _ _ h22) ?_
  refine an ?_
  rcases cF (Op.bytesLess x16.Name.toList x25.Name.toList||x16.Name.toList==x25.Name.toList) with b30 | b30
  ·replace h:=aT b30 h
   refine ct (sq (rn ?_))
   refine an (rt ?_)
   cases h
   simp [Ret,TB,EN, *]
  replace h:=aR b30 h
  refine cf (sk (ab (an (rn ?_))))
  refine cN ⟨mL1,by omega,(i64.wrap (v36+1)),?_,?_,?_,?_,?_,h⟩
  all_goals simp +decide only [F,reduceIte,Nat.reduceAdd,Bool.not_true,Bool.not_false,EN, *,-h]
 replace h:=aR b15 h
 refine cf (xt (eA (eX (kB (an (sq (sq (rn ?_))))))))
 refine an (bk ?_)
 refine dH (fun m s=>∃v64:Int,s.t 1=vP 1 1 0∧s.t 62=vL M.aU.en p0.Unique∧s.t 63=vI (List.length p0.Unique:Int)∧s.t 64=vI v64∧s.h 1=(1,oX 56 (M.Database.en p0))∧dR p0 m v64=some r) fuel ?_ ?_
 ·refine ⟨0,?_,?_,?_,?_,?_,h⟩
  all_goals simp +decide only [F,reduceIte,Nat.reduceAdd,Bool.not_true,Bool.not_false,EN, *,-h]
 rintro mL2 s31 ⟨v64,f32,f33,f34,f35,f36,h⟩
 rcases mL2 with _ | mL2
 ·exact absurd h (by simp [dR])
 simp only [dR] at h
 refine sq (rn ?_)
 refine an (sq ?_)
 rcases nX (decide (v64<(List.length p0.Unique:Int))) with b37 | b37
 ·replace h:=aR b37 h
  refine cf (xt (eA (eX (kB (an (sq (rn ?_)))))))
  refine an (rt ?_)
  cases h
  simp [Ret,TB,EN, *]
 replace h:=aT b37 h
 refine ct (sk (an (sq (bk (sq ?_)))))
 obtain ⟨x38,h39,h⟩:=bind_some h
 obtain ⟨q40,q41,q42⟩:=bK h39
 refine rn ?_
 refine an (sq ?_)
 obtain ⟨x43,h44,h⟩:=bind_some h
 refine rn1 (aDj _ _ _ h44) ?_
 refine an (sq (sq ?_))
 rcases cF (decide (x43<0)) with b45 | b45
 ·replace h:=aT b45 h
  refine rd mixed ?_
  refine an (ct (sq (rn ?_)))
  refine an (rt ?_)
  cases h
  simp [Ret,TB,EN, *]
 replace h:=aR b45 h
 obtain ⟨x46,h47,h⟩:=bind_some h
 rcases cF (!x46) with b48 | b48
 ·replace h:=aT b48 h
  refine rd1 mixed (c93 _ _ h47) ?_
  refine an (ct (sq (rn ?_)))
  refine an (rt ?_)
  cases h
  simp [Ret,TB,EN, *]
 replace h:=aR b48 h
 obtain ⟨x49,h50,h⟩:=bind_some h
 obtain ⟨x51,h52,h⟩:=bind_some h
 apply uF mixed
 ·simp +decide only [E,reduceIte,Nat.reduceAdd,Nat.reduceMul,Bool.not_true,Bool.not_false,←List.map_take,←List.map_drop,L,ti9,aCm,aCj,aAv,M.aU.en,EN,b3,b6,b7,b8,b15,f32,f33,f34,f35,f36,b37,q40,q41,q42,b45,b48]
  refine ⟨_,c93 _ _ h47,?_⟩
  try simp +decide only [E,reduceIte,Nat.reduceAdd,Nat.reduceMul,Bool.not_true,Bool.not_false,←List.map_take,←List.map_drop,L,ti9,aCm,aCj,aAv,M.aU.en,EN,b3,b6,b7,b8,b15,f32,f33,f34,f35,f36,b37,q40,q41,q42,b45,b48]
  refine ⟨by first | exact jM (f:=M.aU.en) (n:=2) (fun _=>rfl) h50 | exact (jM (f:=M.aU.en) (n:=2) (fun _=>rfl) h50).2 | exact (jM (f:=M.aU.en) (n:=2) (fun _=>rfl) h50).2.2,?_⟩
  try simp +decide only [E,reduceIte,Nat.reduceAdd,Nat.reduceMul,Bool.not_true,Bool.not_false,←List.map_take,←List.map_drop,L,ti9,aCm,aCj,aAv,M.aU.en,EN,b3,b6,b7,b8,b15,f32,f33,f34,f35,f36,b37,q40,q41,q42,b45,b48]
  refine ⟨_,aDn _ _ _ h52,?_⟩
  try simp +decide only [E,reduceIte,Nat.reduceAdd,Nat.reduceMul,Bool.not_true,Bool.not_false,←List.map_take,←List.map_drop,L,ti9,aCm,aCj,aAv,M.aU.en,EN,b3,b6,b7,b8,b15,f32,f33,f34,f35,f36,b37,q40,q41,q42,b45,b48]
  exact ⟨.mk (by decide +kernel),Is.mk _⟩
 refine an ?_
 rcases cF x51 with b53 | b53
 ·replace h:=aT b53 h
  refine ct (sq (rn ?_))
  refine an (rt ?_)
  cases h
  simp [Ret,TB,EN, *]
 replace h:=aR b53 h
 refine cf (sk (an (sq ?_)))
 obtain ⟨x54,h55,h⟩:=bind_some h
 obtain ⟨q56,q57,q58⟩:=bK h55
 obtain ⟨x59,h60,h⟩:=bind_some h
 refine rd1 mixed (aD1 _ _ _ h60) ?_
 refine an (sq (rn ?_))
 refine an ?_
 rcases cF x59.2.2 with b61 | b61
 ·replace h:=aT b61 h
  refine ct (sq (rn ?_))
  refine an (rt ?_)
  cases h
  simp [Ret,TB,EN, *]
 replace h:=aR b61 h
 refine cf (sk (ab (an (rn ?_))))
 refine cN ⟨mL2,by omega,(i64.wrap (v64+1)),?_,?_,?_,?_,?_,h⟩
 all_goals simp +decide only [F,reduceIte,Nat.reduceAdd,Bool.not_true,Bool.not_false,EN, *,-h]
instance:aZ 96 (type_of% @c96):=⟨@c96⟩
theorem aET (p0 r) (h:fX p0=some r):Sc 274 [aX (M.iB.en p0)] [rB r]:=by
 unfold fX at h
 exact sgo 26 [.tmp 2] Tryz.func274
instance:aZ 274 (type_of% @aET):=⟨@aET⟩
theorem aF7 (p0 r) (h:pG p0=some r):Sc 245 [aX (M.bE.en p0)] [rB r]:=by
 have i1:=inv fun m s=>∃v12:Int,(s.t 1=vP 1 1 0∧s.t 3=vI (List.length p0.Writes:Int)∧s.t 10=vL M.iB.en p0.Writes∧s.t 11=vI (List.length p0.Writes:Int)∧s.t 12=vI v12∧s.h 1=(1,oX 64 (M.bE.en p0)))∧iI p0 m v12=some r
 have e1:=@iI.eq_2
 unfold pG at h
 exact sgo 51 [.tmp 2] Tryz.func245
instance:aZ 245 (type_of% @aF7):=⟨@aF7⟩
theorem c97 (p0 r) (h:oO p0=some r):Sc 97 [aX (M.aV.en p0)] [rB r]:=by
 unfold oO at h
 exact sgo 23 [.tmp 2] Tryz.func97
instance:aZ 97 (type_of% @c97):=⟨@c97⟩
theorem aFH (p0 p1 r) (h:nJ p0 p1=some r):Sc 236 [aX (M.Response.en p0),aB p1] [rI r]:=by
 unfold nJ at h
 exact sgo 10 [.tmp 4] Tryz.func236
instance:aZ 236 (type_of% @aFH):=⟨@aFH⟩
theorem c85 (p0 r) (h:nE p0=some r):Sc 85 [aX (M.aM.en p0)] [rI r]:=by
 have i1:=inv fun m s=>∃v3:Int,∃v11:Int,(s.t 3=vI v3∧s.t 9=vL M.Cache.en p0.Caches∧s.t 10=vI (List.length p0.Caches:Int)∧s.t 11=vI v11)∧gE p0 m v3 v11=some r
 have e1:=@gE.eq_2
 have i2:=fun (v11:Int) (x7:M.Cache) (k13:Int→Int→Option Int)=>inv fun m s=>∃v3_L2:Int,∃v18_L2:Int,(s.t 3=vI v3_L2∧s.t 9=vL M.Cache.en p0.Caches∧s.t 10=vI (List.length p0.Caches:Int)∧s.t 11=vI v11∧s.t 16=vL M.Cached.en x7.Entries∧s.t 17=vI (List.length x7.Entries:Int)∧s.t 18=vI v18_L2)∧fZ x7 k13 m v3_L2 v18_L2=some r
 have e2:=@fZ.eq_2
 unfold nE at h
 exact sgo 34 [.tmp 2] Tryz.func85
instance:aZ 85 (type_of% @c85):=⟨@c85⟩
theorem aFP (p0 r) (h:oL p0=some r):Sc 238 [aX (M.Key.en p0)] [rW 5 1 enB r]:=by
 unfold oL at h
 simp only [EN]
 refine sgn 34 [.tmp 2] Tryz.func238 fun base wd => ?_
 refine sq (rn ?_)
 refine an (sq (sq ?_))
 obtain ⟨x1,h2,h⟩:=bind_some h
 refine rn1 (aDf _ _ h2) ?_
 refine an ?_
 rcases cF (!x1) with b3 | b3
 ·replace h:=aT b3 h
  refine ct (sq (rn ?_))
  refine an (rt ?_)
  cases h
  simp [Ret,TB,EN, *]
 replace h:=aR b3 h
 refine cf (sk (an (sq (rn ?_))))
 refine an (sq (sq ?_))
 refine cu (fun s=>s.t 1=vP 1 1 0∧s.t 3=vR 100012 1∧s.h 1=(1,oX 288 (M.Key.en p0))∧s.h 100012=(1,oW 5 1 enB ([(IntKind.u8.wrap p0.Kind)]))∧True) ?_
 rintro s4 ⟨f5,f6,f7,f8,_⟩
 refine rn ?_
 refine an ?_
 rcases nX (p0.Kind != 2) with b9 | b9
 ·replace h:=aR b9 h
  refine cf (sk (an (sq ?_)))
  obtain ⟨x28,h29,h⟩:=bind_some h
  refine rn1 h29 ?_
  refine an (rt ?_)
  cases h
  simp [Ret,TB,EN, *]
 replace h:=aT b9 h
 refine ct (sq (rn ?_))
 refine an (bk ?_)
 refine dH (fun m s=>∃v4:Int,∃r12:List Int,∃u12:Nat,s.t 1=vP 1 1 0∧s.t 3=vR 100012 u12∧s.t 4=vI v4∧s.h 1=(1,oX 288 (M.Key.en p0))∧s.h 100012=(u12,oW 5 1 enB r12)∧eJ p0 m v4 r12=some r) fuel ?_ ?_
 ·refine ⟨5,([(IntKind.u8.wrap p0.Kind)]),1,?_,?_,?_,?_,?_,h⟩
  all_goals simp +decide only [F,reduceIte,Nat.reduceAdd,Bool.not_true,Bool.not_false,EN, *,-h]
 rintro mL1 s10 ⟨v4,r12,u12,f11,f12,f13,f14,f15,h⟩
 rcases mL1 with _ | mL1
 ·exact absurd h (by simp [eJ])
 simp only [eJ] at h
 refine sq (sq (rn ?_))
 refine an ?_
 rcases nX (decide (v4≥0)) with b16 | b16
 ·replace h:=aR b16 h
  refine cf (xt (eA (eX (kB (an (sq ?_))))))
  obtain ⟨x26,h27,h⟩:=bind_some h
  refine rn1 h27 ?_
  refine an (rt ?_)
  cases h
  simp [Ret,TB,EN, *]
 replace h:=aT b16 h
 refine ct (sk (an (sq (bk ?_))))
 rcases nX (decide (0≤(i64.wrap (8*v4)))) with b17 | b17
 ·replace h:=aR b17 h
  cases h
 replace h:=aT b17 h
 obtain ⟨x18,h19,h⟩:=bind_some h
 apply bC
 ·simp +decide only [E,reduceIte,Nat.reduceAdd,Nat.reduceMul,Bool.not_true,Bool.not_false,wF,L,ti3,ti5,aCD,aAo,enB,EN,b3,b9,f11,f12,f13,f14,f15,b16,b17]
  refine ⟨by (have hb:=bU h19);simp [enB,List.length_append,aG] at hb ⊢ <;> omega,?_⟩
  try simp +decide only [E,reduceIte,Nat.reduceAdd,Nat.reduceMul,Bool.not_true,Bool.not_false,wF,L,ti3,ti5,aCD,aAo,enB,EN,b3,b9,f11,f12,f13,f14,f15,b16,b17]
  exact Is.mk _
 refine ab (an ?_)
 refine cu (fun s=>s.t 1=vP 1 1 0∧s.t 3=vR 100012 (u12+1)∧s.t 4=vI v4∧s.h 1=(1,oX 288 (M.Key.en p0))∧s.h 100012=((u12+1),oW 5 1 enB (r12++[(IntKind.u8.wrap (Int.fdiv (i64.wrap (p0.N+1000000000000)) (2^(min (i64.wrap (8*v4)).toNat IntKind.i64.bits))))]))∧True) ?_
 rintro s20 ⟨f21,f22,f23,f24,f25,_⟩
 refine rn ?_
 refine cN ⟨mL1,by omega,(i64.wrap (v4-1)),(r12++[(IntKind.u8.wrap (Int.fdiv (i64.wrap (p0.N+1000000000000)) (2^(min (i64.wrap (8*v4)).toNat IntKind.i64.bits))))]),(u12+1),?_,?_,?_,?_,?_,h⟩
 all_goals simp +decide only [F,reduceIte,Nat.reduceAdd,Bool.not_true,Bool.not_false,EN, *,-h]
instance:aZ 238 (type_of% @aFP):=⟨@aFP⟩
theorem aFN (p0 p1 r) (h:dK p0 p1=some r):Sc 369 [aL enB p0,aI p1] [rW 5 1 enB r]:=by
 have i1:=inv fun m s=>∃v1:Int,∃r7:List Int,∃u7:Nat,(s.t 1=vI v1∧s.t 5=vR 100007 u7∧s.h 100007=(u7,oW 5 1 enB r7))∧dX m v1 r7=some r
 have e1:=@dX.eq_2
 unfold dK at h
 exact sgo 28 [.tmp 4] Tryz.func369
instance:aZ 369 (type_of% @aFN):=⟨@aFN⟩
theorem aGC (p0 p1 r) (h:mE p0 p1=some r):Sc 370 [aL enB p0,aL enB p1] [rW 5 1 enB r]:=by
 unfold mE at h
 exact sgo 11 [.tmp 4] Tryz.func370
instance:aZ 370 (type_of% @aGC):=⟨@aGC⟩
theorem aFA (p0 r) (h:lD p0=some r):Sc 239 [aX (M.bB.en p0)] [rW 5 1 enB r]:=by
 have i1:=zN [.t 3 7050000 5 1] fun m s=>∃v17:Int,∃r50000:List Int,∃u50000:Nat,(s.t 3=vR 7050000 u50000∧s.t 15=vL M.Field.en p0.Fields∧s.t 16=vI (List.length p0.Fields:Int)∧s.t 17=vI v17∧s.h 7050000=(u50000,oW 5 1 enB r50000))∧eV p0 m v17 r50000=some r
 have e1:=@eV.eq_2
 unfold lD at h
 exact sgo 31 [.tmp 2] Tryz.func239
instance:aZ 239 (type_of% @aFA):=⟨@aFA⟩
theorem c87 (p0 r) (h:kQ p0=some r):Sc 87 [aX (M.aP.en p0)] [rI r]:=by
 have i1:=inv fun m s=>∃v3:Int,∃v9:Int,(s.t 3=vI v3∧s.t 7=vL M.Item.en p0.Items∧s.t 8=vI (List.length p0.Items:Int)∧s.t 9=vI v9)∧gT p0 m v3 v9=some r
 have e1:=@gT.eq_2
 unfold kQ at h
 exact sgo 26 [.tmp 2] Tryz.func87
instance:aZ 87 (type_of% @c87):=⟨@c87⟩
theorem aFc (p0 r) (h:lB p0=some r):Sc 237 [aX (M.Database.en p0)] [rI r]:=by
 have i1:=inv fun m s=>∃v3:Int,∃v9:Int,(s.t 3=vI v3∧s.t 7=vL M.aP.en p0.Stores∧s.t 8=vI (List.length p0.Stores:Int)∧s.t 9=vI v9)∧eQ p0 m v3 v9=some r
 have e1:=@eQ.eq_2
 unfold lB at h
 exact sgo 19 [.tmp 2] Tryz.func237
instance:aZ 237 (type_of% @aFc):=⟨@aFc⟩
theorem c86 (p0 r) (h:pE p0=some r):Sc 86 [aX (M.pC.en p0)] [rI r]:=by
 unfold pE at h
 exact sgo 10 [.tmp 2] Tryz.func86
instance:aZ 86 (type_of% @c86):=⟨@c86⟩
theorem c20 (p0 r) (h:qD p0=some r):Sc 20 [aX (M.aJ.en p0)] [rI r]:=by
 unfold qD at h
 exact sgo 23 [.tmp 2] Tryz.func20
instance:aZ 20 (type_of% @c20):=⟨@c20⟩
theorem c25 (p0 r) (h:pI p0=some r):Sc 25 [aX (M.aJ.en p0)] [rB r]:=by
 unfold pI at h
 exact sgo 50 [.tmp 2] Tryz.func25
instance:aZ 25 (type_of% @c25):=⟨@c25⟩
theorem aEZ (p0 p1 r) (h:lJ p0 p1=some r):Sc 108 [aX (M.aJ.en p0),aX (M.aJ.en p1)] [rB r]:=by
 unfold lJ at h
 exact sgo 24 [.tmp 4] Tryz.func108
instance:aZ 108 (type_of% @aEZ):=⟨@aEZ⟩
theorem aE3 (p0 r) (h:oK p0=some r):Sc 110 [aX (M.aF.en p0)] [rB r]:=by
 have i1:=inv fun m s=>∃v8:Int,(s.t 1=vP 1 1 0∧s.t 6=vL M.aJ.en p0.Buckets∧s.t 7=vI (List.length p0.Buckets:Int)∧s.t 8=vI v8∧s.h 1=(1,oX 26 (M.aF.en p0)))∧eL p0 m v8=some r
 have e1:=@eL.eq_2
 unfold oK at h
 exact sgo 36 [.tmp 2] Tryz.func110
instance:aZ 110 (type_of% @aE3):=⟨@aE3⟩
theorem aDM (p0 r) (h:mQ p0=some r):Sc 273 [aS p0] [rB r]:=by
 unfold mQ at h
 exact sgo 5 [.tmp 2] Tryz.func273
instance:aZ 273 (type_of% @aDM):=⟨@aDM⟩
theorem aDB (p0 r) (h:fH p0=some r):Sc 125 [aX (M.aD.en p0)] [rB r]:=by
 unfold fH at h
 simp only [EN]
 refine sgn 64 [.tmp 2] Tryz.func125 fun base wd => ?_
 refine sq (rn ?_)
 refine an (sq (sq (rn ?_)))
 refine an (bk ?_)
 refine dH (fun m s=>∃v10:Int,s.t 1=vP 1 1 0∧s.t 8=vL M.cA.en p0.Locks∧s.t 9=vI (List.length p0.Locks:Int)∧s.t 10=vI v10∧s.h 1=(1,oX 30 (M.aD.en p0))∧dE p0 m v10=some r) fuel ?_ ?_
 ·refine ⟨0,?_,?_,?_,?_,?_,h⟩
  all_goals simp +decide only [F,reduceIte,Nat.reduceAdd,Bool.not_true,Bool.not_false,EN, *,-h]
 rintro mL1 s1 ⟨v10,f2,f3,f4,f5,f6,h⟩
 rcases mL1 with _ | mL1
 ·exact absurd h (by simp [dE])
 simp only [dE] at h
 refine sq (rn ?_)
 refine an (sq ?_)
 rcases nX (decide (v10<(List.length p0.Locks:Int))) with b7 | b7
 ·replace h:=aR b7 h
  refine cf (xt (eA (eX (kB (an (sq (rn ?_)))))))
  refine an (rt ?_)
  cases h
  simp [Ret,TB,EN, *]
 replace h:=aT b7 h
 refine ct (sk (an (sq (bk (sq ?_)))))
 obtain ⟨x8,h9,h⟩:=bind_some h
 obtain ⟨q10,q11,q12⟩:=bK h9
 refine rn ?_
 refine an (sq (sq ?_))
 obtain ⟨x13,h14,h⟩:=bind_some h
 rcases cF (!x13) with b15 | b15
 ·replace h:=aT b15 h
  refine rn1 (aDM _ _ h14) ?_
  refine an (ct (sq (rn ?_)))
  refine an (rt ?_)
  cases h
  simp [Ret,TB,EN, *]
 replace h:=aR b15 h
 obtain ⟨x16,h17,h⟩:=bind_some h
 refine rn2 (aDM _ _ h14) (c98 _ _ _ _ h17) ?_
 refine an ?_
 rcases cF (!x16) with b18 | b18
 ·replace h:=aT b18 h
  refine ct (sq (rn ?_))
  refine an (rt ?_)
  cases h
  simp [Ret,TB,EN, *]
 replace h:=aR b18 h
 refine cf (sk (an (sq ?_)))
 obtain ⟨x19,h20,h⟩:=bind_some h
 apply bC
 ·simp +decide only [E,reduceIte,Nat.reduceAdd,Nat.reduceMul,Bool.not_true,Bool.not_false,←List.map_take,←List.map_drop,L,xN,uJ,rG,M.cA.en,EN,f2,f3,f4,f5,f6,b7,q10,q11,q12,b15,b18]
  refine ⟨by first | exact jM (f:=M.cA.en) (n:=4) (fun _=>rfl) h20 | exact (jM (f:=M.cA.en) (n:=4) (fun _=>rfl) h20).2 | exact (jM (f:=M.cA.en) (n:=4) (fun _=>rfl) h20).2.2,?_⟩
  try simp +decide only [E,reduceIte,Nat.reduceAdd,Nat.reduceMul,Bool.not_true,Bool.not_false,←List.map_take,←List.map_drop,L,xN,uJ,rG,M.cA.en,EN,f2,f3,f4,f5,f6,b7,q10,q11,q12,b15,b18]
  exact Is.mk _
 refine an (bk ?_)
 obtain ⟨k22,e23,h⟩:=aDl (f:=fun kk=>bI p0 v10 x8 kk fuel 0) h
 refine dH (fun m s=>∃v30_L2:Int,s.t 1=vP 1 1 0∧s.t 4=vP 4 ((s1.h 4).1+1) 0∧s.t 8=vL M.cA.en p0.Locks∧s.t 9=vI (List.length p0.Locks:Int)∧s.t 10=vI v10∧s.t 28=vL M.cA.en (List.take v10.toNat p0.Locks)∧s.t 29=vI (List.length (List.take v10.toNat p0.Locks):Int)∧s.t 30=vI v30_L2∧s.h 1=(1,oX 30 (M.aD.en p0))∧s.h 4=(((s1.h 4).1+1),oX 153 (M.cA.en x8))∧bI p0 v10 x8 k22 m v30_L2=some r) fuel ?_ ?_
 ·refine ⟨0,?_,?_,?_,?_,?_,?_,?_,?_,?_,?_,h⟩
  all_goals simp +decide only [F,reduceIte,Nat.reduceAdd,Bool.not_true,Bool.not_false,EN, *,-h]
 rintro mL2 s21 ⟨v30_L2,f24,f25,f26,f27,f28,f29,f30,f31,f32,f33,h⟩
 rcases mL2 with _ | mL2
 ·exact absurd h (by simp [bI])
 simp only [bI] at h
 refine sq (rn ?_)
 refine an (sq ?_)
 rcases nX (decide (v30_L2<(List.length (List.take v10.toNat p0.Locks):Int))) with b34 | b34
 ·replace h:=aR b34 h
  refine cf (xt (eA ?_))
  subst e23
  refine eX (kB (ab (an (rn ?_))))
  refine cN ⟨mL1,by omega,(i64.wrap (v10+1)),?_,?_,?_,?_,?_,h⟩
  all_goals simp +decide only [F,reduceIte,Nat.reduceAdd,Bool.not_true,Bool.not_false,EN, *,-h]
 replace h:=aT b34 h
 refine ct (sk (an (sq (bk (sq ?_)))))
 obtain ⟨x35,h36,h⟩:=bind_some h
 obtain ⟨q37,q38,q39⟩:=bK h36
 refine rn ?_
 refine an (sq ?_)
 rcases nX (x35.Name.toList==x8.Name.toList) with b40 | b40
 ·replace h:=aR b40 h
  refine rn ?_
  refine an (cf (sk (ab (an (rn ?_)))))
  refine cN ⟨mL2,by omega,(i64.wrap (v30_L2+1)),?_,?_,?_,?_,?_,?_,?_,?_,?_,?_,h⟩
  all_goals simp +decide only [F,reduceIte,Nat.reduceAdd,Bool.not_true,Bool.not_false,EN, *,-h]
 replace h:=aT b40 h
 rcases nX x8.Held with b41 | b41
 ·replace h:=aR b41 h
  refine rn ?_
  refine an (cf (sk (ab (an (rn ?_)))))
  refine cN ⟨mL2,by omega,(i64.wrap (v30_L2+1)),?_,?_,?_,?_,?_,?_,?_,?_,?_,?_,h⟩
  all_goals simp +decide only [F,reduceIte,Nat.reduceAdd,Bool.not_true,Bool.not_false,EN, *,-h]
 replace h:=aT b41 h
 rcases cF (!x35.Held) with b42 | b42
 ·replace h:=aT b42 h
  refine rn ?_
  refine an (ct (sq (rn ?_)))
  refine an (rt ?_)
  cases h
  simp [Ret,TB,EN, *]
 replace h:=aR b42 h
 rcases cF (!x8.Shared) with b43 | b43
 ·replace h:=aT b43 h
  refine rn ?_
  refine an (ct (sq (rn ?_)))
  refine an (rt ?_)
  cases h
  simp [Ret,TB,EN, *]
 replace h:=aR b43 h
 refine rn ?_
 refine an ?_
 rcases cF (!x35.Shared) with b44 | b44
 ·replace h:=aT b44 h
  refine ct (sq (rn ?_))
  refine an (rt ?_)
  cases h
  simp [Ret,TB,EN, *]
 replace h:=aR b44 h
 refine cf (sk (ab (an (rn ?_))))
 refine cN ⟨mL2,by omega,(i64.wrap (v30_L2+1)),?_,?_,?_,?_,?_,?_,?_,?_,?_,?_,h⟩
 all_goals simp +decide only [F,reduceIte,Nat.reduceAdd,Bool.not_true,Bool.not_false,EN, *,-h]
instance:aZ 125 (type_of% @aDB):=⟨@aDB⟩
theorem aEW (p0 r) (h:rP p0=some r):Sc 126 [aX (M.dG.en p0)] [rB r]:=by
 have i1:=inv fun m s=>∃v8:Int,(s.t 1=vP 1 1 0∧s.t 6=vL M.cP.en p0.cP∧s.t 7=vI (List.length p0.cP:Int)∧s.t 8=vI v8∧s.h 1=(1,oX 140 (M.dG.en p0)))∧lA p0 m v8=some r
 have e1:=@lA.eq_2
 unfold rP at h
 exact sgo 48 [.tmp 2] Tryz.func126
instance:aZ 126 (type_of% @aEW):=⟨@aEW⟩
theorem aD6 (p0 c0 c1 r) (h:gU p0 c0 c1=some r):Sc 116 [aX (M.aJ.en p0),(false,[.ptr [.str c0]]),(false,[.ptr [.str c1]])] [rB r]:=by
 unfold gU at h
 exact sgo 15 [.tmp 4] Tryz.func116
instance:aZ 116 (type_of% @aD6):=⟨@aD6⟩
theorem aDv (p0:List M.aJ) (p1:M.aJ→Option Bool) (f1_:FuncId) (k1_:List D) (hp1 : ∀z0 r,p1 z0=some r→dS Tryz.prog f1_ ((true,M.aJ.en z0) ::  k1_.map fun c=>(false,[c])) [(false,[.ro (.bool r)])]) (r:Int) (h:fR p0 p1=some r):Sc 115 [(false,[.sl (List.map M.aJ.en p0)]),(false,[.fn f1_ k1_])] [rI r]:=by
 unfold fR at h
 simp only [EN]
 refine sgn 19 [.tmp 4] Tryz.func115 fun base wd => ?_
 refine sq (rn ?_)
 refine an (sq (sq (rn ?_)))
 refine an (bk ?_)
 refine dH (fun m s=>∃v8:Int,s.t 0=vL M.aJ.en p0∧s.t 1 = .v false [.dat (.fn f1_ k1_)]∧s.t 7=vI (List.length p0:Int)∧s.t 8=vI v8∧bN p0 p1 m v8=some r) fuel ?_ ?_
 ·refine ⟨0,?_,?_,?_,?_,h⟩
  all_goals simp +decide only [F,reduceIte,Nat.reduceAdd,Bool.not_true,Bool.not_false,EN, *,-h]
 rintro mL1 s1 ⟨v8,f2,f3,f4,f5,h⟩
 rcases mL1 with _ | mL1
 ·exact absurd h (by simp [bN])
 simp only [bN] at h
 refine sq (rn ?_)
 refine an (sq ?_)
 rcases nX (decide (v8<(List.length p0:Int))) with b6 | b6
 ·replace h:=aR b6 h
  refine cf (xt (eA (eX (kB (an (sq (rn ?_)))))))
  refine an (rt ?_)
  cases h
  simp [Ret,TB,EN, *]
 replace h:=aT b6 h
 refine ct (sk (an (sq (bk (sq (rn ?_))))))
 refine an (sq ?_)
 obtain ⟨x7,h8,h⟩:=bind_some h
 obtain ⟨q9,q10,q11⟩:=bK h8
 obtain ⟨x12,h13,h⟩:=bind_some h
 refine rn1 (hp1 x7 x12 h13) ?_
 refine an ?_
 rcases cF x12 with b14 | b14
 ·replace h:=aT b14 h
  refine ct (sq (rn ?_))
  refine an (rt ?_)
  cases h
  simp [Ret,TB,EN, *]
 replace h:=aR b14 h
 refine cf (sk (ab (an (rn ?_))))
 refine cN ⟨mL1,by omega,(i64.wrap (v8+1)),?_,?_,?_,?_,h⟩
 all_goals simp +decide only [F,reduceIte,Nat.reduceAdd,Bool.not_true,Bool.not_false,EN, *,-h]
instance:aZ 115 (type_of% @aDv):=⟨@aDv⟩
theorem c31 (p0 p1 p2 r) (h:jJ p0 p1 p2=some r):Sc 31 [aX (M.aF.en p0),aS p1,aS p2] [rI r]:=by
 unfold jJ at h
 simp only [EN]
 refine sgn 11 [.tmp 6] Tryz.func31 fun base wd => ?_
 refine sq (rn ?_)
 refine an (sq ?_)
 obtain ⟨x1,h2,h⟩:=bind_some h
 refine rn1 (aDv p0.Buckets (fun z0=>gU z0 p1 p2) 116 [.ptr [.str p1],.ptr [.str p2]] (fun z0 r hr=>aD6 z0 p1 p2 r hr) x1 h2) ?_
 refine an (rt ?_)
 cases h
 simp [Ret,TB,EN, *]
instance:aZ 31 (type_of% @c31):=⟨@c31⟩
end Go.Proofs.YtblghjofnielnaaGreat.gen
