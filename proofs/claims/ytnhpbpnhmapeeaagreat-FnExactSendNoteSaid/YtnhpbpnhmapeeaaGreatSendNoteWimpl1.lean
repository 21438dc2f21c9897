/-
  Helper text. No conditions.
-/
import Derived.Test.YtnhpbpnhmapeeaaGreatSendNoteTi
import Derived.Test.YtnhpbpnhmapeeaaGreatSendNoteWimpl0
import Derived.Test.YtnhpbpnhmapeeaaGreatSendNoteWlib0
import Derived.Test.YtnhpbpnhmapeeaaGreatSendNoteWlib1
namespace Go.Proofs.YtnhpbpnhmapeeaaGreat.gen
open Go Go.Sh
open Go.IntKind (i64)
set_option linter.unusedVariables false
set_option linter.unusedSimpArgs false
set_option maxRecDepth 20000
set_option maxHeartbeats 4000000
theorem aR4 (p0 p1 p2 r) (h:pW p0 p1 p2=some r):Sc 307 [aX (M.aH.en p0),aS p1,aI p2] [(true,M.aH.rs r.1),rB r.2]:=by
 unfold pW at h
 simp only [EN]
 refine sgn 61 [.cell 6 355,.tmp 7] Tryz.func307 fun base wd => ?_
 refine sq (rn ?_)
 refine an (sq ?_)
 obtain ⟨x1,h2,h⟩:=bind_some h
 refine rn1 (aLn _ _ h2) ?_
 refine an (sq (sq ?_))
 obtain ⟨x3,h4,h⟩:=bind_some h
 refine rn1 (aQP _ _ _ h4) ?_
 refine an (sq (rn ?_))
 refine an ?_
 rcases bO (decide (x3≥0)) with b5 | b5
 ·replace h:=bB b5 h
  refine ct ?_
  obtain ⟨x6,h7,h⟩:=bind_some h
  obtain ⟨q8,q9,q10⟩:=aR h7
  refine rn ?_
  refine an (sq (sq ?_))
  refine cu (fun s=>s.t 3=vP 3 1 0∧s.t 6=vP 6 1 0∧s.t 8=vP 8 1 0∧s.h 3=(1,oX 355 (M.aH.en p0))∧s.h 6=(1,oB 355 [.nil])∧s.h 8=(1,oB 355 [.row 100012 1])∧s.h 100012=(1,oW 417 2 M.Field.en (List.set x1.Fields x3.toNat (⟨x6.Name,p2⟩:M.Field)))∧True) ?_
  rintro s11 ⟨f12,f13,f14,f15,f16,f17,f18,_⟩
  obtain ⟨x19,h20,h⟩:=bind_some h
  rcases bO (!x19) with b21 | b21
  ·replace h:=bB b21 h
   refine rn1 (aMq _ _ h20) ?_
   refine an (ct (sq ?_))
   obtain ⟨x22,h23,h⟩:=bind_some h
   refine rn1 (aLn _ _ h23) ?_
   refine an (rt ?_)
   cases h
   simp [Ret,TB,EN, *]
  replace h:=bA b21 h
  obtain ⟨x24,h25,h⟩:=bind_some h
  refine rn2 (aMq _ _ h20) (aMq _ _ h25) ?_
  refine an ?_
  rcases rQ (!x24) with b26 | b26
  ·replace h:=bA b26 h
   refine cf (sk (an (sq (rn ?_))))
   refine an (rt ?_)
   cases h
   simp [Ret,TB,EN, *]
  replace h:=bB b26 h
  refine ct (sq ?_)
  obtain ⟨x27,h28,h⟩:=bind_some h
  refine rn1 (aLn _ _ h28) ?_
  refine an (rt ?_)
  cases h
  simp [Ret,TB,EN, *]
 replace h:=bA b5 h
 refine cf (sq (rn ?_))
 refine an (sq (bk ?_))
 refine kX (fun m s=>∃v10:Int,s.t 1=vS p1∧s.t 2=vI p2∧s.t 3=vP 3 1 0∧s.t 6=vP 6 1 0∧s.t 8=vP 8 1 0∧s.t 10=vI v10∧s.h 3=(1,oX 355 (M.aH.en p0))∧s.h 6=(1,oB 355 [.nil])∧s.h 8=(1,oB 355 [.row 100012 1])∧s.h 100012=(1,oW 417 2 M.Field.en x1.Fields)∧gW p0 p1 p2 x1 m v10=some r) fuel ?_ ?_
 ·refine ⟨0,?_,?_,?_,?_,?_,?_,?_,?_,?_,?_,h⟩
  all_goals simp +decide only [F,reduceIte,Nat.reduceAdd,Bool.not_true,Bool.not_false,EN, *,-h]
 rintro mL1 s29 ⟨v10,f30,f31,f32,f33,f34,f35,f36,f37,f38,f39,h⟩
 rcases mL1 with _ | mL1
 ·exact absurd h (by simp [gW])
 simp only [gW] at h
 refine sq (sq ?_)
 rcases rQ (decide (v10<(List.length x1.Fields:Int))) with b40 | b40
 ·replace h:=bA b40 h
  refine rn ?_
  refine an (cf (xt (jD (jY (uX (an ?_))))))
  obtain ⟨x67,h68,h⟩:=bind_some h
  apply jC
  ·simp +decide only [E,reduceIte,Nat.reduceAdd,Nat.reduceMul,Bool.not_true,Bool.not_false,←List.map_take,←List.map_drop,L,aCc,aBA,aCS,M.Field.en,EN,b5,f30,f31,f32,f33,f34,f35,f36,f37,f38,f39,b40]
   refine ⟨_,L375.aPG _,?_⟩
   try simp +decide only [E,reduceIte,Nat.reduceAdd,Nat.reduceMul,Bool.not_true,Bool.not_false,←List.map_take,←List.map_drop,L,aCc,aBA,aCS,M.Field.en,EN,b5,f30,f31,f32,f33,f34,f35,f36,f37,f38,f39,b40]
   refine ⟨by (have hb:=aAA h68);simp [M.Field.en,List.length_append] at hb ⊢ <;> omega,?_⟩
   try simp +decide only [E,reduceIte,Nat.reduceAdd,Nat.reduceMul,Bool.not_true,Bool.not_false,←List.map_take,←List.map_drop,L,aCc,aBA,aCS,M.Field.en,EN,b5,f30,f31,f32,f33,f34,f35,f36,f37,f38,f39,b40]
   exact Is.mk _
  refine an (sq (sq ?_))
  refine cu (fun s=>s.t 3=vP 3 1 0∧s.t 6=vP 6 1 0∧s.t 8=vP 8 1 0∧s.h 3=(1,oX 355 (M.aH.en p0))∧s.h 6=(1,oB 355 [.nil])∧s.h 8=(1,oB 355 [.row 100012 2])∧s.h 100012=(2,oW 417 2 M.Field.en (List.take v10.toNat x1.Fields++([(⟨p1,p2⟩:M.Field)]++List.drop v10.toNat x1.Fields)))∧True) ?_
  rintro s69 ⟨f70,f71,f72,f73,f74,f75,f76,_⟩
  obtain ⟨x77,h78,h⟩:=bind_some h
  rcases bO (!x77) with b79 | b79
  ·replace h:=bB b79 h
   refine rn1 (aMq _ _ h78) ?_
   refine an (ct (sq ?_))
   obtain ⟨x80,h81,h⟩:=bind_some h
   refine rn1 (aLn _ _ h81) ?_
   refine an (rt ?_)
   cases h
   simp [Ret,TB,EN, *]
  replace h:=bA b79 h
  obtain ⟨x82,h83,h⟩:=bind_some h
  refine rn2 (aMq _ _ h78) (aMq _ _ h83) ?_
  refine an ?_
  rcases rQ (!x82) with b84 | b84
  ·replace h:=bA b84 h
   refine cf (sk (an (sq (rn ?_))))
   refine an (rt ?_)
   cases h
   simp [Ret,TB,EN, *]
  replace h:=bB b84 h
  refine ct (sq ?_)
  obtain ⟨x85,h86,h⟩:=bind_some h
  refine rn1 (aLn _ _ h86) ?_
  refine an (rt ?_)
  cases h
  simp [Ret,TB,EN, *]
 replace h:=bB b40 h
 obtain ⟨x41,h42,h⟩:=bind_some h
 obtain ⟨q43,q44,q45⟩:=aR h42
 refine rn ?_
 refine an ?_
 rcases bO (Op.bytesLess x41.Name.toList p1.toList) with b46 | b46
 ·replace h:=bB b46 h
  refine ct (sk (an (bk (rn ?_))))
  refine ab ?_
  refine xY ⟨mL1,by omega,(i64.wrap (v10+1)),?_,?_,?_,?_,?_,?_,?_,?_,?_,?_,h⟩
  all_goals simp +decide only [F,reduceIte,Nat.reduceAdd,Bool.not_true,Bool.not_false,EN, *,-h]
 replace h:=bA b46 h
 refine cf (xt (jD (jY (uX (an ?_)))))
 obtain ⟨x47,h48,h⟩:=bind_some h
 apply jC
 ·simp +decide only [E,reduceIte,Nat.reduceAdd,Nat.reduceMul,Bool.not_true,Bool.not_false,←List.map_take,←List.map_drop,L,aCc,aBA,aCS,M.Field.en,EN,b5,f30,f31,f32,f33,f34,f35,f36,f37,f38,f39,b40,q43,q44,q45,b46]
  refine ⟨_,L375.aPG _,?_⟩
  try simp +decide only [E,reduceIte,Nat.reduceAdd,Nat.reduceMul,Bool.not_true,Bool.not_false,←List.map_take,←List.map_drop,L,aCc,aBA,aCS,M.Field.en,EN,b5,f30,f31,f32,f33,f34,f35,f36,f37,f38,f39,b40,q43,q44,q45,b46]
  refine ⟨by (have hb:=aAA h48);simp [M.Field.en,List.length_append] at hb ⊢ <;> omega,?_⟩
  try simp +decide only [E,reduceIte,Nat.reduceAdd,Nat.reduceMul,Bool.not_true,Bool.not_false,←List.map_take,←List.map_drop,L,aCc,aBA,aCS,M.Field.en,EN,b5,f30,f31,f32,f33,f34,f35,f36,f37,f38,f39,b40,q43,q44,q45,b46]
  exact Is.mk _
 refine an (sq (sq ?_))
 refine cu (fun s=>s.t 3=vP 3 1 0∧s.t 6=vP 6 1 0∧s.t 8=vP 8 1 0∧s.h 3=(1,oX 355 (M.aH.en p0))∧s.h 6=(1,oB 355 [.nil])∧s.h 8=(1,oB 355 [.row 100012 2])∧s.h 100012=(2,oW 417 2 M.Field.en (List.take v10.toNat x1.Fields++([(⟨p1,p2⟩:M.Field)]++List.drop v10.toNat x1.Fields)))∧True) ?_
 rintro s49 ⟨f50,f51,f52,f53,f54,f55,f56,_⟩
 obtain ⟨x57,h58,h⟩:=bind_some h
 rcases bO (!x57) with b59 | b59
 ·replace h:=bB b59 h
  refine rn1 (aMq _ _ h58) ?_
  refine an (ct (sq ?_))
  obtain ⟨x60,h61,h⟩:=bind_some h
  refine rn1 (aLn _ _ h61) ?_
  refine an (rt ?_)
  cases h
  simp [Ret,TB,EN, *]
 replace h:=bA b59 h
 obtain ⟨x62,h63,h⟩:=bind_some h
 refine rn2 (aMq _ _ h58) (aMq _ _ h63) ?_
 refine an ?_
 rcases rQ (!x62) with b64 | b64
 ·replace h:=bA b64 h
  refine cf (sk (an (sq (rn ?_))))
  refine an (rt ?_)
  cases h
  simp [Ret,TB,EN, *]
 replace h:=bB b64 h
 refine ct (sq ?_)
 obtain ⟨x65,h66,h⟩:=bind_some h
 refine rn1 (aLn _ _ h66) ?_
 refine an (rt ?_)
 cases h
 simp [Ret,TB,EN, *]
instance:bG 307 (type_of% @aR4):=⟨@aR4⟩
theorem aTc (p0 p1 r) (h:oL p0 p1=some r):Sc 407 [aI p0,aI p1] [rI r]:=by
 unfold oL at h
 exact sgo 13 [.tmp 4] Tryz.func407
instance:bG 407 (type_of% @aTc):=⟨@aTc⟩
set_option maxRecDepth 100000 in
set_option maxHeartbeats 4000000 in
theorem aS2 (p0:ByteArray) (p1:ByteArray) (r:Int) (h:iY p0 p1=some r):nM Tryz.prog 450 [(false,[.str p0]),(false,[.str p1])] [(false,[.ro (.int .i64 r)])]:=by
 refine aKS Tryz.func450 rfl (by decide +kernel) fun w => ?_
 cases h
 go_enter Tryz.func450,Tryz.ntmps450
 go_wp2
 rw [run_callFunc_extern Tryz.func473 (by kernel_rfl) (by kernel_rfl) (by kernel_rfl) (e:=Extern.BytealgCompare.compare) (by kernel_rfl),Lib.run_compareString]
 simp only [Result.andThen]
 rw [Oper.upon_value]
 go_wp2
 go_ret
 exact ⟨rfl,rfl⟩
instance:bG 450 (type_of% @aS2):=⟨@aS2⟩
theorem aTy (p0 p1 r) (h:xJ p0 p1=some r):Sc 408 [aS p0,aS p1] [rI r]:=by
 unfold xJ at h
 exact sgo 8 [.tmp 4] Tryz.func408
instance:bG 408 (type_of% @aTy):=⟨@aTy⟩
theorem aQY (p0 p1 r) (h:iO p0 p1=some r):Sc 347 [aX (M.Key.en p0),aX (M.Key.en p1)] [rI r]:=by
 unfold iO at h
 exact sgo 36 [.tmp 4] Tryz.func347
instance:bG 347 (type_of% @aQY):=⟨@aQY⟩
theorem aJ1 (p0 r) (h:bM p0=some r):Sc 264 [aX (M.aE.en p0)] [rB r]:=by
 have i1:=inv fun m s=>∃v8:Int,(s.t 1=vP 1 1 0∧s.t 6=vL M.Item.en p0.Items∧s.t 7=vI (List.length p0.Items:Int)∧s.t 8=vI v8∧s.h 1=(1,oX 98 (M.aE.en p0)))∧gP p0 m v8=some r
 have e1:=@gP.eq_2
 unfold bM at h
 exact sgo 55 [.tmp 2] Tryz.func264
instance:bG 264 (type_of% @aJ1):=⟨@aJ1⟩
theorem aUS (p0 p1 p2 r) (h:lU p0 p1 p2=some r):Sc 308 [aX (M.aE.en p0),aX (M.Key.en p1),aX (M.aH.en p2)] [(true,M.aE.rs r.1),rB r.2]:=by
 unfold lU at h
 simp only [EN]
 refine sgn 87 [.cell 6 98,.tmp 7] Tryz.func308 fun base wd => ?_
 refine sq (rn ?_)
 refine an (sq (sq ?_))
 obtain ⟨x1,h2,h⟩:=bind_some h
 rcases bO (!x1) with b3 | b3
 ·replace h:=bB b3 h
  refine rn1 (aJ1 _ _ h2) ?_
  refine an (ct (sq ?_))
  obtain ⟨x4,h5,h⟩:=bind_some h
  refine rn1 (aKp _ _ h5) ?_
  refine an (rt ?_)
  cases h
  simp [Ret,TB,EN, *]
 replace h:=bA b3 h
 obtain ⟨x6,h7,h⟩:=bind_some h
 refine rn2 (aJ1 _ _ h2) (aQK _ _ h7) ?_
 refine an ?_
 rcases bO (!x6) with b8 | b8
 ·replace h:=bB b8 h
  refine ct (sq ?_)
  obtain ⟨x9,h10,h⟩:=bind_some h
  refine rn1 (aKp _ _ h10) ?_
  refine an (rt ?_)
  cases h
  simp [Ret,TB,EN, *]
 replace h:=bA b8 h
 refine cf (sk (an (sq ?_)))
 obtain ⟨x11,h12,h⟩:=bind_some h
 refine rn1 (aKp _ _ h12) ?_
 refine an (sq (sq ?_))
 obtain ⟨x13,h14,h⟩:=bind_some h
 refine rn1 (aQ8 _ _ _ h14) ?_
 refine an (sq (rn ?_))
 refine an ?_
 rcases bO (decide (x13≥0)) with b15 | b15
 ·replace h:=bB b15 h
  refine ct ?_
  obtain ⟨x16,h17,h⟩:=bind_some h
  obtain ⟨x18,h19,h⟩:=bind_some h
  obtain ⟨q20,q21,q22⟩:=aR h19
  refine rd1 mixed (aLn _ _ h17) ?_
  refine an (sq (sq ?_))
  refine cu (fun s=>s.t 3=vP 3 1 0∧s.t 6=vP 6 1 0∧s.t 8=vP 8 1 0∧s.h 3=(1,oX 98 (M.aE.en p0))∧s.h 6=(1,oB 98 [cS (⟨#[]⟩:ByteArray),.nil,cI 0])∧s.h 8=(1,oB 98 [cS x11.Name,.row 200022 1,cI x11.Auto])∧s.h 200022=(1,oW 357 4 M.Item.en (List.set x11.Items x13.toNat (⟨x18.Key,x16⟩:M.Item)))∧True) ?_
  rintro s23 ⟨f24,f25,f26,f27,f28,f29,f30,_⟩
  obtain ⟨x31,h32,h⟩:=bind_some h
  refine rn1 (aJ1 _ _ h32) ?_
  refine an ?_
  rcases rQ (!x31) with b33 | b33
  ·replace h:=bA b33 h
   refine cf (sk (an (sq (rn ?_))))
   refine an (rt ?_)
   cases h
   simp [Ret,TB,EN, *]
  replace h:=bB b33 h
  refine ct (sq ?_)
  obtain ⟨x34,h35,h⟩:=bind_some h
  refine rn1 (aKp _ _ h35) ?_
  refine an (rt ?_)
  cases h
  simp [Ret,TB,EN, *]
 replace h:=bA b15 h
 refine cf (sq (rn ?_))
 refine an (sq (bk ?_))
 refine kX (fun m s=>∃v10:Int,s.t 3=vP 3 1 0∧s.t 4=vP 4 1 0∧s.t 5=vP 5 1 0∧s.t 6=vP 6 1 0∧s.t 8=vP 8 1 0∧s.t 10=vI v10∧s.h 3=(1,oX 98 (M.aE.en p0))∧s.h 4=(1,oX 174 (M.Key.en p1))∧s.h 5=(1,oX 355 (M.aH.en p2))∧s.h 6=(1,oB 98 [cS (⟨#[]⟩:ByteArray),.nil,cI 0])∧s.h 8=(1,oB 98 [cS x11.Name,.row 200022 1,cI x11.Auto])∧s.h 200022=(1,oW 357 4 M.Item.en x11.Items)∧iB p0 p1 p2 x11 m v10=some r) fuel ?_ ?_
 ·refine ⟨0,?_,?_,?_,?_,?_,?_,?_,?_,?_,?_,?_,?_,h⟩
  all_goals simp +decide only [F,reduceIte,Nat.reduceAdd,Bool.not_true,Bool.not_false,EN, *,-h]
 rintro mL1 s36 ⟨v10,f37,f38,f39,f40,f41,f42,f43,f44,f45,f46,f47,f48,h⟩
 rcases mL1 with _ | mL1
 ·exact absurd h (by simp [iB])
 simp only [iB] at h
 refine sq (sq ?_)
 rcases rQ (decide (v10<(List.length x11.Items:Int))) with b49 | b49
 ·replace h:=bA b49 h
  refine rd mixed ?_
  refine an (cf (xt (jD (jY (uX (an (sq ?_)))))))
  obtain ⟨x95,h96,h⟩:=bind_some h
  obtain ⟨x97,h98,h⟩:=bind_some h
  apply aBC mixed
  ·simp +decide only [E,reduceIte,Nat.reduceAdd,Nat.reduceMul,Bool.not_true,Bool.not_false,←List.map_take,←List.map_drop,L,aCL,aHJ,aEi,aBA,pQ,M.Item.en,EN,b3,b8,b15,f37,f38,f39,f40,f41,f42,f43,f44,f45,f46,f47,f48,b49]
   refine ⟨_,aLn _ _ h96,?_⟩
   try simp +decide only [E,reduceIte,Nat.reduceAdd,Nat.reduceMul,Bool.not_true,Bool.not_false,←List.map_take,←List.map_drop,L,aCL,aHJ,aEi,aBA,pQ,M.Item.en,EN,b3,b8,b15,f37,f38,f39,f40,f41,f42,f43,f44,f45,f46,f47,f48,b49]
   refine ⟨_,L376.aNZ _,?_⟩
   try simp +decide only [E,reduceIte,Nat.reduceAdd,Nat.reduceMul,Bool.not_true,Bool.not_false,←List.map_take,←List.map_drop,L,aCL,aHJ,aEi,aBA,pQ,M.Item.en,EN,b3,b8,b15,f37,f38,f39,f40,f41,f42,f43,f44,f45,f46,f47,f48,b49]
   refine ⟨by (have hb:=aAA h98);simp [M.Item.en,List.length_append] at hb ⊢ <;> omega,?_⟩
   try simp +decide only [E,reduceIte,Nat.reduceAdd,Nat.reduceMul,Bool.not_true,Bool.not_false,←List.map_take,←List.map_drop,L,aCL,aHJ,aEi,aBA,pQ,M.Item.en,EN,b3,b8,b15,f37,f38,f39,f40,f41,f42,f43,f44,f45,f46,f47,f48,b49]
   exact ⟨.mk (by decide +kernel),Is.mk _⟩
  refine an (sq ?_)
  refine cu (fun s=>s.t 3=vP 3 1 0∧s.t 4=vP 4 1 0∧s.t 6=vP 6 1 0∧s.t 8=vP 8 1 0∧s.h 3=(1,oX 98 (M.aE.en p0))∧s.h 4=(1,oX 174 (M.Key.en p1))∧s.h 6=(1,oB 98 [cS (⟨#[]⟩:ByteArray),.nil,cI 0])∧s.h 8=(1,oB 98 [cS x11.Name,.row 200022 2,cI x11.Auto])∧s.h 200022=(2,oW 357 4 M.Item.en (List.take v10.toNat x11.Items++([(⟨p1,x95⟩:M.Item)]++List.drop v10.toNat x11.Items)))∧True) ?_
  rintro s99 ⟨f100,f101,f102,f103,f104,f105,f106,f107,f108,_⟩
  rcases rQ (p1.Kind==1) with b109 | b109
  ·replace h:=bA b109 h
   refine rn ?_
   refine an (cf (sk (an (sq (sq ?_)))))
   obtain ⟨x127,h128,h⟩:=bind_some h
   refine rn1 (aJ1 _ _ h128) ?_
   refine an ?_
   rcases rQ (!x127) with b129 | b129
   ·replace h:=bA b129 h
    refine cf (sk (an (sq (rn ?_))))
    refine an (rt ?_)
    cases h
    simp [Ret,TB,EN, *]
   replace h:=bB b129 h
   refine ct (sq ?_)
   obtain ⟨x130,h131,h⟩:=bind_some h
   refine rn1 (aKp _ _ h131) ?_
   refine an (rt ?_)
   cases h
   simp [Ret,TB,EN, *]
  replace h:=bB b109 h
  rcases rQ (decide (p1.N>x11.Auto)) with b110 | b110
  ·replace h:=bA b110 h
   refine rn ?_
   refine an (cf (sk (an (sq (sq ?_)))))
   obtain ⟨x122,h123,h⟩:=bind_some h
   refine rn1 (aJ1 _ _ h123) ?_
   refine an ?_
   rcases rQ (!x122) with b124 | b124
   ·replace h:=bA b124 h
    refine cf (sk (an (sq (rn ?_))))
    refine an (rt ?_)
    cases h
    simp [Ret,TB,EN, *]
   replace h:=bB b124 h
   refine ct (sq ?_)
   obtain ⟨x125,h126,h⟩:=bind_some h
   refine rn1 (aKp _ _ h126) ?_
   refine an (rt ?_)
   cases h
   simp [Ret,TB,EN, *]
  replace h:=bB b110 h
  refine rn ?_
  refine an ?_
  rcases rQ (decide (p1.N≤1000000)) with b111 | b111
  ·replace h:=bA b111 h
   refine cf (sk (an (sq (sq ?_))))
   obtain ⟨x117,h118,h⟩:=bind_some h
   refine rn1 (aJ1 _ _ h118) ?_
   refine an ?_
   rcases rQ (!x117) with b119 | b119
   ·replace h:=bA b119 h
    refine cf (sk (an (sq (rn ?_))))
    refine an (rt ?_)
    cases h
    simp [Ret,TB,EN, *]
   replace h:=bB b119 h
   refine ct (sq ?_)
   obtain ⟨x120,h121,h⟩:=bind_some h
   refine rn1 (aKp _ _ h121) ?_
   refine an (rt ?_)
   cases h
   simp [Ret,TB,EN, *]
  replace h:=bB b111 h
  refine ct (rn ?_)
  refine an (sq (sq ?_))
  obtain ⟨x112,h113,h⟩:=bind_some h
  refine rn1 (aJ1 _ _ h113) ?_
  refine an ?_
  rcases rQ (!x112) with b114 | b114
  ·replace h:=bA b114 h
   refine cf (sk (an (sq (rn ?_))))
   refine an (rt ?_)
   cases h
   simp [Ret,TB,EN, *]
  replace h:=bB b114 h
  refine ct (sq ?_)
  obtain ⟨x115,h116,h⟩:=bind_some h
  refine rn1 (aKp _ _ h116) ?_
  refine an (rt ?_)
  cases h
  simp [Ret,TB,EN, *]
 replace h:=bB b49 h
 obtain ⟨x50,h51,h⟩:=bind_some h
 obtain ⟨q52,q53,q54⟩:=aR h51
 obtain ⟨x55,h56,h⟩:=bind_some h
 refine rd1 mixed (aQY _ _ _ h56) ?_
 refine an ?_
 rcases bO (decide (x55<0)) with b57 | b57
 ·replace h:=bB b57 h
  refine ct (sk (an (bk (rn ?_))))
  refine ab ?_
  refine xY ⟨mL1,by omega,(i64.wrap (v10+1)),?_,?_,?_,?_,?_,?_,?_,?_,?_,?_,?_,?_,h⟩
  all_goals simp +decide only [F,reduceIte,Nat.reduceAdd,Bool.not_true,Bool.not_false,EN, *,-h]
 replace h:=bA b57 h
 refine cf (xt (jD (jY (uX (an (sq ?_))))))
 obtain ⟨x58,h59,h⟩:=bind_some h
 obtain ⟨x60,h61,h⟩:=bind_some h
 apply aBC mixed
 ·simp +decide only [E,reduceIte,Nat.reduceAdd,Nat.reduceMul,Bool.not_true,Bool.not_false,←List.map_take,←List.map_drop,L,aCL,aHJ,aEi,aBA,pQ,M.Item.en,EN,b3,b8,b15,f37,f38,f39,f40,f41,f42,f43,f44,f45,f46,f47,f48,b49,q52,q53,q54,b57]
  refine ⟨_,aLn _ _ h59,?_⟩
  try simp +decide only [E,reduceIte,Nat.reduceAdd,Nat.reduceMul,Bool.not_true,Bool.not_false,←List.map_take,←List.map_drop,L,aCL,aHJ,aEi,aBA,pQ,M.Item.en,EN,b3,b8,b15,f37,f38,f39,f40,f41,f42,f43,f44,f45,f46,f47,f48,b49,q52,q53,q54,b57]
  refine ⟨_,L376.aNZ _,?_⟩
  try simp +decide only [E,reduceIte,Nat.reduceAdd,Nat.reduceMul,Bool.not_true,Bool.not_false,←List.map_take,←List.map_drop,L,aCL,aHJ,aEi,aBA,pQ,M.Item.en,EN,b3,b8,b15,f37,f38,f39,f40,f41,f42,f43,f44,f45,f46,f47,f48,b49,q52,q53,q54,b57]
  refine ⟨by (have hb:=aAA h61);simp [M.Item.en,List.length_append] at hb ⊢ <;> omega,?_⟩
  try simp +decide only [E,reduceIte,Nat.reduceAdd,Nat.reduceMul,Bool.not_true,Bool.not_false,←List.map_take,←List.map_drop,L,aCL,aHJ,aEi,aBA,pQ,M.Item.en,EN,b3,b8,b15,f37,f38,f39,f40,f41,f42,f43,f44,f45,f46,f47,f48,b49,q52,q53,q54,b57]
  exact ⟨.mk (by decide +kernel),Is.mk _⟩
 refine an (sq ?_)
 refine cu (fun s=>s.t 3=vP 3 1 0∧s.t 4=vP 4 1 0∧s.t 6=vP 6 1 0∧s.t 8=vP 8 1 0∧s.h 3=(1,oX 98 (M.aE.en p0))∧s.h 4=(1,oX 174 (M.Key.en p1))∧s.h 6=(1,oB 98 [cS (⟨#[]⟩:ByteArray),.nil,cI 0])∧s.h 8=(1,oB 98 [cS x11.Name,.row 200022 2,cI x11.Auto])∧s.h 200022=(2,oW 357 4 M.Item.en (List.take v10.toNat x11.Items++([(⟨p1,x58⟩:M.Item)]++List.drop v10.toNat x11.Items)))∧True) ?_
 rintro s62 ⟨f63,f64,f65,f66,f67,f68,f69,f70,f71,_⟩
 rcases rQ (p1.Kind==1) with b72 | b72
 ·replace h:=bA b72 h
  refine rn ?_
  refine an (cf (sk (an (sq (sq ?_)))))
  obtain ⟨x90,h91,h⟩:=bind_some h
  refine rn1 (aJ1 _ _ h91) ?_
  refine an ?_
  rcases rQ (!x90) with b92 | b92
  ·replace h:=bA b92 h
   refine cf (sk (an (sq (rn ?_))))
   refine an (rt ?_)
   cases h
   simp [Ret,TB,EN, *]
  replace h:=bB b92 h
  refine ct (sq ?_)
  obtain ⟨x93,h94,h⟩:=bind_some h
  refine rn1 (aKp _ _ h94) ?_
  refine an (rt ?_)
  cases h
  simp [Ret,TB,EN, *]
 replace h:=bB b72 h
 rcases rQ (decide (p1.N>x11.Auto)) with b73 | b73
 ·replace h:=bA b73 h
  refine rn ?_
  refine an (cf (sk (an (sq (sq ?_)))))
  obtain ⟨x85,h86,h⟩:=bind_some h
  refine rn1 (aJ1 _ _ h86) ?_
  refine an ?_
  rcases rQ (!x85) with b87 | b87
  ·replace h:=bA b87 h
   refine cf (sk (an (sq (rn ?_))))
   refine an (rt ?_)
   cases h
   simp [Ret,TB,EN, *]
  replace h:=bB b87 h
  refine ct (sq ?_)
  obtain ⟨x88,h89,h⟩:=bind_some h
  refine rn1 (aKp _ _ h89) ?_
  refine an (rt ?_)
  cases h
  simp [Ret,TB,EN, *]
 replace h:=bB b73 h
 refine rn ?_
 refine an ?_
 rcases rQ (decide (p1.N≤1000000)) with b74 | b74
 ·replace h:=bA b74 h
  refine cf (sk (an (sq (sq ?_))))
  obtain ⟨x80,h81,h⟩:=bind_some h
  refine rn1 (aJ1 _ _ h81) ?_
  refine an ?_
  rcases rQ (!x80) with b82 | b82
  ·replace h:=bA b82 h
   refine cf (sk (an (sq (rn ?_))))
   refine an (rt ?_)
   cases h
   simp [Ret,TB,EN, *]
  replace h:=bB b82 h
  refine ct (sq ?_)
  obtain ⟨x83,h84,h⟩:=bind_some h
  refine rn1 (aKp _ _ h84) ?_
  refine an (rt ?_)
  cases h
  simp [Ret,TB,EN, *]
 replace h:=bB b74 h
 refine ct (rn ?_)
 refine an (sq (sq ?_))
 obtain ⟨x75,h76,h⟩:=bind_some h
 refine rn1 (aJ1 _ _ h76) ?_
 refine an ?_
 rcases rQ (!x75) with b77 | b77
 ·replace h:=bA b77 h
  refine cf (sk (an (sq (rn ?_))))
  refine an (rt ?_)
  cases h
  simp [Ret,TB,EN, *]
 replace h:=bB b77 h
 refine ct (sq ?_)
 obtain ⟨x78,h79,h⟩:=bind_some h
 refine rn1 (aKp _ _ h79) ?_
 refine an (rt ?_)
 cases h
 simp [Ret,TB,EN, *]
instance:bG 308 (type_of% @aUS):=⟨@aUS⟩
theorem aVE (p0 p1 r) (h:jT p0 p1=some r):Sc 216 [aX (M.aE.en p0),aX (M.aV.en p1)] [(true,M.aE.rs r.1),rB r.2]:=by
 unfold jT at h
 exact sgo 42 [.cell 4 98,.tmp 5] Tryz.func216
instance:bG 216 (type_of% @aVE):=⟨@aVE⟩
theorem aVF (p0 p1 r) (h:zH p0 p1=some r):Sc 309 [aX (M.aE.en p0),aL M.aV.en p1] [(true,M.aE.rs r)]:=by
 have i1:=aJ0 [.b 5 1 7050000 357 4] fun m s=>∃v12:Int,∃w5_0:ByteArray,∃w5_2:Int,∃r50000:List M.Item,∃u50000:Nat,(s.t 4=vP 4 1 0∧s.t 5=vP 5 1 0∧s.t 10=vL M.aV.en p1∧s.t 11=vI (List.length p1:Int)∧s.t 12=vI v12∧s.h 4=(1,oB 98 [cS (⟨#[]⟩:ByteArray),.nil,cI 0])∧s.h 5=(1,oB 98 [cS w5_0,.row 7050000 u50000,cI w5_2])∧s.h 7050000=(u50000,oW 357 4 M.Item.en r50000))∧jN p1 m v12 w5_0 w5_2 r50000=some r
 have e1:=@jN.eq_2
 unfold zH at h
 exact sgo 24 [.cell 4 98] Tryz.func309
instance:bG 309 (type_of% @aVF):=⟨@aVF⟩
theorem aRE (p0 r) (h:xP p0=some r):Sc 217 [aX (M.aC.en p0)] [(true,M.aE.rs r)]:=by
 unfold xP at h
 exact sgo 10 [.cell 2 98] Tryz.func217
instance:bG 217 (type_of% @aRE):=⟨@aRE⟩
theorem aUT (p0 r) (h:oE p0=some r):Sc 218 [aX (M.aC.en p0)] [rB r]:=by
 unfold oE at h
 exact sgo 23 [.tmp 2] Tryz.func218
instance:bG 218 (type_of% @aUT):=⟨@aUT⟩
theorem c97 (p0 p1 p2 p3 r) (h:pX p0 p1 p2 p3=some r):Sc 97 [aX (M.aC.en p0),aX (M.Key.en p1),aS p2,aI p3] [(true,M.aC.rs r.1),rB r.2]:=by
 unfold pX at h
 exact sgo 61 [.cell 8 122,.tmp 9] Tryz.func97
instance:bG 97 (type_of% @c97):=⟨@c97⟩
theorem aUW (p0 r) (h:pI p0=some r):Sc 313 [aX (M.Registration.en p0)] [rB r]:=by
 unfold pI at h
 simp only [EN]
 refine sgn 37 [.tmp 2] Tryz.func313 fun base wd => ?_
 refine sq (rn ?_)
 refine an (sq (rn ?_))
 refine an (sq (sq (rn ?_)))
 refine an (bk ?_)
 refine cu (fun s=>s.t 1=vP 1 1 0∧s.t 3=vI 0∧s.t 12=vR 100012 1∧s.t 13=vI ((3:Nat):Int)∧s.t 14=vI 0∧s.h 1=(1,oX 107 (M.Registration.en p0))∧s.h 100012=(1,oW 3 1 enI ([p0.Active,p0.Waiting,p0.Installing]))∧True) ?_
 rintro s1 ⟨f2,f3,f4,f5,f6,f7,f8,_⟩
 refine kX (fun m s=>∃v3:Int,∃v14:Int,s.t 1=vP 1 1 0∧s.t 3=vI v3∧s.t 12=vR 100012 1∧s.t 13=vI ((3:Nat):Int)∧s.t 14=vI v14∧s.h 1=(1,oX 107 (M.Registration.en p0))∧s.h 100012=(1,oW 3 1 enI ([p0.Active,p0.Waiting,p0.Installing]))∧cV p0 m v3 v14=some r) fuel ?_ ?_
 ·refine ⟨0,0,?_,?_,?_,?_,?_,?_,?_,h⟩
  all_goals simp +decide only [F,reduceIte,Nat.reduceAdd,Bool.not_true,Bool.not_false,EN, *,-h]
 rintro mL1 s9 ⟨v3,v14,f10,f11,f12,f13,f14,f15,f16,h⟩
 rcases mL1 with _ | mL1
 ·exact absurd h (by simp [cV])
 simp only [cV] at h
 refine sq (rn ?_)
 refine an (sq ?_)
 rcases rQ (decide (v14<((3:Nat):Int))) with b17 | b17
 ·replace h:=bA b17 h
  refine cf (xt (jD (jY (uX (an (sq ?_))))))
  obtain ⟨x28,h29,h⟩:=bind_some h
  refine rn1 (aNy _ _ h29) ?_
  refine an (rt ?_)
  cases h
  simp [Ret,TB,EN, *]
 replace h:=bB b17 h
 refine ct (sk (an (sq (bk (sq ?_)))))
 obtain ⟨x18,h19,h⟩:=bind_some h
 obtain ⟨q20,q21,q22⟩:=aR h19
 have q20m:=congrArg (Option.map enI) (show ([p0.Active,p0.Waiting,p0.Installing])[v14.toNat]? = some x18 by assumption)
 simp only [←List.getElem?_map,List.map_cons,List.map_nil,Option.map_some,EN] at q20m
 simp only [List.length_cons,List.length_nil,Nat.reduceAdd] at q22
 refine rn ?_
 refine an (sq (sq ?_))
 obtain ⟨x23,h24,h⟩:=bind_some h
 rcases bO (!x23) with b25 | b25
 ·replace h:=bB b25 h
  refine rn1 (aN3 _ _ _ _ h24) ?_
  refine an (ct (sq (rn ?_)))
  refine an (rt ?_)
  cases h
  simp [Ret,TB,EN, *]
 replace h:=bA b25 h
 rcases rQ (x18 != 0) with b26 | b26
 ·replace h:=bA b26 h
  refine rn1 (aN3 _ _ _ _ h24) ?_
  refine an (cf (sk (an (rn ?_))))
  refine ab (an (rn ?_))
  refine xY ⟨mL1,by omega,(if x18>v3 then x18 else v3),(i64.wrap (v14+1)),?_,?_,?_,?_,?_,?_,?_,h⟩
  all_goals simp +decide only [F,reduceIte,Nat.reduceAdd,Bool.not_true,Bool.not_false,EN, *,-h]
 replace h:=bB b26 h
 refine rn1 (aN3 _ _ _ _ h24) ?_
 refine an ?_
 rcases bO (decide (x18≤v3)) with b27 | b27
 ·replace h:=bB b27 h
  refine ct (sq (rn ?_))
  refine an (rt ?_)
  cases h
  simp [Ret,TB,EN, *]
 replace h:=bA b27 h
 refine cf (sk (an (rn ?_)))
 refine ab (an (rn ?_))
 refine xY ⟨mL1,by omega,(if x18>v3 then x18 else v3),(i64.wrap (v14+1)),?_,?_,?_,?_,?_,?_,?_,h⟩
 all_goals simp +decide only [F,reduceIte,Nat.reduceAdd,Bool.not_true,Bool.not_false,EN, *,-h]
instance:bG 313 (type_of% @aUW):=⟨@aUW⟩
theorem aQ0 (p0 c0 c1 r) (h:tD p0 c0 c1=some r):Sc 390 [aX (M.Cached.en p0),(false,[.ptr [.str c0]]),(false,[.ptr [.str c1]])] [rB r]:=by
 unfold tD at h
 exact sgo 15 [.tmp 4] Tryz.func390
instance:bG 390 (type_of% @aQ0):=⟨@aQ0⟩
theorem aQc (p0:List M.Cached) (p1:M.Cached→Option Bool) (f1_:FuncId) (k1_:List D) (hp1 : ∀z0 r,p1 z0=some r→nM Tryz.prog f1_ ((true,M.Cached.en z0) ::  k1_.map fun c=>(false,[c])) [(false,[.ro (.bool r)])]) (r:Int) (h:hD p0 p1=some r):Sc 389 [(false,[.sl (List.map M.Cached.en p0)]),(false,[.fn f1_ k1_])] [rI r]:=by
 unfold hD at h
 simp only [EN]
 refine sgn 19 [.tmp 4] Tryz.func389 fun base wd => ?_
 refine sq (rn ?_)
 refine an (sq (sq (rn ?_)))
 refine an (bk ?_)
 refine kX (fun m s=>∃v8:Int,s.t 0=vL M.Cached.en p0∧s.t 1 = .v false [.dat (.fn f1_ k1_)]∧s.t 7=vI (List.length p0:Int)∧s.t 8=vI v8∧bT p0 p1 m v8=some r) fuel ?_ ?_
 ·refine ⟨0,?_,?_,?_,?_,h⟩
  all_goals simp +decide only [F,reduceIte,Nat.reduceAdd,Bool.not_true,Bool.not_false,EN, *,-h]
 rintro mL1 s1 ⟨v8,f2,f3,f4,f5,h⟩
 rcases mL1 with _ | mL1
 ·exact absurd h (by simp [bT])
 simp only [bT] at h
 refine sq (rn ?_)
 refine an (sq ?_)
 rcases rQ (decide (v8<(List.length p0:Int))) with b6 | b6
 ·replace h:=bA b6 h
  refine cf (xt (jD (jY (uX (an (sq (rn ?_)))))))
  refine an (rt ?_)
  cases h
  simp [Ret,TB,EN, *]
 replace h:=bB b6 h
 refine ct (sk (an (sq (bk (sq (rn ?_))))))
 refine an (sq ?_)
 obtain ⟨x7,h8,h⟩:=bind_some h
 obtain ⟨q9,q10,q11⟩:=aR h8
 obtain ⟨x12,h13,h⟩:=bind_some h
 refine rn1 (hp1 x7 x12 h13) ?_
 refine an ?_
 rcases bO x12 with b14 | b14
 ·replace h:=bB b14 h
  refine ct (sq (rn ?_))
  refine an (rt ?_)
  cases h
  simp [Ret,TB,EN, *]
 replace h:=bA b14 h
 refine cf (sk (ab (an (rn ?_))))
 refine xY ⟨mL1,by omega,(i64.wrap (v8+1)),?_,?_,?_,?_,h⟩
 all_goals simp +decide only [F,reduceIte,Nat.reduceAdd,Bool.not_true,Bool.not_false,EN, *,-h]
instance:bG 389 (type_of% @aQc):=⟨@aQc⟩
theorem aRl (p0 p1 p2 r) (h:uQ p0 p1 p2=some r):Sc 323 [aX (M.Cache.en p0),aS p1,aS p2] [rI r]:=by
 unfold uQ at h
 simp only [EN]
 refine sgn 11 [.tmp 6] Tryz.func323 fun base wd => ?_
 refine sq (rn ?_)
 refine an (sq ?_)
 obtain ⟨x1,h2,h⟩:=bind_some h
 refine rn1 (aQc p0.Entries (fun z0=>tD z0 p1 p2) 390 [.ptr [.str p1],.ptr [.str p2]] (fun z0 r hr=>aQ0 z0 p1 p2 r hr) x1 h2) ?_
 refine an (rt ?_)
 cases h
 simp [Ret,TB,EN, *]
instance:bG 323 (type_of% @aRl):=⟨@aRl⟩
theorem aSX (p0 r) (h:lY p0=some r):Sc 381 [aX (M.Response.en p0)] [rB r]:=by
 unfold lY at h
 exact sgo 22 [.tmp 2] Tryz.func381
instance:bG 381 (type_of% @aSX):=⟨@aSX⟩
theorem aTI (p0 r) (h:pZ p0=some r):Sc 319 [aX (M.aU.en p0)] [rB r]:=by
 have i1:=inv fun m s=>∃v10:Int,(s.t 1=vP 1 1 0∧s.t 8=vL M.Cache.en p0.Caches∧s.t 9=vI (List.length p0.Caches:Int)∧s.t 10=vI v10∧s.h 1=(1,oX 110 (M.aU.en p0)))∧eJ p0 m v10=some r
 have e1:=@eJ.eq_2
 have i2:=fun (v10:Int) (x8:M.Cache) (k25:Int→Option Bool) (s1:St)=>inv fun m s=>∃v44_L2:Int,(s.t 1=vP 1 1 0∧s.t 4=vP 4 ((s1.h 4).1+1) 0∧s.t 8=vL M.Cache.en p0.Caches∧s.t 9=vI (List.length p0.Caches:Int)∧s.t 10=vI v10∧s.t 42=vL M.Cached.en x8.Entries∧s.t 43=vI (List.length x8.Entries:Int)∧s.t 44=vI v44_L2∧s.h 1=(1,oX 110 (M.aU.en p0))∧s.h 4=(((s1.h 4).1+1),oX 286 (M.Cache.en x8)))∧eL x8 k25 m v44_L2=some r
 have e2:=@eL.eq_2
 have i3:=fun (v10:Int) (x8:M.Cache) (k57:Int→Option Bool) (s1:St)=>inv fun m s=>∃v44_L3:Int,(s.t 1=vP 1 1 0∧s.t 4=vP 4 ((s1.h 4).1+1) 0∧s.t 8=vL M.Cache.en p0.Caches∧s.t 9=vI (List.length p0.Caches:Int)∧s.t 10=vI v10∧s.t 42=vL M.Cached.en x8.Entries∧s.t 43=vI (List.length x8.Entries:Int)∧s.t 44=vI v44_L3∧s.h 1=(1,oX 110 (M.aU.en p0))∧s.h 4=(((s1.h 4).1+1),oX 286 (M.Cache.en x8)))∧dX x8 k57 m v44_L3=some r
 have e3:=@dX.eq_2
 unfold pZ at h
 exact sgo 81 [.tmp 2] Tryz.func319
instance:bG 319 (type_of% @aTI):=⟨@aTI⟩
theorem aQr (p0 c0 r) (h:oQ p0 c0=some r):Sc 435 [aX (M.aE.en p0),(false,[.ptr [.str c0]])] [rB r]:=by
 unfold oQ at h
 exact sgo 8 [.tmp 3] Tryz.func435
instance:bG 435 (type_of% @aQr):=⟨@aQr⟩
theorem aQw (p0:List M.aE) (p1:M.aE→Option Bool) (f1_:FuncId) (k1_:List D) (hp1 : ∀z0 r,p1 z0=some r→nM Tryz.prog f1_ ((true,M.aE.en z0) ::  k1_.map fun c=>(false,[c])) [(false,[.ro (.bool r)])]) (r:Int) (h:iC p0 p1=some r):Sc 434 [(false,[.sl (List.map M.aE.en p0)]),(false,[.fn f1_ k1_])] [rI r]:=by
 unfold iC at h
 simp only [EN]
 refine sgn 19 [.tmp 4] Tryz.func434 fun base wd => ?_
 refine sq (rn ?_)
 refine an (sq (sq (rn ?_)))
 refine an (bk ?_)
 refine kX (fun m s=>∃v8:Int,s.t 0=vL M.aE.en p0∧s.t 1 = .v false [.dat (.fn f1_ k1_)]∧s.t 7=vI (List.length p0:Int)∧s.t 8=vI v8∧bX p0 p1 m v8=some r) fuel ?_ ?_
 ·refine ⟨0,?_,?_,?_,?_,h⟩
  all_goals simp +decide only [F,reduceIte,Nat.reduceAdd,Bool.not_true,Bool.not_false,EN, *,-h]
 rintro mL1 s1 ⟨v8,f2,f3,f4,f5,h⟩
 rcases mL1 with _ | mL1
 ·exact absurd h (by simp [bX])
 simp only [bX] at h
 refine sq (rn ?_)
 refine an (sq ?_)
 rcases rQ (decide (v8<(List.length p0:Int))) with b6 | b6
 ·replace h:=bA b6 h
  refine cf (xt (jD (jY (uX (an (sq (rn ?_)))))))
  refine an (rt ?_)
  cases h
  simp [Ret,TB,EN, *]
 replace h:=bB b6 h
 refine ct (sk (an (sq (bk (sq (rn ?_))))))
 refine an (sq ?_)
 obtain ⟨x7,h8,h⟩:=bind_some h
 obtain ⟨q9,q10,q11⟩:=aR h8
 obtain ⟨x12,h13,h⟩:=bind_some h
 refine rn1 (hp1 x7 x12 h13) ?_
 refine an ?_
 rcases bO x12 with b14 | b14
 ·replace h:=bB b14 h
  refine ct (sq (rn ?_))
  refine an (rt ?_)
  cases h
  simp [Ret,TB,EN, *]
 replace h:=bA b14 h
 refine cf (sk (ab (an (rn ?_))))
 refine xY ⟨mL1,by omega,(i64.wrap (v8+1)),?_,?_,?_,?_,h⟩
 all_goals simp +decide only [F,reduceIte,Nat.reduceAdd,Bool.not_true,Bool.not_false,EN, *,-h]
instance:bG 434 (type_of% @aQw):=⟨@aQw⟩
end Go.Proofs.YtnhpbpnhmapeeaaGreat.gen
