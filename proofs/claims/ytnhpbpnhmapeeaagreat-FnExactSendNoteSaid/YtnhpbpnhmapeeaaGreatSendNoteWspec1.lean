/-
  Helper text. No conditions.
-/
import Derived.Test.YtnhpbpnhmapeeaaGreatSendNoteTi
import Derived.Test.YtnhpbpnhmapeeaaGreatSendNoteWspec0
namespace Go.Proofs.YtnhpbpnhmapeeaaGreat.gen
open Go Go.Sh
open Go.IntKind (i64)
set_option linter.unusedVariables false
set_option linter.unusedSimpArgs false
set_option maxRecDepth 20000
set_option maxHeartbeats 4000000
theorem aUB (p0 p1 p2 r) (h:lP p0 p1 p2=some r):Sc 301 [aX (M.aE.en p0),aX (M.Key.en p1),aX (M.aH.en p2)] [(true,M.aE.rs r.1),rB r.2]:=by
 unfold lP at h
 simp only [EN]
 refine sgn 100 [.cell 6 98,.tmp 7] Tryz.func301 fun base wd => ?_
 refine sq (rn ?_)
 refine an (sq (sq ?_))
 obtain ⟨x1,h2,h⟩:=bind_some h
 rcases bO (!x1) with b3 | b3
 ·replace h:=bB b3 h
  refine rn1 (aPz _ _ h2) ?_
  refine an (ct (sq ?_))
  obtain ⟨x4,h5,h⟩:=bind_some h
  refine rn1 (aOu _ _ h5) ?_
  refine an (rt ?_)
  cases h
  simp [Ret,TB,EN, *]
 replace h:=bA b3 h
 obtain ⟨x6,h7,h⟩:=bind_some h
 rcases bO (!x6) with b8 | b8
 ·replace h:=bB b8 h
  refine rn2 (aPz _ _ h2) (aPI _ _ h7) ?_
  refine an (ct (sq ?_))
  obtain ⟨x9,h10,h⟩:=bind_some h
  refine rn1 (aOu _ _ h10) ?_
  refine an (rt ?_)
  cases h
  simp [Ret,TB,EN, *]
 replace h:=bA b8 h
 obtain ⟨x11,h12,h⟩:=bind_some h
 refine rn3 (aPz _ _ h2) (aPI _ _ h7) (aLm _ _ h12) ?_
 refine an ?_
 rcases bO (!x11) with b13 | b13
 ·replace h:=bB b13 h
  refine ct (sq ?_)
  obtain ⟨x14,h15,h⟩:=bind_some h
  refine rn1 (aOu _ _ h15) ?_
  refine an (rt ?_)
  cases h
  simp [Ret,TB,EN, *]
 replace h:=bA b13 h
 refine cf (sk (an (sq ?_)))
 obtain ⟨x16,h17,h⟩:=bind_some h
 refine rn1 (aOu _ _ h17) ?_
 refine an (sq (sq ?_))
 obtain ⟨x18,h19,h⟩:=bind_some h
 refine rn1 (aRC _ _ _ h19) ?_
 refine an (sq (rn ?_))
 refine an ?_
 rcases bO (decide (x18≥0)) with b20 | b20
 ·replace h:=bB b20 h
  refine ct (sq ?_)
  obtain ⟨x21,h22,h⟩:=bind_some h
  obtain ⟨x23,h24,h⟩:=bind_some h
  obtain ⟨q25,q26,q27⟩:=aR h24
  refine rd1 mixed (aLq _ _ h22) ?_
  refine an (sq (rn ?_))
  refine an (rt ?_)
  cases h
  simp [Ret,TB,EN, *]
 replace h:=bA b20 h
 refine cf (sk (an (sq (sq (rn ?_)))))
 refine an ?_
 rcases bO (decide ((List.length p0.Items:Int)≥16)) with b28 | b28
 ·replace h:=bB b28 h
  refine ct (sq (rn ?_))
  refine an (rt ?_)
  cases h
  simp [Ret,TB,EN, *]
 replace h:=bA b28 h
 refine cf (sk (an (sq (rn ?_))))
 refine an (sq (bk ?_))
 refine kX (fun m s=>∃v10:Int,s.t 3=vP 3 1 0∧s.t 4=vP 4 1 0∧s.t 5=vP 5 1 0∧s.t 6=vP 6 1 0∧s.t 8=vP 8 1 0∧s.t 10=vI v10∧s.h 3=(1,oX 98 (M.aE.en p0))∧s.h 4=(1,oX 174 (M.Key.en p1))∧s.h 5=(1,oX 355 (M.aH.en p2))∧s.h 6=(1,oB 98 [cS (⟨#[]⟩:ByteArray),.nil,cI 0])∧s.h 8=(1,oB 98 [cS x16.Name,.row 200028 1,cI x16.Auto])∧s.h 200028=(1,oW 357 4 M.Item.en x16.Items)∧iG p0 p1 p2 x16 m v10=some r) fuel ?_ ?_
 ·refine ⟨0,?_,?_,?_,?_,?_,?_,?_,?_,?_,?_,?_,?_,h⟩
  all_goals simp +decide only [F,reduceIte,Nat.reduceAdd,Bool.not_true,Bool.not_false,EN, *,-h]
 rintro mL1 s29 ⟨v10,f30,f31,f32,f33,f34,f35,f36,f37,f38,f39,f40,f41,h⟩
 rcases mL1 with _ | mL1
 ·exact absurd h (by simp [iG])
 simp only [iG] at h
 refine sq (sq ?_)
 rcases rQ (decide (v10<(List.length p0.Items:Int))) with b42 | b42
 ·replace h:=bA b42 h
  refine rd mixed ?_
  refine an (cf (xt (jD (jY (uX (an (sq ?_)))))))
  obtain ⟨x103,h104,h⟩:=bind_some h
  obtain ⟨x105,h106,h⟩:=bind_some h
  apply jC
  ·simp +decide only [E,reduceIte,Nat.reduceAdd,Nat.reduceMul,Bool.not_true,Bool.not_false,←List.map_take,←List.map_drop,L,aCL,aHJ,pQ,M.Item.en,EN,b3,b8,b13,b20,b28,f30,f31,f32,f33,f34,f35,f36,f37,f38,f39,f40,f41,b42]
   refine ⟨by first | exact fY h104 | exact (fY h104).2 | exact (fY h104).2.2,?_⟩
   try simp +decide only [E,reduceIte,Nat.reduceAdd,Nat.reduceMul,Bool.not_true,Bool.not_false,←List.map_take,←List.map_drop,L,aCL,aHJ,pQ,M.Item.en,EN,b3,b8,b13,b20,b28,f30,f31,f32,f33,f34,f35,f36,f37,f38,f39,f40,f41,b42]
   refine ⟨by (have hb:=eI h106);simp [M.Item.en,List.length_append,aY,←List.map_take,←List.map_drop,-List.map_take,-List.map_drop] at hb ⊢ <;> omega,?_⟩
   try simp +decide only [E,reduceIte,Nat.reduceAdd,Nat.reduceMul,Bool.not_true,Bool.not_false,←List.map_take,←List.map_drop,L,aCL,aHJ,pQ,M.Item.en,EN,b3,b8,b13,b20,b28,f30,f31,f32,f33,f34,f35,f36,f37,f38,f39,f40,f41,b42]
   exact Is.mk _
  refine an (sq ?_)
  refine cu (fun s=>s.t 3=vP 3 1 0∧s.t 4=vP 4 1 0∧s.t 5=vP 5 1 0∧s.t 6=vP 6 1 0∧s.t 8=vP 8 1 0∧s.t 10=vI v10∧s.t 11=vR 100065 (((s29.h 100065).1+1)+1)∧s.h 3=(1,oX 98 (M.aE.en p0))∧s.h 4=(1,oX 174 (M.Key.en p1))∧s.h 5=(1,oX 355 (M.aH.en p2))∧s.h 6=(1,oB 98 [cS (⟨#[]⟩:ByteArray),.nil,cI 0])∧s.h 8=(1,oB 98 [cS x16.Name,.row 200028 1,cI x16.Auto])∧s.h 100065=((((s29.h 100065).1+1)+1),oW 357 4 M.Item.en (List.take v10.toNat x16.Items))∧s.h 200028=(1,.row 357 4 (aCX 4 0 v10.toNat (List.map M.Item.en x16.Items)) true)∧True) ?_
  rintro s107 ⟨f108,f109,f110,f111,f112,f113,f114,f115,f116,f117,f118,f119,f120,f121,_⟩
  obtain ⟨x122,h123,h⟩:=bind_some h
  obtain ⟨x124,h125,h⟩:=bind_some h
  refine rd2 mixed (aLq _ _ h123) h125 ?_
  refine an (sq ?_)
  refine cu (fun s=>s.t 3=vP 3 1 0∧s.t 4=vP 4 1 0∧s.t 6=vP 6 1 0∧s.t 8=vP 8 1 0∧s.t 10=vI v10∧s.t 11=vR 100065 ((((s29.h 100065).1+1)+1)+1)∧s.h 3=(1,oX 98 (M.aE.en p0))∧s.h 4=(1,oX 174 (M.Key.en p1))∧s.h 6=(1,oB 98 [cS (⟨#[]⟩:ByteArray),.nil,cI 0])∧s.h 8=(1,oB 98 [cS x16.Name,.row 200028 1,cI x16.Auto])∧s.h 100065=(((((s29.h 100065).1+1)+1)+1),oW 357 4 M.Item.en ((List.take v10.toNat x16.Items)++[(⟨p1,x122⟩:M.Item)]))∧s.h 200028=(1,.row 357 4 (aCX 4 0 v10.toNat (List.map M.Item.en x16.Items)) true)∧True) ?_
  rintro s126 ⟨f127,f128,f129,f130,f131,f132,f133,f134,f135,f136,f137,f138,_⟩
  obtain ⟨x139,h140,h⟩:=bind_some h
  apply jC
  ·simp +decide only [E,reduceIte,Nat.reduceAdd,Nat.reduceMul,Bool.not_true,Bool.not_false,←List.map_take,←List.map_drop,L,aCL,aHJ,pQ,M.Item.en,EN,b3,b8,b13,b20,b28,b42,f127,f128,f129,f130,f131,f132,f133,f134,f135,f136,f137,f138]
   refine ⟨by first | exact aBB (fY h104).1 | exact (aBB (fY h104).1).2 | exact (aBB (fY h104).1).2.2,?_⟩
   try simp +decide only [E,reduceIte,Nat.reduceAdd,Nat.reduceMul,Bool.not_true,Bool.not_false,←List.map_take,←List.map_drop,L,aCL,aHJ,pQ,M.Item.en,EN,b3,b8,b13,b20,b28,b42,f127,f128,f129,f130,f131,f132,f133,f134,f135,f136,f137,f138]
   refine ⟨by (have hb:=eI h140);simp [M.Item.en,List.length_append,aY,←List.map_take,←List.map_drop,-List.map_take,-List.map_drop] at hb ⊢ <;> omega,?_⟩
   try simp +decide only [E,reduceIte,Nat.reduceAdd,Nat.reduceMul,Bool.not_true,Bool.not_false,←List.map_take,←List.map_drop,L,aCL,aHJ,pQ,M.Item.en,EN,b3,b8,b13,b20,b28,b42,f127,f128,f129,f130,f131,f132,f133,f134,f135,f136,f137,f138]
   exact Is.mk _
  refine an (sq (sq ?_))
  refine cu (fun s=>s.t 3=vP 3 1 0∧s.t 4=vP 4 1 0∧s.t 6=vP 6 1 0∧s.t 8=vP 8 1 0∧s.h 3=(1,oX 98 (M.aE.en p0))∧s.h 4=(1,oX 174 (M.Key.en p1))∧s.h 6=(1,oB 98 [cS (⟨#[]⟩:ByteArray),.nil,cI 0])∧s.h 8=(1,oB 98 [cS x16.Name,.row 100065 (((((s29.h 100065).1+1)+1)+1)+1),cI x16.Auto])∧s.h 100065=((((((s29.h 100065).1+1)+1)+1)+1),oW 357 4 M.Item.en (((List.take v10.toNat x16.Items)++[(⟨p1,x122⟩:M.Item)])++(List.drop v10.toNat x16.Items)))∧True) ?_
  rintro s141 ⟨f142,f143,f144,f145,f146,f147,f148,f149,f150,_⟩
  rcases rQ (p1.Kind==1) with b151 | b151
  ·replace h:=bA b151 h
   refine rn ?_
   refine an (cf (sk (an (sq (rn ?_)))))
   refine an (rt ?_)
   cases h
   simp [Ret,TB,EN, *]
  replace h:=bB b151 h
  obtain ⟨x152,h153,h⟩:=bind_some h
  refine rn1 (c34 _ _ _ _ h153) ?_
  refine an ?_
  rcases rQ x152 with b154 | b154
  ·replace h:=bA b154 h
   refine cf (sk (an (sq (rn ?_))))
   refine an (rt ?_)
   cases h
   simp [Ret,TB,EN, *]
  replace h:=bB b154 h
  refine ct (rn ?_)
  refine an (sq (rn ?_))
  refine an (rt ?_)
  cases h
  simp [Ret,TB,EN, *]
 replace h:=bB b42 h
 obtain ⟨x43,h44,h⟩:=bind_some h
 obtain ⟨q45,q46,q47⟩:=aR h44
 obtain ⟨x48,h49,h⟩:=bind_some h
 refine rd1 mixed (aQ6 _ _ _ h49) ?_
 refine an ?_
 rcases bO (decide (x48<0)) with b50 | b50
 ·replace h:=bB b50 h
  refine ct (sk (an (bk (rn ?_))))
  refine ab ?_
  refine xY ⟨mL1,by omega,(i64.wrap (v10+1)),?_,?_,?_,?_,?_,?_,?_,?_,?_,?_,?_,?_,h⟩
  all_goals simp +decide only [F,reduceIte,Nat.reduceAdd,Bool.not_true,Bool.not_false,EN, *,-h]
 replace h:=bA b50 h
 refine cf (xt (jD (jY (uX (an (sq ?_))))))
 obtain ⟨x51,h52,h⟩:=bind_some h
 obtain ⟨x53,h54,h⟩:=bind_some h
 apply jC
 ·simp +decide only [E,reduceIte,Nat.reduceAdd,Nat.reduceMul,Bool.not_true,Bool.not_false,←List.map_take,←List.map_drop,L,aCL,aHJ,pQ,M.Item.en,EN,b3,b8,b13,b20,b28,f30,f31,f32,f33,f34,f35,f36,f37,f38,f39,f40,f41,b42,q45,q46,q47,b50]
  refine ⟨by first | exact fY h52 | exact (fY h52).2 | exact (fY h52).2.2,?_⟩
  try simp +decide only [E,reduceIte,Nat.reduceAdd,Nat.reduceMul,Bool.not_true,Bool.not_false,←List.map_take,←List.map_drop,L,aCL,aHJ,pQ,M.Item.en,EN,b3,b8,b13,b20,b28,f30,f31,f32,f33,f34,f35,f36,f37,f38,f39,f40,f41,b42,q45,q46,q47,b50]
  refine ⟨by (have hb:=eI h54);simp [M.Item.en,List.length_append,aY,←List.map_take,←List.map_drop,-List.map_take,-List.map_drop] at hb ⊢ <;> omega,?_⟩
  try simp +decide only [E,reduceIte,Nat.reduceAdd,Nat.reduceMul,Bool.not_true,Bool.not_false,←List.map_take,←List.map_drop,L,aCL,aHJ,pQ,M.Item.en,EN,b3,b8,b13,b20,b28,f30,f31,f32,f33,f34,f35,f36,f37,f38,f39,f40,f41,b42,q45,q46,q47,b50]
  exact Is.mk _
 refine an (sq ?_)
 refine cu (fun s=>s.t 3=vP 3 1 0∧s.t 4=vP 4 1 0∧s.t 5=vP 5 1 0∧s.t 6=vP 6 1 0∧s.t 8=vP 8 1 0∧s.t 10=vI v10∧s.t 11=vR 100065 (((s29.h 100065).1+1)+1)∧s.h 3=(1,oX 98 (M.aE.en p0))∧s.h 4=(1,oX 174 (M.Key.en p1))∧s.h 5=(1,oX 355 (M.aH.en p2))∧s.h 6=(1,oB 98 [cS (⟨#[]⟩:ByteArray),.nil,cI 0])∧s.h 8=(1,oB 98 [cS x16.Name,.row 200028 1,cI x16.Auto])∧s.h 100065=((((s29.h 100065).1+1)+1),oW 357 4 M.Item.en (List.take v10.toNat x16.Items))∧s.h 200028=(1,.row 357 4 (aCX 4 0 v10.toNat (List.map M.Item.en x16.Items)) true)∧True) ?_
 rintro s55 ⟨f56,f57,f58,f59,f60,f61,f62,f63,f64,f65,f66,f67,f68,f69,_⟩
 obtain ⟨x70,h71,h⟩:=bind_some h
 obtain ⟨x72,h73,h⟩:=bind_some h
 refine rd2 mixed (aLq _ _ h71) h73 ?_
 refine an (sq ?_)
 refine cu (fun s=>s.t 3=vP 3 1 0∧s.t 4=vP 4 1 0∧s.t 6=vP 6 1 0∧s.t 8=vP 8 1 0∧s.t 10=vI v10∧s.t 11=vR 100065 ((((s29.h 100065).1+1)+1)+1)∧s.h 3=(1,oX 98 (M.aE.en p0))∧s.h 4=(1,oX 174 (M.Key.en p1))∧s.h 6=(1,oB 98 [cS (⟨#[]⟩:ByteArray),.nil,cI 0])∧s.h 8=(1,oB 98 [cS x16.Name,.row 200028 1,cI x16.Auto])∧s.h 100065=(((((s29.h 100065).1+1)+1)+1),oW 357 4 M.Item.en ((List.take v10.toNat x16.Items)++[(⟨p1,x70⟩:M.Item)]))∧s.h 200028=(1,.row 357 4 (aCX 4 0 v10.toNat (List.map M.Item.en x16.Items)) true)∧True) ?_
 rintro s74 ⟨f75,f76,f77,f78,f79,f80,f81,f82,f83,f84,f85,f86,_⟩
 obtain ⟨x87,h88,h⟩:=bind_some h
 apply jC
 ·simp +decide only [E,reduceIte,Nat.reduceAdd,Nat.reduceMul,Bool.not_true,Bool.not_false,←List.map_take,←List.map_drop,L,aCL,aHJ,pQ,M.Item.en,EN,b3,b8,b13,b20,b28,b42,q45,q46,q47,b50,f75,f76,f77,f78,f79,f80,f81,f82,f83,f84,f85,f86]
  refine ⟨by first | exact aBB (fY h52).1 | exact (aBB (fY h52).1).2 | exact (aBB (fY h52).1).2.2,?_⟩
  try simp +decide only [E,reduceIte,Nat.reduceAdd,Nat.reduceMul,Bool.not_true,Bool.not_false,←List.map_take,←List.map_drop,L,aCL,aHJ,pQ,M.Item.en,EN,b3,b8,b13,b20,b28,b42,q45,q46,q47,b50,f75,f76,f77,f78,f79,f80,f81,f82,f83,f84,f85,f86]
  refine ⟨by (have hb:=eI h88);simp [M.Item.en,List.length_append,aY,←List.map_take,←List.map_drop,-List.map_take,-List.map_drop] at hb ⊢ <;> omega,?_⟩
  try simp +decide only [E,reduceIte,Nat.reduceAdd,Nat.reduceMul,Bool.not_true,Bool.not_false,←List.map_take,←List.map_drop,L,aCL,aHJ,pQ,M.Item.en,EN,b3,b8,b13,b20,b28,b42,q45,q46,q47,b50,f75,f76,f77,f78,f79,f80,f81,f82,f83,f84,f85,f86]
  exact Is.mk _
 refine an (sq (sq ?_))
 refine cu (fun s=>s.t 3=vP 3 1 0∧s.t 4=vP 4 1 0∧s.t 6=vP 6 1 0∧s.t 8=vP 8 1 0∧s.h 3=(1,oX 98 (M.aE.en p0))∧s.h 4=(1,oX 174 (M.Key.en p1))∧s.h 6=(1,oB 98 [cS (⟨#[]⟩:ByteArray),.nil,cI 0])∧s.h 8=(1,oB 98 [cS x16.Name,.row 100065 (((((s29.h 100065).1+1)+1)+1)+1),cI x16.Auto])∧s.h 100065=((((((s29.h 100065).1+1)+1)+1)+1),oW 357 4 M.Item.en (((List.take v10.toNat x16.Items)++[(⟨p1,x70⟩:M.Item)])++(List.drop v10.toNat x16.Items)))∧True) ?_
 rintro s89 ⟨f90,f91,f92,f93,f94,f95,f96,f97,f98,_⟩
 rcases rQ (p1.Kind==1) with b99 | b99
 ·replace h:=bA b99 h
  refine rn ?_
  refine an (cf (sk (an (sq (rn ?_)))))
  refine an (rt ?_)
  cases h
  simp [Ret,TB,EN, *]
 replace h:=bB b99 h
 obtain ⟨x100,h101,h⟩:=bind_some h
 refine rn1 (c34 _ _ _ _ h101) ?_
 refine an ?_
 rcases rQ x100 with b102 | b102
 ·replace h:=bA b102 h
  refine cf (sk (an (sq (rn ?_))))
  refine an (rt ?_)
  cases h
  simp [Ret,TB,EN, *]
 replace h:=bB b102 h
 refine ct (rn ?_)
 refine an (sq (rn ?_))
 refine an (rt ?_)
 cases h
 simp [Ret,TB,EN, *]
instance:bG 301 (type_of% @aUB):=⟨@aUB⟩
theorem aSc (p0 p1 r) (h:jF p0 p1=some r):Sc 208 [aX (M.aE.en p0),aX (M.aV.en p1)] [(true,M.aE.rs r.1),rB r.2]:=by
 unfold jF at h
 exact sgo 43 [.cell 4 98,.tmp 5] Tryz.func208
instance:bG 208 (type_of% @aSc):=⟨@aSc⟩
theorem aRj (p0 p1 r) (h:wP p0 p1=some r):Sc 302 [aX (M.aE.en p0),aL M.aV.en p1] [(true,M.aE.rs r)]:=by
 have i1:=aJ0 [.b 5 1 7050000 357 4] fun m s=>∃v6:Int,∃w5_0:ByteArray,∃w5_2:Int,∃r50000:List M.Item,∃u50000:Nat,(s.t 1=vL M.aV.en p1∧s.t 4=vP 4 1 0∧s.t 5=vP 5 1 0∧s.t 6=vI v6∧s.h 4=(1,oB 98 [cS (⟨#[]⟩:ByteArray),.nil,cI 0])∧s.h 5=(1,oB 98 [cS w5_0,.row 7050000 u50000,cI w5_2])∧s.h 7050000=(u50000,oW 357 4 M.Item.en r50000))∧gX p1 m v6 w5_0 w5_2 r50000=some r
 have e1:=@gX.eq_2
 unfold wP at h
 exact sgo 29 [.cell 4 98] Tryz.func302
instance:bG 302 (type_of% @aRj):=⟨@aRj⟩
theorem aU7 (p0 r) (h:xV p0=some r):Sc 209 [aX (M.aC.en p0)] [(true,M.aE.rs r)]:=by
 unfold xV at h
 exact sgo 10 [.cell 2 98] Tryz.func209
instance:bG 209 (type_of% @aU7):=⟨@aU7⟩
theorem aSa (p0 r) (h:nW p0=some r):Sc 210 [aX (M.aC.en p0)] [rB r]:=by
 unfold nW at h
 exact sgo 23 [.tmp 2] Tryz.func210
instance:bG 210 (type_of% @aSa):=⟨@aSa⟩
theorem c90 (p0 p1 p2 p3 r) (h:qR p0 p1 p2 p3=some r):Sc 90 [aX (M.aC.en p0),aX (M.Key.en p1),aS p2,aI p3] [(true,M.aC.rs r.1),rB r.2]:=by
 unfold qR at h
 exact sgo 53 [.cell 8 122,.tmp 9] Tryz.func90
instance:bG 90 (type_of% @c90):=⟨@c90⟩
theorem aSt (p0 r) (h:iH p0=some r):Sc 247 [aX (M.Registration.en p0)] [rB r]:=by
 unfold iH at h
 simp only [EN]
 refine sgn 52 [.tmp 2] Tryz.func247 fun base wd => ?_
 refine sq (rn ?_)
 refine an (sq (rn ?_))
 refine an (sq (rn ?_))
 refine an (sq (sq ?_))
 refine cu (fun s=>s.t 1=vP 1 1 0∧s.t 3=vI 0∧s.t 4=vR 100012 1∧s.h 1=(1,oX 107 (M.Registration.en p0))∧s.h 100012=(1,oW 3 1 enI ([p0.Active,p0.Waiting,p0.Installing]))∧True) ?_
 rintro s1 ⟨f2,f3,f4,f5,f6,_⟩
 refine rn ?_
 refine an (bk ?_)
 refine kX (fun m s=>∃v3:Int,∃v5:Int,s.t 1=vP 1 1 0∧s.t 3=vI v3∧s.t 4=vR 100012 1∧s.t 5=vI v5∧s.h 1=(1,oX 107 (M.Registration.en p0))∧s.h 100012=(1,oW 3 1 enI ([p0.Active,p0.Waiting,p0.Installing]))∧bP p0 m v3 v5=some r) fuel ?_ ?_
 ·refine ⟨0,0,?_,?_,?_,?_,?_,?_,h⟩
  all_goals simp +decide only [F,reduceIte,Nat.reduceAdd,Bool.not_true,Bool.not_false,EN, *,-h]
 rintro mL1 s7 ⟨v3,v5,f8,f9,f10,f11,f12,f13,h⟩
 rcases mL1 with _ | mL1
 ·exact absurd h (by simp [bP])
 simp only [bP] at h
 refine sq (sq (rn ?_))
 refine an ?_
 rcases rQ (decide (v5<((3:Nat):Int))) with b14 | b14
 ·replace h:=bA b14 h
  refine cf (xt (jD (jY (uX (an (sq ?_))))))
  obtain ⟨x25,h26,h⟩:=bind_some h
  refine rn1 (aQO _ _ h26) ?_
  refine an (rt ?_)
  cases h
  simp [Ret,TB,EN, *]
 replace h:=bB b14 h
 refine ct (sk (an (sq (bk (sq (sq ?_))))))
 obtain ⟨x15,h16,h⟩:=bind_some h
 obtain ⟨q17,q18,q19⟩:=aR h16
 have q17m:=congrArg (Option.map enI) (show ([p0.Active,p0.Waiting,p0.Installing])[v5.toNat]? = some x15 by assumption)
 simp only [←List.getElem?_map,List.map_cons,List.map_nil,Option.map_some,EN] at q17m
 simp only [List.length_cons,List.length_nil,Nat.reduceAdd] at q19
 obtain ⟨x20,h21,h⟩:=bind_some h
 rcases bO (!x20) with b22 | b22
 ·replace h:=bB b22 h
  refine rn1 (c34 _ _ _ _ h21) ?_
  refine an (ct (sq (rn ?_)))
  refine an (rt ?_)
  cases h
  simp [Ret,TB,EN, *]
 replace h:=bA b22 h
 rcases rQ (x15 != 0) with b23 | b23
 ·replace h:=bA b23 h
  refine rn1 (c34 _ _ _ _ h21) ?_
  refine an (cf (sk (an (sq (rn ?_)))))
  refine an (cf (sk (ab (an (rn ?_)))))
  refine xY ⟨mL1,by omega,v3,(i64.wrap (v5+1)),?_,?_,?_,?_,?_,?_,h⟩
  all_goals simp +decide only [F,reduceIte,Nat.reduceAdd,Bool.not_true,Bool.not_false,EN, *,-h]
 replace h:=bB b23 h
 refine rn1 (c34 _ _ _ _ h21) ?_
 refine an ?_
 rcases bO (decide (x15≤v3)) with b24 | b24
 ·replace h:=bB b24 h
  refine ct (sq (rn ?_))
  refine an (rt ?_)
  cases h
  simp [Ret,TB,EN, *]
 replace h:=bA b24 h
 refine cf (sk (an (sq (rn ?_))))
 refine an (ct (rn ?_))
 refine ab (an (rn ?_))
 refine xY ⟨mL1,by omega,x15,(i64.wrap (v5+1)),?_,?_,?_,?_,?_,?_,h⟩
 all_goals simp +decide only [F,reduceIte,Nat.reduceAdd,Bool.not_true,Bool.not_false,EN, *,-h]
instance:bG 247 (type_of% @aSt):=⟨@aSt⟩
theorem aUr (p0 r) (h:qU p0=some r):Sc 396 [aX (M.Response.en p0)] [rB r]:=by
 unfold qU at h
 exact sgo 22 [.tmp 2] Tryz.func396
instance:bG 396 (type_of% @aUr):=⟨@aUr⟩
theorem aU5 (p0 r) (h:mB p0=some r):Sc 331 [aL M.Cached.en p0] [rB r]:=by
 have i1:=inv fun m s=>∃v3:Int,(s.t 0=vL M.Cached.en p0∧s.t 3=vI v3)∧eD p0 m v3=some r
 have e1:=@eD.eq_2
 have i2:=fun (v3:Int) (x5:M.Cached) (k20:Int→Option Bool)=>inv fun m s=>∃v4_L2:Int,(s.t 0=vL M.Cached.en p0∧s.t 3=vI v3∧s.t 4=vI v4_L2)∧fI p0 v3 x5 k20 m v4_L2=some r
 have e2:=@fI.eq_2
 unfold mB at h
 exact sgo 68 [.tmp 2] Tryz.func331
instance:bG 331 (type_of% @aU5):=⟨@aU5⟩
theorem aUE (p0 r) (h:qY p0=some r):Sc 248 [aX (M.aU.en p0)] [rB r]:=by
 have i1:=inv fun m s=>∃v3:Int,(s.t 1=vP 1 1 0∧s.t 3=vI v3∧s.h 1=(1,oX 110 (M.aU.en p0)))∧eA p0 m v3=some r
 have e1:=@eA.eq_2
 unfold qY at h
 exact sgo 53 [.tmp 2] Tryz.func248
instance:bG 248 (type_of% @aUE):=⟨@aUE⟩
theorem aUC (p0 p1 r) (h:sV p0 p1=some r):Sc 332 [aX (M.Database.en p0),aS p1] [rI r]:=by
 have i1:=inv fun m s=>∃v5:Int,(s.t 1=vS p1∧s.t 2=vP 2 1 0∧s.t 5=vI v5∧s.h 2=(1,oX 114 (M.Database.en p0)))∧hY p0 p1 m v5=some r
 have e1:=@hY.eq_2
 unfold sV at h
 exact sgo 22 [.tmp 4] Tryz.func332
instance:bG 332 (type_of% @aUC):=⟨@aUC⟩
theorem aQT (p0 p1 r) (h:kA p0 p1=some r):Sc 398 [aX (M.aH.en p0),aS p1] [rI r.1,rB r.2]:=by
 have i1:=inv fun m s=>∃v6:Int,(s.t 1=vS p1∧s.t 2=vP 2 1 0∧s.t 6=vI v6∧s.h 2=(1,oX 355 (M.aH.en p0)))∧kN p0 p1 m v6=some r
 have e1:=@kN.eq_2
 unfold kA at h
 exact sgo 28 [.tmp 4,.tmp 5] Tryz.func398
instance:bG 398 (type_of% @aQT):=⟨@aQT⟩
theorem aQS (p0 p1 p2 r) (h:aA8 p0 p1 p2=some r):Sc 445 [aX (M.Item.en p0),aX (M.Item.en p1),aS p2] [rB r]:=by
 unfold aA8 at h
 exact sgo 41 [.tmp 6] Tryz.func445
instance:bG 445 (type_of% @aQS):=⟨@aQS⟩
theorem aTf (p0 p1 r) (h:zB p0 p1=some r):Sc 397 [aX (M.aE.en p0),aS p1] [rW 357 4 M.Item.en r]:=by
 unfold zB at h
 simp only [EN]
 refine sgn 72 [.tmp 4] Tryz.func397 fun base wd => ?_
 refine sq (rn ?_)
 refine an (sq (rn ?_))
 refine an (sq (sq ?_))
 refine cu (fun s=>s.t 1=vS p1∧s.t 2=vP 2 1 0∧s.t 5=vR 100011 1∧s.h 2=(1,oX 98 (M.aE.en p0))∧s.h 100011=(1,oW 357 4 M.Item.en ([]:List M.Item))∧True) ?_
 rintro s1 ⟨f2,f3,f4,f5,f6,_⟩
 refine rn ?_
 refine an (bk ?_)
 refine aN6 ((Gho.aMF (i:=5) (K:=7050000) (j:=100011) (by simp +decide only [F,reduceIte,Nat.reduceAdd,Bool.not_true,Bool.not_false,EN, *,-h];rfl) (by simp +decide only [F,reduceIte,Nat.reduceAdd,Bool.not_true,Bool.not_false,EN, *,-h];rfl))) ?_
 refine aK1 (fun m s=>∃v6:Int,∃r50000:List M.Item,∃u50000:Nat,s.t 1=vS p1∧s.t 2=vP 2 1 0∧s.t 5=vR 7050000 u50000∧s.t 6=vI v6∧s.h 2=(1,oX 98 (M.aE.en p0))∧s.h 7050000=(u50000,oW 357 4 M.Item.en r50000)∧gK p0 p1 m v6 r50000=some r) fuel ?_ ?_
 ·refine ⟨0,([]:List M.Item),((s1.h 7050000).1+1),?_,?_,?_,?_,?_,?_,h⟩
  all_goals simp +decide only [F,reduceIte,Nat.reduceAdd,Bool.not_true,Bool.not_false,EN, *,-h]
 rintro mL1 s7 ⟨v6,r50000,u50000,f8,f9,f10,f11,f12,f13,h⟩
 rcases mL1 with _ | mL1
 ·exact absurd h (by simp [gK])
 simp only [gK] at h
 refine sq (sq (rn ?_))
 refine an ?_
 rcases rQ (decide (v6<(List.length p0.Items:Int))) with b14 | b14
 ·replace h:=bA b14 h
  refine cf (xt (jD (jY (uX (an (sq (rn ?_)))))))
  refine an (rt ?_)
  cases h
  simp [Ret,TB,EN, *]
 replace h:=bB b14 h
 refine ct (sk (an (sq (bk (sq (sq ?_))))))
 obtain ⟨x15,h16,h⟩:=bind_some h
 obtain ⟨q17,q18,q19⟩:=aR h16
 obtain ⟨x20,h21,h⟩:=bind_some h
 refine rn1 (aQT _ _ _ h21) ?_
 refine an (sq (rn ?_))
 refine an ?_
 rcases bO (!x20.2) with b22 | b22
 ·replace h:=bB b22 h
  refine ct (xt (jD (uX (an (rn ?_)))))
  refine xY ⟨_,(Gho.aMF (i:=5) (K:=7050000) (j:=7050000) (by simp +decide only [F,reduceIte,Nat.reduceAdd,Bool.not_true,Bool.not_false,EN, *,-h];rfl) (by simp +decide only [F,reduceIte,Nat.reduceAdd,Bool.not_true,Bool.not_false,EN, *,-h];rfl)),mL1,by omega,(i64.wrap (v6+1)),r50000,(u50000+1),?_,?_,?_,?_,?_,?_,h⟩
  all_goals simp +decide only [F,reduceIte,Nat.reduceAdd,Bool.not_true,Bool.not_false,EN, *,-h]
 replace h:=bA b22 h
 refine cf (sk (an (sq (rn ?_))))
 refine an (sq (bk ?_))
 obtain ⟨k24,e25,h⟩:=aSZ (f:=fun kk=>gH p1 r50000 x15 kk fuel (List.length r50000:Int)) h
 refine kX (fun m s=>∃v9_L2:Int,s.t 1=vS p1∧s.t 2=vP 2 1 0∧s.t 5=vR 7050000 u50000∧s.t 6=vI v6∧s.t 9=vI v9_L2∧s.h 2=(1,oX 98 (M.aE.en p0))∧s.h 7050000=(u50000,oW 357 4 M.Item.en r50000)∧gH p1 r50000 x15 k24 m v9_L2=some r) fuel ?_ ?_
 ·refine ⟨(List.length r50000:Int),?_,?_,?_,?_,?_,?_,?_,h⟩
  all_goals simp +decide only [F,reduceIte,Nat.reduceAdd,Bool.not_true,Bool.not_false,EN, *,-h]
 rintro mL2 s23 ⟨v9_L2,f26,f27,f28,f29,f30,f31,f32,h⟩
 rcases mL2 with _ | mL2
 ·exact absurd h (by simp [gH])
 simp only [gH] at h
 refine sq (sq ?_)
 rcases rQ (decide (v9_L2>0)) with b33 | b33
 ·replace h:=bA b33 h
  refine rd mixed ?_
  refine an (cf (xt (jD ?_)))
  subst e25
  refine jY (uX (an (sq ?_)))
  obtain ⟨x79,h80,h⟩:=bind_some h
  obtain ⟨x81,h82,h⟩:=bind_some h
  apply jC
  ·simp +decide only [E,reduceIte,Nat.reduceAdd,Nat.reduceMul,Bool.not_true,Bool.not_false,←List.map_take,←List.map_drop,L,aCL,pQ,M.Item.en,EN,b14,q17,q18,q19,b22,f26,f27,f28,f29,f30,f31,f32,b33]
   refine ⟨by first | exact fY h80 | exact (fY h80).2 | exact (fY h80).2.2,?_⟩
   try simp +decide only [E,reduceIte,Nat.reduceAdd,Nat.reduceMul,Bool.not_true,Bool.not_false,←List.map_take,←List.map_drop,L,aCL,pQ,M.Item.en,EN,b14,q17,q18,q19,b22,f26,f27,f28,f29,f30,f31,f32,b33]
   refine ⟨by (have hb:=eI h82);simp [M.Item.en,List.length_append,aY,←List.map_take,←List.map_drop,-List.map_take,-List.map_drop] at hb ⊢ <;> omega,?_⟩
   try simp +decide only [E,reduceIte,Nat.reduceAdd,Nat.reduceMul,Bool.not_true,Bool.not_false,←List.map_take,←List.map_drop,L,aCL,pQ,M.Item.en,EN,b14,q17,q18,q19,b22,f26,f27,f28,f29,f30,f31,f32,b33]
   exact Is.mk _
  refine an (sq ?_)
  refine cu (fun s=>s.t 1=vS p1∧s.t 2=vP 2 1 0∧s.t 5=vR 7050000 u50000∧s.t 6=vI v6∧s.t 9=vI v9_L2∧s.t 10=vR 100052 (((s23.h 100052).1+1)+1)∧s.h 2=(1,oX 98 (M.aE.en p0))∧s.h 100052=((((s23.h 100052).1+1)+1),oW 357 4 M.Item.en (List.take v9_L2.toNat r50000))∧s.h 7050000=(u50000,.row 357 4 (aCX 4 0 v9_L2.toNat (List.map M.Item.en r50000)) true)∧True) ?_
  rintro s83 ⟨f84,f85,f86,f87,f88,f89,f90,f91,f92,_⟩
  obtain ⟨x93,h94,h⟩:=bind_some h
  obtain ⟨x95,h96,h⟩:=bind_some h
  refine rn2 (aQC _ _ h94) h96 ?_
  refine an ?_
  refine cu (fun s=>s.t 1=vS p1∧s.t 2=vP 2 1 0∧s.t 5=vR 7050000 u50000∧s.t 6=vI v6∧s.t 9=vI v9_L2∧s.t 10=vR 100052 ((((s23.h 100052).1+1)+1)+1)∧s.h 2=(1,oX 98 (M.aE.en p0))∧s.h 100052=(((((s23.h 100052).1+1)+1)+1),oW 357 4 M.Item.en ((List.take v9_L2.toNat r50000)++[x93]))∧s.h 7050000=(u50000,.row 357 4 (aCX 4 0 v9_L2.toNat (List.map M.Item.en r50000)) true)∧True) ?_
  rintro s97 ⟨f98,f99,f100,f101,f102,f103,f104,f105,f106,_⟩
  obtain ⟨x107,h108,h⟩:=bind_some h
  apply jC
  ·simp +decide only [E,reduceIte,Nat.reduceAdd,Nat.reduceMul,Bool.not_true,Bool.not_false,←List.map_take,←List.map_drop,L,aCL,pQ,M.Item.en,EN,b14,q17,q18,q19,b22,b33,f98,f99,f100,f101,f102,f103,f104,f105,f106]
   refine ⟨by first | exact aBB (fY h80).1 | exact (aBB (fY h80).1).2 | exact (aBB (fY h80).1).2.2,?_⟩
   try simp +decide only [E,reduceIte,Nat.reduceAdd,Nat.reduceMul,Bool.not_true,Bool.not_false,←List.map_take,←List.map_drop,L,aCL,pQ,M.Item.en,EN,b14,q17,q18,q19,b22,b33,f98,f99,f100,f101,f102,f103,f104,f105,f106]
   refine ⟨by (have hb:=eI h108);simp [M.Item.en,List.length_append,aY,←List.map_take,←List.map_drop,-List.map_take,-List.map_drop] at hb ⊢ <;> omega,?_⟩
   try simp +decide only [E,reduceIte,Nat.reduceAdd,Nat.reduceMul,Bool.not_true,Bool.not_false,←List.map_take,←List.map_drop,L,aCL,pQ,M.Item.en,EN,b14,q17,q18,q19,b22,b33,f98,f99,f100,f101,f102,f103,f104,f105,f106]
   exact Is.mk _
  refine ab (an ?_)
  refine cu (fun s=>s.t 1=vS p1∧s.t 2=vP 2 1 0∧s.t 5=vR 100052 (((((s23.h 100052).1+1)+1)+1)+1)∧s.t 6=vI v6∧s.h 2=(1,oX 98 (M.aE.en p0))∧s.h 100052=((((((s23.h 100052).1+1)+1)+1)+1),oW 357 4 M.Item.en (((List.take v9_L2.toNat r50000)++[x93])++(List.drop v9_L2.toNat r50000)))∧True) ?_
  rintro s109 ⟨f110,f111,f112,f113,f114,f115,_⟩
  refine rn ?_
  refine xY ⟨_,(Gho.aMF (i:=5) (K:=7050000) (j:=100052) (by simp +decide only [F,reduceIte,Nat.reduceAdd,Bool.not_true,Bool.not_false,EN, *,-h];rfl) (by simp +decide only [F,reduceIte,Nat.reduceAdd,Bool.not_true,Bool.not_false,EN, *,-h];rfl)),mL1,by omega,(i64.wrap (v6+1)),(((List.take v9_L2.toNat r50000)++[x93])++(List.drop v9_L2.toNat r50000)),((s109.h 7050000).1+1),?_,?_,?_,?_,?_,?_,h⟩
  all_goals simp +decide only [F,reduceIte,Nat.reduceAdd,Bool.not_true,Bool.not_false,EN, *,-h]
 replace h:=bB b33 h
 obtain ⟨x34,h35,h⟩:=bind_some h
 obtain ⟨q36,q37,q38⟩:=aR h35
 obtain ⟨x39,h40,h⟩:=bind_some h
 refine rd1 mixed (aQS _ _ _ _ h40) ?_
 refine an ?_
 rcases bO x39 with b41 | b41
 ·replace h:=bB b41 h
  refine ct (sk (an (bk (rn ?_))))
  refine ab ?_
  refine xY ⟨mL2,by omega,(i64.wrap (v9_L2-1)),?_,?_,?_,?_,?_,?_,?_,h⟩
  all_goals simp +decide only [F,reduceIte,Nat.reduceAdd,Bool.not_true,Bool.not_false,EN, *,-h]
 replace h:=bA b41 h
 refine cf (xt (jD ?_))
 subst e25
 refine jY (uX (an (sq ?_)))
 obtain ⟨x42,h43,h⟩:=bind_some h
 obtain ⟨x44,h45,h⟩:=bind_some h
 apply jC
 ·simp +decide only [E,reduceIte,Nat.reduceAdd,Nat.reduceMul,Bool.not_true,Bool.not_false,←List.map_take,←List.map_drop,L,aCL,pQ,M.Item.en,EN,b14,q17,q18,q19,b22,f26,f27,f28,f29,f30,f31,f32,b33,q36,q37,q38,b41]
  refine ⟨by first | exact fY h43 | exact (fY h43).2 | exact (fY h43).2.2,?_⟩
  try simp +decide only [E,reduceIte,Nat.reduceAdd,Nat.reduceMul,Bool.not_true,Bool.not_false,←List.map_take,←List.map_drop,L,aCL,pQ,M.Item.en,EN,b14,q17,q18,q19,b22,f26,f27,f28,f29,f30,f31,f32,b33,q36,q37,q38,b41]
  refine ⟨by (have hb:=eI h45);simp [M.Item.en,List.length_append,aY,←List.map_take,←List.map_drop,-List.map_take,-List.map_drop] at hb ⊢ <;> omega,?_⟩
  try simp +decide only [E,reduceIte,Nat.reduceAdd,Nat.reduceMul,Bool.not_true,Bool.not_false,←List.map_take,←List.map_drop,L,aCL,pQ,M.Item.en,EN,b14,q17,q18,q19,b22,f26,f27,f28,f29,f30,f31,f32,b33,q36,q37,q38,b41]
  exact Is.mk _
 refine an (sq ?_)
 refine cu (fun s=>s.t 1=vS p1∧s.t 2=vP 2 1 0∧s.t 5=vR 7050000 u50000∧s.t 6=vI v6∧s.t 9=vI v9_L2∧s.t 10=vR 100052 (((s23.h 100052).1+1)+1)∧s.h 2=(1,oX 98 (M.aE.en p0))∧s.h 100052=((((s23.h 100052).1+1)+1),oW 357 4 M.Item.en (List.take v9_L2.toNat r50000))∧s.h 7050000=(u50000,.row 357 4 (aCX 4 0 v9_L2.toNat (List.map M.Item.en r50000)) true)∧True) ?_
 rintro s46 ⟨f47,f48,f49,f50,f51,f52,f53,f54,f55,_⟩
 obtain ⟨x56,h57,h⟩:=bind_some h
 obtain ⟨x58,h59,h⟩:=bind_some h
 refine rn2 (aQC _ _ h57) h59 ?_
 refine an ?_
 refine cu (fun s=>s.t 1=vS p1∧s.t 2=vP 2 1 0∧s.t 5=vR 7050000 u50000∧s.t 6=vI v6∧s.t 9=vI v9_L2∧s.t 10=vR 100052 ((((s23.h 100052).1+1)+1)+1)∧s.h 2=(1,oX 98 (M.aE.en p0))∧s.h 100052=(((((s23.h 100052).1+1)+1)+1),oW 357 4 M.Item.en ((List.take v9_L2.toNat r50000)++[x56]))∧s.h 7050000=(u50000,.row 357 4 (aCX 4 0 v9_L2.toNat (List.map M.Item.en r50000)) true)∧True) ?_
 rintro s60 ⟨f61,f62,f63,f64,f65,f66,f67,f68,f69,_⟩
 obtain ⟨x70,h71,h⟩:=bind_some h
 apply jC
 ·simp +decide only [E,reduceIte,Nat.reduceAdd,Nat.reduceMul,Bool.not_true,Bool.not_false,←List.map_take,←List.map_drop,L,aCL,pQ,M.Item.en,EN,b14,q17,q18,q19,b22,b33,q36,q37,q38,b41,f61,f62,f63,f64,f65,f66,f67,f68,f69]
  refine ⟨by first | exact aBB (fY h43).1 | exact (aBB (fY h43).1).2 | exact (aBB (fY h43).1).2.2,?_⟩
  try simp +decide only [E,reduceIte,Nat.reduceAdd,Nat.reduceMul,Bool.not_true,Bool.not_false,←List.map_take,←List.map_drop,L,aCL,pQ,M.Item.en,EN,b14,q17,q18,q19,b22,b33,q36,q37,q38,b41,f61,f62,f63,f64,f65,f66,f67,f68,f69]
  refine ⟨by (have hb:=eI h71);simp [M.Item.en,List.length_append,aY,←List.map_take,←List.map_drop,-List.map_take,-List.map_drop] at hb ⊢ <;> omega,?_⟩
  try simp +decide only [E,reduceIte,Nat.reduceAdd,Nat.reduceMul,Bool.not_true,Bool.not_false,←List.map_take,←List.map_drop,L,aCL,pQ,M.Item.en,EN,b14,q17,q18,q19,b22,b33,q36,q37,q38,b41,f61,f62,f63,f64,f65,f66,f67,f68,f69]
  exact Is.mk _
 refine ab (an ?_)
 refine cu (fun s=>s.t 1=vS p1∧s.t 2=vP 2 1 0∧s.t 5=vR 100052 (((((s23.h 100052).1+1)+1)+1)+1)∧s.t 6=vI v6∧s.h 2=(1,oX 98 (M.aE.en p0))∧s.h 100052=((((((s23.h 100052).1+1)+1)+1)+1),oW 357 4 M.Item.en (((List.take v9_L2.toNat r50000)++[x56])++(List.drop v9_L2.toNat r50000)))∧True) ?_
 rintro s72 ⟨f73,f74,f75,f76,f77,f78,_⟩
 refine rn ?_
 refine xY ⟨_,(Gho.aMF (i:=5) (K:=7050000) (j:=100052) (by simp +decide only [F,reduceIte,Nat.reduceAdd,Bool.not_true,Bool.not_false,EN, *,-h];rfl) (by simp +decide only [F,reduceIte,Nat.reduceAdd,Bool.not_true,Bool.not_false,EN, *,-h];rfl)),mL1,by omega,(i64.wrap (v6+1)),(((List.take v9_L2.toNat r50000)++[x56])++(List.drop v9_L2.toNat r50000)),((s72.h 7050000).1+1),?_,?_,?_,?_,?_,?_,h⟩
 all_goals simp +decide only [F,reduceIte,Nat.reduceAdd,Bool.not_true,Bool.not_false,EN, *,-h]
instance:bG 397 (type_of% @aTf):=⟨@aTf⟩
end Go.Proofs.YtnhpbpnhmapeeaaGreat.gen
