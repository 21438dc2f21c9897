/-
  Helper text. No conditions.
-/
import Derived.Test.YtnhpbpnhmapeeaaGreatSendNoteTi
import Derived.Test.YtnhpbpnhmapeeaaGreatSendNoteWspec0
import Derived.Test.YtnhpbpnhmapeeaaGreatSendNoteWspec1
namespace Go.Proofs.YtnhpbpnhmapeeaaGreat.gen
open Go Go.Sh
open Go.IntKind (i64)
set_option linter.unusedVariables false
set_option linter.unusedSimpArgs false
set_option maxRecDepth 20000
set_option maxHeartbeats 4000000
theorem aRR (p0 p1 r) (h:oK p0 p1=some r):Sc 333 [aX (M.aE.en p0),aS p1] [(true,M.Key.rs r.1),(true,M.Key.rs r.2.1),rB r.2.2]:=by
 have i1:=fun (x1:(List M.Item))=>inv fun m s=>∃v8:Int,(s.t 1=vS p1∧s.t 4=vP 4 1 0∧s.t 5=vP 5 1 0∧s.t 7=vR 100015 1∧s.t 8=vI v8∧s.h 4=(1,oB 174 [cI 0,cI 0,cS (⟨#[]⟩:ByteArray)])∧s.h 5=(1,oB 174 [cI 0,cI 0,cS (⟨#[]⟩:ByteArray)])∧s.h 100015=(1,oW 357 4 M.Item.en x1))∧iE p1 x1 m v8=some r
 have e1:=@iE.eq_2
 unfold oK at h
 exact sgo 59 [.cell 4 174,.cell 5 174,.tmp 6] Tryz.func333
instance:bG 333 (type_of% @aRR):=⟨@aRR⟩
theorem aTu (p0 r) (h:qE p0=some r):Sc 249 [aX (M.Database.en p0)] [rB r]:=by
 have i1:=inv fun m s=>∃v3:Int,(s.t 1=vP 1 1 0∧s.t 3=vI v3∧s.h 1=(1,oX 114 (M.Database.en p0)))∧eF p0 m v3=some r
 have e1:=@eF.eq_2
 have i2:=inv fun m s=>∃v4:Int,(s.t 1=vP 1 1 0∧s.t 4=vI v4∧s.h 1=(1,oX 114 (M.Database.en p0)))∧eG p0 m v4=some r
 have e2:=@eG.eq_2
 have i3:=fun (v4:Int) (x26:M.aD) (k46:Int→Option Bool)=>inv fun m s=>∃v9_L3:Int,(s.t 1=vP 1 1 0∧s.t 4=vI v4∧s.t 9=vI v9_L3∧s.h 1=(1,oX 114 (M.Database.en p0)))∧fH p0 v4 x26 k46 m v9_L3=some r
 have e3:=@fH.eq_2
 unfold qE at h
 exact sgo 124 [.tmp 2] Tryz.func249
instance:bG 249 (type_of% @aTu):=⟨@aTu⟩
theorem aTq (p0 p1 r) (h:qK p0 p1=some r):Sc 399 [aX (M.Response.en p0),aB p1] [rI r]:=by
 unfold qK at h
 exact sgo 10 [.tmp 4] Tryz.func399
instance:bG 399 (type_of% @aTq):=⟨@aTq⟩
theorem aSH (p0 r) (h:qD p0=some r):Sc 334 [aX (M.aU.en p0)] [rI r]:=by
 have i1:=inv fun m s=>∃v3:Int,∃v4:Int,(s.t 1=vP 1 1 0∧s.t 3=vI v3∧s.t 4=vI v4∧s.h 1=(1,oX 110 (M.aU.en p0)))∧dW p0 m v3 v4=some r
 have e1:=@dW.eq_2
 have i2:=fun (v4:Int) (k8:Int→Int→Option Int)=>inv fun m s=>∃v3_L2:Int,∃v5_L2:Int,(s.t 1=vP 1 1 0∧s.t 3=vI v3_L2∧s.t 4=vI v4∧s.t 5=vI v5_L2∧s.h 1=(1,oX 110 (M.aU.en p0)))∧gT p0 v4 k8 m v3_L2 v5_L2=some r
 have e2:=@gT.eq_2
 unfold qD at h
 exact sgo 43 [.tmp 2] Tryz.func334
instance:bG 334 (type_of% @aSH):=⟨@aSH⟩
theorem aSL (p0 r) (h:tA p0=some r):Sc 401 [aX (M.Key.en p0)] [rW 5 1 enB r]:=by
 unfold tA at h
 simp only [EN]
 refine sgn 38 [.tmp 2] Tryz.func401 fun base wd => ?_
 refine sq (rn ?_)
 refine an (sq (sq ?_))
 obtain ⟨x1,h2,h⟩:=bind_some h
 refine rn1 (aPI _ _ h2) ?_
 refine an ?_
 rcases bO (!x1) with b3 | b3
 ·replace h:=bB b3 h
  refine ct (sq (rn ?_))
  refine an (rt ?_)
  cases h
  simp [Ret,TB,EN, *]
 replace h:=bA b3 h
 refine cf (sk (an (sq (rn ?_))))
 refine an (sq (sq ?_))
 refine cu (fun s=>s.t 1=vP 1 1 0∧s.t 3=vR 100012 1∧s.h 1=(1,oX 174 (M.Key.en p0))∧s.h 100012=(1,oW 5 1 enB ([(IntKind.u8.wrap p0.Kind)]))∧True) ?_
 rintro s4 ⟨f5,f6,f7,f8,_⟩
 refine rn ?_
 refine an (bk ?_)
 refine kX (fun m s=>∃v4:Int,∃r12:List Int,∃u12:Nat,s.t 1=vP 1 1 0∧s.t 3=vR 100012 u12∧s.t 4=vI v4∧s.h 1=(1,oX 174 (M.Key.en p0))∧s.h 100012=(u12,oW 5 1 enB r12)∧cA p0 m v4 r12=some r) fuel ?_ ?_
 ·refine ⟨5,([(IntKind.u8.wrap p0.Kind)]),1,?_,?_,?_,?_,?_,h⟩
  all_goals simp +decide only [F,reduceIte,Nat.reduceAdd,Bool.not_true,Bool.not_false,EN, *,-h]
 rintro mL1 s9 ⟨v4,r12,u12,f10,f11,f12,f13,f14,h⟩
 rcases mL1 with _ | mL1
 ·exact absurd h (by simp [cA])
 simp only [cA] at h
 refine sq (sq ?_)
 rcases rQ (decide (v4≥0)) with b15 | b15
 ·replace h:=bA b15 h
  refine rn ?_
  refine an (cf (xt (jD (jY (uX (an (sq ?_)))))))
  obtain ⟨x28,h29,h⟩:=bind_some h
  refine rn1 h29 ?_
  refine an (rt ?_)
  cases h
  simp [Ret,TB,EN, *]
 replace h:=bB b15 h
 refine rn ?_
 refine an ?_
 rcases rQ (p0.Kind != 2) with b16 | b16
 ·replace h:=bA b16 h
  refine cf (xt (jD (jY (uX (an (sq ?_))))))
  obtain ⟨x26,h27,h⟩:=bind_some h
  refine rn1 h27 ?_
  refine an (rt ?_)
  cases h
  simp [Ret,TB,EN, *]
 replace h:=bB b16 h
 refine ct (sk (an (sq (bk ?_))))
 rcases rQ (decide (0≤(i64.wrap (8*v4)))) with b17 | b17
 ·replace h:=bA b17 h
  cases h
 replace h:=bB b17 h
 obtain ⟨x18,h19,h⟩:=bind_some h
 apply jC
 ·simp +decide only [E,reduceIte,Nat.reduceAdd,Nat.reduceMul,Bool.not_true,Bool.not_false,aJe,L,ti3,ti5,aOt,aEi,enB,EN,b3,f10,f11,f12,f13,f14,b15,b16,b17]
  refine ⟨by (have hb:=eI h19);simp [enB,List.length_append,aY] at hb ⊢ <;> omega,?_⟩
  try simp +decide only [E,reduceIte,Nat.reduceAdd,Nat.reduceMul,Bool.not_true,Bool.not_false,aJe,L,ti3,ti5,aOt,aEi,enB,EN,b3,f10,f11,f12,f13,f14,b15,b16,b17]
  exact Is.mk _
 refine ab (an ?_)
 refine cu (fun s=>s.t 1=vP 1 1 0∧s.t 3=vR 100012 (u12+1)∧s.t 4=vI v4∧s.h 1=(1,oX 174 (M.Key.en p0))∧s.h 100012=((u12+1),oW 5 1 enB (r12++[(IntKind.u8.wrap (i64.wrap (BitVec.ofInt (IntKind.i64.bits) (Int.fdiv (i64.wrap (p0.N+1000000000000)) (2^(min (i64.wrap (8*v4)).toNat IntKind.i64.bits)))&&&BitVec.ofInt (IntKind.i64.bits) 255).toNat))]))∧True) ?_
 rintro s20 ⟨f21,f22,f23,f24,f25,_⟩
 refine rn ?_
 refine xY ⟨mL1,by omega,(i64.wrap (v4-1)),(r12++[(IntKind.u8.wrap (i64.wrap (BitVec.ofInt (IntKind.i64.bits) (Int.fdiv (i64.wrap (p0.N+1000000000000)) (2^(min (i64.wrap (8*v4)).toNat IntKind.i64.bits)))&&&BitVec.ofInt (IntKind.i64.bits) 255).toNat))]),(u12+1),?_,?_,?_,?_,?_,h⟩
 all_goals simp +decide only [F,reduceIte,Nat.reduceAdd,Bool.not_true,Bool.not_false,EN, *,-h]
instance:bG 401 (type_of% @aSL):=⟨@aSL⟩
theorem aUG (p0 p1 r) (h:gU p0 p1=some r):Sc 446 [aL enB p0,aI p1] [rW 5 1 enB r]:=by
 unfold gU at h
 simp only [EN]
 refine sgn 29 [.tmp 4] Tryz.func446 fun base wd => ?_
 refine sq (rn ?_)
 refine an (sq ?_)
 obtain ⟨x1,h2,h⟩:=bind_some h
 refine rn1 h2 ?_
 refine an (sq (sq ?_))
 refine cu (fun s=>s.t 1=vI p1∧s.t 5=vR 100006 2∧s.h 100006=(2,oW 5 1 enB p0)∧True) ?_
 rintro s3 ⟨f4,f5,f6,_⟩
 obtain ⟨x7,h8,h⟩:=bind_some h
 refine rn1 (c34 _ _ _ _ h8) ?_
 refine an ?_
 rcases bO (!x7) with b9 | b9
 ·replace h:=bB b9 h
  refine ct (sq (rn ?_))
  refine an (rt ?_)
  cases h
  simp [Ret,TB,EN, *]
 replace h:=bA b9 h
 refine cf (sk (an (sq (bk ?_))))
 refine kX (fun m s=>∃v1:Int,∃r6:List Int,∃u6:Nat,s.t 1=vI v1∧s.t 5=vR 100006 u6∧s.h 100006=(u6,oW 5 1 enB r6)∧dJ m v1 r6=some r) fuel ?_ ?_
 ·refine ⟨p1,p0,2,?_,?_,?_,h⟩
  all_goals simp +decide only [F,reduceIte,Nat.reduceAdd,Bool.not_true,Bool.not_false,EN, *,-h]
 rintro mL1 s10 ⟨v1,r6,u6,f11,f12,f13,h⟩
 rcases mL1 with _ | mL1
 ·exact absurd h (by simp [dJ])
 simp only [dJ] at h
 refine sq (sq (rn ?_))
 refine an ?_
 rcases rQ (decide (v1>127)) with b14 | b14
 ·replace h:=bA b14 h
  refine cf (xt (jD (jY (uX (an (sq ?_))))))
  obtain ⟨x21,h22,h⟩:=bind_some h
  refine rn1 h22 ?_
  refine an (rt ?_)
  cases h
  simp [Ret,TB,EN, *]
 replace h:=bB b14 h
 refine ct (sk (an (bk (sq ?_))))
 obtain ⟨x15,h16,h⟩:=bind_some h
 refine rn1 h16 ?_
 refine an ?_
 refine cu (fun s=>s.t 1=vI v1∧s.t 5=vR 100006 (u6+1)∧s.h 100006=((u6+1),oW 5 1 enB (r6++[(IntKind.u8.wrap (i64.wrap (BitVec.ofInt (IntKind.i64.bits) (i64.wrap (BitVec.ofInt (IntKind.i64.bits) v1&&&BitVec.ofInt (IntKind.i64.bits) 127).toNat)|||BitVec.ofInt (IntKind.i64.bits) 128).toNat))]))∧True) ?_
 rintro s17 ⟨f18,f19,f20,_⟩
 apply jC
 ·simp +decide only [E,reduceIte,Nat.reduceAdd,Nat.reduceMul,Bool.not_true,Bool.not_false,Int.reduceLT,aJe,L,EN,b9,b14,f18,f19,f20]
  exact Is.mk _
 refine ab ?_
 refine xY ⟨mL1,by omega,(Int.fdiv v1 (2^(min (7:Int).toNat IntKind.i64.bits))),(r6++[(IntKind.u8.wrap (i64.wrap (BitVec.ofInt (IntKind.i64.bits) (i64.wrap (BitVec.ofInt (IntKind.i64.bits) v1&&&BitVec.ofInt (IntKind.i64.bits) 127).toNat)|||BitVec.ofInt (IntKind.i64.bits) 128).toNat))]),(u6+1),?_,?_,?_,h⟩
 all_goals simp +decide only [F,reduceIte,Nat.reduceAdd,Bool.not_true,Bool.not_false,EN, *,-h]
instance:bG 446 (type_of% @aUG):=⟨@aUG⟩
theorem aTR (p0 p1 r) (h:oJ p0 p1=some r):Sc 447 [aL enB p0,aL enB p1] [rW 5 1 enB r]:=by
 unfold oJ at h
 exact sgo 11 [.tmp 4] Tryz.func447
instance:bG 447 (type_of% @aTR):=⟨@aTR⟩
theorem aUg (p0 r) (h:nJ p0=some r):Sc 402 [aX (M.aH.en p0)] [rW 5 1 enB r]:=by
 have i1:=aJ0 [.t 3 7050000 5 1] fun m s=>∃v4:Int,∃r50000:List Int,∃u50000:Nat,(s.t 1=vP 1 1 0∧s.t 3=vR 7050000 u50000∧s.t 4=vI v4∧s.h 1=(1,oX 355 (M.aH.en p0))∧s.h 7050000=(u50000,oW 5 1 enB r50000))∧fP p0 m v4 r50000=some r
 have e1:=@fP.eq_2
 unfold nJ at h
 exact sgo 38 [.tmp 2] Tryz.func402
instance:bG 402 (type_of% @aUg):=⟨@aUg⟩
theorem aSQ (p0 r) (h:oA p0=some r):Sc 336 [aX (M.aE.en p0)] [rI r]:=by
 have i1:=inv fun m s=>∃v3:Int,∃v4:Int,(s.t 1=vP 1 1 0∧s.t 3=vI v3∧s.t 4=vI v4∧s.h 1=(1,oX 98 (M.aE.en p0)))∧hT p0 m v3 v4=some r
 have e1:=@hT.eq_2
 unfold oA at h
 exact sgo 32 [.tmp 2] Tryz.func336
instance:bG 336 (type_of% @aSQ):=⟨@aSQ⟩
theorem aSr (p0 r) (h:nG p0=some r):Sc 400 [aX (M.Database.en p0)] [rI r]:=by
 have i1:=inv fun m s=>∃v3:Int,∃v4:Int,(s.t 1=vP 1 1 0∧s.t 3=vI v3∧s.t 4=vI v4∧s.h 1=(1,oX 114 (M.Database.en p0)))∧fO p0 m v3 v4=some r
 have e1:=@fO.eq_2
 unfold nG at h
 exact sgo 21 [.tmp 2] Tryz.func400
instance:bG 400 (type_of% @aSr):=⟨@aSr⟩
theorem aRX (p0 r) (h:aAx p0=some r):Sc 335 [aX (M.bD.en p0)] [rI r]:=by
 unfold aAx at h
 exact sgo 10 [.tmp 2] Tryz.func335
instance:bG 335 (type_of% @aRX):=⟨@aRX⟩
theorem aSW (p0 r) (h:zQ p0=some r):Sc 250 [aX (M.aA.en p0)] [rI r]:=by
 unfold zQ at h
 exact sgo 23 [.tmp 2] Tryz.func250
instance:bG 250 (type_of% @aSW):=⟨@aSW⟩
theorem aOD (p0 r) (h:kB p0=some r):Sc 139 [aX (M.aA.en p0)] [rB r]:=by
 unfold kB at h
 exact sgo 50 [.tmp 2] Tryz.func139
instance:bG 139 (type_of% @aOD):=⟨@aOD⟩
theorem aQW (p0 p1:M.aA) (r:(M.aA×Bool)) (h:lB p0 p1=some r) (h2:r.2=false):nM Tryz.prog 211 [(true,M.aA.en p0),(true,M.aA.en p1)] [(true,[.ro (.str r.1.Site),.ro (.str r.1.Top),.ro (.str r.1.Registration.Site),.ro (.int .i64 r.1.Registration.Installing),.ro (.int .i64 r.1.Registration.Waiting),.ro (.int .i64 r.1.Registration.Active),.own 286 2 (List.map M.Cache.en r.1.Caches.Caches),.ro (.str r.1.bD.Base.Name),.ro (.int .i64 r.1.bD.Base.Version),.own 98 3 (List.map M.aE.en r.1.bD.Base.Stores),.own 383 2 (List.map M.aD.en r.1.bD.Base.Unique),.own 5 1 (List.map enB r.1.bD.Log),.ro (.int .i64 r.1.bD.Count),.ro (.str r.1.aC.Base.Name),.own 357 4 (List.map M.Item.en r.1.aC.Base.Items),.ro (.int .i64 r.1.aC.Base.Auto),.ro (.int .i64 r.1.aC.Seen),.ro (.int .i64 r.1.aC.Sync.aN.Device),.ro (.int .i64 r.1.aC.Sync.aN.Next),.own 272 7 (List.map M.aV.en r.1.aC.Sync.aN.Writes),.ro (.int .i64 r.1.aC.Sync.Tries),.ro (.int .i64 r.1.aC.Sync.WaitUntil),.ro (.int .i64 r.1.LastUsed),.ro (.bool r.1.Persistent)]),(false,[.ro (.bool r.2)])]:=by
 unfold lB at h
 simp only [M.aA.en]
 refine aIP (N:=17) (vars:=[.cell 4 124,.tmp 5]) Tryz.func211 rfl rfl rfl (by decide +kernel) (Nat.le_of_ble_eq_true rfl) fun base wd => ?_
 refine sq ?_
 apply jC
 ·simp +decide only [E,reduceIte,Nat.reduceAdd,Nat.reduceMul,Bool.not_true,Bool.not_false,L,nC,EN]
  exact Is.mk _
 refine an (sq (sq ?_))
 obtain ⟨x1,h2,h⟩:=bind_some h
 rcases bO (!x1) with b3 | b3
 ·replace h:=bB b3 h
  apply jC
  ·simp +decide only [E,reduceIte,Nat.reduceAdd,Nat.reduceMul,Bool.not_true,Bool.not_false,L,nC,EN,b3]
   refine ⟨_,aOD _ _ h2,?_⟩
   try simp +decide only [E,reduceIte,Nat.reduceAdd,Nat.reduceMul,Bool.not_true,Bool.not_false,L,nC,EN,b3]
   exact Is.mk _
  refine an ?_
  refine aLS (by simp +decide only [F,reduceIte,Nat.reduceAdd,Bool.not_true,Bool.not_false,b3]) ?_
  refine sq ?_
  obtain ⟨x4,h5,h⟩:=bind_some h
  apply jC
  ·simp +decide only [E,reduceIte,Nat.reduceAdd,Nat.reduceMul,Bool.not_true,Bool.not_false,L,nC,EN,b3]
   refine ⟨_,c42 _ _ h5,?_⟩
   try simp +decide only [E,reduceIte,Nat.reduceAdd,Nat.reduceMul,Bool.not_true,Bool.not_false,L,nC,EN,b3]
   exact Is.mk _
  refine an (rt ?_)
  cases h
  simp [Ret,nC,M.Cache.en,M.aD.en,M.Item.en,M.aE.en,M.aV.en,enB,b3]
 replace h:=bA b3 h
 obtain ⟨x6,h7,h⟩:=bind_some h
 apply jC
 ·simp +decide only [E,reduceIte,Nat.reduceAdd,Nat.reduceMul,Bool.not_true,Bool.not_false,L,nC,EN,b3]
  refine ⟨_,aOD _ _ h2,?_⟩
  try simp +decide only [E,reduceIte,Nat.reduceAdd,Nat.reduceMul,Bool.not_true,Bool.not_false,L,nC,EN,b3]
  refine ⟨_,aOD _ _ h7,?_⟩
  try simp +decide only [E,reduceIte,Nat.reduceAdd,Nat.reduceMul,Bool.not_true,Bool.not_false,L,nC,EN,b3]
  exact Is.mk _
 refine an ?_
 rcases rQ (!x6) with b8 | b8
 ·replace h:=bA b8 h
  refine aNs (by simp +decide only [F,reduceIte,Nat.reduceAdd,Bool.not_true,Bool.not_false,b3,b8]) ?_
  refine sk (an (sq ?_))
  apply jC
  ·simp +decide only [E,reduceIte,Nat.reduceAdd,Nat.reduceMul,Bool.not_true,Bool.not_false,L,nC,EN,b3,b8]
   exact Is.mk _
  refine an (rt ?_)
  cases h
  exact absurd h2 (by simp)
 replace h:=bB b8 h
 refine aLS (by simp +decide only [F,reduceIte,Nat.reduceAdd,Bool.not_true,Bool.not_false,b3,b8]) ?_
 refine sq ?_
 obtain ⟨x9,h10,h⟩:=bind_some h
 apply jC
 ·simp +decide only [E,reduceIte,Nat.reduceAdd,Nat.reduceMul,Bool.not_true,Bool.not_false,L,nC,EN,b3,b8]
  refine ⟨_,c42 _ _ h10,?_⟩
  try simp +decide only [E,reduceIte,Nat.reduceAdd,Nat.reduceMul,Bool.not_true,Bool.not_false,L,nC,EN,b3,b8]
  exact Is.mk _
 refine an (rt ?_)
 cases h
 simp [Ret,nC,M.Cache.en,M.aD.en,M.Item.en,M.aE.en,M.aV.en,enB,b3,b8]
theorem aQX (p0 p1:M.aA) (r:(M.aA×Bool)) (h:lB p0 p1=some r) (h2:r.2=true):nM Tryz.prog 211 [(true,M.aA.en p0),(true,M.aA.en p1)] [(false,[.edit .pass])]:=by
 unfold lB at h
 simp only [M.aA.en]
 refine aOT (N:=17) (vars:=[.cell 4 124,.tmp 5]) Tryz.func211 rfl rfl rfl (by decide +kernel) (by decide) fun base wd us => ?_
 refine sq ?_
 apply jC
 ·simp +decide only [LP,E,reduceIte,Nat.reduceAdd,Nat.reduceMul,Bool.not_true,Bool.not_false,L,nC,EN]
  exact Is.mk _
 refine an (sq (sq ?_))
 obtain ⟨x1,h2,h⟩:=bind_some h
 rcases bO (!x1) with b3 | b3
 ·replace h:=bB b3 h
  apply jC
  ·simp +decide only [LP,E,reduceIte,Nat.reduceAdd,Nat.reduceMul,Bool.not_true,Bool.not_false,L,nC,EN,b3]
   refine ⟨_,aOD _ _ h2,?_⟩
   try simp +decide only [LP,E,reduceIte,Nat.reduceAdd,Nat.reduceMul,Bool.not_true,Bool.not_false,L,nC,EN,b3]
   exact Is.mk _
  refine an ?_
  refine aLS (by simp +decide only [LP,F,reduceIte,Nat.reduceAdd,Bool.not_true,Bool.not_false,b3]) ?_
  refine sq ?_
  obtain ⟨x4,h5,h⟩:=bind_some h
  apply jC
  ·simp +decide only [LP,E,reduceIte,Nat.reduceAdd,Nat.reduceMul,Bool.not_true,Bool.not_false,L,nC,EN,b3]
   refine ⟨_,c42 _ _ h5,?_⟩
   try simp +decide only [LP,E,reduceIte,Nat.reduceAdd,Nat.reduceMul,Bool.not_true,Bool.not_false,L,nC,EN,b3]
   exact Is.mk _
  refine an (rt ?_)
  cases h
  exact absurd h2 (by simp)
 replace h:=bA b3 h
 obtain ⟨x6,h7,h⟩:=bind_some h
 apply jC
 ·simp +decide only [LP,E,reduceIte,Nat.reduceAdd,Nat.reduceMul,Bool.not_true,Bool.not_false,L,nC,EN,b3]
  refine ⟨_,aOD _ _ h2,?_⟩
  try simp +decide only [LP,E,reduceIte,Nat.reduceAdd,Nat.reduceMul,Bool.not_true,Bool.not_false,L,nC,EN,b3]
  refine ⟨_,aOD _ _ h7,?_⟩
  try simp +decide only [LP,E,reduceIte,Nat.reduceAdd,Nat.reduceMul,Bool.not_true,Bool.not_false,L,nC,EN,b3]
  exact Is.mk _
 refine an ?_
 rcases rQ (!x6) with b8 | b8
 ·replace h:=bA b8 h
  refine aNs (by simp +decide only [LP,F,reduceIte,Nat.reduceAdd,Bool.not_true,Bool.not_false,b3,b8]) ?_
  refine sk (an (sq ?_))
  apply jC
  ·simp +decide only [LP,E,reduceIte,Nat.reduceAdd,Nat.reduceMul,Bool.not_true,Bool.not_false,L,nC,EN,b3,b8]
   exact Is.mk _
  refine an (rt ?_)
  cases h
  simp [aRA,LP,M.aA.en,nC,b3,b8]
 replace h:=bB b8 h
 refine aLS (by simp +decide only [LP,F,reduceIte,Nat.reduceAdd,Bool.not_true,Bool.not_false,b3,b8]) ?_
 refine sq ?_
 obtain ⟨x9,h10,h⟩:=bind_some h
 apply jC
 ·simp +decide only [LP,E,reduceIte,Nat.reduceAdd,Nat.reduceMul,Bool.not_true,Bool.not_false,L,nC,EN,b3,b8]
  refine ⟨_,c42 _ _ h10,?_⟩
  try simp +decide only [LP,E,reduceIte,Nat.reduceAdd,Nat.reduceMul,Bool.not_true,Bool.not_false,L,nC,EN,b3,b8]
  exact Is.mk _
 refine an (rt ?_)
 cases h
 exact absurd h2 (by simp)
theorem c92 (p0 p1 r) (h:kD p0 p1=some r):Sc 92 [aX (M.aA.en p0),aX (M.aC.en p1)] [(true,M.aA.rs r.1),rB r.2]:=by
 unfold kD at h
 simp only [EN]
 refine sgn 17 [.cell 4 124,.tmp 5] Tryz.func92 fun base wd => ?_
 refine sq (rn ?_)
 refine an (sq ?_)
 obtain ⟨x1,h2,h⟩:=bind_some h
 refine rn1 (c42 _ _ h2) ?_
 refine an (sq ?_)
 obtain ⟨x3,h4,h⟩:=bind_some h
 refine rn1 (aQf _ _ h4) ?_
 refine an (sq ?_)
 obtain ⟨x5,h6,h⟩:=bind_some h
 rcases bO x5.2 with b7 | b7
 ·replace h:=bB b7 h
  refine rn1 (aQX _ _ _ h6 b7) ?_
  refine an (rt ?_)
  cases h
  simp [Ret,TB,EN, *]
 replace h:=bA b7 h
 refine rn1 (aQW _ _ _ h6 b7) ?_
 refine an (rt ?_)
 cases h
 simp [Ret,TB,EN, *]
instance:bG 92 (type_of% @c92):=⟨@c92⟩
theorem aQ9 (p0 p1 p2 r) (h:uP p0 p1 p2=some r):Sc 143 [aX (M.aA.en p0),aS p1,aS p2] [rB r]:=by
 unfold uP at h
 exact sgo 23 [.tmp 6] Tryz.func143
instance:bG 143 (type_of% @aQ9):=⟨@aQ9⟩
theorem aML (p0 r) (h:cC p0=some r):Sc 136 [aX (M.aF.en p0)] [rB r]:=by
 have i1:=inv fun m s=>∃v3:Int,(s.t 1=vP 1 1 0∧s.t 3=vI v3∧s.h 1=(1,oX 26 (M.aF.en p0)))∧fB p0 m v3=some r
 have e1:=@fB.eq_2
 unfold cC at h
 exact sgo 48 [.tmp 2] Tryz.func136
instance:bG 136 (type_of% @aML):=⟨@aML⟩
theorem c43 (p0 p1 r) (h:sQ p0 p1=some r):Sc 43 [aX (M.aF.en p0),aX (M.aA.en p1)] [(true,M.aF.rs r.1),rB r.2]:=by
 unfold sQ at h
 simp only [EN]
 refine sgn 74 [.cell 4 26,.tmp 5] Tryz.func43 fun base wd => ?_
 refine sq (rn ?_)
 refine an (sq ?_)
 obtain ⟨x1,h2,h⟩:=bind_some h
 refine rn1 (aNt _ _ h2) ?_
 refine an (sq (sq ?_))
 obtain ⟨x3,h4,h⟩:=bind_some h
 refine rn1 (c41 _ _ _ _ h4) ?_
 refine an (sq (rn ?_))
 refine an ?_
 rcases bO (decide (x3≥0)) with b5 | b5
 ·replace h:=bB b5 h
  refine ct ?_
  obtain ⟨x6,h7,h⟩:=bind_some h
  obtain ⟨x8,h9,h⟩:=bind_some h
  obtain ⟨q10,q11,q12⟩:=aR h9
  refine rd1 mixed (c42 _ _ h7) ?_
  refine an (sq (sq ?_))
  refine cu (fun s=>s.t 2=vP 2 1 0∧s.t 4=vP 4 1 0∧s.t 6=vP 6 1 0∧s.h 2=(1,oX 26 (M.aF.en p0))∧s.h 4=(1,oB 26 [.nil])∧s.h 6=(1,oB 26 [.row 100011 1])∧s.h 100011=(1,oW 124 24 M.aA.en (List.set x1.Buckets x3.toNat x6))∧True) ?_
  rintro s13 ⟨f14,f15,f16,f17,f18,f19,f20,_⟩
  obtain ⟨x21,h22,h⟩:=bind_some h
  rcases bO (!x21) with b23 | b23
  ·replace h:=bB b23 h
   refine rn1 (aML _ _ h22) ?_
   refine an (ct (sq ?_))
   obtain ⟨x24,h25,h⟩:=bind_some h
   refine rn1 (aNt _ _ h25) ?_
   refine an (rt ?_)
   cases h
   simp [Ret,TB,EN, *]
  replace h:=bA b23 h
  obtain ⟨x26,h27,h⟩:=bind_some h
  refine rn2 (aML _ _ h22) (aML _ _ h27) ?_
  refine an ?_
  rcases rQ (!x26) with b28 | b28
  ·replace h:=bA b28 h
   refine cf (sk (an (sq (rn ?_))))
   refine an (rt ?_)
   cases h
   simp [Ret,TB,EN, *]
  replace h:=bB b28 h
  refine ct (sq ?_)
  obtain ⟨x29,h30,h⟩:=bind_some h
  refine rn1 (aNt _ _ h30) ?_
  refine an (rt ?_)
  cases h
  simp [Ret,TB,EN, *]
 replace h:=bA b5 h
 refine cf (sq (rn ?_))
 refine an (sq (bk ?_))
 refine kX (fun m s=>∃v8:Int,s.t 2=vP 2 1 0∧s.t 3=vP 3 1 0∧s.t 4=vP 4 1 0∧s.t 6=vP 6 1 0∧s.t 8=vI v8∧s.h 2=(1,oX 26 (M.aF.en p0))∧s.h 3=(1,oX 124 (M.aA.en p1))∧s.h 4=(1,oB 26 [.nil])∧s.h 6=(1,oB 26 [.row 100011 1])∧s.h 100011=(1,oW 124 24 M.aA.en x1.Buckets)∧gC p0 p1 x1 m v8=some r) fuel ?_ ?_
 ·refine ⟨0,?_,?_,?_,?_,?_,?_,?_,?_,?_,?_,h⟩
  all_goals simp +decide only [F,reduceIte,Nat.reduceAdd,Bool.not_true,Bool.not_false,EN, *,-h]
 rintro mL1 s31 ⟨v8,f32,f33,f34,f35,f36,f37,f38,f39,f40,f41,h⟩
 rcases mL1 with _ | mL1
 ·exact absurd h (by simp [gC])
 simp only [gC] at h
 refine sq (sq ?_)
 rcases rQ (decide (v8<(List.length p0.Buckets:Int))) with b42 | b42
 ·replace h:=bA b42 h
  refine rd mixed ?_
  refine an (cf (xt (jD (jY (uX (an (sq ?_)))))))
  obtain ⟨x103,h104,h⟩:=bind_some h
  obtain ⟨x105,h106,h⟩:=bind_some h
  apply jC
  ·simp +decide only [E,reduceIte,Nat.reduceAdd,Nat.reduceMul,Bool.not_true,Bool.not_false,←List.map_take,←List.map_drop,L,aHH,aHK,nC,M.aA.en,EN,b5,f32,f33,f34,f35,f36,f37,f38,f39,f40,f41,b42]
   refine ⟨by first | exact fY h104 | exact (fY h104).2 | exact (fY h104).2.2,?_⟩
   try simp +decide only [E,reduceIte,Nat.reduceAdd,Nat.reduceMul,Bool.not_true,Bool.not_false,←List.map_take,←List.map_drop,L,aHH,aHK,nC,M.aA.en,EN,b5,f32,f33,f34,f35,f36,f37,f38,f39,f40,f41,b42]
   refine ⟨by (have hb:=eI h106);simp [M.aA.en,List.length_append,aY,←List.map_take,←List.map_drop,-List.map_take,-List.map_drop] at hb ⊢ <;> omega,?_⟩
   try simp +decide only [E,reduceIte,Nat.reduceAdd,Nat.reduceMul,Bool.not_true,Bool.not_false,←List.map_take,←List.map_drop,L,aHH,aHK,nC,M.aA.en,EN,b5,f32,f33,f34,f35,f36,f37,f38,f39,f40,f41,b42]
   exact Is.mk _
  refine an (sq ?_)
  refine cu (fun s=>s.t 2=vP 2 1 0∧s.t 3=vP 3 1 0∧s.t 4=vP 4 1 0∧s.t 6=vP 6 1 0∧s.t 8=vI v8∧s.t 9=vR 100045 (((s31.h 100045).1+1)+1)∧s.h 2=(1,oX 26 (M.aF.en p0))∧s.h 3=(1,oX 124 (M.aA.en p1))∧s.h 4=(1,oB 26 [.nil])∧s.h 6=(1,oB 26 [.row 100011 1])∧s.h 100011=(1,.row 124 24 (aCX 24 0 v8.toNat (List.map M.aA.en x1.Buckets)) true)∧s.h 100045=((((s31.h 100045).1+1)+1),oW 124 24 M.aA.en (List.take v8.toNat x1.Buckets))∧True) ?_
  rintro s107 ⟨f108,f109,f110,f111,f112,f113,f114,f115,f116,f117,f118,f119,_⟩
  obtain ⟨x120,h121,h⟩:=bind_some h
  obtain ⟨x122,h123,h⟩:=bind_some h
  refine rn2 (c42 _ _ h121) h123 ?_
  refine an ?_
  refine cu (fun s=>s.t 2=vP 2 1 0∧s.t 4=vP 4 1 0∧s.t 6=vP 6 1 0∧s.t 8=vI v8∧s.t 9=vR 100045 ((((s31.h 100045).1+1)+1)+1)∧s.h 2=(1,oX 26 (M.aF.en p0))∧s.h 4=(1,oB 26 [.nil])∧s.h 6=(1,oB 26 [.row 100011 1])∧s.h 100011=(1,.row 124 24 (aCX 24 0 v8.toNat (List.map M.aA.en x1.Buckets)) true)∧s.h 100045=(((((s31.h 100045).1+1)+1)+1),oW 124 24 M.aA.en ((List.take v8.toNat x1.Buckets)++[x120]))∧True) ?_
  rintro s124 ⟨f125,f126,f127,f128,f129,f130,f131,f132,f133,f134,_⟩
  obtain ⟨x135,h136,h⟩:=bind_some h
  apply jC
  ·simp +decide only [E,reduceIte,Nat.reduceAdd,Nat.reduceMul,Bool.not_true,Bool.not_false,←List.map_take,←List.map_drop,L,aHH,aHK,nC,M.aA.en,EN,b5,b42,f125,f126,f127,f128,f129,f130,f131,f132,f133,f134]
   refine ⟨by first | exact aBB (fY h104).1 | exact (aBB (fY h104).1).2 | exact (aBB (fY h104).1).2.2,?_⟩
   try simp +decide only [E,reduceIte,Nat.reduceAdd,Nat.reduceMul,Bool.not_true,Bool.not_false,←List.map_take,←List.map_drop,L,aHH,aHK,nC,M.aA.en,EN,b5,b42,f125,f126,f127,f128,f129,f130,f131,f132,f133,f134]
   refine ⟨by (have hb:=eI h136);simp [M.aA.en,List.length_append,aY,←List.map_take,←List.map_drop,-List.map_take,-List.map_drop] at hb ⊢ <;> omega,?_⟩
   try simp +decide only [E,reduceIte,Nat.reduceAdd,Nat.reduceMul,Bool.not_true,Bool.not_false,←List.map_take,←List.map_drop,L,aHH,aHK,nC,M.aA.en,EN,b5,b42,f125,f126,f127,f128,f129,f130,f131,f132,f133,f134]
   exact Is.mk _
  refine an (sq (sq ?_))
  refine cu (fun s=>s.t 2=vP 2 1 0∧s.t 4=vP 4 1 0∧s.t 6=vP 6 1 0∧s.h 2=(1,oX 26 (M.aF.en p0))∧s.h 4=(1,oB 26 [.nil])∧s.h 6=(1,oB 26 [.row 100045 (((((s31.h 100045).1+1)+1)+1)+1)])∧s.h 100045=((((((s31.h 100045).1+1)+1)+1)+1),oW 124 24 M.aA.en (((List.take v8.toNat x1.Buckets)++[x120])++(List.drop v8.toNat x1.Buckets)))∧True) ?_
  rintro s137 ⟨f138,f139,f140,f141,f142,f143,f144,_⟩
  obtain ⟨x145,h146,h⟩:=bind_some h
  rcases bO (!x145) with b147 | b147
  ·replace h:=bB b147 h
   refine rn1 (aML _ _ h146) ?_
   refine an (ct (sq ?_))
   obtain ⟨x148,h149,h⟩:=bind_some h
   refine rn1 (aNt _ _ h149) ?_
   refine an (rt ?_)
   cases h
   simp [Ret,TB,EN, *]
  replace h:=bA b147 h
  obtain ⟨x150,h151,h⟩:=bind_some h
  refine rn2 (aML _ _ h146) (aML _ _ h151) ?_
  refine an ?_
  rcases rQ (!x150) with b152 | b152
  ·replace h:=bA b152 h
   refine cf (sk (an (sq (rn ?_))))
   refine an (rt ?_)
   cases h
   simp [Ret,TB,EN, *]
  replace h:=bB b152 h
  refine ct (sq ?_)
  obtain ⟨x153,h154,h⟩:=bind_some h
  refine rn1 (aNt _ _ h154) ?_
  refine an (rt ?_)
  cases h
  simp [Ret,TB,EN, *]
 replace h:=bB b42 h
 obtain ⟨x43,h44,h⟩:=bind_some h
 obtain ⟨q45,q46,q47⟩:=aR h44
 obtain ⟨x48,h49,h⟩:=bind_some h
 refine rd1 mixed (aQ9 _ _ _ _ h49) ?_
 refine an ?_
 rcases bO x48 with b50 | b50
 ·replace h:=bB b50 h
  refine ct (sk (an (bk (rn ?_))))
  refine ab ?_
  refine xY ⟨mL1,by omega,(i64.wrap (v8+1)),?_,?_,?_,?_,?_,?_,?_,?_,?_,?_,h⟩
  all_goals simp +decide only [F,reduceIte,Nat.reduceAdd,Bool.not_true,Bool.not_false,EN, *,-h]
 replace h:=bA b50 h
 refine cf (xt (jD (jY (uX (an (sq ?_))))))
 obtain ⟨x51,h52,h⟩:=bind_some h
 obtain ⟨x53,h54,h⟩:=bind_some h
 apply jC
 ·simp +decide only [E,reduceIte,Nat.reduceAdd,Nat.reduceMul,Bool.not_true,Bool.not_false,←List.map_take,←List.map_drop,L,aHH,aHK,nC,M.aA.en,EN,b5,f32,f33,f34,f35,f36,f37,f38,f39,f40,f41,b42,q45,q46,q47,b50]
  refine ⟨by first | exact fY h52 | exact (fY h52).2 | exact (fY h52).2.2,?_⟩
  try simp +decide only [E,reduceIte,Nat.reduceAdd,Nat.reduceMul,Bool.not_true,Bool.not_false,←List.map_take,←List.map_drop,L,aHH,aHK,nC,M.aA.en,EN,b5,f32,f33,f34,f35,f36,f37,f38,f39,f40,f41,b42,q45,q46,q47,b50]
  refine ⟨by (have hb:=eI h54);simp [M.aA.en,List.length_append,aY,←List.map_take,←List.map_drop,-List.map_take,-List.map_drop] at hb ⊢ <;> omega,?_⟩
  try simp +decide only [E,reduceIte,Nat.reduceAdd,Nat.reduceMul,Bool.not_true,Bool.not_false,←List.map_take,←List.map_drop,L,aHH,aHK,nC,M.aA.en,EN,b5,f32,f33,f34,f35,f36,f37,f38,f39,f40,f41,b42,q45,q46,q47,b50]
  exact Is.mk _
 refine an (sq ?_)
 refine cu (fun s=>s.t 2=vP 2 1 0∧s.t 3=vP 3 1 0∧s.t 4=vP 4 1 0∧s.t 6=vP 6 1 0∧s.t 8=vI v8∧s.t 9=vR 100045 (((s31.h 100045).1+1)+1)∧s.h 2=(1,oX 26 (M.aF.en p0))∧s.h 3=(1,oX 124 (M.aA.en p1))∧s.h 4=(1,oB 26 [.nil])∧s.h 6=(1,oB 26 [.row 100011 1])∧s.h 100011=(1,.row 124 24 (aCX 24 0 v8.toNat (List.map M.aA.en x1.Buckets)) true)∧s.h 100045=((((s31.h 100045).1+1)+1),oW 124 24 M.aA.en (List.take v8.toNat x1.Buckets))∧True) ?_
 rintro s55 ⟨f56,f57,f58,f59,f60,f61,f62,f63,f64,f65,f66,f67,_⟩
 obtain ⟨x68,h69,h⟩:=bind_some h
 obtain ⟨x70,h71,h⟩:=bind_some h
 refine rn2 (c42 _ _ h69) h71 ?_
 refine an ?_
 refine cu (fun s=>s.t 2=vP 2 1 0∧s.t 4=vP 4 1 0∧s.t 6=vP 6 1 0∧s.t 8=vI v8∧s.t 9=vR 100045 ((((s31.h 100045).1+1)+1)+1)∧s.h 2=(1,oX 26 (M.aF.en p0))∧s.h 4=(1,oB 26 [.nil])∧s.h 6=(1,oB 26 [.row 100011 1])∧s.h 100011=(1,.row 124 24 (aCX 24 0 v8.toNat (List.map M.aA.en x1.Buckets)) true)∧s.h 100045=(((((s31.h 100045).1+1)+1)+1),oW 124 24 M.aA.en ((List.take v8.toNat x1.Buckets)++[x68]))∧True) ?_
 rintro s72 ⟨f73,f74,f75,f76,f77,f78,f79,f80,f81,f82,_⟩
 obtain ⟨x83,h84,h⟩:=bind_some h
 apply jC
 ·simp +decide only [E,reduceIte,Nat.reduceAdd,Nat.reduceMul,Bool.not_true,Bool.not_false,←List.map_take,←List.map_drop,L,aHH,aHK,nC,M.aA.en,EN,b5,b42,q45,q46,q47,b50,f73,f74,f75,f76,f77,f78,f79,f80,f81,f82]
  refine ⟨by first | exact aBB (fY h52).1 | exact (aBB (fY h52).1).2 | exact (aBB (fY h52).1).2.2,?_⟩
  try simp +decide only [E,reduceIte,Nat.reduceAdd,Nat.reduceMul,Bool.not_true,Bool.not_false,←List.map_take,←List.map_drop,L,aHH,aHK,nC,M.aA.en,EN,b5,b42,q45,q46,q47,b50,f73,f74,f75,f76,f77,f78,f79,f80,f81,f82]
  refine ⟨by (have hb:=eI h84);simp [M.aA.en,List.length_append,aY,←List.map_take,←List.map_drop,-List.map_take,-List.map_drop] at hb ⊢ <;> omega,?_⟩
  try simp +decide only [E,reduceIte,Nat.reduceAdd,Nat.reduceMul,Bool.not_true,Bool.not_false,←List.map_take,←List.map_drop,L,aHH,aHK,nC,M.aA.en,EN,b5,b42,q45,q46,q47,b50,f73,f74,f75,f76,f77,f78,f79,f80,f81,f82]
  exact Is.mk _
 refine an (sq (sq ?_))
 refine cu (fun s=>s.t 2=vP 2 1 0∧s.t 4=vP 4 1 0∧s.t 6=vP 6 1 0∧s.h 2=(1,oX 26 (M.aF.en p0))∧s.h 4=(1,oB 26 [.nil])∧s.h 6=(1,oB 26 [.row 100045 (((((s31.h 100045).1+1)+1)+1)+1)])∧s.h 100045=((((((s31.h 100045).1+1)+1)+1)+1),oW 124 24 M.aA.en (((List.take v8.toNat x1.Buckets)++[x68])++(List.drop v8.toNat x1.Buckets)))∧True) ?_
 rintro s85 ⟨f86,f87,f88,f89,f90,f91,f92,_⟩
 obtain ⟨x93,h94,h⟩:=bind_some h
 rcases bO (!x93) with b95 | b95
 ·replace h:=bB b95 h
  refine rn1 (aML _ _ h94) ?_
  refine an (ct (sq ?_))
  obtain ⟨x96,h97,h⟩:=bind_some h
  refine rn1 (aNt _ _ h97) ?_
  refine an (rt ?_)
  cases h
  simp [Ret,TB,EN, *]
 replace h:=bA b95 h
 obtain ⟨x98,h99,h⟩:=bind_some h
 refine rn2 (aML _ _ h94) (aML _ _ h99) ?_
 refine an ?_
 rcases rQ (!x98) with b100 | b100
 ·replace h:=bA b100 h
  refine cf (sk (an (sq (rn ?_))))
  refine an (rt ?_)
  cases h
  simp [Ret,TB,EN, *]
 replace h:=bB b100 h
 refine ct (sq ?_)
 obtain ⟨x101,h102,h⟩:=bind_some h
 refine rn1 (aNt _ _ h102) ?_
 refine an (rt ?_)
 cases h
 simp [Ret,TB,EN, *]
instance:bG 43 (type_of% @c43):=⟨@c43⟩
theorem c93 (p0 p1 p2 r) (h:xO p0 p1 p2=some r):Sc 93 [aX (M.World.en p0),aX (M.aA.en p1),aB p2] [(true,M.World.rs r.1),rB r.2]:=by
 unfold xO at h
 exact sgo 30 [.cell 6 37,.tmp 7] Tryz.func93
instance:bG 93 (type_of% @c93):=⟨@c93⟩
theorem c22 (p0 p1 p2 p3 p4 r) (h:vO p0 p1 p2 p3 p4=some r):Sc 22 [aX (M.World.en p0),aX (M.bJ.en p1),aI p2,aS p3,aI p4] [(true,M.World.rs r.1),rB r.2]:=by
 unfold vO at h
 exact sgo 60 [.cell 10 37,.tmp 11] Tryz.func22
instance:bG 22 (type_of% @c22):=⟨@c22⟩
end Go.Proofs.YtnhpbpnhmapeeaaGreat.gen
