/-
  Helper text. No conditions.
-/
import Derived.Test.YtnhpbpnhmapeeaaGreatClosePageTi
import Derived.Test.YtnhpbpnhmapeeaaGreatClosePageWspec0
namespace Go.Proofs.YtnhpbpnhmapeeaaGreat.gen
open Go Go.Sh
open Go.IntKind (i64)
set_option linter.unusedVariables false
set_option linter.unusedSimpArgs false
set_option maxRecDepth 20000
set_option maxHeartbeats 4000000
theorem aTM (p0 r) (h:pW p0=some r):Sc 249 [aX (M.Database.en p0)] [rB r]:=by
 have i1:=inv fun m s=>∃v3:Int,(s.t 1=vP 1 1 0∧s.t 3=vI v3∧s.h 1=(1,oX 114 (M.Database.en p0)))∧eM p0 m v3=some r
 have e1:=@eM.eq_2
 have i2:=inv fun m s=>∃v4:Int,(s.t 1=vP 1 1 0∧s.t 4=vI v4∧s.h 1=(1,oX 114 (M.Database.en p0)))∧eN p0 m v4=some r
 have e2:=@eN.eq_2
 have i3:=fun (v4:Int) (x26:M.aA) (k46:Int→Option Bool)=>inv fun m s=>∃v9_L3:Int,(s.t 1=vP 1 1 0∧s.t 4=vI v4∧s.t 9=vI v9_L3∧s.h 1=(1,oX 114 (M.Database.en p0)))∧fJ p0 v4 x26 k46 m v9_L3=some r
 have e3:=@fJ.eq_2
 unfold pW at h
 exact sgo 124 [.tmp 2] Tryz.func249
instance:bD 249 (type_of% @aTM):=⟨@aTM⟩
theorem aSD (p0 r) (h:wR p0=some r):Sc 246 [aX (M.aV.en p0)] [rB r]:=by
 have i1:=inv fun m s=>∃v4:Int,(s.t 1=vP 1 1 0∧s.t 3=vI (List.length p0.Writes:Int)∧s.t 4=vI v4∧s.h 1=(1,oX 118 (M.aV.en p0)))∧iN p0 m v4=some r
 have e1:=@iN.eq_2
 unfold wR at h
 exact sgo 60 [.tmp 2] Tryz.func246
instance:bD 246 (type_of% @aSD):=⟨@aSD⟩
theorem aRz (p0 r) (h:sS p0=some r):Sc 210 [aX (M.aD.en p0)] [rB r]:=by
 unfold sS at h
 exact sgo 23 [.tmp 2] Tryz.func210
instance:bD 210 (type_of% @aRz):=⟨@aRz⟩
theorem aTI (p0 p1 r) (h:qC p0 p1=some r):Sc 399 [aX (M.Response.en p0),aB p1] [rI r]:=by
 unfold qC at h
 exact sgo 10 [.tmp 4] Tryz.func399
instance:bD 399 (type_of% @aTI):=⟨@aTI⟩
theorem aRg (p0 r) (h:pV p0=some r):Sc 334 [aX (M.aT.en p0)] [rI r]:=by
 have i1:=inv fun m s=>∃v3:Int,∃v4:Int,(s.t 1=vP 1 1 0∧s.t 3=vI v3∧s.t 4=vI v4∧s.h 1=(1,oX 110 (M.aT.en p0)))∧eC p0 m v3 v4=some r
 have e1:=@eC.eq_2
 have i2:=fun (v4:Int) (k8:Int→Int→Option Int)=>inv fun m s=>∃v3_L2:Int,∃v5_L2:Int,(s.t 1=vP 1 1 0∧s.t 3=vI v3_L2∧s.t 4=vI v4∧s.t 5=vI v5_L2∧s.h 1=(1,oX 110 (M.aT.en p0)))∧gW p0 v4 k8 m v3_L2 v5_L2=some r
 have e2:=@gW.eq_2
 unfold pV at h
 exact sgo 43 [.tmp 2] Tryz.func334
instance:bD 334 (type_of% @aRg):=⟨@aRg⟩
theorem aRk (p0 r) (h:sP p0=some r):Sc 401 [aX (M.Key.en p0)] [rW 5 1 enB r]:=by
 unfold sP at h
 simp only [EN]
 refine sgn 38 [.tmp 2] Tryz.func401 fun base wd => ?_
 refine sq (rn ?_)
 refine an (sq (sq ?_))
 obtain ⟨x1,h2,h⟩:=bind_some h
 refine rn1 (aPy _ _ h2) ?_
 refine an ?_
 rcases cU (!x1) with b3 | b3
 ·replace h:=bI b3 h
  refine ct (sq (rn ?_))
  refine an (rt ?_)
  cases h
  simp [Ret,TB,EN, *]
 replace h:=bH b3 h
 refine cf (sk (an (sq (rn ?_))))
 refine an (sq (sq ?_))
 refine cu (fun s=>s.t 1=vP 1 1 0∧s.t 3=vR 100012 1∧s.h 1=(1,oX 174 (M.Key.en p0))∧s.h 100012=(1,oW 5 1 enB ([(IntKind.u8.wrap p0.Kind)]))∧True) ?_
 rintro s4 ⟨f5,f6,f7,f8,_⟩
 refine rn ?_
 refine an (bk ?_)
 refine jY (fun m s=>∃v4:Int,∃r12:List Int,∃u12:Nat,s.t 1=vP 1 1 0∧s.t 3=vR 100012 u12∧s.t 4=vI v4∧s.h 1=(1,oX 174 (M.Key.en p0))∧s.h 100012=(u12,oW 5 1 enB r12)∧cD p0 m v4 r12=some r) fuel ?_ ?_
 ·refine ⟨5,([(IntKind.u8.wrap p0.Kind)]),1,?_,?_,?_,?_,?_,h⟩
  all_goals simp +decide only [F,reduceIte,Nat.reduceAdd,Bool.not_true,Bool.not_false,EN, *,-h]
 rintro mL1 s9 ⟨v4,r12,u12,f10,f11,f12,f13,f14,h⟩
 rcases mL1 with _ | mL1
 ·exact absurd h (by simp [cD])
 simp only [cD] at h
 refine sq (sq ?_)
 rcases aA5 (decide (v4≥0)) with b15 | b15
 ·replace h:=bH b15 h
  refine rn ?_
  refine an (cf (xt (lO (nE (yR (an (sq ?_)))))))
  obtain ⟨x28,h29,h⟩:=bind_some h
  refine rn1 h29 ?_
  refine an (rt ?_)
  cases h
  simp [Ret,TB,EN, *]
 replace h:=bI b15 h
 refine rn ?_
 refine an ?_
 rcases aA5 (p0.Kind != 2) with b16 | b16
 ·replace h:=bH b16 h
  refine cf (xt (lO (nE (yR (an (sq ?_))))))
  obtain ⟨x26,h27,h⟩:=bind_some h
  refine rn1 h27 ?_
  refine an (rt ?_)
  cases h
  simp [Ret,TB,EN, *]
 replace h:=bI b16 h
 refine ct (sk (an (sq (bk ?_))))
 rcases aA5 (decide (0≤(i64.wrap (8*v4)))) with b17 | b17
 ·replace h:=bH b17 h
  cases h
 replace h:=bI b17 h
 obtain ⟨x18,h19,h⟩:=bind_some h
 apply gS
 ·simp +decide only [E,reduceIte,Nat.reduceAdd,Nat.reduceMul,Bool.not_true,Bool.not_false,aJV,L,ti3,ti5,aOK,aLG,enB,EN,b3,f10,f11,f12,f13,f14,b15,b16,b17]
  refine ⟨by (have hb:=oY h19);simp [enB,List.length_append,bJ] at hb ⊢ <;> omega,?_⟩
  try simp +decide only [E,reduceIte,Nat.reduceAdd,Nat.reduceMul,Bool.not_true,Bool.not_false,aJV,L,ti3,ti5,aOK,aLG,enB,EN,b3,f10,f11,f12,f13,f14,b15,b16,b17]
  exact Is.mk _
 refine ab (an ?_)
 refine cu (fun s=>s.t 1=vP 1 1 0∧s.t 3=vR 100012 (u12+1)∧s.t 4=vI v4∧s.h 1=(1,oX 174 (M.Key.en p0))∧s.h 100012=((u12+1),oW 5 1 enB (r12++[(IntKind.u8.wrap (i64.wrap (BitVec.ofInt (IntKind.i64.bits) (Int.fdiv (i64.wrap (p0.N+1000000000000)) (2^(min (i64.wrap (8*v4)).toNat IntKind.i64.bits)))&&&BitVec.ofInt (IntKind.i64.bits) 255).toNat))]))∧True) ?_
 rintro s20 ⟨f21,f22,f23,f24,f25,_⟩
 refine rn ?_
 refine rQ ⟨mL1,by omega,(i64.wrap (v4-1)),(r12++[(IntKind.u8.wrap (i64.wrap (BitVec.ofInt (IntKind.i64.bits) (Int.fdiv (i64.wrap (p0.N+1000000000000)) (2^(min (i64.wrap (8*v4)).toNat IntKind.i64.bits)))&&&BitVec.ofInt (IntKind.i64.bits) 255).toNat))]),(u12+1),?_,?_,?_,?_,?_,h⟩
 all_goals simp +decide only [F,reduceIte,Nat.reduceAdd,Bool.not_true,Bool.not_false,EN, *,-h]
instance:bD 401 (type_of% @aRk):=⟨@aRk⟩
theorem aTl (p0 p1 r) (h:gX p0 p1=some r):Sc 446 [aL enB p0,aI p1] [rW 5 1 enB r]:=by
 unfold gX at h
 simp only [EN]
 refine sgn 29 [.tmp 4] Tryz.func446 fun base wd => ?_
 refine sq (rn ?_)
 refine an (sq ?_)
 obtain ⟨x1,h2,h⟩:=bind_some h
 refine rn1 h2 ?_
 refine an (sq (sq ?_))
 refine cu (fun s=>s.t 1=vI p1∧s.t 5=vR 100006 2∧s.h 100006=(2,oW 5 1 enB p0)∧True) ?_
 rintro s3 ⟨f4,f5,f6,_⟩
 obtain ⟨x7,h8,h⟩:=bind_some h
 refine rn1 (c34 _ _ _ _ h8) ?_
 refine an ?_
 rcases cU (!x7) with b9 | b9
 ·replace h:=bI b9 h
  refine ct (sq (rn ?_))
  refine an (rt ?_)
  cases h
  simp [Ret,TB,EN, *]
 replace h:=bH b9 h
 refine cf (sk (an (sq (bk ?_))))
 refine jY (fun m s=>∃v1:Int,∃r6:List Int,∃u6:Nat,s.t 1=vI v1∧s.t 5=vR 100006 u6∧s.h 100006=(u6,oW 5 1 enB r6)∧dP m v1 r6=some r) fuel ?_ ?_
 ·refine ⟨p1,p0,2,?_,?_,?_,h⟩
  all_goals simp +decide only [F,reduceIte,Nat.reduceAdd,Bool.not_true,Bool.not_false,EN, *,-h]
 rintro mL1 s10 ⟨v1,r6,u6,f11,f12,f13,h⟩
 rcases mL1 with _ | mL1
 ·exact absurd h (by simp [dP])
 simp only [dP] at h
 refine sq (sq (rn ?_))
 refine an ?_
 rcases aA5 (decide (v1>127)) with b14 | b14
 ·replace h:=bH b14 h
  refine cf (xt (lO (nE (yR (an (sq ?_))))))
  obtain ⟨x21,h22,h⟩:=bind_some h
  refine rn1 h22 ?_
  refine an (rt ?_)
  cases h
  simp [Ret,TB,EN, *]
 replace h:=bI b14 h
 refine ct (sk (an (bk (sq ?_))))
 obtain ⟨x15,h16,h⟩:=bind_some h
 refine rn1 h16 ?_
 refine an ?_
 refine cu (fun s=>s.t 1=vI v1∧s.t 5=vR 100006 (u6+1)∧s.h 100006=((u6+1),oW 5 1 enB (r6++[(IntKind.u8.wrap (i64.wrap (BitVec.ofInt (IntKind.i64.bits) (i64.wrap (BitVec.ofInt (IntKind.i64.bits) v1&&&BitVec.ofInt (IntKind.i64.bits) 127).toNat)|||BitVec.ofInt (IntKind.i64.bits) 128).toNat))]))∧True) ?_
 rintro s17 ⟨f18,f19,f20,_⟩
 apply gS
 ·simp +decide only [E,reduceIte,Nat.reduceAdd,Nat.reduceMul,Bool.not_true,Bool.not_false,Int.reduceLT,aJV,L,EN,b9,b14,f18,f19,f20]
  exact Is.mk _
 refine ab ?_
 refine rQ ⟨mL1,by omega,(Int.fdiv v1 (2^(min (7:Int).toNat IntKind.i64.bits))),(r6++[(IntKind.u8.wrap (i64.wrap (BitVec.ofInt (IntKind.i64.bits) (i64.wrap (BitVec.ofInt (IntKind.i64.bits) v1&&&BitVec.ofInt (IntKind.i64.bits) 127).toNat)|||BitVec.ofInt (IntKind.i64.bits) 128).toNat))]),(u6+1),?_,?_,?_,h⟩
 all_goals simp +decide only [F,reduceIte,Nat.reduceAdd,Bool.not_true,Bool.not_false,EN, *,-h]
instance:bD 446 (type_of% @aTl):=⟨@aTl⟩
theorem aSs (p0 p1 r) (h:nV p0 p1=some r):Sc 447 [aL enB p0,aL enB p1] [rW 5 1 enB r]:=by
 unfold nV at h
 exact sgo 11 [.tmp 4] Tryz.func447
instance:bD 447 (type_of% @aSs):=⟨@aSs⟩
theorem aUE (p0 r) (h:mX p0=some r):Sc 402 [aX (M.aU.en p0)] [rW 5 1 enB r]:=by
 have i1:=aJj [.t 3 7050000 5 1] fun m s=>∃v4:Int,∃r50000:List Int,∃u50000:Nat,(s.t 1=vP 1 1 0∧s.t 3=vR 7050000 u50000∧s.t 4=vI v4∧s.h 1=(1,oX 355 (M.aU.en p0))∧s.h 7050000=(u50000,oW 5 1 enB r50000))∧fR p0 m v4 r50000=some r
 have e1:=@fR.eq_2
 unfold mX at h
 exact sgo 38 [.tmp 2] Tryz.func402
instance:bD 402 (type_of% @aUE):=⟨@aUE⟩
theorem aRp (p0 r) (h:nL p0=some r):Sc 336 [aX (M.aH.en p0)] [rI r]:=by
 have i1:=inv fun m s=>∃v3:Int,∃v4:Int,(s.t 1=vP 1 1 0∧s.t 3=vI v3∧s.t 4=vI v4∧s.h 1=(1,oX 98 (M.aH.en p0)))∧hZ p0 m v3 v4=some r
 have e1:=@hZ.eq_2
 unfold nL at h
 exact sgo 32 [.tmp 2] Tryz.func336
instance:bD 336 (type_of% @aRp):=⟨@aRp⟩
theorem aSI (p0 r) (h:mV p0=some r):Sc 400 [aX (M.Database.en p0)] [rI r]:=by
 have i1:=inv fun m s=>∃v3:Int,∃v4:Int,(s.t 1=vP 1 1 0∧s.t 3=vI v3∧s.t 4=vI v4∧s.h 1=(1,oX 114 (M.Database.en p0)))∧fQ p0 m v3 v4=some r
 have e1:=@fQ.eq_2
 unfold mV at h
 exact sgo 21 [.tmp 2] Tryz.func400
instance:bD 400 (type_of% @aSI):=⟨@aSI⟩
theorem aQt (p0 r) (h:aAr p0=some r):Sc 335 [aX (M.bE.en p0)] [rI r]:=by
 unfold aAr at h
 exact sgo 10 [.tmp 2] Tryz.func335
instance:bD 335 (type_of% @aQt):=⟨@aQt⟩
theorem aRv (p0 r) (h:zM p0=some r):Sc 250 [aX (M.aF.en p0)] [rI r]:=by
 unfold zM at h
 exact sgo 23 [.tmp 2] Tryz.func250
instance:bD 250 (type_of% @aRv):=⟨@aRv⟩
theorem aUL (p0 r) (h:wK p0=some r):Sc 139 [aX (M.aF.en p0)] [rB r]:=by
 unfold wK at h
 exact sgo 50 [.tmp 2] Tryz.func139
instance:bD 139 (type_of% @aUL):=⟨@aUL⟩
theorem aUF (p0 p1 p2 r) (h:xZ p0 p1 p2=some r):Sc 143 [aX (M.aF.en p0),aS p1,aS p2] [rB r]:=by
 unfold xZ at h
 exact sgo 23 [.tmp 6] Tryz.func143
instance:bD 143 (type_of% @aUF):=⟨@aUF⟩
theorem aRx (p0 r) (h:tF p0=some r):Sc 136 [aX (M.aM.en p0)] [rB r]:=by
 have i1:=inv fun m s=>∃v3:Int,(s.t 1=vP 1 1 0∧s.t 3=vI v3∧s.h 1=(1,oX 26 (M.aM.en p0)))∧fG p0 m v3=some r
 have e1:=@fG.eq_2
 unfold tF at h
 exact sgo 48 [.tmp 2] Tryz.func136
instance:bD 136 (type_of% @aRx):=⟨@aRx⟩
theorem aUm (p0 r) (h:pN p0=some r):Sc 245 [aS p0] [rB r]:=by
 have i1:=inv fun m s=>∃v3:Int,(s.t 0=vS p0∧s.t 3=vI v3)∧cZ p0 m v3=some r
 have e1:=@cZ.eq_2
 unfold pN at h
 exact sgo 29 [.tmp 2] Tryz.func245
instance:bD 245 (type_of% @aUm):=⟨@aUm⟩
theorem aTd (p0 r) (h:pB p0=some r):Sc 137 [aX (M.aE.en p0)] [rB r]:=by
 have i1:=inv fun m s=>∃v3:Int,(s.t 1=vP 1 1 0∧s.t 3=vI v3∧s.h 1=(1,oX 30 (M.aE.en p0)))∧eY p0 m v3=some r
 have e1:=@eY.eq_2
 have i2:=fun (v3:Int) (x6:M.bF) (k18:Int→Option Bool) (s1:St)=>inv fun m s=>∃v5_L2:Int,(s.t 1=vP 1 1 0∧s.t 3=vI v3∧s.t 4=vP 4 ((s1.h 4).1+1) 0∧s.t 5=vI v5_L2∧s.h 1=(1,oX 30 (M.aE.en p0))∧s.h 4=(((s1.h 4).1+1),oX 144 (M.bF.en x6)))∧bX p0 v3 x6 k18 m v5_L2=some r
 have e2:=@bX.eq_2
 unfold pB at h
 exact sgo 67 [.tmp 2] Tryz.func137
instance:bD 137 (type_of% @aTd):=⟨@aTd⟩
theorem c38 (p0 r) (h:uN p0=some r):Sc 38 [aX (M.World.en p0)] [rB r]:=by
 have i1:=inv fun m s=>∃v3:Int,(s.t 1=vP 1 1 0∧s.t 3=vI v3∧s.h 1=(1,oX 37 (M.World.en p0)))∧iE p0 m v3=some r
 have e1:=@iE.eq_2
 have i2:=inv fun m s=>∃v4:Int,(s.t 1=vP 1 1 0∧s.t 4=vI v4∧s.h 1=(1,oX 37 (M.World.en p0)))∧dH p0 m v4=some r
 have e2:=@dH.eq_2
 unfold uN at h
 exact sgo 126 [.tmp 2] Tryz.func38
instance:bD 38 (type_of% @c38):=⟨@c38⟩
theorem aQq (p0 p1 p2 r) (h:aAN p0 p1 p2=some r):Sc 273 [aL M.bF.en p0,aI p1,aX (M.bF.en p2)] [rB r]:=by
 have i1:=inv fun m s=>∃v7:Int,(s.t 0=vL M.bF.en p0∧s.t 1=vI p1∧s.t 5=vP 5 1 0∧s.t 7=vI v7∧s.h 5=(1,oX 144 (M.bF.en p2)))∧iZ p0 p1 p2 m v7=some r
 have e1:=@iZ.eq_2
 unfold aAN at h
 exact sgo 42 [.tmp 6] Tryz.func273
instance:bD 273 (type_of% @aQq):=⟨@aQq⟩
theorem aUI (p0 r) (h:mH p0=some r):Sc 176 [aX (M.aE.en p0)] [(true,M.aE.rs r)]:=by
 have i1:=inv fun m s=>∃v4:Int,∃r6:List M.bF,(s.t 2=vP 2 1 0∧s.t 3=vP 3 1 0∧s.t 4=vI v4∧s.h 2=(1,oB 30 [.nil])∧s.h 3=(1,oB 30 [.row 100006 1])∧s.h 100006=(1,oW 144 4 M.bF.en r6))∧eK m v4 r6=some r
 have e1:=@eK.eq_2
 unfold mH at h
 exact sgo 38 [.cell 2 30] Tryz.func176
instance:bD 176 (type_of% @aUI):=⟨@aUI⟩
theorem c62 (p0 p1 r) (h:mU p0 p1=some r):Sc 62 [aX (M.aE.en p0),aI p1] [(true,M.aE.rs r)]:=by
 have i1:=aJj [.b 5 0 7050000 144 4] fun m s=>∃v6:Int,∃r50000:List M.bF,∃u50000:Nat,(s.t 1=vI p1∧s.t 2=vP 2 1 0∧s.t 4=vP 4 1 0∧s.t 5=vP 5 1 0∧s.t 6=vI v6∧s.h 2=(1,oX 30 (M.aE.en p0))∧s.h 4=(1,oB 30 [.nil])∧s.h 5=(1,oB 30 [.row 7050000 u50000])∧s.h 7050000=(u50000,oW 144 4 M.bF.en r50000))∧eA p0 p1 m v6 r50000=some r
 have e1:=@eA.eq_2
 unfold mU at h
 exact sgo 35 [.cell 4 30] Tryz.func62
instance:bD 62 (type_of% @c62):=⟨@c62⟩
theorem c63 (p0 p1 r) (h:tS p0 p1=some r):Sc 63 [aX (M.Channel.en p0),aI p1] [(true,M.Channel.rs r)]:=by
 have i1:=aJj [.b 5 0 7050000 232 3] fun m s=>∃v6:Int,∃r50000:List M.bU,∃u50000:Nat,(s.t 1=vI p1∧s.t 2=vP 2 1 0∧s.t 4=vP 4 1 0∧s.t 5=vP 5 1 0∧s.t 6=vI v6∧s.h 2=(1,oX 33 (M.Channel.en p0))∧s.h 4=(1,oB 33 [.nil])∧s.h 5=(1,oB 33 [.row 7050000 u50000])∧s.h 7050000=(u50000,oW 232 3 M.bU.en r50000))∧gB p0 p1 m v6 r50000=some r
 have e1:=@gB.eq_2
 unfold tS at h
 exact sgo 34 [.cell 4 33] Tryz.func63
instance:bD 63 (type_of% @c63):=⟨@c63⟩
theorem c16 (p0 p1 r) (h:sK p0 p1=some r):Sc 16 [aX (M.World.en p0),aI p1] [(true,M.World.rs r.1),rB r.2]:=by
 unfold sK at h
 simp only [EN]
 refine sgn 43 [.cell 4 37,.tmp 5] Tryz.func16 fun base wd => ?_
 refine sq (rn ?_)
 refine an (sq ?_)
 obtain ⟨x1,h2,h⟩:=bind_some h
 refine rn1 (c36 _ _ h2) ?_
 refine an (sq ?_)
 obtain ⟨x3,h4,h⟩:=bind_some h
 refine rn1 (c61 _ _ _ h4) ?_
 refine an (sq (sq ?_))
 obtain ⟨x5,h6,h⟩:=bind_some h
 rcases cU (!x5) with b7 | b7
 ·replace h:=bI b7 h
  refine rn1 (c38 _ _ h6) ?_
  refine an (ct (sq (rn ?_)))
  refine an (rt ?_)
  cases h
  simp [Ret,TB,EN, *]
 replace h:=bH b7 h
 refine rn1 (c38 _ _ h6) ?_
 refine an ?_
 rcases cU (decide (x3<0)) with b8 | b8
 ·replace h:=bI b8 h
  refine ct (sq (rn ?_))
  refine an (rt ?_)
  cases h
  simp [Ret,TB,EN, *]
 replace h:=bH b8 h
 refine cf (sk (an (sq ?_)))
 obtain ⟨x9,h10,h⟩:=bind_some h
 obtain ⟨x11,h12,h⟩:=bind_some h
 obtain ⟨x13,h14,h⟩:=bind_some h
 apply aEq mixed
 ·simp +decide only [E,reduceIte,Nat.reduceAdd,Nat.reduceMul,Bool.not_true,Bool.not_false,←List.map_take,←List.map_drop,Nat.sub_zero,L,aMr,aMn,aMp,M.bG.en,EN,b7,b8]
  refine ⟨by first | exact uR h10 | exact (uR h10).2 | exact (uR h10).2.2,?_⟩
  try simp +decide only [E,reduceIte,Nat.reduceAdd,Nat.reduceMul,Bool.not_true,Bool.not_false,←List.map_take,←List.map_drop,Nat.sub_zero,L,aMr,aMn,aMp,M.bG.en,EN,b7,b8]
  refine ⟨by first | exact aBP h12 | exact (aBP h12).2 | exact (aBP h12).2.2,?_⟩
  try simp +decide only [E,reduceIte,Nat.reduceAdd,Nat.reduceMul,Bool.not_true,Bool.not_false,←List.map_take,←List.map_drop,Nat.sub_zero,L,aMr,aMn,aMp,M.bG.en,EN,b7,b8]
  refine ⟨by first | exact aEQ (f:=M.bG.en) (sz:=11) (fun _=>rfl) (by decide) h10 h12 h14 | (have hb:=aEQ (f:=M.bG.en) (sz:=11) (fun _=>rfl) (by decide) h10 h12 h14;simpa using hb),?_⟩
  try simp +decide only [E,reduceIte,Nat.reduceAdd,Nat.reduceMul,Bool.not_true,Bool.not_false,←List.map_take,←List.map_drop,Nat.sub_zero,L,aMr,aMn,aMp,M.bG.en,EN,b7,b8]
  exact ⟨.mk (by decide +kernel),Is.mk _⟩
 refine an (sq ?_)
 refine cu (fun s=>s.t 1=vI p1∧s.t 2=vP 2 1 0∧s.t 4=vP 4 1 0∧s.t 6=vP 6 1 0∧s.h 2=(1,oX 37 (M.World.en p0))∧s.h 4=(1,oB 37 [cI 0,cB false,cI 0,.nil,.nil,cI 0,.nil,.nil,.nil,.nil])∧s.h 6=(1,oB 37 [cI x1.Now,cB x1.Online,cI x1.Device,.row 400009 1,.row 500009 2,cI x1.NextPage,.row 700009 1,.row 800009 1,.row 900009 1,.row 1000009 1])∧s.h 400009=(1,oW 124 24 M.aF.en x1.aM.Buckets)∧s.h 500009=(2,oW 80 11 M.bG.en ((List.take x3.toNat x1.Pages)++(List.drop (i64.wrap (x3+1)).toNat x1.Pages)))∧s.h 700009=(1,oW 144 4 M.bF.en x1.Locks.Locks)∧s.h 800009=(1,oW 232 3 M.bU.en x1.Channel.Mails)∧s.h 900009=(1,oW 95 4 M.Site.en x1.Sites)∧s.h 1000009=(1,oW 102 5 M.Server.en x1.Servers)∧True) ?_
 rintro s15 ⟨f16,f17,f18,f19,f20,f21,f22,f23,f24,f25,f26,f27,f28,_⟩
 obtain ⟨x29,h30,h⟩:=bind_some h
 refine rn1 (c62 _ _ _ h30) ?_
 refine an (sq ?_)
 obtain ⟨x31,h32,h⟩:=bind_some h
 refine rn1 (c63 _ _ _ h32) ?_
 refine an (sq (rn ?_))
 refine an (rt ?_)
 cases h
 simp [Ret,TB,EN, *]
instance:bD 16 (type_of% @c16):=⟨@c16⟩
end Go.Proofs.YtnhpbpnhmapeeaaGreat.gen
