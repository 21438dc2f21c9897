/-
  Helper text. No conditions.
-/
import Derived.Test.YtblghjofnielnaaGreatSharedLocksTi
import Derived.Test.YtblghjofnielnaaGreatSharedLocksWspec0
namespace Go.Proofs.YtblghjofnielnaaGreat.gen
open Go Go.Sh
open Go.IntKind (i64)
set_option linter.unusedVariables false
set_option linter.unusedSimpArgs false
set_option maxRecDepth 20000
set_option maxHeartbeats 4000000
theorem aGA (p0 p1 r) (h:lS p0 p1=some r):Sc 256 [aX (M.aP.en p0),aS p1] [(true,M.Key.rs r.1),(true,M.Key.rs r.2.1),rB r.2.2]:=by
 have i1:=fun (x1:(List M.Item))=>inv fun m s=>∃v8:Int,(s.t 1=vS p1∧s.t 4=vP 4 1 0∧s.t 5=vP 5 1 0∧s.t 7=vR 100015 1∧s.t 8=vI v8∧s.h 4=(1,oB 288 [cI 0,cI 0,cS (⟨#[]⟩:ByteArray)])∧s.h 5=(1,oB 288 [cI 0,cI 0,cS (⟨#[]⟩:ByteArray)])∧s.h 100015=(1,oW 293 4 M.Item.en x1))∧fM p1 x1 m v8=some r
 have e1:=@fM.eq_2
 unfold lS at h
 exact sgo 59 [.cell 4 288,.cell 5 288,.tmp 6] Tryz.func256
instance:aZ 256 (type_of% @aGA):=⟨@aGA⟩
theorem aEu (p0 r) (h:mS p0=some r):Sc 102 [aX (M.Database.en p0)] [rB r]:=by
 have i1:=inv fun m s=>∃v3:Int,(s.t 1=vP 1 1 0∧s.t 3=vI v3∧s.h 1=(1,oX 56 (M.Database.en p0)))∧dN p0 m v3=some r
 have e1:=@dN.eq_2
 have i2:=inv fun m s=>∃v4:Int,(s.t 1=vP 1 1 0∧s.t 4=vI v4∧s.h 1=(1,oX 56 (M.Database.en p0)))∧gD p0 m v4=some r
 have e2:=@gD.eq_2
 have i3:=fun (v4:Int) (x26:M.aU) (k46:Int→Option Bool)=>inv fun m s=>∃v9_L3:Int,(s.t 1=vP 1 1 0∧s.t 4=vI v4∧s.t 9=vI v9_L3∧s.h 1=(1,oX 56 (M.Database.en p0)))∧fY p0 v4 x26 k46 m v9_L3=some r
 have e3:=@fY.eq_2
 unfold mS at h
 exact sgo 124 [.tmp 2] Tryz.func102
instance:aZ 102 (type_of% @aEu):=⟨@aEu⟩
theorem aEc (p0 r) (h:mD p0=some r):Sc 257 [aX (M.bE.en p0)] [rB r]:=by
 have i1:=inv fun m s=>∃v4:Int,(s.t 1=vP 1 1 0∧s.t 3=vI (List.length p0.Writes:Int)∧s.t 4=vI v4∧s.h 1=(1,oX 64 (M.bE.en p0)))∧iH p0 m v4=some r
 have e1:=@iH.eq_2
 unfold mD at h
 exact sgo 60 [.tmp 2] Tryz.func257
instance:aZ 257 (type_of% @aEc):=⟨@aEc⟩
theorem aFm (p0 r) (h:oH p0=some r):Sc 103 [aX (M.aV.en p0)] [rB r]:=by
 unfold oH at h
 exact sgo 23 [.tmp 2] Tryz.func103
instance:aZ 103 (type_of% @aFm):=⟨@aFm⟩
theorem aEh (p0 p1 r) (h:mY p0 p1=some r):Sc 388 [aX (M.Response.en p0),aB p1] [rI r]:=by
 unfold mY at h
 exact sgo 10 [.tmp 4] Tryz.func388
instance:aZ 388 (type_of% @aEh):=⟨@aEh⟩
theorem aEU (p0 r) (h:mR p0=some r):Sc 258 [aX (M.aM.en p0)] [rI r]:=by
 have i1:=inv fun m s=>∃v3:Int,∃v4:Int,(s.t 1=vP 1 1 0∧s.t 3=vI v3∧s.t 4=vI v4∧s.h 1=(1,oX 52 (M.aM.en p0)))∧fV p0 m v3 v4=some r
 have e1:=@fV.eq_2
 have i2:=fun (v4:Int) (k8:Int→Int→Option Int)=>inv fun m s=>∃v3_L2:Int,∃v5_L2:Int,(s.t 1=vP 1 1 0∧s.t 3=vI v3_L2∧s.t 4=vI v4∧s.t 5=vI v5_L2∧s.h 1=(1,oX 52 (M.aM.en p0)))∧gB p0 v4 k8 m v3_L2 v5_L2=some r
 have e2:=@gB.eq_2
 unfold mR at h
 exact sgo 43 [.tmp 2] Tryz.func258
instance:aZ 258 (type_of% @aEU):=⟨@aEU⟩
theorem aFY (p0 r) (h:oF p0=some r):Sc 390 [aX (M.Key.en p0)] [rW 5 1 enB r]:=by
 unfold oF at h
 simp only [EN]
 refine sgn 38 [.tmp 2] Tryz.func390 fun base wd => ?_
 refine sq (rn ?_)
 refine an (sq (sq ?_))
 obtain ⟨x1,h2,h⟩:=bind_some h
 refine rn1 (aDu _ _ h2) ?_
 refine an ?_
 rcases cF (!x1) with b3 | b3
 ·replace h:=aT b3 h
  refine ct (sq (rn ?_))
  refine an (rt ?_)
  cases h
  simp [Ret,TB,EN, *]
 replace h:=aR b3 h
 refine cf (sk (an (sq (rn ?_))))
 refine an (sq (sq ?_))
 refine cu (fun s=>s.t 1=vP 1 1 0∧s.t 3=vR 100012 1∧s.h 1=(1,oX 288 (M.Key.en p0))∧s.h 100012=(1,oW 5 1 enB ([(IntKind.u8.wrap p0.Kind)]))∧True) ?_
 rintro s4 ⟨f5,f6,f7,f8,_⟩
 refine rn ?_
 refine an (bk ?_)
 refine dH (fun m s=>∃v4:Int,∃r12:List Int,∃u12:Nat,s.t 1=vP 1 1 0∧s.t 3=vR 100012 u12∧s.t 4=vI v4∧s.h 1=(1,oX 288 (M.Key.en p0))∧s.h 100012=(u12,oW 5 1 enB r12)∧eG p0 m v4 r12=some r) fuel ?_ ?_
 ·refine ⟨5,([(IntKind.u8.wrap p0.Kind)]),1,?_,?_,?_,?_,?_,h⟩
  all_goals simp +decide only [F,reduceIte,Nat.reduceAdd,Bool.not_true,Bool.not_false,EN, *,-h]
 rintro mL1 s9 ⟨v4,r12,u12,f10,f11,f12,f13,f14,h⟩
 rcases mL1 with _ | mL1
 ·exact absurd h (by simp [eG])
 simp only [eG] at h
 refine sq (sq ?_)
 rcases nX (decide (v4≥0)) with b15 | b15
 ·replace h:=aR b15 h
  refine rn ?_
  refine an (cf (xt (eA (eX (kB (an (sq ?_)))))))
  obtain ⟨x28,h29,h⟩:=bind_some h
  refine rn1 h29 ?_
  refine an (rt ?_)
  cases h
  simp [Ret,TB,EN, *]
 replace h:=aT b15 h
 refine rn ?_
 refine an ?_
 rcases nX (p0.Kind != 2) with b16 | b16
 ·replace h:=aR b16 h
  refine cf (xt (eA (eX (kB (an (sq ?_))))))
  obtain ⟨x26,h27,h⟩:=bind_some h
  refine rn1 h27 ?_
  refine an (rt ?_)
  cases h
  simp [Ret,TB,EN, *]
 replace h:=aT b16 h
 refine ct (sk (an (sq (bk ?_))))
 rcases nX (decide (0≤(i64.wrap (8*v4)))) with b17 | b17
 ·replace h:=aR b17 h
  cases h
 replace h:=aT b17 h
 obtain ⟨x18,h19,h⟩:=bind_some h
 apply bC
 ·simp +decide only [E,reduceIte,Nat.reduceAdd,Nat.reduceMul,Bool.not_true,Bool.not_false,wF,L,ti3,ti5,aCD,aAo,enB,EN,b3,f10,f11,f12,f13,f14,b15,b16,b17]
  refine ⟨by (have hb:=bU h19);simp [enB,List.length_append,aG] at hb ⊢ <;> omega,?_⟩
  try simp +decide only [E,reduceIte,Nat.reduceAdd,Nat.reduceMul,Bool.not_true,Bool.not_false,wF,L,ti3,ti5,aCD,aAo,enB,EN,b3,f10,f11,f12,f13,f14,b15,b16,b17]
  exact Is.mk _
 refine ab (an ?_)
 refine cu (fun s=>s.t 1=vP 1 1 0∧s.t 3=vR 100012 (u12+1)∧s.t 4=vI v4∧s.h 1=(1,oX 288 (M.Key.en p0))∧s.h 100012=((u12+1),oW 5 1 enB (r12++[(IntKind.u8.wrap (i64.wrap (BitVec.ofInt (IntKind.i64.bits) (Int.fdiv (i64.wrap (p0.N+1000000000000)) (2^(min (i64.wrap (8*v4)).toNat IntKind.i64.bits)))&&&BitVec.ofInt (IntKind.i64.bits) 255).toNat))]))∧True) ?_
 rintro s20 ⟨f21,f22,f23,f24,f25,_⟩
 refine rn ?_
 refine cN ⟨mL1,by omega,(i64.wrap (v4-1)),(r12++[(IntKind.u8.wrap (i64.wrap (BitVec.ofInt (IntKind.i64.bits) (Int.fdiv (i64.wrap (p0.N+1000000000000)) (2^(min (i64.wrap (8*v4)).toNat IntKind.i64.bits)))&&&BitVec.ofInt (IntKind.i64.bits) 255).toNat))]),(u12+1),?_,?_,?_,?_,?_,h⟩
 all_goals simp +decide only [F,reduceIte,Nat.reduceAdd,Bool.not_true,Bool.not_false,EN, *,-h]
instance:aZ 390 (type_of% @aFY):=⟨@aFY⟩
theorem aEB (p0 p1 r) (h:dQ p0 p1=some r):Sc 356 [aL enB p0,aI p1] [rW 5 1 enB r]:=by
 unfold dQ at h
 simp only [EN]
 refine sgn 29 [.tmp 4] Tryz.func356 fun base wd => ?_
 refine sq (rn ?_)
 refine an (sq ?_)
 obtain ⟨x1,h2,h⟩:=bind_some h
 refine rn1 h2 ?_
 refine an (sq (sq ?_))
 refine cu (fun s=>s.t 1=vI p1∧s.t 5=vR 100006 2∧s.h 100006=(2,oW 5 1 enB p0)∧True) ?_
 rintro s3 ⟨f4,f5,f6,_⟩
 obtain ⟨x7,h8,h⟩:=bind_some h
 refine rn1 (c59 _ _ _ _ h8) ?_
 refine an ?_
 rcases cF (!x7) with b9 | b9
 ·replace h:=aT b9 h
  refine ct (sq (rn ?_))
  refine an (rt ?_)
  cases h
  simp [Ret,TB,EN, *]
 replace h:=aR b9 h
 refine cf (sk (an (sq (bk ?_))))
 refine dH (fun m s=>∃v1:Int,∃r6:List Int,∃u6:Nat,s.t 1=vI v1∧s.t 5=vR 100006 u6∧s.h 100006=(u6,oW 5 1 enB r6)∧cQ m v1 r6=some r) fuel ?_ ?_
 ·refine ⟨p1,p0,2,?_,?_,?_,h⟩
  all_goals simp +decide only [F,reduceIte,Nat.reduceAdd,Bool.not_true,Bool.not_false,EN, *,-h]
 rintro mL1 s10 ⟨v1,r6,u6,f11,f12,f13,h⟩
 rcases mL1 with _ | mL1
 ·exact absurd h (by simp [cQ])
 simp only [cQ] at h
 refine sq (sq (rn ?_))
 refine an ?_
 rcases nX (decide (v1>127)) with b14 | b14
 ·replace h:=aR b14 h
  refine cf (xt (eA (eX (kB (an (sq ?_))))))
  obtain ⟨x21,h22,h⟩:=bind_some h
  refine rn1 h22 ?_
  refine an (rt ?_)
  cases h
  simp [Ret,TB,EN, *]
 replace h:=aT b14 h
 refine ct (sk (an (bk (sq ?_))))
 obtain ⟨x15,h16,h⟩:=bind_some h
 refine rn1 h16 ?_
 refine an ?_
 refine cu (fun s=>s.t 1=vI v1∧s.t 5=vR 100006 (u6+1)∧s.h 100006=((u6+1),oW 5 1 enB (r6++[(IntKind.u8.wrap (i64.wrap (BitVec.ofInt (IntKind.i64.bits) (i64.wrap (BitVec.ofInt (IntKind.i64.bits) v1&&&BitVec.ofInt (IntKind.i64.bits) 127).toNat)|||BitVec.ofInt (IntKind.i64.bits) 128).toNat))]))∧True) ?_
 rintro s17 ⟨f18,f19,f20,_⟩
 apply bC
 ·simp +decide only [E,reduceIte,Nat.reduceAdd,Nat.reduceMul,Bool.not_true,Bool.not_false,Int.reduceLT,wF,L,EN,b9,b14,f18,f19,f20]
  exact Is.mk _
 refine ab ?_
 refine cN ⟨mL1,by omega,(Int.fdiv v1 (2^(min (7:Int).toNat IntKind.i64.bits))),(r6++[(IntKind.u8.wrap (i64.wrap (BitVec.ofInt (IntKind.i64.bits) (i64.wrap (BitVec.ofInt (IntKind.i64.bits) v1&&&BitVec.ofInt (IntKind.i64.bits) 127).toNat)|||BitVec.ofInt (IntKind.i64.bits) 128).toNat))]),(u6+1),?_,?_,?_,h⟩
 all_goals simp +decide only [F,reduceIte,Nat.reduceAdd,Bool.not_true,Bool.not_false,EN, *,-h]
instance:aZ 356 (type_of% @aEB):=⟨@aEB⟩
theorem aF3 (p0 p1 r) (h:lQ p0 p1=some r):Sc 357 [aL enB p0,aL enB p1] [rW 5 1 enB r]:=by
 unfold lQ at h
 exact sgo 11 [.tmp 4] Tryz.func357
instance:aZ 357 (type_of% @aF3):=⟨@aF3⟩
theorem aFp (p0 r) (h:lI p0=some r):Sc 391 [aX (M.bB.en p0)] [rW 5 1 enB r]:=by
 have i1:=zN [.t 3 7050000 5 1] fun m s=>∃v4:Int,∃r50000:List Int,∃u50000:Nat,(s.t 1=vP 1 1 0∧s.t 3=vR 7050000 u50000∧s.t 4=vI v4∧s.h 1=(1,oX 291 (M.bB.en p0))∧s.h 7050000=(u50000,oW 5 1 enB r50000))∧eT p0 m v4 r50000=some r
 have e1:=@eT.eq_2
 unfold lI at h
 exact sgo 38 [.tmp 2] Tryz.func391
instance:aZ 391 (type_of% @aFp):=⟨@aFp⟩
theorem aFz (p0 r) (h:kV p0=some r):Sc 260 [aX (M.aP.en p0)] [rI r]:=by
 have i1:=inv fun m s=>∃v3:Int,∃v4:Int,(s.t 1=vP 1 1 0∧s.t 3=vI v3∧s.t 4=vI v4∧s.h 1=(1,oX 61 (M.aP.en p0)))∧hH p0 m v3 v4=some r
 have e1:=@hH.eq_2
 unfold kV at h
 exact sgo 32 [.tmp 2] Tryz.func260
instance:aZ 260 (type_of% @aFz):=⟨@aFz⟩
theorem aEd (p0 r) (h:lH p0=some r):Sc 389 [aX (M.Database.en p0)] [rI r]:=by
 have i1:=inv fun m s=>∃v3:Int,∃v4:Int,(s.t 1=vP 1 1 0∧s.t 3=vI v3∧s.t 4=vI v4∧s.h 1=(1,oX 56 (M.Database.en p0)))∧eS p0 m v3 v4=some r
 have e1:=@eS.eq_2
 unfold lH at h
 exact sgo 21 [.tmp 2] Tryz.func389
instance:aZ 389 (type_of% @aEd):=⟨@aEd⟩
theorem aFI (p0 r) (h:pL p0=some r):Sc 259 [aX (M.pC.en p0)] [rI r]:=by
 unfold pL at h
 exact sgo 10 [.tmp 2] Tryz.func259
instance:aZ 259 (type_of% @aFI):=⟨@aFI⟩
theorem aE2 (p0 r) (h:qO p0=some r):Sc 104 [aX (M.aJ.en p0)] [rI r]:=by
 unfold qO at h
 exact sgo 23 [.tmp 2] Tryz.func104
instance:aZ 104 (type_of% @aE2):=⟨@aE2⟩
theorem c26 (p0 r) (h:mA p0=some r):Sc 26 [aX (M.aJ.en p0)] [rB r]:=by
 unfold mA at h
 exact sgo 50 [.tmp 2] Tryz.func26
instance:aZ 26 (type_of% @c26):=⟨@c26⟩
theorem aDU (p0 p1 p2 r) (h:nM p0 p1 p2=some r):Sc 112 [aX (M.aJ.en p0),aS p1,aS p2] [rB r]:=by
 unfold nM at h
 exact sgo 23 [.tmp 6] Tryz.func112
instance:aZ 112 (type_of% @aDU):=⟨@aDU⟩
theorem aBQ (p0 r) (h:cE p0=some r):Sc 113 [aX (M.aF.en p0)] [rB r]:=by
 have i1:=inv fun m s=>∃v3:Int,(s.t 1=vP 1 1 0∧s.t 3=vI v3∧s.h 1=(1,oX 26 (M.aF.en p0)))∧eN p0 m v3=some r
 have e1:=@eN.eq_2
 unfold cE at h
 exact sgo 48 [.tmp 2] Tryz.func113
instance:aZ 113 (type_of% @aBQ):=⟨@aBQ⟩
theorem aFO (p0 r) (h:mM p0=some r):Sc 279 [aS p0] [rB r]:=by
 have i1:=inv fun m s=>∃v3:Int,(s.t 0=vS p0∧s.t 3=vI v3)∧cR p0 m v3=some r
 have e1:=@cR.eq_2
 unfold mM at h
 exact sgo 29 [.tmp 2] Tryz.func279
instance:aZ 279 (type_of% @aFO):=⟨@aFO⟩
theorem aEv (p0 r) (h:mI p0=some r):Sc 138 [aX (M.aD.en p0)] [rB r]:=by
 have i1:=inv fun m s=>∃v3:Int,(s.t 1=vP 1 1 0∧s.t 3=vI v3∧s.h 1=(1,oX 30 (M.aD.en p0)))∧fL p0 m v3=some r
 have e1:=@fL.eq_2
 have i2:=fun (v3:Int) (x6:M.cA) (k18:Int→Option Bool) (s1:St)=>inv fun m s=>∃v5_L2:Int,(s.t 1=vP 1 1 0∧s.t 3=vI v3∧s.t 4=vP 4 ((s1.h 4).1+1) 0∧s.t 5=vI v5_L2∧s.h 1=(1,oX 30 (M.aD.en p0))∧s.h 4=(((s1.h 4).1+1),oX 153 (M.cA.en x6)))∧cG p0 v3 x6 k18 m v5_L2=some r
 have e2:=@cG.eq_2
 unfold mI at h
 exact sgo 67 [.tmp 2] Tryz.func138
instance:aZ 138 (type_of% @aEv):=⟨@aEv⟩
theorem c44 (p0 r) (h:kD p0=some r):Sc 44 [aX (M.World.en p0)] [rB r]:=by
 have i1:=inv fun m s=>∃v3:Int,(s.t 1=vP 1 1 0∧s.t 3=vI v3∧s.h 1=(1,oX 37 (M.World.en p0)))∧jO p0 m v3=some r
 have e1:=@jO.eq_2
 have i2:=inv fun m s=>∃v4:Int,(s.t 1=vP 1 1 0∧s.t 4=vI v4∧s.h 1=(1,oX 37 (M.World.en p0)))∧gH p0 m v4=some r
 have e2:=@gH.eq_2
 unfold kD at h
 exact sgo 126 [.tmp 2] Tryz.func44
instance:aZ 44 (type_of% @c44):=⟨@c44⟩
theorem c64 (p0 r) (h:lF p0=some r):Sc 64 [aX (M.World.en p0)] [rI r]:=by
 unfold lF at h
 exact sgo 9 [.tmp 2] Tryz.func64
instance:aZ 64 (type_of% @c64):=⟨@c64⟩
theorem aF8 (p0 r) (h:oI p0=some r):Sc 206 [aI p0] [(true,M.bE.rs r.1),rB r.2]:=by
 unfold oI at h
 exact sgo 12 [.cell 2 64,.tmp 3] Tryz.func206
instance:aZ 206 (type_of% @aF8):=⟨@aF8⟩
theorem c63 (p0 p1 p2 r) (h:nZ p0 p1 p2=some r):Sc 63 [aS p0,aS p1,aI p2] [(true,M.aJ.rs r.1),rB r.2]:=by
 unfold nZ at h
 exact sgo 42 [.cell 6 70,.tmp 7] Tryz.func63
instance:aZ 63 (type_of% @c63):=⟨@c63⟩
theorem c29 (p0 p1 r) (h:kL p0 p1=some r):Sc 29 [aX (M.aF.en p0),aX (M.aJ.en p1)] [(true,M.aF.rs r.1),rB r.2]:=by
 unfold kL at h
 simp only [EN]
 refine sgn 74 [.cell 4 26,.tmp 5] Tryz.func29 fun base wd => ?_
 refine sq (rn ?_)
 refine an (sq ?_)
 obtain ⟨x1,h2,h⟩:=bind_some h
 refine rn1 (aBq _ _ h2) ?_
 refine an (sq (sq ?_))
 obtain ⟨x3,h4,h⟩:=bind_some h
 refine rn1 (c65 _ _ _ _ h4) ?_
 refine an (sq (rn ?_))
 refine an ?_
 rcases cF (decide (x3≥0)) with b5 | b5
 ·replace h:=aT b5 h
  refine ct ?_
  obtain ⟨x6,h7,h⟩:=bind_some h
  obtain ⟨x8,h9,h⟩:=bind_some h
  obtain ⟨q10,q11,q12⟩:=bK h9
  refine rd1 mixed (c66 _ _ h7) ?_
  refine an (sq (sq ?_))
  refine cu (fun s=>s.t 2=vP 2 1 0∧s.t 4=vP 4 1 0∧s.t 6=vP 6 1 0∧s.h 2=(1,oX 26 (M.aF.en p0))∧s.h 4=(1,oB 26 [.nil])∧s.h 6=(1,oB 26 [.row 100011 1])∧s.h 100011=(1,oW 70 24 M.aJ.en (List.set x1.Buckets x3.toNat x6))∧True) ?_
  rintro s13 ⟨f14,f15,f16,f17,f18,f19,f20,_⟩
  obtain ⟨x21,h22,h⟩:=bind_some h
  rcases cF (!x21) with b23 | b23
  ·replace h:=aT b23 h
   refine rn1 (aBQ _ _ h22) ?_
   refine an (ct (sq ?_))
   obtain ⟨x24,h25,h⟩:=bind_some h
   refine rn1 (aBq _ _ h25) ?_
   refine an (rt ?_)
   cases h
   simp [Ret,TB,EN, *]
  replace h:=aR b23 h
  obtain ⟨x26,h27,h⟩:=bind_some h
  refine rn2 (aBQ _ _ h22) (aBQ _ _ h27) ?_
  refine an ?_
  rcases nX (!x26) with b28 | b28
  ·replace h:=aR b28 h
   refine cf (sk (an (sq (rn ?_))))
   refine an (rt ?_)
   cases h
   simp [Ret,TB,EN, *]
  replace h:=aT b28 h
  refine ct (sq ?_)
  obtain ⟨x29,h30,h⟩:=bind_some h
  refine rn1 (aBq _ _ h30) ?_
  refine an (rt ?_)
  cases h
  simp [Ret,TB,EN, *]
 replace h:=aR b5 h
 refine cf (sq (rn ?_))
 refine an (sq (bk ?_))
 refine dH (fun m s=>∃v8:Int,s.t 2=vP 2 1 0∧s.t 3=vP 3 1 0∧s.t 4=vP 4 1 0∧s.t 6=vP 6 1 0∧s.t 8=vI v8∧s.h 2=(1,oX 26 (M.aF.en p0))∧s.h 3=(1,oX 70 (M.aJ.en p1))∧s.h 4=(1,oB 26 [.nil])∧s.h 6=(1,oB 26 [.row 100011 1])∧s.h 100011=(1,oW 70 24 M.aJ.en x1.Buckets)∧eM p0 p1 x1 m v8=some r) fuel ?_ ?_
 ·refine ⟨0,?_,?_,?_,?_,?_,?_,?_,?_,?_,?_,h⟩
  all_goals simp +decide only [F,reduceIte,Nat.reduceAdd,Bool.not_true,Bool.not_false,EN, *,-h]
 rintro mL1 s31 ⟨v8,f32,f33,f34,f35,f36,f37,f38,f39,f40,f41,h⟩
 rcases mL1 with _ | mL1
 ·exact absurd h (by simp [eM])
 simp only [eM] at h
 refine sq (sq ?_)
 rcases nX (decide (v8<(List.length p0.Buckets:Int))) with b42 | b42
 ·replace h:=aR b42 h
  refine rd mixed ?_
  refine an (cf (xt (eA (eX (kB (an (sq ?_)))))))
  obtain ⟨x103,h104,h⟩:=bind_some h
  obtain ⟨x105,h106,h⟩:=bind_some h
  apply bC
  ·simp +decide only [E,reduceIte,Nat.reduceAdd,Nat.reduceMul,Bool.not_true,Bool.not_false,←List.map_take,←List.map_drop,L,aAN,aAa,aAL,M.aJ.en,EN,b5,f32,f33,f34,f35,f36,f37,f38,f39,f40,f41,b42]
   refine ⟨by first | exact dD h104 | exact (dD h104).2 | exact (dD h104).2.2,?_⟩
   try simp +decide only [E,reduceIte,Nat.reduceAdd,Nat.reduceMul,Bool.not_true,Bool.not_false,←List.map_take,←List.map_drop,L,aAN,aAa,aAL,M.aJ.en,EN,b5,f32,f33,f34,f35,f36,f37,f38,f39,f40,f41,b42]
   refine ⟨by (have hb:=bU h106);simp [M.aJ.en,List.length_append,aG,←List.map_take,←List.map_drop,-List.map_take,-List.map_drop] at hb ⊢ <;> omega,?_⟩
   try simp +decide only [E,reduceIte,Nat.reduceAdd,Nat.reduceMul,Bool.not_true,Bool.not_false,←List.map_take,←List.map_drop,L,aAN,aAa,aAL,M.aJ.en,EN,b5,f32,f33,f34,f35,f36,f37,f38,f39,f40,f41,b42]
   exact Is.mk _
  refine an (sq ?_)
  refine cu (fun s=>s.t 2=vP 2 1 0∧s.t 3=vP 3 1 0∧s.t 4=vP 4 1 0∧s.t 6=vP 6 1 0∧s.t 8=vI v8∧s.t 9=vR 100045 (((s31.h 100045).1+1)+1)∧s.h 2=(1,oX 26 (M.aF.en p0))∧s.h 3=(1,oX 70 (M.aJ.en p1))∧s.h 4=(1,oB 26 [.nil])∧s.h 6=(1,oB 26 [.row 100011 1])∧s.h 100011=(1,.row 70 24 (rY 24 0 v8.toNat (List.map M.aJ.en x1.Buckets)) true)∧s.h 100045=((((s31.h 100045).1+1)+1),oW 70 24 M.aJ.en (List.take v8.toNat x1.Buckets))∧True) ?_
  rintro s107 ⟨f108,f109,f110,f111,f112,f113,f114,f115,f116,f117,f118,f119,_⟩
  obtain ⟨x120,h121,h⟩:=bind_some h
  obtain ⟨x122,h123,h⟩:=bind_some h
  refine rn2 (c66 _ _ h121) h123 ?_
  refine an ?_
  refine cu (fun s=>s.t 2=vP 2 1 0∧s.t 4=vP 4 1 0∧s.t 6=vP 6 1 0∧s.t 8=vI v8∧s.t 9=vR 100045 ((((s31.h 100045).1+1)+1)+1)∧s.h 2=(1,oX 26 (M.aF.en p0))∧s.h 4=(1,oB 26 [.nil])∧s.h 6=(1,oB 26 [.row 100011 1])∧s.h 100011=(1,.row 70 24 (rY 24 0 v8.toNat (List.map M.aJ.en x1.Buckets)) true)∧s.h 100045=(((((s31.h 100045).1+1)+1)+1),oW 70 24 M.aJ.en ((List.take v8.toNat x1.Buckets)++[x120]))∧True) ?_
  rintro s124 ⟨f125,f126,f127,f128,f129,f130,f131,f132,f133,f134,_⟩
  obtain ⟨x135,h136,h⟩:=bind_some h
  apply bC
  ·simp +decide only [E,reduceIte,Nat.reduceAdd,Nat.reduceMul,Bool.not_true,Bool.not_false,←List.map_take,←List.map_drop,L,aAN,aAa,aAL,M.aJ.en,EN,b5,b42,f125,f126,f127,f128,f129,f130,f131,f132,f133,f134]
   refine ⟨by first | exact rU (dD h104).1 | exact (rU (dD h104).1).2 | exact (rU (dD h104).1).2.2,?_⟩
   try simp +decide only [E,reduceIte,Nat.reduceAdd,Nat.reduceMul,Bool.not_true,Bool.not_false,←List.map_take,←List.map_drop,L,aAN,aAa,aAL,M.aJ.en,EN,b5,b42,f125,f126,f127,f128,f129,f130,f131,f132,f133,f134]
   refine ⟨by (have hb:=bU h136);simp [M.aJ.en,List.length_append,aG,←List.map_take,←List.map_drop,-List.map_take,-List.map_drop] at hb ⊢ <;> omega,?_⟩
   try simp +decide only [E,reduceIte,Nat.reduceAdd,Nat.reduceMul,Bool.not_true,Bool.not_false,←List.map_take,←List.map_drop,L,aAN,aAa,aAL,M.aJ.en,EN,b5,b42,f125,f126,f127,f128,f129,f130,f131,f132,f133,f134]
   exact Is.mk _
  refine an (sq (sq ?_))
  refine cu (fun s=>s.t 2=vP 2 1 0∧s.t 4=vP 4 1 0∧s.t 6=vP 6 1 0∧s.h 2=(1,oX 26 (M.aF.en p0))∧s.h 4=(1,oB 26 [.nil])∧s.h 6=(1,oB 26 [.row 100045 (((((s31.h 100045).1+1)+1)+1)+1)])∧s.h 100045=((((((s31.h 100045).1+1)+1)+1)+1),oW 70 24 M.aJ.en (((List.take v8.toNat x1.Buckets)++[x120])++(List.drop v8.toNat x1.Buckets)))∧True) ?_
  rintro s137 ⟨f138,f139,f140,f141,f142,f143,f144,_⟩
  obtain ⟨x145,h146,h⟩:=bind_some h
  rcases cF (!x145) with b147 | b147
  ·replace h:=aT b147 h
   refine rn1 (aBQ _ _ h146) ?_
   refine an (ct (sq ?_))
   obtain ⟨x148,h149,h⟩:=bind_some h
   refine rn1 (aBq _ _ h149) ?_
   refine an (rt ?_)
   cases h
   simp [Ret,TB,EN, *]
  replace h:=aR b147 h
  obtain ⟨x150,h151,h⟩:=bind_some h
  refine rn2 (aBQ _ _ h146) (aBQ _ _ h151) ?_
  refine an ?_
  rcases nX (!x150) with b152 | b152
  ·replace h:=aR b152 h
   refine cf (sk (an (sq (rn ?_))))
   refine an (rt ?_)
   cases h
   simp [Ret,TB,EN, *]
  replace h:=aT b152 h
  refine ct (sq ?_)
  obtain ⟨x153,h154,h⟩:=bind_some h
  refine rn1 (aBq _ _ h154) ?_
  refine an (rt ?_)
  cases h
  simp [Ret,TB,EN, *]
 replace h:=aT b42 h
 obtain ⟨x43,h44,h⟩:=bind_some h
 obtain ⟨q45,q46,q47⟩:=bK h44
 obtain ⟨x48,h49,h⟩:=bind_some h
 refine rd1 mixed (aDU _ _ _ _ h49) ?_
 refine an ?_
 rcases cF x48 with b50 | b50
 ·replace h:=aT b50 h
  refine ct (sk (an (bk (rn ?_))))
  refine ab ?_
  refine cN ⟨mL1,by omega,(i64.wrap (v8+1)),?_,?_,?_,?_,?_,?_,?_,?_,?_,?_,h⟩
  all_goals simp +decide only [F,reduceIte,Nat.reduceAdd,Bool.not_true,Bool.not_false,EN, *,-h]
 replace h:=aR b50 h
 refine cf (xt (eA (eX (kB (an (sq ?_))))))
 obtain ⟨x51,h52,h⟩:=bind_some h
 obtain ⟨x53,h54,h⟩:=bind_some h
 apply bC
 ·simp +decide only [E,reduceIte,Nat.reduceAdd,Nat.reduceMul,Bool.not_true,Bool.not_false,←List.map_take,←List.map_drop,L,aAN,aAa,aAL,M.aJ.en,EN,b5,f32,f33,f34,f35,f36,f37,f38,f39,f40,f41,b42,q45,q46,q47,b50]
  refine ⟨by first | exact dD h52 | exact (dD h52).2 | exact (dD h52).2.2,?_⟩
  try simp +decide only [E,reduceIte,Nat.reduceAdd,Nat.reduceMul,Bool.not_true,Bool.not_false,←List.map_take,←List.map_drop,L,aAN,aAa,aAL,M.aJ.en,EN,b5,f32,f33,f34,f35,f36,f37,f38,f39,f40,f41,b42,q45,q46,q47,b50]
  refine ⟨by (have hb:=bU h54);simp [M.aJ.en,List.length_append,aG,←List.map_take,←List.map_drop,-List.map_take,-List.map_drop] at hb ⊢ <;> omega,?_⟩
  try simp +decide only [E,reduceIte,Nat.reduceAdd,Nat.reduceMul,Bool.not_true,Bool.not_false,←List.map_take,←List.map_drop,L,aAN,aAa,aAL,M.aJ.en,EN,b5,f32,f33,f34,f35,f36,f37,f38,f39,f40,f41,b42,q45,q46,q47,b50]
  exact Is.mk _
 refine an (sq ?_)
 refine cu (fun s=>s.t 2=vP 2 1 0∧s.t 3=vP 3 1 0∧s.t 4=vP 4 1 0∧s.t 6=vP 6 1 0∧s.t 8=vI v8∧s.t 9=vR 100045 (((s31.h 100045).1+1)+1)∧s.h 2=(1,oX 26 (M.aF.en p0))∧s.h 3=(1,oX 70 (M.aJ.en p1))∧s.h 4=(1,oB 26 [.nil])∧s.h 6=(1,oB 26 [.row 100011 1])∧s.h 100011=(1,.row 70 24 (rY 24 0 v8.toNat (List.map M.aJ.en x1.Buckets)) true)∧s.h 100045=((((s31.h 100045).1+1)+1),oW 70 24 M.aJ.en (List.take v8.toNat x1.Buckets))∧True) ?_
 rintro s55 ⟨f56,f57,f58,f59,f60,f61,f62,f63,f64,f65,f66,f67,_⟩
 obtain ⟨x68,h69,h⟩:=bind_some h
 obtain ⟨x70,h71,h⟩:=bind_some h
 refine rn2 (c66 _ _ h69) h71 ?_
 refine an ?_
 refine cu (fun s=>s.t 2=vP 2 1 0∧s.t 4=vP 4 1 0∧s.t 6=vP 6 1 0∧s.t 8=vI v8∧s.t 9=vR 100045 ((((s31.h 100045).1+1)+1)+1)∧s.h 2=(1,oX 26 (M.aF.en p0))∧s.h 4=(1,oB 26 [.nil])∧s.h 6=(1,oB 26 [.row 100011 1])∧s.h 100011=(1,.row 70 24 (rY 24 0 v8.toNat (List.map M.aJ.en x1.Buckets)) true)∧s.h 100045=(((((s31.h 100045).1+1)+1)+1),oW 70 24 M.aJ.en ((List.take v8.toNat x1.Buckets)++[x68]))∧True) ?_
 rintro s72 ⟨f73,f74,f75,f76,f77,f78,f79,f80,f81,f82,_⟩
 obtain ⟨x83,h84,h⟩:=bind_some h
 apply bC
 ·simp +decide only [E,reduceIte,Nat.reduceAdd,Nat.reduceMul,Bool.not_true,Bool.not_false,←List.map_take,←List.map_drop,L,aAN,aAa,aAL,M.aJ.en,EN,b5,b42,q45,q46,q47,b50,f73,f74,f75,f76,f77,f78,f79,f80,f81,f82]
  refine ⟨by first | exact rU (dD h52).1 | exact (rU (dD h52).1).2 | exact (rU (dD h52).1).2.2,?_⟩
  try simp +decide only [E,reduceIte,Nat.reduceAdd,Nat.reduceMul,Bool.not_true,Bool.not_false,←List.map_take,←List.map_drop,L,aAN,aAa,aAL,M.aJ.en,EN,b5,b42,q45,q46,q47,b50,f73,f74,f75,f76,f77,f78,f79,f80,f81,f82]
  refine ⟨by (have hb:=bU h84);simp [M.aJ.en,List.length_append,aG,←List.map_take,←List.map_drop,-List.map_take,-List.map_drop] at hb ⊢ <;> omega,?_⟩
  try simp +decide only [E,reduceIte,Nat.reduceAdd,Nat.reduceMul,Bool.not_true,Bool.not_false,←List.map_take,←List.map_drop,L,aAN,aAa,aAL,M.aJ.en,EN,b5,b42,q45,q46,q47,b50,f73,f74,f75,f76,f77,f78,f79,f80,f81,f82]
  exact Is.mk _
 refine an (sq (sq ?_))
 refine cu (fun s=>s.t 2=vP 2 1 0∧s.t 4=vP 4 1 0∧s.t 6=vP 6 1 0∧s.h 2=(1,oX 26 (M.aF.en p0))∧s.h 4=(1,oB 26 [.nil])∧s.h 6=(1,oB 26 [.row 100045 (((((s31.h 100045).1+1)+1)+1)+1)])∧s.h 100045=((((((s31.h 100045).1+1)+1)+1)+1),oW 70 24 M.aJ.en (((List.take v8.toNat x1.Buckets)++[x68])++(List.drop v8.toNat x1.Buckets)))∧True) ?_
 rintro s85 ⟨f86,f87,f88,f89,f90,f91,f92,_⟩
 obtain ⟨x93,h94,h⟩:=bind_some h
 rcases cF (!x93) with b95 | b95
 ·replace h:=aT b95 h
  refine rn1 (aBQ _ _ h94) ?_
  refine an (ct (sq ?_))
  obtain ⟨x96,h97,h⟩:=bind_some h
  refine rn1 (aBq _ _ h97) ?_
  refine an (rt ?_)
  cases h
  simp [Ret,TB,EN, *]
 replace h:=aR b95 h
 obtain ⟨x98,h99,h⟩:=bind_some h
 refine rn2 (aBQ _ _ h94) (aBQ _ _ h99) ?_
 refine an ?_
 rcases nX (!x98) with b100 | b100
 ·replace h:=aR b100 h
  refine cf (sk (an (sq (rn ?_))))
  refine an (rt ?_)
  cases h
  simp [Ret,TB,EN, *]
 replace h:=aT b100 h
 refine ct (sq ?_)
 obtain ⟨x101,h102,h⟩:=bind_some h
 refine rn1 (aBq _ _ h102) ?_
 refine an (rt ?_)
 cases h
 simp [Ret,TB,EN, *]
instance:aZ 29 (type_of% @c29):=⟨@c29⟩
theorem c68 (p0 p1 p2 r) (h:jP p0 p1 p2=some r):Sc 68 [aX (M.Registration.en p0),aX (M.Site.en p1),aB p2] [rI r]:=by
 unfold jP at h
 exact sgo 15 [.tmp 6] Tryz.func68
instance:aZ 68 (type_of% @c68):=⟨@c68⟩
end Go.Proofs.YtblghjofnielnaaGreat.gen
