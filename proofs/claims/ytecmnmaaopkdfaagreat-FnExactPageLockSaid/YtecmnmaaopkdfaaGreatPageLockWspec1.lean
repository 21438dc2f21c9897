/-
  Helper text. No conditions.
-/
import Derived.Test.YtecmnmaaopkdfaaGreatPageLockTi
import Derived.Test.YtecmnmaaopkdfaaGreatPageLockWspec0
namespace Go.Proofs.YtecmnmaaopkdfaaGreat.gen
open Go Go.Sh
set_option linter.unusedVariables false
set_option linter.unusedSimpArgs false
set_option maxRecDepth 20000
set_option maxHeartbeats 4000000
theorem aTf (p0 r) (h : qV p0 = some r) : Sc 237 [aX (M.Database.en p0)] [rB r] := by
 have i1 := inv fun m s => ∃ v3 : Int, (s.t 1 = vP 1 1 0 ∧ s.t 3 = vI v3 ∧ s.h 1 = (1, oX 201 (M.Database.en p0))) ∧ eG p0 m v3 = some r
 have e1 := @eG.eq_2
 have i2 := inv fun m s => ∃ v4 : Int, (s.t 1 = vP 1 1 0 ∧ s.t 4 = vI v4 ∧ s.h 1 = (1, oX 201 (M.Database.en p0))) ∧ eI p0 m v4 = some r
 have e2 := @eI.eq_2
 have i3 := fun (v4 : Int) (x26 : M.aA) (k46 : Int → Option Bool) => inv fun m s => ∃ v9_L3 : Int, (s.t 1 = vP 1 1 0 ∧ s.t 4 = vI v4 ∧ s.t 9 = vI v9_L3 ∧ s.h 1 = (1, oX 201 (M.Database.en p0))) ∧ fF p0 v4 x26 k46 m v9_L3 = some r
 have e3 := @fF.eq_2
 unfold qV at h
 exact sgo 124 [.tmp 2] Tryz.func237
instance : bC 237 (type_of% @aTf) := ⟨@aTf⟩
theorem aQ5 (p0 r) (h : wG p0 = some r) : Sc 303 [aX (M.aV.en p0)] [rB r] := by
 have i1 := inv fun m s => ∃ v4 : Int, (s.t 1 = vP 1 1 0 ∧ s.t 3 = vI (List.length p0.Writes : Int) ∧ s.t 4 = vI v4 ∧ s.h 1 = (1, oX 205 (M.aV.en p0))) ∧ iH p0 m v4 = some r
 have e1 := @iH.eq_2
 unfold wG at h
 exact sgo 60 [.tmp 2] Tryz.func303
instance : bC 303 (type_of% @aQ5) := ⟨@aQ5⟩
theorem aTi (p0 r) (h : sQ p0 = some r) : Sc 238 [aX (M.aC.en p0)] [rB r] := by
 unfold sQ at h
 exact sgo 23 [.tmp 2] Tryz.func238
instance : bC 238 (type_of% @aTi) := ⟨@aTi⟩
theorem aTk (p0 p1 r) (h : pG p0 p1 = some r) : Sc 355 [aX (M.Response.en p0), aB p1] [rI r] := by
 unfold pG at h
 exact sgo 10 [.tmp 4] Tryz.func355
instance : bC 355 (type_of% @aTk) := ⟨@aTk⟩
theorem aRP (p0 r) (h : qT p0 = some r) : Sc 304 [aX (M.aT.en p0)] [rI r] := by
 have i1 := inv fun m s => ∃ v3 : Int, ∃ v4 : Int, (s.t 1 = vP 1 1 0 ∧ s.t 3 = vI v3 ∧ s.t 4 = vI v4 ∧ s.h 1 = (1, oX 197 (M.aT.en p0))) ∧ eF p0 m v3 v4 = some r
 have e1 := @eF.eq_2
 have i2 := fun (v4 : Int) (k8 : Int → Int → Option Int) => inv fun m s => ∃ v3_L2 : Int, ∃ v5_L2 : Int, (s.t 1 = vP 1 1 0 ∧ s.t 3 = vI v3_L2 ∧ s.t 4 = vI v4 ∧ s.t 5 = vI v5_L2 ∧ s.h 1 = (1, oX 197 (M.aT.en p0))) ∧ gR p0 v4 k8 m v3_L2 v5_L2 = some r
 have e2 := @gR.eq_2
 unfold qT at h
 exact sgo 43 [.tmp 2] Tryz.func304
instance : bC 304 (type_of% @aRP) := ⟨@aRP⟩
theorem aTB (p0 r) (h : sH p0 = some r) : Sc 357 [aX (M.Key.en p0)] [rW 5 1 enB r] := by
  unfold sH at h
  simp only [EN]
  refine sgn 38 [.tmp 2] Tryz.func357 fun base wd => ?_
  refine sq (rn ?_)
  refine an (sq (sq ?_))
  obtain ⟨x1, h2, h⟩ := bind_some h
  refine rn1 (aPZ _ _ h2) ?_
  refine an ?_
  rcases dG (!x1) with b3 | b3
  · replace h := bH b3 h
    refine ct (sq (rn ?_))
    refine an (rt ?_)
    cases h
    simp [Ret, TB, EN, *]
  replace h := bI b3 h
  refine cf (sk (an (sq (rn ?_))))
  refine an (sq (sq ?_))
  refine cu (fun s => s.t 1 = vP 1 1 0 ∧ s.t 3 = vR 100012 1 ∧ s.h 1 = (1, oX 251 (M.Key.en p0)) ∧ s.h 100012 = (1, oW 5 1 enB ([(IntKind.u8.wrap p0.Kind)])) ∧ True) ?_
  rintro s4 ⟨f5, f6, f7, f8, _⟩
  refine rn ?_
  refine an (bk ?_)
  refine mG (fun m s => ∃ v4 : Int, ∃ r12 : List Int, ∃ u12 : Nat, s.t 1 = vP 1 1 0 ∧ s.t 3 = vR 100012 u12 ∧ s.t 4 = vI v4 ∧ s.h 1 = (1, oX 251 (M.Key.en p0)) ∧ s.h 100012 = (u12, oW 5 1 enB r12) ∧ bY p0 m v4 r12 = some r) fuel ?_ ?_
  · refine ⟨5, ([(IntKind.u8.wrap p0.Kind)]), 1, ?_, ?_, ?_, ?_, ?_, h⟩
    all_goals simp +decide only [F, reduceIte, Nat.reduceAdd, Bool.not_true, Bool.not_false, EN, *, -h]
  rintro mL1 s9 ⟨v4, r12, u12, f10, f11, f12, f13, f14, h⟩
  rcases mL1 with _ | mL1
  · exact absurd h (by simp [bY])
  simp only [bY] at h
  refine sq (sq ?_)
  rcases aBC (decide (v4 ≥ 0)) with b15 | b15
  · replace h := bI b15 h
    refine rn ?_
    refine an (cf (xt (nI (pV (zX (an (sq ?_)))))))
    obtain ⟨x28, h29, h⟩ := bind_some h
    refine rn1 h29 ?_
    refine an (rt ?_)
    cases h
    simp [Ret, TB, EN, *]
  replace h := bH b15 h
  refine rn ?_
  refine an ?_
  rcases aBC (p0.Kind != 2) with b16 | b16
  · replace h := bI b16 h
    refine cf (xt (nI (pV (zX (an (sq ?_))))))
    obtain ⟨x26, h27, h⟩ := bind_some h
    refine rn1 h27 ?_
    refine an (rt ?_)
    cases h
    simp [Ret, TB, EN, *]
  replace h := bH b16 h
  refine ct (sk (an (sq (bk ?_))))
  rcases aBC (decide (0 ≤ (IntKind.i64.wrap (8 * v4)))) with b17 | b17
  · replace h := bI b17 h
    cases h
  replace h := bH b17 h
  obtain ⟨x18, h19, h⟩ := bind_some h
  apply aAz
  · simp +decide only [E, reduceIte, Nat.reduceAdd, Nat.reduceMul, Bool.not_true, Bool.not_false, aIR, L, ti3, ti5, aKa, aKr, enB, EN, b3, f10, f11, f12, f13, f14, b15, b16, b17]
    refine ⟨by (have hb := oY h19); simp [enB, List.length_append, bF] at hb ⊢ <;> omega, ?_⟩
    try simp +decide only [E, reduceIte, Nat.reduceAdd, Nat.reduceMul, Bool.not_true, Bool.not_false, aIR, L, ti3, ti5, aKa, aKr, enB, EN, b3, f10, f11, f12, f13, f14, b15, b16, b17]
    exact Is.mk _
  refine ab (an ?_)
  refine cu (fun s => s.t 1 = vP 1 1 0 ∧ s.t 3 = vR 100012 (u12 + 1) ∧ s.t 4 = vI v4 ∧ s.h 1 = (1, oX 251 (M.Key.en p0)) ∧ s.h 100012 = ((u12 + 1), oW 5 1 enB (r12 ++ [(IntKind.u8.wrap (IntKind.i64.wrap (BitVec.ofInt (IntKind.i64.bits) (Int.fdiv (IntKind.i64.wrap (p0.N + 1000000000000)) (2 ^ (min (IntKind.i64.wrap (8 * v4)).toNat IntKind.i64.bits))) &&& BitVec.ofInt (IntKind.i64.bits) 255).toNat))])) ∧ True) ?_
  rintro s20 ⟨f21, f22, f23, f24, f25, _⟩
  refine rn ?_
  refine wV ⟨mL1, by omega, (IntKind.i64.wrap (v4 - 1)), (r12 ++ [(IntKind.u8.wrap (IntKind.i64.wrap (BitVec.ofInt (IntKind.i64.bits) (Int.fdiv (IntKind.i64.wrap (p0.N + 1000000000000)) (2 ^ (min (IntKind.i64.wrap (8 * v4)).toNat IntKind.i64.bits))) &&& BitVec.ofInt (IntKind.i64.bits) 255).toNat))]), (u12 + 1), ?_, ?_, ?_, ?_, ?_, h⟩
  all_goals simp +decide only [F, reduceIte, Nat.reduceAdd, Bool.not_true, Bool.not_false, EN, *, -h]
instance : bC 357 (type_of% @aTB) := ⟨@aTB⟩
theorem aP6 (p0 p1 r) (h : gO p0 p1 = some r) : Sc 388 [aL enB p0, aI p1] [rW 5 1 enB r] := by
  unfold gO at h
  simp only [EN]
  refine sgn 29 [.tmp 4] Tryz.func388 fun base wd => ?_
  refine sq (rn ?_)
  refine an (sq ?_)
  obtain ⟨x1, h2, h⟩ := bind_some h
  refine rn1 h2 ?_
  refine an (sq (sq ?_))
  refine cu (fun s => s.t 1 = vI p1 ∧ s.t 5 = vR 100006 2 ∧ s.h 100006 = (2, oW 5 1 enB p0) ∧ True) ?_
  rintro s3 ⟨f4, f5, f6, _⟩
  obtain ⟨x7, h8, h⟩ := bind_some h
  refine rn1 (c87 _ _ _ _ h8) ?_
  refine an ?_
  rcases dG (!x7) with b9 | b9
  · replace h := bH b9 h
    refine ct (sq (rn ?_))
    refine an (rt ?_)
    cases h
    simp [Ret, TB, EN, *]
  replace h := bI b9 h
  refine cf (sk (an (sq (bk ?_))))
  refine mG (fun m s => ∃ v1 : Int, ∃ r6 : List Int, ∃ u6 : Nat, s.t 1 = vI v1 ∧ s.t 5 = vR 100006 u6 ∧ s.h 100006 = (u6, oW 5 1 enB r6) ∧ dJ m v1 r6 = some r) fuel ?_ ?_
  · refine ⟨p1, p0, 2, ?_, ?_, ?_, h⟩
    all_goals simp +decide only [F, reduceIte, Nat.reduceAdd, Bool.not_true, Bool.not_false, EN, *, -h]
  rintro mL1 s10 ⟨v1, r6, u6, f11, f12, f13, h⟩
  rcases mL1 with _ | mL1
  · exact absurd h (by simp [dJ])
  simp only [dJ] at h
  refine sq (sq (rn ?_))
  refine an ?_
  rcases aBC (decide (v1 > 127)) with b14 | b14
  · replace h := bI b14 h
    refine cf (xt (nI (pV (zX (an (sq ?_))))))
    obtain ⟨x21, h22, h⟩ := bind_some h
    refine rn1 h22 ?_
    refine an (rt ?_)
    cases h
    simp [Ret, TB, EN, *]
  replace h := bH b14 h
  refine ct (sk (an (bk (sq ?_))))
  obtain ⟨x15, h16, h⟩ := bind_some h
  refine rn1 h16 ?_
  refine an ?_
  refine cu (fun s => s.t 1 = vI v1 ∧ s.t 5 = vR 100006 (u6 + 1) ∧ s.h 100006 = ((u6 + 1), oW 5 1 enB (r6 ++ [(IntKind.u8.wrap (IntKind.i64.wrap (BitVec.ofInt (IntKind.i64.bits) (IntKind.i64.wrap (BitVec.ofInt (IntKind.i64.bits) v1 &&& BitVec.ofInt (IntKind.i64.bits) 127).toNat) ||| BitVec.ofInt (IntKind.i64.bits) 128).toNat))])) ∧ True) ?_
  rintro s17 ⟨f18, f19, f20, _⟩
  apply aAz
  · simp +decide only [E, reduceIte, Nat.reduceAdd, Nat.reduceMul, Bool.not_true, Bool.not_false, Int.reduceLT, aIR, L, EN, b9, b14, f18, f19, f20]
    exact Is.mk _
  refine ab ?_
  refine wV ⟨mL1, by omega, (Int.fdiv v1 (2 ^ (min (7 : Int).toNat IntKind.i64.bits))), (r6 ++ [(IntKind.u8.wrap (IntKind.i64.wrap (BitVec.ofInt (IntKind.i64.bits) (IntKind.i64.wrap (BitVec.ofInt (IntKind.i64.bits) v1 &&& BitVec.ofInt (IntKind.i64.bits) 127).toNat) ||| BitVec.ofInt (IntKind.i64.bits) 128).toNat))]), (u6 + 1), ?_, ?_, ?_, h⟩
  all_goals simp +decide only [F, reduceIte, Nat.reduceAdd, Bool.not_true, Bool.not_false, EN, *, -h]
instance : bC 388 (type_of% @aP6) := ⟨@aP6⟩
theorem aTM (p0 p1 r) (h : nV p0 p1 = some r) : Sc 389 [aL enB p0, aL enB p1] [rW 5 1 enB r] := by
 unfold nV at h
 exact sgo 11 [.tmp 4] Tryz.func389
instance : bC 389 (type_of% @aTM) := ⟨@aTM⟩
theorem aTD (p0 r) (h : mI p0 = some r) : Sc 358 [aX (M.aU.en p0)] [rW 5 1 enB r] := by
 have i1 := aJj [.t 3 7050000 5 1] fun m s => ∃ v4 : Int, ∃ r50000 : List Int, ∃ u50000 : Nat, (s.t 1 = vP 1 1 0 ∧ s.t 3 = vR 7050000 u50000 ∧ s.t 4 = vI v4 ∧ s.h 1 = (1, oX 285 (M.aU.en p0)) ∧ s.h 7050000 = (u50000, oW 5 1 enB r50000)) ∧ fJ p0 m v4 r50000 = some r
 have e1 := @fJ.eq_2
 unfold mI at h
 exact sgo 38 [.tmp 2] Tryz.func358
instance : bC 358 (type_of% @aTD) := ⟨@aTD⟩
theorem aP0 (p0 r) (h : mW p0 = some r) : Sc 306 [aX (M.aH.en p0)] [rI r] := by
 have i1 := inv fun m s => ∃ v3 : Int, ∃ v4 : Int, (s.t 1 = vP 1 1 0 ∧ s.t 3 = vI v3 ∧ s.t 4 = vI v4 ∧ s.h 1 = (1, oX 141 (M.aH.en p0))) ∧ hJ p0 m v3 v4 = some r
 have e1 := @hJ.eq_2
 unfold mW at h
 exact sgo 32 [.tmp 2] Tryz.func306
instance : bC 306 (type_of% @aP0) := ⟨@aP0⟩
theorem aSO (p0 r) (h : lV p0 = some r) : Sc 356 [aX (M.Database.en p0)] [rI r] := by
 have i1 := inv fun m s => ∃ v3 : Int, ∃ v4 : Int, (s.t 1 = vP 1 1 0 ∧ s.t 3 = vI v3 ∧ s.t 4 = vI v4 ∧ s.h 1 = (1, oX 201 (M.Database.en p0))) ∧ fM p0 m v3 v4 = some r
 have e1 := @fM.eq_2
 unfold lV at h
 exact sgo 21 [.tmp 2] Tryz.func356
instance : bC 356 (type_of% @aSO) := ⟨@aSO⟩
theorem aQd (p0 r) (h : zP p0 = some r) : Sc 305 [aX (M.bE.en p0)] [rI r] := by
 unfold zP at h
 exact sgo 10 [.tmp 2] Tryz.func305
instance : bC 305 (type_of% @aQd) := ⟨@aQd⟩
theorem aTF (p0 r) (h : xF p0 = some r) : Sc 239 [aX (M.aE.en p0)] [rI r] := by
 unfold xF at h
 exact sgo 23 [.tmp 2] Tryz.func239
instance : bC 239 (type_of% @aTF) := ⟨@aTF⟩
theorem aRw (p0 r) (h : qF p0 = some r) : Sc 171 [aX (M.aE.en p0)] [rB r] := by
 unfold qF at h
 exact sgo 50 [.tmp 2] Tryz.func171
instance : bC 171 (type_of% @aRw) := ⟨@aRw⟩
theorem aS0 (p0 p1 p2 r) (h : xP p0 p1 p2 = some r) : Sc 172 [aX (M.aE.en p0), aS p1, aS p2] [rB r] := by
 unfold xP at h
 exact sgo 23 [.tmp 6] Tryz.func172
instance : bC 172 (type_of% @aS0) := ⟨@aS0⟩
theorem c88 (p0 r) (h : mV p0 = some r) : Sc 88 [aX (M.aM.en p0)] [rB r] := by
 have i1 := inv fun m s => ∃ v3 : Int, (s.t 1 = vP 1 1 0 ∧ s.t 3 = vI v3 ∧ s.h 1 = (1, oX 39 (M.aM.en p0))) ∧ eW p0 m v3 = some r
 have e1 := @eW.eq_2
 unfold mV at h
 exact sgo 48 [.tmp 2] Tryz.func88
instance : bC 88 (type_of% @c88) := ⟨@c88⟩
theorem aQr (p0 r) (h : pA p0 = some r) : Sc 173 [aS p0] [rB r] := by
 have i1 := inv fun m s => ∃ v3 : Int, (s.t 0 = vS p0 ∧ s.t 3 = vI v3) ∧ cT p0 m v3 = some r
 have e1 := @cT.eq_2
 unfold pA at h
 exact sgo 29 [.tmp 2] Tryz.func173
instance : bC 173 (type_of% @aQr) := ⟨@aQr⟩
theorem c89 (p0 r) (h : iG p0 = some r) : Sc 89 [aX (M.aF.en p0)] [rB r] := by
 have i1 := inv fun m s => ∃ v3 : Int, (s.t 1 = vP 1 1 0 ∧ s.t 3 = vI v3 ∧ s.h 1 = (1, oX 43 (M.aF.en p0))) ∧ eQ p0 m v3 = some r
 have e1 := @eQ.eq_2
 have i2 := fun (v3 : Int) (x6 : M.bK) (k18 : Int → Option Bool) (s1 : St) => inv fun m s => ∃ v5_L2 : Int, (s.t 1 = vP 1 1 0 ∧ s.t 3 = vI v3 ∧ s.t 4 = vP 4 ((s1.h 4).1 + 1) 0 ∧ s.t 5 = vI v5_L2 ∧ s.h 1 = (1, oX 43 (M.aF.en p0)) ∧ s.h 4 = (((s1.h 4).1 + 1), oX 186 (M.bK.en x6))) ∧ bU p0 v3 x6 k18 m v5_L2 = some r
 have e2 := @bU.eq_2
 unfold iG at h
 exact sgo 67 [.tmp 2] Tryz.func89
instance : bC 89 (type_of% @c89) := ⟨@c89⟩
theorem c28 (p0 r) (h : yT p0 = some r) : Sc 28 [aX (M.World.en p0)] [rB r] := by
 have i1 := inv fun m s => ∃ v3 : Int, (s.t 1 = vP 1 1 0 ∧ s.t 3 = vI v3 ∧ s.h 1 = (1, oX 50 (M.World.en p0))) ∧ hY p0 m v3 = some r
 have e1 := @hY.eq_2
 have i2 := inv fun m s => ∃ v4 : Int, (s.t 1 = vP 1 1 0 ∧ s.t 4 = vI v4 ∧ s.h 1 = (1, oX 50 (M.World.en p0))) ∧ dD p0 m v4 = some r
 have e2 := @dD.eq_2
 unfold yT at h
 exact sgo 126 [.tmp 2] Tryz.func28
instance : bC 28 (type_of% @c28) := ⟨@c28⟩
theorem aQC (p0 p1 p2 r) (h : zV p0 p1 p2 = some r) : Sc 146 [aL M.bK.en p0, aI p1, aX (M.bK.en p2)] [rB r] := by
 have i1 := inv fun m s => ∃ v7 : Int, (s.t 0 = vL M.bK.en p0 ∧ s.t 1 = vI p1 ∧ s.t 5 = vP 5 1 0 ∧ s.t 7 = vI v7 ∧ s.h 5 = (1, oX 186 (M.bK.en p2))) ∧ iS p0 p1 p2 m v7 = some r
 have e1 := @iS.eq_2
 unfold zV at h
 exact sgo 42 [.tmp 6] Tryz.func146
instance : bC 146 (type_of% @aQC) := ⟨@aQC⟩
theorem c62 (p0 p1 p2 p3 r) (h : nN p0 p1 p2 p3 = some r) : Sc 62 [aX (M.aF.en p0), aS p1, aI p2, aB p3] [(true, M.aF.rs r.1), rB r.2] := by
 unfold nN at h
 exact sgo 43 [.cell 8 43, .tmp 9] Tryz.func62
instance : bC 62 (type_of% @c62) := ⟨@c62⟩
theorem c63 (p0 p1 p2 r) (h : tQ p0 p1 p2 = some r) : Sc 63 [aX (M.aF.en p0), aS p1, aI p2] [rB r] := by
 have i1 := inv fun m s => ∃ v7 : Int, (s.t 1 = vS p1 ∧ s.t 2 = vI p2 ∧ s.t 3 = vP 3 1 0 ∧ s.t 7 = vI v7 ∧ s.h 3 = (1, oX 43 (M.aF.en p0))) ∧ eT p0 p1 p2 m v7 = some r
 have e1 := @eT.eq_2
 unfold tQ at h
 exact sgo 41 [.tmp 6] Tryz.func63
instance : bC 63 (type_of% @c63) := ⟨@c63⟩
theorem c16 (p0 p1 p2 p3 r) (h : uW p0 p1 p2 p3 = some r) : Sc 16 [aX (M.World.en p0), aI p1, aS p2, aB p3] [(true, M.World.rs r.1), rB r.2] := by
 unfold uW at h
 exact sgo 64 [.cell 8 50, .tmp 9] Tryz.func16
instance : bC 16 (type_of% @c16) := ⟨@c16⟩
end Go.Proofs.YtecmnmaaopkdfaaGreat.gen
