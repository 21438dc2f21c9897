/-
  Helper text. No conditions.
-/
import Derived.Test.YtecmnmaaopkdfaaGreatReleaseSiteTi
import Derived.Test.YtecmnmaaopkdfaaGreatReleaseSiteWspec0
namespace Go.Proofs.YtecmnmaaopkdfaaGreat.gen
open Go Go.Sh
set_option linter.unusedVariables false
set_option linter.unusedSimpArgs false
set_option maxRecDepth 20000
set_option maxHeartbeats 4000000
theorem aQ6 (p0 r) (h : qE p0 = some r) : Sc 237 [aX (M.Database.en p0)] [rB r] := by
 have i1 := inv fun m s => ∃ v3 : Int, (s.t 1 = vP 1 1 0 ∧ s.t 3 = vI v3 ∧ s.h 1 = (1, oX 201 (M.Database.en p0))) ∧ eG p0 m v3 = some r
 have e1 := @eG.eq_2
 have i2 := inv fun m s => ∃ v4 : Int, (s.t 1 = vP 1 1 0 ∧ s.t 4 = vI v4 ∧ s.h 1 = (1, oX 201 (M.Database.en p0))) ∧ dV p0 m v4 = some r
 have e2 := @dV.eq_2
 have i3 := fun (v4 : Int) (x26 : M.aA) (k46 : Int → Option Bool) => inv fun m s => ∃ v9_L3 : Int, (s.t 1 = vP 1 1 0 ∧ s.t 4 = vI v4 ∧ s.t 9 = vI v9_L3 ∧ s.h 1 = (1, oX 201 (M.Database.en p0))) ∧ fB p0 v4 x26 k46 m v9_L3 = some r
 have e3 := @fB.eq_2
 unfold qE at h
 exact sgo 124 [.tmp 2] Tryz.func237
instance : bD 237 (type_of% @aQ6) := ⟨@aQ6⟩
theorem aQZ (p0 r) (h : vX p0 = some r) : Sc 303 [aX (M.aV.en p0)] [rB r] := by
 have i1 := inv fun m s => ∃ v4 : Int, (s.t 1 = vP 1 1 0 ∧ s.t 3 = vI (List.length p0.Writes : Int) ∧ s.t 4 = vI v4 ∧ s.h 1 = (1, oX 205 (M.aV.en p0))) ∧ iC p0 m v4 = some r
 have e1 := @iC.eq_2
 unfold vX at h
 exact sgo 60 [.tmp 2] Tryz.func303
instance : bD 303 (type_of% @aQZ) := ⟨@aQZ⟩
theorem aR1 (p0 r) (h : tE p0 = some r) : Sc 238 [aX (M.aC.en p0)] [rB r] := by
 unfold tE at h
 exact sgo 23 [.tmp 2] Tryz.func238
instance : bD 238 (type_of% @aR1) := ⟨@aR1⟩
theorem aSl (p0 p1 r) (h : oP p0 p1 = some r) : Sc 355 [aX (M.Response.en p0), aB p1] [rI r] := by
 unfold oP at h
 exact sgo 10 [.tmp 4] Tryz.func355
instance : bD 355 (type_of% @aSl) := ⟨@aSl⟩
theorem aP4 (p0 r) (h : qC p0 = some r) : Sc 304 [aX (M.aT.en p0)] [rI r] := by
 have i1 := inv fun m s => ∃ v3 : Int, ∃ v4 : Int, (s.t 1 = vP 1 1 0 ∧ s.t 3 = vI v3 ∧ s.t 4 = vI v4 ∧ s.h 1 = (1, oX 197 (M.aT.en p0))) ∧ dX p0 m v3 v4 = some r
 have e1 := @dX.eq_2
 have i2 := fun (v4 : Int) (k8 : Int → Int → Option Int) => inv fun m s => ∃ v3_L2 : Int, ∃ v5_L2 : Int, (s.t 1 = vP 1 1 0 ∧ s.t 3 = vI v3_L2 ∧ s.t 4 = vI v4 ∧ s.t 5 = vI v5_L2 ∧ s.h 1 = (1, oX 197 (M.aT.en p0))) ∧ gK p0 v4 k8 m v3_L2 v5_L2 = some r
 have e2 := @gK.eq_2
 unfold qC at h
 exact sgo 43 [.tmp 2] Tryz.func304
instance : bD 304 (type_of% @aP4) := ⟨@aP4⟩
theorem aSt (p0 r) (h : tD p0 = some r) : Sc 357 [aX (M.Key.en p0)] [rW 5 1 enB r] := by
  unfold tD at h
  simp only [EN]
  refine sgn 38 [.tmp 2] Tryz.func357 fun base wd => ?_
  refine sq (rn ?_)
  refine an (sq (sq ?_))
  obtain ⟨x1, h2, h⟩ := bind_some h
  refine rn1 (aO0 _ _ h2) ?_
  refine an ?_
  rcases eF (!x1) with b3 | b3
  · replace h := bI b3 h
    refine ct (sq (rn ?_))
    refine an (rt ?_)
    cases h
    simp [Ret, TB, EN, *]
  replace h := bH b3 h
  refine cf (sk (an (sq (rn ?_))))
  refine an (sq (sq ?_))
  refine cu (fun s => s.t 1 = vP 1 1 0 ∧ s.t 3 = vR 100012 1 ∧ s.h 1 = (1, oX 251 (M.Key.en p0)) ∧ s.h 100012 = (1, oW 5 1 enB ([(IntKind.u8.wrap p0.Kind)])) ∧ True) ?_
  rintro s4 ⟨f5, f6, f7, f8, _⟩
  refine rn ?_
  refine an (bk ?_)
  refine pZ (fun m s => ∃ v4 : Int, ∃ r12 : List Int, ∃ u12 : Nat, s.t 1 = vP 1 1 0 ∧ s.t 3 = vR 100012 u12 ∧ s.t 4 = vI v4 ∧ s.h 1 = (1, oX 251 (M.Key.en p0)) ∧ s.h 100012 = (u12, oW 5 1 enB r12) ∧ bX p0 m v4 r12 = some r) fuel ?_ ?_
  · refine ⟨5, ([(IntKind.u8.wrap p0.Kind)]), 1, ?_, ?_, ?_, ?_, ?_, h⟩
    all_goals simp +decide only [F, reduceIte, Nat.reduceAdd, Bool.not_true, Bool.not_false, EN, *, -h]
  rintro mL1 s9 ⟨v4, r12, u12, f10, f11, f12, f13, f14, h⟩
  rcases mL1 with _ | mL1
  · exact absurd h (by simp [bX])
  simp only [bX] at h
  refine sq (sq ?_)
  rcases aA8 (decide (v4 ≥ 0)) with b15 | b15
  · replace h := bH b15 h
    refine rn ?_
    refine an (cf (xt (qM (tT (aAf (an (sq ?_)))))))
    obtain ⟨x28, h29, h⟩ := bind_some h
    refine rn1 h29 ?_
    refine an (rt ?_)
    cases h
    simp [Ret, TB, EN, *]
  replace h := bI b15 h
  refine rn ?_
  refine an ?_
  rcases aA8 (p0.Kind != 2) with b16 | b16
  · replace h := bH b16 h
    refine cf (xt (qM (tT (aAf (an (sq ?_))))))
    obtain ⟨x26, h27, h⟩ := bind_some h
    refine rn1 h27 ?_
    refine an (rt ?_)
    cases h
    simp [Ret, TB, EN, *]
  replace h := bI b16 h
  refine ct (sk (an (sq (bk ?_))))
  rcases aA8 (decide (0 ≤ (IntKind.i64.wrap (8 * v4)))) with b17 | b17
  · replace h := bH b17 h
    cases h
  replace h := bI b17 h
  obtain ⟨x18, h19, h⟩ := bind_some h
  apply aAz
  · simp +decide only [E, reduceIte, Nat.reduceAdd, Nat.reduceMul, Bool.not_true, Bool.not_false, aIg, L, ti3, ti5, aKN, aKD, enB, EN, b3, f10, f11, f12, f13, f14, b15, b16, b17]
    refine ⟨by (have hb := oK h19); simp [enB, List.length_append, bF] at hb ⊢ <;> omega, ?_⟩
    try simp +decide only [E, reduceIte, Nat.reduceAdd, Nat.reduceMul, Bool.not_true, Bool.not_false, aIg, L, ti3, ti5, aKN, aKD, enB, EN, b3, f10, f11, f12, f13, f14, b15, b16, b17]
    exact Is.mk _
  refine ab (an ?_)
  refine cu (fun s => s.t 1 = vP 1 1 0 ∧ s.t 3 = vR 100012 (u12 + 1) ∧ s.t 4 = vI v4 ∧ s.h 1 = (1, oX 251 (M.Key.en p0)) ∧ s.h 100012 = ((u12 + 1), oW 5 1 enB (r12 ++ [(IntKind.u8.wrap (IntKind.i64.wrap (BitVec.ofInt (IntKind.i64.bits) (Int.fdiv (IntKind.i64.wrap (p0.N + 1000000000000)) (2 ^ (min (IntKind.i64.wrap (8 * v4)).toNat IntKind.i64.bits))) &&& BitVec.ofInt (IntKind.i64.bits) 255).toNat))])) ∧ True) ?_
  rintro s20 ⟨f21, f22, f23, f24, f25, _⟩
  refine rn ?_
  refine yW ⟨mL1, by omega, (IntKind.i64.wrap (v4 - 1)), (r12 ++ [(IntKind.u8.wrap (IntKind.i64.wrap (BitVec.ofInt (IntKind.i64.bits) (Int.fdiv (IntKind.i64.wrap (p0.N + 1000000000000)) (2 ^ (min (IntKind.i64.wrap (8 * v4)).toNat IntKind.i64.bits))) &&& BitVec.ofInt (IntKind.i64.bits) 255).toNat))]), (u12 + 1), ?_, ?_, ?_, ?_, ?_, h⟩
  all_goals simp +decide only [F, reduceIte, Nat.reduceAdd, Bool.not_true, Bool.not_false, EN, *, -h]
instance : bD 357 (type_of% @aSt) := ⟨@aSt⟩
theorem aPl (p0 p1 r) (h : gM p0 p1 = some r) : Sc 388 [aL enB p0, aI p1] [rW 5 1 enB r] := by
  unfold gM at h
  simp only [EN]
  refine sgn 29 [.tmp 4] Tryz.func388 fun base wd => ?_
  refine sq (rn ?_)
  refine an (sq ?_)
  obtain ⟨x1, h2, h⟩ := bind_some h
  refine rn1 h2 ?_
  refine an (sq (sq ?_))
  refine cu (fun s => s.t 1 = vI p1 ∧ s.t 5 = vR 100006 2 ∧ s.h 100006 = (2, oW 5 1 enB p0) ∧ True) ?_
  rintro s3 ⟨f4, f5, f6, _⟩
  obtain ⟨x7, h8, h⟩ := bind_some h
  refine rn1 (c87 _ _ _ _ h8) ?_
  refine an ?_
  rcases eF (!x7) with b9 | b9
  · replace h := bI b9 h
    refine ct (sq (rn ?_))
    refine an (rt ?_)
    cases h
    simp [Ret, TB, EN, *]
  replace h := bH b9 h
  refine cf (sk (an (sq (bk ?_))))
  refine pZ (fun m s => ∃ v1 : Int, ∃ r6 : List Int, ∃ u6 : Nat, s.t 1 = vI v1 ∧ s.t 5 = vR 100006 u6 ∧ s.h 100006 = (u6, oW 5 1 enB r6) ∧ dH m v1 r6 = some r) fuel ?_ ?_
  · refine ⟨p1, p0, 2, ?_, ?_, ?_, h⟩
    all_goals simp +decide only [F, reduceIte, Nat.reduceAdd, Bool.not_true, Bool.not_false, EN, *, -h]
  rintro mL1 s10 ⟨v1, r6, u6, f11, f12, f13, h⟩
  rcases mL1 with _ | mL1
  · exact absurd h (by simp [dH])
  simp only [dH] at h
  refine sq (sq (rn ?_))
  refine an ?_
  rcases aA8 (decide (v1 > 127)) with b14 | b14
  · replace h := bH b14 h
    refine cf (xt (qM (tT (aAf (an (sq ?_))))))
    obtain ⟨x21, h22, h⟩ := bind_some h
    refine rn1 h22 ?_
    refine an (rt ?_)
    cases h
    simp [Ret, TB, EN, *]
  replace h := bI b14 h
  refine ct (sk (an (bk (sq ?_))))
  obtain ⟨x15, h16, h⟩ := bind_some h
  refine rn1 h16 ?_
  refine an ?_
  refine cu (fun s => s.t 1 = vI v1 ∧ s.t 5 = vR 100006 (u6 + 1) ∧ s.h 100006 = ((u6 + 1), oW 5 1 enB (r6 ++ [(IntKind.u8.wrap (IntKind.i64.wrap (BitVec.ofInt (IntKind.i64.bits) (IntKind.i64.wrap (BitVec.ofInt (IntKind.i64.bits) v1 &&& BitVec.ofInt (IntKind.i64.bits) 127).toNat) ||| BitVec.ofInt (IntKind.i64.bits) 128).toNat))])) ∧ True) ?_
  rintro s17 ⟨f18, f19, f20, _⟩
  apply aAz
  · simp +decide only [E, reduceIte, Nat.reduceAdd, Nat.reduceMul, Bool.not_true, Bool.not_false, Int.reduceLT, aIg, L, EN, b9, b14, f18, f19, f20]
    exact Is.mk _
  refine ab ?_
  refine yW ⟨mL1, by omega, (Int.fdiv v1 (2 ^ (min (7 : Int).toNat IntKind.i64.bits))), (r6 ++ [(IntKind.u8.wrap (IntKind.i64.wrap (BitVec.ofInt (IntKind.i64.bits) (IntKind.i64.wrap (BitVec.ofInt (IntKind.i64.bits) v1 &&& BitVec.ofInt (IntKind.i64.bits) 127).toNat) ||| BitVec.ofInt (IntKind.i64.bits) 128).toNat))]), (u6 + 1), ?_, ?_, ?_, h⟩
  all_goals simp +decide only [F, reduceIte, Nat.reduceAdd, Bool.not_true, Bool.not_false, EN, *, -h]
instance : bD 388 (type_of% @aPl) := ⟨@aPl⟩
theorem aRf (p0 p1 r) (h : nP p0 p1 = some r) : Sc 389 [aL enB p0, aL enB p1] [rW 5 1 enB r] := by
 unfold nP at h
 exact sgo 11 [.tmp 4] Tryz.func389
instance : bD 389 (type_of% @aRf) := ⟨@aRf⟩
theorem aSU (p0 r) (h : lN p0 = some r) : Sc 358 [aX (M.aU.en p0)] [rW 5 1 enB r] := by
 have i1 := aJb [.t 3 7050000 5 1] fun m s => ∃ v4 : Int, ∃ r50000 : List Int, ∃ u50000 : Nat, (s.t 1 = vP 1 1 0 ∧ s.t 3 = vR 7050000 u50000 ∧ s.t 4 = vI v4 ∧ s.h 1 = (1, oX 285 (M.aU.en p0)) ∧ s.h 7050000 = (u50000, oW 5 1 enB r50000)) ∧ fK p0 m v4 r50000 = some r
 have e1 := @fK.eq_2
 unfold lN at h
 exact sgo 38 [.tmp 2] Tryz.func358
instance : bD 358 (type_of% @aSU) := ⟨@aSU⟩
theorem aSk (p0 r) (h : mO p0 = some r) : Sc 306 [aX (M.aH.en p0)] [rI r] := by
 have i1 := inv fun m s => ∃ v3 : Int, ∃ v4 : Int, (s.t 1 = vP 1 1 0 ∧ s.t 3 = vI v3 ∧ s.t 4 = vI v4 ∧ s.h 1 = (1, oX 141 (M.aH.en p0))) ∧ gY p0 m v3 v4 = some r
 have e1 := @gY.eq_2
 unfold mO at h
 exact sgo 32 [.tmp 2] Tryz.func306
instance : bD 306 (type_of% @aSk) := ⟨@aSk⟩
theorem aSX (p0 r) (h : lS p0 = some r) : Sc 356 [aX (M.Database.en p0)] [rI r] := by
 have i1 := inv fun m s => ∃ v3 : Int, ∃ v4 : Int, (s.t 1 = vP 1 1 0 ∧ s.t 3 = vI v3 ∧ s.t 4 = vI v4 ∧ s.h 1 = (1, oX 201 (M.Database.en p0))) ∧ fJ p0 m v3 v4 = some r
 have e1 := @fJ.eq_2
 unfold lS at h
 exact sgo 21 [.tmp 2] Tryz.func356
instance : bD 356 (type_of% @aSX) := ⟨@aSX⟩
theorem aR0 (p0 r) (h : yY p0 = some r) : Sc 305 [aX (M.bC.en p0)] [rI r] := by
 unfold yY at h
 exact sgo 10 [.tmp 2] Tryz.func305
instance : bD 305 (type_of% @aR0) := ⟨@aR0⟩
theorem aSd (p0 r) (h : xR p0 = some r) : Sc 239 [aX (M.aE.en p0)] [rI r] := by
 unfold xR at h
 exact sgo 23 [.tmp 2] Tryz.func239
instance : bD 239 (type_of% @aSd) := ⟨@aSd⟩
theorem aQa (p0 r) (h : pY p0 = some r) : Sc 171 [aX (M.aE.en p0)] [rB r] := by
 unfold pY at h
 exact sgo 50 [.tmp 2] Tryz.func171
instance : bD 171 (type_of% @aQa) := ⟨@aQa⟩
theorem aRY (p0 p1 p2 r) (h : yH p0 p1 p2 = some r) : Sc 172 [aX (M.aE.en p0), aS p1, aS p2] [rB r] := by
 unfold yH at h
 exact sgo 23 [.tmp 6] Tryz.func172
instance : bD 172 (type_of% @aRY) := ⟨@aRY⟩
theorem c88 (p0 r) (h : mH p0 = some r) : Sc 88 [aX (M.aK.en p0)] [rB r] := by
 have i1 := inv fun m s => ∃ v3 : Int, (s.t 1 = vP 1 1 0 ∧ s.t 3 = vI v3 ∧ s.h 1 = (1, oX 39 (M.aK.en p0))) ∧ eV p0 m v3 = some r
 have e1 := @eV.eq_2
 unfold mH at h
 exact sgo 48 [.tmp 2] Tryz.func88
instance : bD 88 (type_of% @c88) := ⟨@c88⟩
theorem aQD (p0 r) (h : qJ p0 = some r) : Sc 173 [aS p0] [rB r] := by
 have i1 := inv fun m s => ∃ v3 : Int, (s.t 0 = vS p0 ∧ s.t 3 = vI v3) ∧ cR p0 m v3 = some r
 have e1 := @cR.eq_2
 unfold qJ at h
 exact sgo 29 [.tmp 2] Tryz.func173
instance : bD 173 (type_of% @aQD) := ⟨@aQD⟩
theorem c89 (p0 r) (h : nN p0 = some r) : Sc 89 [aX (M.aQ.en p0)] [rB r] := by
 have i1 := inv fun m s => ∃ v3 : Int, (s.t 1 = vP 1 1 0 ∧ s.t 3 = vI v3 ∧ s.h 1 = (1, oX 43 (M.aQ.en p0))) ∧ eP p0 m v3 = some r
 have e1 := @eP.eq_2
 have i2 := fun (v3 : Int) (x6 : M.bY) (k18 : Int → Option Bool) (s1 : St) => inv fun m s => ∃ v5_L2 : Int, (s.t 1 = vP 1 1 0 ∧ s.t 3 = vI v3 ∧ s.t 4 = vP 4 ((s1.h 4).1 + 1) 0 ∧ s.t 5 = vI v5_L2 ∧ s.h 1 = (1, oX 43 (M.aQ.en p0)) ∧ s.h 4 = (((s1.h 4).1 + 1), oX 186 (M.bY.en x6))) ∧ bV p0 v3 x6 k18 m v5_L2 = some r
 have e2 := @bV.eq_2
 unfold nN at h
 exact sgo 67 [.tmp 2] Tryz.func89
instance : bD 89 (type_of% @c89) := ⟨@c89⟩
theorem c28 (p0 r) (h : xY p0 = some r) : Sc 28 [aX (M.World.en p0)] [rB r] := by
 have i1 := inv fun m s => ∃ v3 : Int, (s.t 1 = vP 1 1 0 ∧ s.t 3 = vI v3 ∧ s.h 1 = (1, oX 50 (M.World.en p0))) ∧ hO p0 m v3 = some r
 have e1 := @hO.eq_2
 have i2 := inv fun m s => ∃ v4 : Int, (s.t 1 = vP 1 1 0 ∧ s.t 4 = vI v4 ∧ s.h 1 = (1, oX 50 (M.World.en p0))) ∧ dB p0 m v4 = some r
 have e2 := @dB.eq_2
 unfold xY at h
 exact sgo 126 [.tmp 2] Tryz.func28
instance : bD 28 (type_of% @c28) := ⟨@c28⟩
theorem c90 (p0 r) (h : aAI p0 = some r) : Sc 90 [aI p0] [rI r] := by
 unfold aAI at h
 exact sgo 8 [.tmp 2] Tryz.func90
instance : bD 90 (type_of% @c90) := ⟨@c90⟩
theorem c29 (p0 r) (h : yA p0 = some r) : Sc 29 [aX (M.Site.en p0)] [(true, M.Site.rs r.1), rB r.2] := by
 unfold yA at h
 exact sgo 22 [.cell 2 75, .tmp 3] Tryz.func29
instance : bD 29 (type_of% @c29) := ⟨@c29⟩
theorem c8 (p0 p1 r) (h : nG p0 p1 = some r) : Sc 8 [aX (M.World.en p0), aS p1] [(true, M.World.rs r.1), rB r.2] := by
 unfold nG at h
 exact sgo 38 [.cell 4 50, .tmp 5] Tryz.func8
instance : bD 8 (type_of% @c8) := ⟨@c8⟩
end Go.Proofs.YtecmnmaaopkdfaaGreat.gen
