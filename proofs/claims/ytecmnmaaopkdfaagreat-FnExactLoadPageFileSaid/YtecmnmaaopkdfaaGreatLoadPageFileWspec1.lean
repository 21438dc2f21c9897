/-
  Helper text. No conditions.
-/
import Derived.Test.YtecmnmaaopkdfaaGreatLoadPageFileTi
import Derived.Test.YtecmnmaaopkdfaaGreatLoadPageFileWspec0
namespace Go.Proofs.YtecmnmaaopkdfaaGreat.gen
open Go Go.Sh
set_option linter.unusedVariables false
set_option linter.unusedSimpArgs false
set_option maxRecDepth 20000
set_option maxHeartbeats 4000000
theorem aRq (p0 r) (h : rM p0 = some r) : Sc 237 [aX (M.Database.en p0)] [rB r] := by
 have i1 := inv fun m s => ∃ v3 : Int, (s.t 1 = vP 1 1 0 ∧ s.t 3 = vI v3 ∧ s.h 1 = (1, oX 201 (M.Database.en p0))) ∧ eL p0 m v3 = some r
 have e1 := @eL.eq_2
 have i2 := inv fun m s => ∃ v4 : Int, (s.t 1 = vP 1 1 0 ∧ s.t 4 = vI v4 ∧ s.h 1 = (1, oX 201 (M.Database.en p0))) ∧ eH p0 m v4 = some r
 have e2 := @eH.eq_2
 have i3 := fun (v4 : Int) (x26 : M.aA) (k46 : Int → Option Bool) => inv fun m s => ∃ v9_L3 : Int, (s.t 1 = vP 1 1 0 ∧ s.t 4 = vI v4 ∧ s.t 9 = vI v9_L3 ∧ s.h 1 = (1, oX 201 (M.Database.en p0))) ∧ fK p0 v4 x26 k46 m v9_L3 = some r
 have e3 := @fK.eq_2
 unfold rM at h
 exact sgo 124 [.tmp 2] Tryz.func237
instance : bC 237 (type_of% @aRq) := ⟨@aRq⟩
theorem aT9 (p0 r) (h : wY p0 = some r) : Sc 303 [aX (M.aV.en p0)] [rB r] := by
 have i1 := inv fun m s => ∃ v4 : Int, (s.t 1 = vP 1 1 0 ∧ s.t 3 = vI (List.length p0.Writes : Int) ∧ s.t 4 = vI v4 ∧ s.h 1 = (1, oX 205 (M.aV.en p0))) ∧ iW p0 m v4 = some r
 have e1 := @iW.eq_2
 unfold wY at h
 exact sgo 60 [.tmp 2] Tryz.func303
instance : bC 303 (type_of% @aT9) := ⟨@aT9⟩
theorem aSR (p0 r) (h : tW p0 = some r) : Sc 238 [aX (M.aC.en p0)] [rB r] := by
 unfold tW at h
 exact sgo 23 [.tmp 2] Tryz.func238
instance : bC 238 (type_of% @aSR) := ⟨@aSR⟩
theorem aTm (p0 p1 r) (h : sC p0 p1 = some r) : Sc 355 [aX (M.Response.en p0), aB p1] [rI r] := by
 unfold sC at h
 exact sgo 10 [.tmp 4] Tryz.func355
instance : bC 355 (type_of% @aTm) := ⟨@aTm⟩
theorem aVR (p0 r) (h : qQ p0 = some r) : Sc 304 [aX (M.aP.en p0)] [rI r] := by
 have i1 := inv fun m s => ∃ v3 : Int, ∃ v4 : Int, (s.t 1 = vP 1 1 0 ∧ s.t 3 = vI v3 ∧ s.t 4 = vI v4 ∧ s.h 1 = (1, oX 197 (M.aP.en p0))) ∧ eF p0 m v3 v4 = some r
 have e1 := @eF.eq_2
 have i2 := fun (v4 : Int) (k8 : Int → Int → Option Int) => inv fun m s => ∃ v3_L2 : Int, ∃ v5_L2 : Int, (s.t 1 = vP 1 1 0 ∧ s.t 3 = vI v3_L2 ∧ s.t 4 = vI v4 ∧ s.t 5 = vI v5_L2 ∧ s.h 1 = (1, oX 197 (M.aP.en p0))) ∧ gU p0 v4 k8 m v3_L2 v5_L2 = some r
 have e2 := @gU.eq_2
 unfold qQ at h
 exact sgo 43 [.tmp 2] Tryz.func304
instance : bC 304 (type_of% @aVR) := ⟨@aVR⟩
theorem aRw (p0 r) (h : uR p0 = some r) : Sc 357 [aX (M.Key.en p0)] [rW 5 1 enB r] := by
  unfold uR at h
  simp only [EN]
  refine sgn 38 [.tmp 2] Tryz.func357 fun base wd => ?_
  refine sq (rn ?_)
  refine an (sq (sq ?_))
  obtain ⟨x1, h2, h⟩ := bind_some h
  refine rn1 (aQK _ _ h2) ?_
  refine an ?_
  rcases dH (!x1) with b3 | b3
  · replace h := bJ b3 h
    refine ct (sq (rn ?_))
    refine an (rt ?_)
    cases h
    simp [Ret, TB, EN, *]
  replace h := bI b3 h
  refine cf (sk (an (sq (rn ?_))))
  refine an (sq (sq ?_))
  refine cu (fun s => s.t 1 = vP 1 1 0 ∧ s.t 3 = vR 100012 1 ∧ s.h 1 = (1, oX 251 (M.Key.en p0)) ∧ s.h 100012 = (1, oW 5 1 enB ([(IntKind.u8.wrap p0.Kind)])) ∧ True) ?_
  rintro s4 ⟨f5, f6, f7, f8, _⟩
  refine rn ?_
  refine an (bk ?_)
  refine lR (fun m s => ∃ v4 : Int, ∃ r12 : List Int, ∃ u12 : Nat, s.t 1 = vP 1 1 0 ∧ s.t 3 = vR 100012 u12 ∧ s.t 4 = vI v4 ∧ s.h 1 = (1, oX 251 (M.Key.en p0)) ∧ s.h 100012 = (u12, oW 5 1 enB r12) ∧ cD p0 m v4 r12 = some r) fuel ?_ ?_
  · refine ⟨5, ([(IntKind.u8.wrap p0.Kind)]), 1, ?_, ?_, ?_, ?_, ?_, h⟩
    all_goals simp +decide only [F, reduceIte, Nat.reduceAdd, Bool.not_true, Bool.not_false, EN, *, -h]
  rintro mL1 s9 ⟨v4, r12, u12, f10, f11, f12, f13, f14, h⟩
  rcases mL1 with _ | mL1
  · exact absurd h (by simp [cD])
  simp only [cD] at h
  refine sq (sq ?_)
  rcases aBO (decide (v4 ≥ 0)) with b15 | b15
  · replace h := bI b15 h
    refine rn ?_
    refine an (cf (xt (nE (pT (aAS (an (sq ?_)))))))
    obtain ⟨x28, h29, h⟩ := bind_some h
    refine rn1 h29 ?_
    refine an (rt ?_)
    cases h
    simp [Ret, TB, EN, *]
  replace h := bJ b15 h
  refine rn ?_
  refine an ?_
  rcases aBO (p0.Kind != 2) with b16 | b16
  · replace h := bI b16 h
    refine cf (xt (nE (pT (aAS (an (sq ?_))))))
    obtain ⟨x26, h27, h⟩ := bind_some h
    refine rn1 h27 ?_
    refine an (rt ?_)
    cases h
    simp [Ret, TB, EN, *]
  replace h := bJ b16 h
  refine ct (sk (an (sq (bk ?_))))
  rcases aBO (decide (0 ≤ (IntKind.i64.wrap (8 * v4)))) with b17 | b17
  · replace h := bI b17 h
    cases h
  replace h := bJ b17 h
  obtain ⟨x18, h19, h⟩ := bind_some h
  apply zF
  · simp +decide only [E, reduceIte, Nat.reduceAdd, Nat.reduceMul, Bool.not_true, Bool.not_false, aEy, L, ti3, ti5, aHl, aLS, enB, EN, b3, f10, f11, f12, f13, f14, b15, b16, b17]
    refine ⟨by (have hb := kD h19); simp [enB, List.length_append, bB] at hb ⊢ <;> omega, ?_⟩
    try simp +decide only [E, reduceIte, Nat.reduceAdd, Nat.reduceMul, Bool.not_true, Bool.not_false, aEy, L, ti3, ti5, aHl, aLS, enB, EN, b3, f10, f11, f12, f13, f14, b15, b16, b17]
    exact Is.mk _
  refine ab (an ?_)
  refine cu (fun s => s.t 1 = vP 1 1 0 ∧ s.t 3 = vR 100012 (u12 + 1) ∧ s.t 4 = vI v4 ∧ s.h 1 = (1, oX 251 (M.Key.en p0)) ∧ s.h 100012 = ((u12 + 1), oW 5 1 enB (r12 ++ [(IntKind.u8.wrap (IntKind.i64.wrap (BitVec.ofInt (IntKind.i64.bits) (Int.fdiv (IntKind.i64.wrap (p0.N + 1000000000000)) (2 ^ (min (IntKind.i64.wrap (8 * v4)).toNat IntKind.i64.bits))) &&& BitVec.ofInt (IntKind.i64.bits) 255).toNat))])) ∧ True) ?_
  rintro s20 ⟨f21, f22, f23, f24, f25, _⟩
  refine rn ?_
  refine xX ⟨mL1, by omega, (IntKind.i64.wrap (v4 - 1)), (r12 ++ [(IntKind.u8.wrap (IntKind.i64.wrap (BitVec.ofInt (IntKind.i64.bits) (Int.fdiv (IntKind.i64.wrap (p0.N + 1000000000000)) (2 ^ (min (IntKind.i64.wrap (8 * v4)).toNat IntKind.i64.bits))) &&& BitVec.ofInt (IntKind.i64.bits) 255).toNat))]), (u12 + 1), ?_, ?_, ?_, ?_, ?_, h⟩
  all_goals simp +decide only [F, reduceIte, Nat.reduceAdd, Bool.not_true, Bool.not_false, EN, *, -h]
instance : bC 357 (type_of% @aRw) := ⟨@aRw⟩
theorem aUt (p0 p1 r) (h : gV p0 p1 = some r) : Sc 388 [aL enB p0, aI p1] [rW 5 1 enB r] := by
  unfold gV at h
  simp only [EN]
  refine sgn 29 [.tmp 4] Tryz.func388 fun base wd => ?_
  refine sq (rn ?_)
  refine an (sq ?_)
  obtain ⟨x1, h2, h⟩ := bind_some h
  refine rn1 h2 ?_
  refine an (sq (sq ?_))
  refine cu (fun s => s.t 1 = vI p1 ∧ s.t 5 = vR 100006 2 ∧ s.h 100006 = (2, oW 5 1 enB p0) ∧ True) ?_
  rintro s3 ⟨f4, f5, f6, _⟩
  obtain ⟨x7, h8, h⟩ := bind_some h
  refine rn1 (c87 _ _ _ _ h8) ?_
  refine an ?_
  rcases dH (!x7) with b9 | b9
  · replace h := bJ b9 h
    refine ct (sq (rn ?_))
    refine an (rt ?_)
    cases h
    simp [Ret, TB, EN, *]
  replace h := bI b9 h
  refine cf (sk (an (sq (bk ?_))))
  refine lR (fun m s => ∃ v1 : Int, ∃ r6 : List Int, ∃ u6 : Nat, s.t 1 = vI v1 ∧ s.t 5 = vR 100006 u6 ∧ s.h 100006 = (u6, oW 5 1 enB r6) ∧ dM m v1 r6 = some r) fuel ?_ ?_
  · refine ⟨p1, p0, 2, ?_, ?_, ?_, h⟩
    all_goals simp +decide only [F, reduceIte, Nat.reduceAdd, Bool.not_true, Bool.not_false, EN, *, -h]
  rintro mL1 s10 ⟨v1, r6, u6, f11, f12, f13, h⟩
  rcases mL1 with _ | mL1
  · exact absurd h (by simp [dM])
  simp only [dM] at h
  refine sq (sq (rn ?_))
  refine an ?_
  rcases aBO (decide (v1 > 127)) with b14 | b14
  · replace h := bI b14 h
    refine cf (xt (nE (pT (aAS (an (sq ?_))))))
    obtain ⟨x21, h22, h⟩ := bind_some h
    refine rn1 h22 ?_
    refine an (rt ?_)
    cases h
    simp [Ret, TB, EN, *]
  replace h := bJ b14 h
  refine ct (sk (an (bk (sq ?_))))
  obtain ⟨x15, h16, h⟩ := bind_some h
  refine rn1 h16 ?_
  refine an ?_
  refine cu (fun s => s.t 1 = vI v1 ∧ s.t 5 = vR 100006 (u6 + 1) ∧ s.h 100006 = ((u6 + 1), oW 5 1 enB (r6 ++ [(IntKind.u8.wrap (IntKind.i64.wrap (BitVec.ofInt (IntKind.i64.bits) (IntKind.i64.wrap (BitVec.ofInt (IntKind.i64.bits) v1 &&& BitVec.ofInt (IntKind.i64.bits) 127).toNat) ||| BitVec.ofInt (IntKind.i64.bits) 128).toNat))])) ∧ True) ?_
  rintro s17 ⟨f18, f19, f20, _⟩
  apply zF
  · simp +decide only [E, reduceIte, Nat.reduceAdd, Nat.reduceMul, Bool.not_true, Bool.not_false, Int.reduceLT, aEy, L, EN, b9, b14, f18, f19, f20]
    exact Is.mk _
  refine ab ?_
  refine xX ⟨mL1, by omega, (Int.fdiv v1 (2 ^ (min (7 : Int).toNat IntKind.i64.bits))), (r6 ++ [(IntKind.u8.wrap (IntKind.i64.wrap (BitVec.ofInt (IntKind.i64.bits) (IntKind.i64.wrap (BitVec.ofInt (IntKind.i64.bits) v1 &&& BitVec.ofInt (IntKind.i64.bits) 127).toNat) ||| BitVec.ofInt (IntKind.i64.bits) 128).toNat))]), (u6 + 1), ?_, ?_, ?_, h⟩
  all_goals simp +decide only [F, reduceIte, Nat.reduceAdd, Bool.not_true, Bool.not_false, EN, *, -h]
instance : bC 388 (type_of% @aUt) := ⟨@aUt⟩
theorem aRS (p0 p1 r) (h : oZ p0 p1 = some r) : Sc 389 [aL enB p0, aL enB p1] [rW 5 1 enB r] := by
 unfold oZ at h
 exact sgo 11 [.tmp 4] Tryz.func389
instance : bC 389 (type_of% @aRS) := ⟨@aRS⟩
theorem aUG (p0 r) (h : mZ p0 = some r) : Sc 358 [aX (M.aU.en p0)] [rW 5 1 enB r] := by
 have i1 := aKy [.t 3 7050000 5 1] fun m s => ∃ v4 : Int, ∃ r50000 : List Int, ∃ u50000 : Nat, (s.t 1 = vP 1 1 0 ∧ s.t 3 = vR 7050000 u50000 ∧ s.t 4 = vI v4 ∧ s.h 1 = (1, oX 285 (M.aU.en p0)) ∧ s.h 7050000 = (u50000, oW 5 1 enB r50000)) ∧ fQ p0 m v4 r50000 = some r
 have e1 := @fQ.eq_2
 unfold mZ at h
 exact sgo 38 [.tmp 2] Tryz.func358
instance : bC 358 (type_of% @aUG) := ⟨@aUG⟩
theorem aTr (p0 r) (h : nO p0 = some r) : Sc 306 [aX (M.aG.en p0)] [rI r] := by
 have i1 := inv fun m s => ∃ v3 : Int, ∃ v4 : Int, (s.t 1 = vP 1 1 0 ∧ s.t 3 = vI v3 ∧ s.t 4 = vI v4 ∧ s.h 1 = (1, oX 141 (M.aG.en p0))) ∧ iD p0 m v3 v4 = some r
 have e1 := @iD.eq_2
 unfold nO at h
 exact sgo 32 [.tmp 2] Tryz.func306
instance : bC 306 (type_of% @aTr) := ⟨@aTr⟩
theorem aSW (p0 r) (h : mQ p0 = some r) : Sc 356 [aX (M.Database.en p0)] [rI r] := by
 have i1 := inv fun m s => ∃ v3 : Int, ∃ v4 : Int, (s.t 1 = vP 1 1 0 ∧ s.t 3 = vI v3 ∧ s.t 4 = vI v4 ∧ s.h 1 = (1, oX 201 (M.Database.en p0))) ∧ fN p0 m v3 v4 = some r
 have e1 := @fN.eq_2
 unfold mQ at h
 exact sgo 21 [.tmp 2] Tryz.func356
instance : bC 356 (type_of% @aSW) := ⟨@aSW⟩
theorem aSO (p0 r) (h : aAw p0 = some r) : Sc 305 [aX (M.bF.en p0)] [rI r] := by
 unfold aAw at h
 exact sgo 10 [.tmp 2] Tryz.func305
instance : bC 305 (type_of% @aSO) := ⟨@aSO⟩
theorem aUc (p0 r) (h : zG p0 = some r) : Sc 239 [aX (M.aE.en p0)] [rI r] := by
 unfold zG at h
 exact sgo 23 [.tmp 2] Tryz.func239
instance : bC 239 (type_of% @aUc) := ⟨@aUc⟩
theorem aVN (p0 r) (h : rK p0 = some r) : Sc 171 [aX (M.aE.en p0)] [rB r] := by
 unfold rK at h
 exact sgo 50 [.tmp 2] Tryz.func171
instance : bC 171 (type_of% @aVN) := ⟨@aVN⟩
theorem aR5 (p0 p1 p2 r) (h : zO p0 p1 p2 = some r) : Sc 172 [aX (M.aE.en p0), aS p1, aS p2] [rB r] := by
 unfold zO at h
 exact sgo 23 [.tmp 6] Tryz.func172
instance : bC 172 (type_of% @aR5) := ⟨@aR5⟩
theorem c88 (p0 r) (h : nR p0 = some r) : Sc 88 [aX (M.aK.en p0)] [rB r] := by
 have i1 := inv fun m s => ∃ v3 : Int, (s.t 1 = vP 1 1 0 ∧ s.t 3 = vI v3 ∧ s.h 1 = (1, oX 39 (M.aK.en p0))) ∧ eY p0 m v3 = some r
 have e1 := @eY.eq_2
 unfold nR at h
 exact sgo 48 [.tmp 2] Tryz.func88
instance : bC 88 (type_of% @c88) := ⟨@c88⟩
theorem aR9 (p0 r) (h : rN p0 = some r) : Sc 173 [aS p0] [rB r] := by
 have i1 := inv fun m s => ∃ v3 : Int, (s.t 0 = vS p0 ∧ s.t 3 = vI v3) ∧ cZ p0 m v3 = some r
 have e1 := @cZ.eq_2
 unfold rN at h
 exact sgo 29 [.tmp 2] Tryz.func173
instance : bC 173 (type_of% @aR9) := ⟨@aR9⟩
theorem c89 (p0 r) (h : nU p0 = some r) : Sc 89 [aX (M.aR.en p0)] [rB r] := by
 have i1 := inv fun m s => ∃ v3 : Int, (s.t 1 = vP 1 1 0 ∧ s.t 3 = vI v3 ∧ s.h 1 = (1, oX 43 (M.aR.en p0))) ∧ eU p0 m v3 = some r
 have e1 := @eU.eq_2
 have i2 := fun (v3 : Int) (x6 : M.cF) (k18 : Int → Option Bool) (s1 : St) => inv fun m s => ∃ v5_L2 : Int, (s.t 1 = vP 1 1 0 ∧ s.t 3 = vI v3 ∧ s.t 4 = vP 4 ((s1.h 4).1 + 1) 0 ∧ s.t 5 = vI v5_L2 ∧ s.h 1 = (1, oX 43 (M.aR.en p0)) ∧ s.h 4 = (((s1.h 4).1 + 1), oX 186 (M.cF.en x6))) ∧ bY p0 v3 x6 k18 m v5_L2 = some r
 have e2 := @bY.eq_2
 unfold nU at h
 exact sgo 67 [.tmp 2] Tryz.func89
instance : bC 89 (type_of% @c89) := ⟨@c89⟩
theorem c28 (p0 r) (h : yQ p0 = some r) : Sc 28 [aX (M.World.en p0)] [rB r] := by
 have i1 := inv fun m s => ∃ v3 : Int, (s.t 1 = vP 1 1 0 ∧ s.t 3 = vI v3 ∧ s.h 1 = (1, oX 50 (M.World.en p0))) ∧ iJ p0 m v3 = some r
 have e1 := @iJ.eq_2
 have i2 := inv fun m s => ∃ v4 : Int, (s.t 1 = vP 1 1 0 ∧ s.t 4 = vI v4 ∧ s.h 1 = (1, oX 50 (M.World.en p0))) ∧ dI p0 m v4 = some r
 have e2 := @dI.eq_2
 unfold yQ at h
 exact sgo 126 [.tmp 2] Tryz.func28
instance : bC 28 (type_of% @c28) := ⟨@c28⟩
theorem c27 (p0 r) (h : qM p0 = some r) : Sc 27 [aS p0] [rI r] := by
 have i1 := fun (x1 : (List ByteArray)) => inv fun m s => ∃ v4 : Int, (s.t 0 = vS p0 ∧ s.t 3 = vR 100005 1 ∧ s.t 4 = vI v4 ∧ s.h 100005 = (1, oW 9 1 enS x1)) ∧ gW p0 x1 m v4 = some r
 have e1 := @gW.eq_2
 unfold qM at h
 exact sgo 19 [.tmp 2] Tryz.func27
instance : bC 27 (type_of% @c27) := ⟨@c27⟩
theorem aTo (r) (h : bT = some r) : Sc 150 [] [(true, M.Response.rs r)] := by
 unfold bT at h
 exact sgo 2 [.cell 0 110] Tryz.func150
instance : bC 150 (type_of% @aTo) := ⟨@aTo⟩
theorem aTV (p0 p1 r) (h : tF p0 p1 = some r) : Sc 275 [aX (M.aP.en p0), aI p1] [rI r] := by
 have i1 := inv fun m s => ∃ v5 : Int, (s.t 1 = vI p1 ∧ s.t 2 = vP 2 1 0 ∧ s.t 5 = vI v5 ∧ s.h 2 = (1, oX 197 (M.aP.en p0))) ∧ iA p0 p1 m v5 = some r
 have e1 := @iA.eq_2
 unfold tF at h
 exact sgo 22 [.tmp 4] Tryz.func275
instance : bC 275 (type_of% @aTV) := ⟨@aTV⟩
theorem aUC (p0 p1 p2 r) (h : zQ p0 p1 p2 = some r) : Sc 276 [aX (M.Cache.en p0), aS p1, aS p2] [rI r] := by
 have i1 := inv fun m s => ∃ v7 : Int, (s.t 1 = vS p1 ∧ s.t 2 = vS p2 ∧ s.t 3 = vP 3 1 0 ∧ s.t 7 = vI v7 ∧ s.h 3 = (1, oX 342 (M.Cache.en p0))) ∧ iP p0 p1 p2 m v7 = some r
 have e1 := @iP.eq_2
 unfold zQ at h
 exact sgo 34 [.tmp 6] Tryz.func276
instance : bC 276 (type_of% @aUC) := ⟨@aUC⟩
theorem aTy (p0 p1 p2 p3 r) (h : qD p0 p1 p2 p3 = some r) : Sc 213 [aX (M.aP.en p0), aI p1, aS p2, aS p3] [(true, M.Response.rs r.1), rB r.2] := by
 unfold qD at h
 exact sgo 40 [.cell 8 110, .tmp 9] Tryz.func213
instance : bC 213 (type_of% @aTy) := ⟨@aTy⟩
theorem aTa (p0 p1 r) (h : aBu p0 p1 = some r) : Sc 336 [aI p0, aI p1] [rI r] := by
 unfold aBu at h
 exact sgo 10 [.tmp 4] Tryz.func336
instance : bC 336 (type_of% @aTa) := ⟨@aTa⟩
theorem aVM (p0 p1 r) (h : lM p0 p1 = some r) : Sc 278 [aX (M.Site.en p0), aI p1] [rB r] := by
 unfold lM at h
 exact sgo 18 [.tmp 4] Tryz.func278
instance : bC 278 (type_of% @aVM) := ⟨@aVM⟩
theorem aRm (p0 p1 r) (h : zJ p0 p1 = some r) : Sc 279 [aX (M.Site.en p0), aS p1] [rB r] := by
 have i1 := inv fun m s => ∃ v5 : Int, (s.t 1 = vS p1 ∧ s.t 2 = vP 2 1 0 ∧ s.t 5 = vI v5 ∧ s.h 2 = (1, oX 75 (M.Site.en p0))) ∧ kA p0 p1 m v5 = some r
 have e1 := @kA.eq_2
 unfold zJ at h
 exact sgo 20 [.tmp 4] Tryz.func279
instance : bC 279 (type_of% @aRm) := ⟨@aRm⟩
theorem aSx (p0 r) (h : oM p0 = some r) : Sc 381 [aL enB p0] [rW 3 1 enI r] := by
 have i1 := inv fun m s => ∃ v4 : Int, ∃ r7 : List Int, ∃ u7 : Nat, (s.t 0 = vL enB p0 ∧ s.t 3 = vR 100007 u7 ∧ s.t 4 = vI v4 ∧ s.h 100007 = (u7, oW 3 1 enI r7)) ∧ gD p0 m v4 r7 = some r
 have e1 := @gD.eq_2
 unfold oM at h
 exact sgo 23 [.tmp 2] Tryz.func381
instance : bC 381 (type_of% @aSx) := ⟨@aSx⟩
theorem aUb (p0 p1 r) (h : aCV p0 p1 = some r) : Sc 402 [aI p0, aI p1] [rI r] := by
  unfold aCV at h
  simp only [EN]
  refine sgn 15 [.tmp 4] Tryz.func402 fun base wd => ?_
  refine sq (rn ?_)
  refine an (sq (sq ?_))
  obtain ⟨x1, h2, h⟩ := bind_some h
  refine rn1 (c87 _ _ _ _ h2) ?_
  refine an ?_
  rcases dH (!x1) with b3 | b3
  · replace h := bJ b3 h
    refine ct (sq (rn ?_))
    refine an (rt ?_)
    cases h
    simp [Ret, TB, EN, *]
  replace h := bI b3 h
  refine cf (sk (an (sq ?_)))
  rcases dH (decide (p1 = 0)) with b4 | b4
  · replace h := bJ b4 h
    cases h
  replace h := bI b4 h
  apply zF
  · simp +decide only [E, reduceIte, Nat.reduceAdd, Nat.reduceMul, Bool.not_true, Bool.not_false, aNz, L, EN, b3, b4]
    exact Is.mk _
  refine an (rt ?_)
  cases h
  simp [Ret, TB, EN, *]
instance : bC 402 (type_of% @aUb) := ⟨@aUb⟩
theorem aUS (p0 r) (h : aB0 p0 = some r) : Sc 380 [aL enI p0] [rI r] := by
 have i1 := inv fun m s => ∃ v3 : Int, ∃ v4 : Int, (s.t 0 = vL enI p0 ∧ s.t 3 = vI v3 ∧ s.t 4 = vI v4) ∧ pN p0 m v3 v4 = some r
 have e1 := @pN.eq_2
 unfold aB0 at h
 exact sgo 22 [.tmp 2] Tryz.func380
instance : bC 380 (type_of% @aUS) := ⟨@aUS⟩
theorem aQf (p0 p1 r) (h : nG p0 p1 = some r) : Sc 337 [aI p0, aL enI p1] [rI r] := by
 unfold nG at h
 exact sgo 13 [.tmp 4] Tryz.func337
instance : bC 337 (type_of% @aQf) := ⟨@aQf⟩
theorem aP7 (p0 p1 r) (h : gJ p0 p1 = some r) : Sc 338 [aI p0, aS p1] [rI r] := by
 unfold gJ at h
 exact sgo 11 [.tmp 4] Tryz.func338
instance : bC 338 (type_of% @aP7) := ⟨@aP7⟩
theorem aSV (p0 p1 p2 r) (h : aA7 p0 p1 p2 = some r) : Sc 280 [aX (M.Site.en p0), aS p1, aI p2] [rW 5 1 enB r] := by
  unfold aA7 at h
  simp only [EN]
  refine sgn 34 [.tmp 6] Tryz.func280 fun base wd => ?_
  refine sq (rn ?_)
  refine an (sq ?_)
  obtain ⟨x1, h2, h⟩ := bind_some h
  obtain ⟨x3, h4, h⟩ := bind_some h
  obtain ⟨x5, h6, h⟩ := bind_some h
  refine rn3 (aP7 _ _ _ h2) (aP7 _ _ _ h4) (aQf _ _ _ h6) ?_
  refine an (sq ?_)
  refine cu (fun s => s.t 7 = vI x5 ∧ True) ?_
  rintro s7 ⟨f8, _⟩
  refine rn ?_
  refine an (sq (sq ?_))
  refine cu (fun s => s.t 7 = vI x5 ∧ s.t 8 = vR 100019 ((s7.h 100019).1 + 1) ∧ s.h 100019 = (((s7.h 100019).1 + 1), oW 5 1 enB ([] : List Int)) ∧ True) ?_
  rintro s9 ⟨f10, f11, f12, _⟩
  refine rn ?_
  refine an (bk ?_)
  refine lR (fun m s => ∃ v9 : Int, ∃ r19 : List Int, ∃ u19 : Nat, s.t 7 = vI x5 ∧ s.t 8 = vR 100019 u19 ∧ s.t 9 = vI v9 ∧ s.h 100019 = (u19, oW 5 1 enB r19) ∧ lI x5 m v9 r19 = some r) fuel ?_ ?_
  · refine ⟨5, ([] : List Int), ((s7.h 100019).1 + 1), ?_, ?_, ?_, ?_, h⟩
    all_goals simp +decide only [F, reduceIte, Nat.reduceAdd, Bool.not_true, Bool.not_false, EN, *, -h]
  rintro mL1 s13 ⟨v9, r19, u19, f14, f15, f16, f17, h⟩
  rcases mL1 with _ | mL1
  · exact absurd h (by simp [lI])
  simp only [lI] at h
  refine sq (sq (rn ?_))
  refine an ?_
  rcases aBO (decide (v9 ≥ 0)) with b18 | b18
  · replace h := bI b18 h
    refine cf (xt (nE (pT (aAS (an (sq (rn ?_)))))))
    refine an (rt ?_)
    cases h
    simp [Ret, TB, EN, *]
  replace h := bJ b18 h
  refine ct (sk (an (sq (bk ?_))))
  rcases aBO (decide (0 ≤ (IntKind.i64.wrap (8 * v9)))) with b19 | b19
  · replace h := bI b19 h
    cases h
  replace h := bJ b19 h
  obtain ⟨x20, h21, h⟩ := bind_some h
  apply zF
  · simp +decide only [E, reduceIte, Nat.reduceAdd, Nat.reduceMul, Bool.not_true, Bool.not_false, aEy, L, ti3, ti5, aHl, enB, EN, f14, f15, f16, f17, b18, b19]
    refine ⟨by (have hb := kD h21); simp [enB, List.length_append, bB] at hb ⊢ <;> omega, ?_⟩
    try simp +decide only [E, reduceIte, Nat.reduceAdd, Nat.reduceMul, Bool.not_true, Bool.not_false, aEy, L, ti3, ti5, aHl, enB, EN, f14, f15, f16, f17, b18, b19]
    exact Is.mk _
  refine ab (an ?_)
  refine cu (fun s => s.t 7 = vI x5 ∧ s.t 8 = vR 100019 (u19 + 1) ∧ s.t 9 = vI v9 ∧ s.h 100019 = ((u19 + 1), oW 5 1 enB (r19 ++ [(IntKind.u8.wrap (IntKind.i64.wrap (BitVec.ofInt (IntKind.i64.bits) (Int.fdiv x5 (2 ^ (min (IntKind.i64.wrap (8 * v9)).toNat IntKind.i64.bits))) &&& BitVec.ofInt (IntKind.i64.bits) 255).toNat))])) ∧ True) ?_
  rintro s22 ⟨f23, f24, f25, f26, _⟩
  refine rn ?_
  refine xX ⟨mL1, by omega, (IntKind.i64.wrap (v9 - 1)), (r19 ++ [(IntKind.u8.wrap (IntKind.i64.wrap (BitVec.ofInt (IntKind.i64.bits) (Int.fdiv x5 (2 ^ (min (IntKind.i64.wrap (8 * v9)).toNat IntKind.i64.bits))) &&& BitVec.ofInt (IntKind.i64.bits) 255).toNat))]), (u19 + 1), ?_, ?_, ?_, ?_, h⟩
  all_goals simp +decide only [F, reduceIte, Nat.reduceAdd, Bool.not_true, Bool.not_false, EN, *, -h]
instance : bC 280 (type_of% @aSV) := ⟨@aSV⟩
theorem aT3 (p0 p1 p2 r) (h : vC p0 p1 p2 = some r) : Sc 214 [aX (M.Site.en p0), aS p1, aI p2] [(true, M.Response.rs r)] := by
 unfold vC at h
 exact sgo 32 [.cell 6 110] Tryz.func214
instance : bC 214 (type_of% @aT3) := ⟨@aT3⟩
theorem aUD (p0 p1 p2 p3 p4 r) (h : oU p0 p1 p2 p3 p4 = some r) : Sc 151 [aX (M.aP.en p0), aX (M.Site.en p1), aI p2, aS p3, aB p4] [(true, M.Response.rs r)] := by
 unfold oU at h
 exact sgo 30 [.cell 10 110] Tryz.func151
instance : bC 151 (type_of% @aUD) := ⟨@aUD⟩
theorem c66 (p0 p1 p2 r) (h : tT p0 p1 p2 = some r) : Sc 66 [aX (M.World.en p0), aX (M.bG.en p1), aS p2] [(true, M.Response.rs r)] := by
 unfold tT at h
 exact sgo 44 [.cell 6 110] Tryz.func66
instance : bC 66 (type_of% @c66) := ⟨@c66⟩
theorem c67 (p0 p1 p2 r) (h : wW p0 p1 p2 = some r) : Sc 67 [aX (M.bG.en p0), aS p1, aX (M.Response.en p2)] [(true, M.bG.rs r.1), rB r.2] := by
 unfold wW at h
 exact sgo 43 [.cell 6 104, .tmp 7] Tryz.func67
instance : bC 67 (type_of% @c67) := ⟨@c67⟩
theorem c18 (p0 p1 p2 r) (h : mX p0 p1 p2 = some r) : Sc 18 [aX (M.World.en p0), aI p1, aS p2] [(true, M.World.rs r.1), rI r.2] := by
 unfold mX at h
 exact sgo 54 [.cell 6 50, .tmp 7] Tryz.func18
instance : bC 18 (type_of% @c18) := ⟨@c18⟩
end Go.Proofs.YtecmnmaaopkdfaaGreat.gen
