/-
  Helper text. No conditions.
-/
import Derived.Test.YtecmnmaaopkdfaaGreatPageSendTi
import Derived.Test.YtecmnmaaopkdfaaGreatPageSendWspec0
namespace Go.Proofs.YtecmnmaaopkdfaaGreat.gen
open Go Go.Sh
set_option linter.unusedVariables false
set_option linter.unusedSimpArgs false
set_option maxRecDepth 20000
set_option maxHeartbeats 4000000
theorem aQQ (p0 r) (h : wG p0 = some r) : Sc 303 [aX (M.aV.en p0)] [rB r] := by
 have i1 := inv fun m s => ∃ v4 : Int, (s.t 1 = vP 1 1 0 ∧ s.t 3 = vI (List.length p0.Writes : Int) ∧ s.t 4 = vI v4 ∧ s.h 1 = (1, oX 205 (M.aV.en p0))) ∧ iH p0 m v4 = some r
 have e1 := @iH.eq_2
 unfold wG at h
 exact sgo 60 [.tmp 2] Tryz.func303
instance : bD 303 (type_of% @aQQ) := ⟨@aQQ⟩
theorem aTQ (p0 r) (h : sQ p0 = some r) : Sc 238 [aX (M.aC.en p0)] [rB r] := by
 unfold sQ at h
 exact sgo 23 [.tmp 2] Tryz.func238
instance : bD 238 (type_of% @aTQ) := ⟨@aTQ⟩
theorem aR3 (p0 p1 r) (h : pJ p0 p1 = some r) : Sc 355 [aX (M.Response.en p0), aB p1] [rI r] := by
 unfold pJ at h
 exact sgo 10 [.tmp 4] Tryz.func355
instance : bD 355 (type_of% @aR3) := ⟨@aR3⟩
theorem aSE (p0 r) (h : oU p0 = some r) : Sc 304 [aX (M.aT.en p0)] [rI r] := by
 have i1 := inv fun m s => ∃ v3 : Int, ∃ v4 : Int, (s.t 1 = vP 1 1 0 ∧ s.t 3 = vI v3 ∧ s.t 4 = vI v4 ∧ s.h 1 = (1, oX 197 (M.aT.en p0))) ∧ eI p0 m v3 v4 = some r
 have e1 := @eI.eq_2
 have i2 := fun (v4 : Int) (k8 : Int → Int → Option Int) => inv fun m s => ∃ v3_L2 : Int, ∃ v5_L2 : Int, (s.t 1 = vP 1 1 0 ∧ s.t 3 = vI v3_L2 ∧ s.t 4 = vI v4 ∧ s.t 5 = vI v5_L2 ∧ s.h 1 = (1, oX 197 (M.aT.en p0))) ∧ gQ p0 v4 k8 m v3_L2 v5_L2 = some r
 have e2 := @gQ.eq_2
 unfold oU at h
 exact sgo 43 [.tmp 2] Tryz.func304
instance : bD 304 (type_of% @aSE) := ⟨@aSE⟩
theorem aQ5 (p0 r) (h : tI p0 = some r) : Sc 357 [aX (M.Key.en p0)] [rW 5 1 enB r] := by
  unfold tI at h
  simp only [EN]
  refine sgn 38 [.tmp 2] Tryz.func357 fun base wd => ?_
  refine sq (rn ?_)
  refine an (sq (sq ?_))
  obtain ⟨x1, h2, h⟩ := bind_some h
  refine rn1 (aPf _ _ h2) ?_
  refine an ?_
  rcases dX (!x1) with b3 | b3
  · replace h := bJ b3 h
    refine ct (sq (rn ?_))
    refine an (rt ?_)
    cases h
    simp [Ret, TB, EN, *]
  replace h := bI b3 h
  refine cf (sk (an (sq (rn ?_))))
  refine an (sq (sq ?_))
  refine cu (fun s => s.t 1 = vP 1 1 0 ∧ s.t 3 = vR 100012 1 ∧ s.h 1 = (1, oX 251 (M.Key.en p0)) ∧ s.h 100012 = (1, oW 5 1 enB ([(IntKind.u8.wrap p0.Kind)])) ∧ True) ?_
  rintro s4 ⟨f5, f6, f7, f8, _⟩
  refine rn ?_
  refine an (bk ?_)
  refine mK (fun m s => ∃ v4 : Int, ∃ r12 : List Int, ∃ u12 : Nat, s.t 1 = vP 1 1 0 ∧ s.t 3 = vR 100012 u12 ∧ s.t 4 = vI v4 ∧ s.h 1 = (1, oX 251 (M.Key.en p0)) ∧ s.h 100012 = (u12, oW 5 1 enB r12) ∧ bX p0 m v4 r12 = some r) fuel ?_ ?_
  · refine ⟨5, ([(IntKind.u8.wrap p0.Kind)]), 1, ?_, ?_, ?_, ?_, ?_, h⟩
    all_goals simp +decide only [F, reduceIte, Nat.reduceAdd, Bool.not_true, Bool.not_false, EN, *, -h]
  rintro mL1 s9 ⟨v4, r12, u12, f10, f11, f12, f13, f14, h⟩
  rcases mL1 with _ | mL1
  · exact absurd h (by simp [bX])
  simp only [bX] at h
  refine sq (sq ?_)
  rcases aA5 (decide (v4 ≥ 0)) with b15 | b15
  · replace h := bI b15 h
    refine rn ?_
    refine an (cf (xt (oM (qR (aAn (an (sq ?_)))))))
    obtain ⟨x28, h29, h⟩ := bind_some h
    refine rn1 h29 ?_
    refine an (rt ?_)
    cases h
    simp [Ret, TB, EN, *]
  replace h := bJ b15 h
  refine rn ?_
  refine an ?_
  rcases aA5 (p0.Kind != 2) with b16 | b16
  · replace h := bI b16 h
    refine cf (xt (oM (qR (aAn (an (sq ?_))))))
    obtain ⟨x26, h27, h⟩ := bind_some h
    refine rn1 h27 ?_
    refine an (rt ?_)
    cases h
    simp [Ret, TB, EN, *]
  replace h := bJ b16 h
  refine ct (sk (an (sq (bk ?_))))
  rcases aA5 (decide (0 ≤ (IntKind.i64.wrap (8 * v4)))) with b17 | b17
  · replace h := bI b17 h
    cases h
  replace h := bJ b17 h
  obtain ⟨x18, h19, h⟩ := bind_some h
  apply aBD
  · simp +decide only [E, reduceIte, Nat.reduceAdd, Nat.reduceMul, Bool.not_true, Bool.not_false, aJC, L, ti3, ti5, aKQ, aKb, enB, EN, b3, f10, f11, f12, f13, f14, b15, b16, b17]
    refine ⟨by (have hb := mF h19); simp [enB, List.length_append, bC] at hb ⊢ <;> omega, ?_⟩
    try simp +decide only [E, reduceIte, Nat.reduceAdd, Nat.reduceMul, Bool.not_true, Bool.not_false, aJC, L, ti3, ti5, aKQ, aKb, enB, EN, b3, f10, f11, f12, f13, f14, b15, b16, b17]
    exact Is.mk _
  refine ab (an ?_)
  refine cu (fun s => s.t 1 = vP 1 1 0 ∧ s.t 3 = vR 100012 (u12 + 1) ∧ s.t 4 = vI v4 ∧ s.h 1 = (1, oX 251 (M.Key.en p0)) ∧ s.h 100012 = ((u12 + 1), oW 5 1 enB (r12 ++ [(IntKind.u8.wrap (IntKind.i64.wrap (BitVec.ofInt (IntKind.i64.bits) (Int.fdiv (IntKind.i64.wrap (p0.N + 1000000000000)) (2 ^ (min (IntKind.i64.wrap (8 * v4)).toNat IntKind.i64.bits))) &&& BitVec.ofInt (IntKind.i64.bits) 255).toNat))])) ∧ True) ?_
  rintro s20 ⟨f21, f22, f23, f24, f25, _⟩
  refine rn ?_
  refine wQ ⟨mL1, by omega, (IntKind.i64.wrap (v4 - 1)), (r12 ++ [(IntKind.u8.wrap (IntKind.i64.wrap (BitVec.ofInt (IntKind.i64.bits) (Int.fdiv (IntKind.i64.wrap (p0.N + 1000000000000)) (2 ^ (min (IntKind.i64.wrap (8 * v4)).toNat IntKind.i64.bits))) &&& BitVec.ofInt (IntKind.i64.bits) 255).toNat))]), (u12 + 1), ?_, ?_, ?_, ?_, ?_, h⟩
  all_goals simp +decide only [F, reduceIte, Nat.reduceAdd, Bool.not_true, Bool.not_false, EN, *, -h]
instance : bD 357 (type_of% @aQ5) := ⟨@aQ5⟩
theorem aPg (p0 p1 r) (h : gP p0 p1 = some r) : Sc 388 [aL enB p0, aI p1] [rW 5 1 enB r] := by
  unfold gP at h
  simp only [EN]
  refine sgn 29 [.tmp 4] Tryz.func388 fun base wd => ?_
  refine sq (rn ?_)
  refine an (sq ?_)
  obtain ⟨x1, h2, h⟩ := bind_some h
  refine rn1 h2 ?_
  refine an (sq (sq ?_))
  refine cu (fun s => s.t 1 = vI p1 ∧ s.t 5 = vR 100006 2 ∧ s.h 100006 = (2, oW 5 1 enB p0) ∧ True) ?_
  rintro s3 ⟨f4, f5, f6, _⟩
  obtain ⟨x7, h8, h⟩ := bind_some h
  refine rn1 (c87 _ _ _ _ h8) ?_
  refine an ?_
  rcases dX (!x7) with b9 | b9
  · replace h := bJ b9 h
    refine ct (sq (rn ?_))
    refine an (rt ?_)
    cases h
    simp [Ret, TB, EN, *]
  replace h := bI b9 h
  refine cf (sk (an (sq (bk ?_))))
  refine mK (fun m s => ∃ v1 : Int, ∃ r6 : List Int, ∃ u6 : Nat, s.t 1 = vI v1 ∧ s.t 5 = vR 100006 u6 ∧ s.h 100006 = (u6, oW 5 1 enB r6) ∧ dH m v1 r6 = some r) fuel ?_ ?_
  · refine ⟨p1, p0, 2, ?_, ?_, ?_, h⟩
    all_goals simp +decide only [F, reduceIte, Nat.reduceAdd, Bool.not_true, Bool.not_false, EN, *, -h]
  rintro mL1 s10 ⟨v1, r6, u6, f11, f12, f13, h⟩
  rcases mL1 with _ | mL1
  · exact absurd h (by simp [dH])
  simp only [dH] at h
  refine sq (sq (rn ?_))
  refine an ?_
  rcases aA5 (decide (v1 > 127)) with b14 | b14
  · replace h := bI b14 h
    refine cf (xt (oM (qR (aAn (an (sq ?_))))))
    obtain ⟨x21, h22, h⟩ := bind_some h
    refine rn1 h22 ?_
    refine an (rt ?_)
    cases h
    simp [Ret, TB, EN, *]
  replace h := bJ b14 h
  refine ct (sk (an (bk (sq ?_))))
  obtain ⟨x15, h16, h⟩ := bind_some h
  refine rn1 h16 ?_
  refine an ?_
  refine cu (fun s => s.t 1 = vI v1 ∧ s.t 5 = vR 100006 (u6 + 1) ∧ s.h 100006 = ((u6 + 1), oW 5 1 enB (r6 ++ [(IntKind.u8.wrap (IntKind.i64.wrap (BitVec.ofInt (IntKind.i64.bits) (IntKind.i64.wrap (BitVec.ofInt (IntKind.i64.bits) v1 &&& BitVec.ofInt (IntKind.i64.bits) 127).toNat) ||| BitVec.ofInt (IntKind.i64.bits) 128).toNat))])) ∧ True) ?_
  rintro s17 ⟨f18, f19, f20, _⟩
  apply aBD
  · simp +decide only [E, reduceIte, Nat.reduceAdd, Nat.reduceMul, Bool.not_true, Bool.not_false, Int.reduceLT, aJC, L, EN, b9, b14, f18, f19, f20]
    exact Is.mk _
  refine ab ?_
  refine wQ ⟨mL1, by omega, (Int.fdiv v1 (2 ^ (min (7 : Int).toNat IntKind.i64.bits))), (r6 ++ [(IntKind.u8.wrap (IntKind.i64.wrap (BitVec.ofInt (IntKind.i64.bits) (IntKind.i64.wrap (BitVec.ofInt (IntKind.i64.bits) v1 &&& BitVec.ofInt (IntKind.i64.bits) 127).toNat) ||| BitVec.ofInt (IntKind.i64.bits) 128).toNat))]), (u6 + 1), ?_, ?_, ?_, h⟩
  all_goals simp +decide only [F, reduceIte, Nat.reduceAdd, Bool.not_true, Bool.not_false, EN, *, -h]
instance : bD 388 (type_of% @aPg) := ⟨@aPg⟩
theorem aSc (p0 p1 r) (h : nG p0 p1 = some r) : Sc 389 [aL enB p0, aL enB p1] [rW 5 1 enB r] := by
 unfold nG at h
 exact sgo 11 [.tmp 4] Tryz.func389
instance : bD 389 (type_of% @aSc) := ⟨@aSc⟩
theorem aQk (p0 r) (h : mB p0 = some r) : Sc 358 [aX (M.aU.en p0)] [rW 5 1 enB r] := by
 have i1 := aJe [.t 3 7050000 5 1] fun m s => ∃ v4 : Int, ∃ r50000 : List Int, ∃ u50000 : Nat, (s.t 1 = vP 1 1 0 ∧ s.t 3 = vR 7050000 u50000 ∧ s.t 4 = vI v4 ∧ s.h 1 = (1, oX 285 (M.aU.en p0)) ∧ s.h 7050000 = (u50000, oW 5 1 enB r50000)) ∧ fM p0 m v4 r50000 = some r
 have e1 := @fM.eq_2
 unfold mB at h
 exact sgo 38 [.tmp 2] Tryz.func358
instance : bD 358 (type_of% @aQk) := ⟨@aQk⟩
theorem aTT (p0 r) (h : mM p0 = some r) : Sc 306 [aX (M.aG.en p0)] [rI r] := by
 have i1 := inv fun m s => ∃ v3 : Int, ∃ v4 : Int, (s.t 1 = vP 1 1 0 ∧ s.t 3 = vI v3 ∧ s.t 4 = vI v4 ∧ s.h 1 = (1, oX 141 (M.aG.en p0))) ∧ hJ p0 m v3 v4 = some r
 have e1 := @hJ.eq_2
 unfold mM at h
 exact sgo 32 [.tmp 2] Tryz.func306
instance : bD 306 (type_of% @aTT) := ⟨@aTT⟩
theorem aRs (p0 r) (h : lW p0 = some r) : Sc 356 [aX (M.Database.en p0)] [rI r] := by
 have i1 := inv fun m s => ∃ v3 : Int, ∃ v4 : Int, (s.t 1 = vP 1 1 0 ∧ s.t 3 = vI v3 ∧ s.t 4 = vI v4 ∧ s.h 1 = (1, oX 201 (M.Database.en p0))) ∧ fK p0 m v3 v4 = some r
 have e1 := @fK.eq_2
 unfold lW at h
 exact sgo 21 [.tmp 2] Tryz.func356
instance : bD 356 (type_of% @aRs) := ⟨@aRs⟩
theorem aPu (p0 r) (h : aAN p0 = some r) : Sc 305 [aX (M.bG.en p0)] [rI r] := by
 unfold aAN at h
 exact sgo 10 [.tmp 2] Tryz.func305
instance : bD 305 (type_of% @aPu) := ⟨@aPu⟩
theorem aRc (p0 r) (h : yB p0 = some r) : Sc 239 [aX (M.aE.en p0)] [rI r] := by
 unfold yB at h
 exact sgo 23 [.tmp 2] Tryz.func239
instance : bD 239 (type_of% @aRc) := ⟨@aRc⟩
theorem aTH (p0 r) (h : pL p0 = some r) : Sc 171 [aX (M.aE.en p0)] [rB r] := by
 unfold pL at h
 exact sgo 50 [.tmp 2] Tryz.func171
instance : bD 171 (type_of% @aTH) := ⟨@aTH⟩
theorem aRb (p0 p1 p2 r) (h : xV p0 p1 p2 = some r) : Sc 172 [aX (M.aE.en p0), aS p1, aS p2] [rB r] := by
 unfold xV at h
 exact sgo 23 [.tmp 6] Tryz.func172
instance : bD 172 (type_of% @aRb) := ⟨@aRb⟩
theorem c88 (p0 r) (h : mP p0 = some r) : Sc 88 [aX (M.aK.en p0)] [rB r] := by
 have i1 := inv fun m s => ∃ v3 : Int, (s.t 1 = vP 1 1 0 ∧ s.t 3 = vI v3 ∧ s.h 1 = (1, oX 39 (M.aK.en p0))) ∧ eZ p0 m v3 = some r
 have e1 := @eZ.eq_2
 unfold mP at h
 exact sgo 48 [.tmp 2] Tryz.func88
instance : bD 88 (type_of% @c88) := ⟨@c88⟩
theorem aQL (p0 r) (h : pX p0 = some r) : Sc 173 [aS p0] [rB r] := by
 have i1 := inv fun m s => ∃ v3 : Int, (s.t 0 = vS p0 ∧ s.t 3 = vI v3) ∧ cX p0 m v3 = some r
 have e1 := @cX.eq_2
 unfold pX at h
 exact sgo 29 [.tmp 2] Tryz.func173
instance : bD 173 (type_of% @aQL) := ⟨@aQL⟩
theorem c89 (p0 r) (h : nC p0 = some r) : Sc 89 [aX (M.aQ.en p0)] [rB r] := by
 have i1 := inv fun m s => ∃ v3 : Int, (s.t 1 = vP 1 1 0 ∧ s.t 3 = vI v3 ∧ s.h 1 = (1, oX 43 (M.aQ.en p0))) ∧ eT p0 m v3 = some r
 have e1 := @eT.eq_2
 have i2 := fun (v3 : Int) (x6 : M.bZ) (k18 : Int → Option Bool) (s1 : St) => inv fun m s => ∃ v5_L2 : Int, (s.t 1 = vP 1 1 0 ∧ s.t 3 = vI v3 ∧ s.t 4 = vP 4 ((s1.h 4).1 + 1) 0 ∧ s.t 5 = vI v5_L2 ∧ s.h 1 = (1, oX 43 (M.aQ.en p0)) ∧ s.h 4 = (((s1.h 4).1 + 1), oX 186 (M.bZ.en x6))) ∧ bT p0 v3 x6 k18 m v5_L2 = some r
 have e2 := @bT.eq_2
 unfold nC at h
 exact sgo 67 [.tmp 2] Tryz.func89
instance : bD 89 (type_of% @c89) := ⟨@c89⟩
theorem c28 (p0 r) (h : xJ p0 = some r) : Sc 28 [aX (M.World.en p0)] [rB r] := by
 have i1 := inv fun m s => ∃ v3 : Int, (s.t 1 = vP 1 1 0 ∧ s.t 3 = vI v3 ∧ s.h 1 = (1, oX 50 (M.World.en p0))) ∧ hY p0 m v3 = some r
 have e1 := @hY.eq_2
 have i2 := inv fun m s => ∃ v4 : Int, (s.t 1 = vP 1 1 0 ∧ s.t 4 = vI v4 ∧ s.h 1 = (1, oX 50 (M.World.en p0))) ∧ dE p0 m v4 = some r
 have e2 := @dE.eq_2
 unfold xJ at h
 exact sgo 126 [.tmp 2] Tryz.func28
instance : bD 28 (type_of% @c28) := ⟨@c28⟩
theorem aQH (p0 p1 r) (h : tS p0 p1 = some r) : Sc 138 [aL M.bF.en p0, aI p1] [rI r] := by
 have i1 := inv fun m s => ∃ v5 : Int, (s.t 0 = vL M.bF.en p0 ∧ s.t 1 = vI p1 ∧ s.t 5 = vI v5) ∧ jH p0 p1 m v5 = some r
 have e1 := @jH.eq_2
 unfold tS at h
 exact sgo 20 [.tmp 4] Tryz.func138
instance : bD 138 (type_of% @aQH) := ⟨@aQH⟩
theorem c58 (p0 p1 r) (h : rZ p0 p1 = some r) : Sc 58 [aX (M.World.en p0), aI p1] [rI r] := by
 unfold rZ at h
 exact sgo 9 [.tmp 4] Tryz.func58
instance : bD 58 (type_of% @c58) := ⟨@c58⟩
theorem aRt (p0 p1 r) (h : yC p0 p1 = some r) : Sc 139 [aX (M.bF.en p0), aX (M.bF.en p1)] [rB r] := by
 unfold yC at h
 exact sgo 24 [.tmp 4] Tryz.func139
instance : bD 139 (type_of% @aRt) := ⟨@aRt⟩
theorem aR1 (p0 p1 r) (h : vU p0 p1 = some r) : Sc 140 [aX (M.Channel.en p0), aI p1] [rW 183 3 M.cN.en r] := by
 have i1 := inv fun m s => ∃ v6 : Int, ∃ r7 : List M.cN, ∃ u7 : Nat, (s.t 1 = vI p1 ∧ s.t 2 = vP 2 1 0 ∧ s.t 5 = vR 100007 u7 ∧ s.t 6 = vI v6 ∧ s.h 2 = (1, oX 46 (M.Channel.en p0)) ∧ s.h 100007 = (u7, oW 183 3 M.cN.en r7)) ∧ gS p0 p1 m v6 r7 = some r
 have e1 := @gS.eq_2
 unfold vU at h
 exact sgo 32 [.tmp 4] Tryz.func140
instance : bD 140 (type_of% @aR1) := ⟨@aR1⟩
theorem c59 (p0 p1 p2 p3 r) (h : tJ p0 p1 p2 p3 = some r) : Sc 59 [aX (M.Channel.en p0), aL M.bF.en p1, aI p2, aI p3] [(true, M.Channel.rs r.1), rI r.2] := by
 have i1 := fun (x3 : Int) => inv fun m s => ∃ v12 : Int, ∃ v13 : Int, ∃ r15 : List M.cN, ∃ u15 : Nat, (s.t 1 = vL M.bF.en p1 ∧ s.t 2 = vI p2 ∧ s.t 3 = vI p3 ∧ s.t 8 = vP 8 1 0 ∧ s.t 10 = vP 10 1 0 ∧ s.t 11 = vI x3 ∧ s.t 12 = vI v12 ∧ s.t 13 = vI v13 ∧ s.h 8 = (1, oB 46 [.nil]) ∧ s.h 10 = (1, oB 46 [.row 100015 u15]) ∧ s.h 100015 = (u15, oW 183 3 M.cN.en r15)) ∧ dS p1 p2 p3 x3 m v12 v13 r15 = some r
 have e1 := @dS.eq_2
 unfold tJ at h
 exact sgo 65 [.cell 8 46, .tmp 9] Tryz.func59
instance : bD 59 (type_of% @c59) := ⟨@c59⟩
theorem c14 (p0 p1 p2 r) (h : vD p0 p1 p2 = some r) : Sc 14 [aX (M.World.en p0), aI p1, aI p2] [(true, M.World.rs r.1), rI r.2] := by
 unfold vD at h
 exact sgo 37 [.cell 6 50, .tmp 7] Tryz.func14
instance : bD 14 (type_of% @c14) := ⟨@c14⟩
end Go.Proofs.YtecmnmaaopkdfaaGreat.gen
