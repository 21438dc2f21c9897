/-
  Helper text. No conditions.
-/
import Derived.Test.YtecmnmaaopkdfaaGreatLoadPageFileTi
import Derived.Test.YtecmnmaaopkdfaaGreatLoadPageFileWimpl0
import Derived.Test.YtecmnmaaopkdfaaGreatLoadPageFileWlib
namespace Go.Proofs.YtecmnmaaopkdfaaGreat.gen
open Go Go.Sh
set_option linter.unusedVariables false
set_option linter.unusedSimpArgs false
set_option maxRecDepth 20000
set_option maxHeartbeats 4000000
theorem aVF (p0 p1 r) (h : yT p0 p1 = some r) : Sc 368 [aX (M.aG.en p0), aS p1] [rW 287 4 M.Item.en r] := by
  unfold yT at h
  simp only [EN]
  refine sgn 52 [.tmp 4] Tryz.func368 fun base wd => ?_
  refine sq (rn ?_)
  refine an (sq (rn ?_))
  refine an (sq (sq ?_))
  refine cu (fun s => s.t 1 = vS p1 ∧ s.t 2 = vP 2 1 0 ∧ s.t 5 = vR 100011 1 ∧ s.h 2 = (1, oX 141 (M.aG.en p0)) ∧ s.h 100011 = (1, oW 287 4 M.Item.en ([] : List M.Item)) ∧ True) ?_
  rintro s1 ⟨f2, f3, f4, f5, f6, _⟩
  refine rn ?_
  refine an (bk ?_)
  refine lR (fun m s => ∃ v15 : Int, ∃ r11 : List M.Item, ∃ u11 : Nat, s.t 1 = vS p1 ∧ s.t 5 = vR 100011 u11 ∧ s.t 13 = vL M.Item.en p0.Items ∧ s.t 14 = vI (List.length p0.Items : Int) ∧ s.t 15 = vI v15 ∧ s.h 100011 = (u11, oW 287 4 M.Item.en r11) ∧ gH p0 p1 m v15 r11 = some r) fuel ?_ ?_
  · refine ⟨0, ([] : List M.Item), 1, ?_, ?_, ?_, ?_, ?_, ?_, h⟩
    all_goals simp +decide only [F, reduceIte, Nat.reduceAdd, Bool.not_true, Bool.not_false, EN, *, -h]
  rintro mL1 s7 ⟨v15, r11, u11, f8, f9, f10, f11, f12, f13, h⟩
  rcases mL1 with _ | mL1
  · exact absurd h (by simp [gH])
  simp only [gH] at h
  refine sq (rn ?_)
  refine an (sq ?_)
  rcases aBO (decide (v15 < (List.length p0.Items : Int))) with b14 | b14
  · replace h := bI b14 h
    refine cf (xt (nE (pT (aAS (an (sq (rn ?_)))))))
    refine an (rt ?_)
    cases h
    simp [Ret, TB, EN, *]
  replace h := bJ b14 h
  refine ct (sk (an (sq (bk (sq ?_)))))
  obtain ⟨x15, h16, h⟩ := bind_some h
  obtain ⟨q17, q18, q19⟩ := aT h16
  refine rn ?_
  refine an (sq (sq ?_))
  obtain ⟨x20, h21, h⟩ := bind_some h
  refine rn1 (aQu _ _ _ h21) ?_
  refine an (sq (rn ?_))
  refine an ?_
  rcases dH (!x20.2) with b22 | b22
  · replace h := bJ b22 h
    refine ct (xt (nE (aAS (an (rn ?_)))))
    refine xX ⟨mL1, by omega, (IntKind.i64.wrap (v15 + 1)), r11, u11, ?_, ?_, ?_, ?_, ?_, ?_, h⟩
    all_goals simp +decide only [F, reduceIte, Nat.reduceAdd, Bool.not_true, Bool.not_false, EN, *, -h]
  replace h := bI b22 h
  refine cf (sk (an (sq (rn ?_))))
  refine an (sq (bk ?_))
  obtain ⟨k24, e25, h⟩ := aQb (f := fun kk => gN p1 r11 x15 kk fuel (List.length r11 : Int)) h
  refine lR (fun m s => ∃ v10_L2 : Int, s.t 1 = vS p1 ∧ s.t 5 = vR 100011 u11 ∧ s.t 7 = vP 7 ((s7.h 7).1 + 1) 0 ∧ s.t 10 = vI v10_L2 ∧ s.t 13 = vL M.Item.en p0.Items ∧ s.t 14 = vI (List.length p0.Items : Int) ∧ s.t 15 = vI v15 ∧ s.h 7 = (((s7.h 7).1 + 1), oX 287 (M.Item.en x15)) ∧ s.h 100011 = (u11, oW 287 4 M.Item.en r11) ∧ gN p1 r11 x15 k24 m v10_L2 = some r) fuel ?_ ?_
  · refine ⟨(List.length r11 : Int), ?_, ?_, ?_, ?_, ?_, ?_, ?_, ?_, ?_, h⟩
    all_goals simp +decide only [F, reduceIte, Nat.reduceAdd, Bool.not_true, Bool.not_false, EN, *, -h]
  rintro mL2 s23 ⟨v10_L2, f26, f27, f28, f29, f30, f31, f32, f33, f34, h⟩
  rcases mL2 with _ | mL2
  · exact absurd h (by simp [gN])
  simp only [gN] at h
  refine sq (sq ?_)
  rcases aBO (decide (v10_L2 > 0)) with b35 | b35
  · replace h := bI b35 h
    refine rd mixed ?_
    refine an (cf (xt (nE ?_)))
    subst e25
    refine pT (aAS (an ?_))
    obtain ⟨x55, h56, h⟩ := bind_some h
    obtain ⟨x57, h58, h⟩ := bind_some h
    apply zF
    · simp +decide only [E, reduceIte, Nat.reduceAdd, Nat.reduceMul, Bool.not_true, Bool.not_false, ← List.map_take, ← List.map_drop, L, aB7, aB6, M.Item.en, EN, b14, q17, q18, q19, b22, f26, f27, f28, f29, f30, f31, f32, f33, f34, b35]
      refine ⟨_, aP9 _ _ h56, ?_⟩
      try simp +decide only [E, reduceIte, Nat.reduceAdd, Nat.reduceMul, Bool.not_true, Bool.not_false, ← List.map_take, ← List.map_drop, L, aB7, aB6, M.Item.en, EN, b14, q17, q18, q19, b22, f26, f27, f28, f29, f30, f31, f32, f33, f34, b35]
      refine ⟨_, L394.aPT _, ?_⟩
      try simp +decide only [E, reduceIte, Nat.reduceAdd, Nat.reduceMul, Bool.not_true, Bool.not_false, ← List.map_take, ← List.map_drop, L, aB7, aB6, M.Item.en, EN, b14, q17, q18, q19, b22, f26, f27, f28, f29, f30, f31, f32, f33, f34, b35]
      refine ⟨by (have hb := aIS h58); simp [M.Item.en, List.length_append] at hb ⊢ <;> omega, ?_⟩
      try simp +decide only [E, reduceIte, Nat.reduceAdd, Nat.reduceMul, Bool.not_true, Bool.not_false, ← List.map_take, ← List.map_drop, L, aB7, aB6, M.Item.en, EN, b14, q17, q18, q19, b22, f26, f27, f28, f29, f30, f31, f32, f33, f34, b35]
      exact Is.mk _
    refine ab (an ?_)
    refine cu (fun s => s.t 1 = vS p1 ∧ s.t 5 = vR 100011 (u11 + 1) ∧ s.t 13 = vL M.Item.en p0.Items ∧ s.t 14 = vI (List.length p0.Items : Int) ∧ s.t 15 = vI v15 ∧ s.h 100011 = ((u11 + 1), oW 287 4 M.Item.en (List.take v10_L2.toNat r11 ++ ([x55] ++ List.drop v10_L2.toNat r11))) ∧ True) ?_
    rintro s59 ⟨f60, f61, f62, f63, f64, f65, _⟩
    refine rn ?_
    refine xX ⟨mL1, by omega, (IntKind.i64.wrap (v15 + 1)), (List.take v10_L2.toNat r11 ++ ([x55] ++ List.drop v10_L2.toNat r11)), (u11 + 1), ?_, ?_, ?_, ?_, ?_, ?_, h⟩
    all_goals simp +decide only [F, reduceIte, Nat.reduceAdd, Bool.not_true, Bool.not_false, EN, *, -h]
  replace h := bJ b35 h
  obtain ⟨x36, h37, h⟩ := bind_some h
  obtain ⟨q38, q39, q40⟩ := aT h37
  obtain ⟨x41, h42, h⟩ := bind_some h
  refine rd1 mixed (aQt _ _ _ _ h42) ?_
  refine an ?_
  rcases dH x41 with b43 | b43
  · replace h := bJ b43 h
    refine ct (sk (an (bk (rn ?_))))
    refine ab ?_
    refine xX ⟨mL2, by omega, (IntKind.i64.wrap (v10_L2 - 1)), ?_, ?_, ?_, ?_, ?_, ?_, ?_, ?_, ?_, h⟩
    all_goals simp +decide only [F, reduceIte, Nat.reduceAdd, Bool.not_true, Bool.not_false, EN, *, -h]
  replace h := bI b43 h
  refine cf (xt (nE ?_))
  subst e25
  refine pT (aAS (an ?_))
  obtain ⟨x44, h45, h⟩ := bind_some h
  obtain ⟨x46, h47, h⟩ := bind_some h
  apply zF
  · simp +decide only [E, reduceIte, Nat.reduceAdd, Nat.reduceMul, Bool.not_true, Bool.not_false, ← List.map_take, ← List.map_drop, L, aB7, aB6, M.Item.en, EN, b14, q17, q18, q19, b22, f26, f27, f28, f29, f30, f31, f32, f33, f34, b35, q38, q39, q40, b43]
    refine ⟨_, aP9 _ _ h45, ?_⟩
    try simp +decide only [E, reduceIte, Nat.reduceAdd, Nat.reduceMul, Bool.not_true, Bool.not_false, ← List.map_take, ← List.map_drop, L, aB7, aB6, M.Item.en, EN, b14, q17, q18, q19, b22, f26, f27, f28, f29, f30, f31, f32, f33, f34, b35, q38, q39, q40, b43]
    refine ⟨_, L394.aPT _, ?_⟩
    try simp +decide only [E, reduceIte, Nat.reduceAdd, Nat.reduceMul, Bool.not_true, Bool.not_false, ← List.map_take, ← List.map_drop, L, aB7, aB6, M.Item.en, EN, b14, q17, q18, q19, b22, f26, f27, f28, f29, f30, f31, f32, f33, f34, b35, q38, q39, q40, b43]
    refine ⟨by (have hb := aIS h47); simp [M.Item.en, List.length_append] at hb ⊢ <;> omega, ?_⟩
    try simp +decide only [E, reduceIte, Nat.reduceAdd, Nat.reduceMul, Bool.not_true, Bool.not_false, ← List.map_take, ← List.map_drop, L, aB7, aB6, M.Item.en, EN, b14, q17, q18, q19, b22, f26, f27, f28, f29, f30, f31, f32, f33, f34, b35, q38, q39, q40, b43]
    exact Is.mk _
  refine ab (an ?_)
  refine cu (fun s => s.t 1 = vS p1 ∧ s.t 5 = vR 100011 (u11 + 1) ∧ s.t 13 = vL M.Item.en p0.Items ∧ s.t 14 = vI (List.length p0.Items : Int) ∧ s.t 15 = vI v15 ∧ s.h 100011 = ((u11 + 1), oW 287 4 M.Item.en (List.take v10_L2.toNat r11 ++ ([x44] ++ List.drop v10_L2.toNat r11))) ∧ True) ?_
  rintro s48 ⟨f49, f50, f51, f52, f53, f54, _⟩
  refine rn ?_
  refine xX ⟨mL1, by omega, (IntKind.i64.wrap (v15 + 1)), (List.take v10_L2.toNat r11 ++ ([x44] ++ List.drop v10_L2.toNat r11)), (u11 + 1), ?_, ?_, ?_, ?_, ?_, ?_, h⟩
  all_goals simp +decide only [F, reduceIte, Nat.reduceAdd, Bool.not_true, Bool.not_false, EN, *, -h]
instance : bC 368 (type_of% @aVF) := ⟨@aVF⟩
theorem aQO (p0 p1 r) (h : gZ p0 p1 = some r) : Sc 321 [aX (M.aG.en p0), aS p1] [(true, M.Key.rs r.1), (true, M.Key.rs r.2.1), rB r.2.2] := by
 have i1 := fun (x1 : (List M.Item)) => inv fun m s => ∃ v8 : Int, (s.t 1 = vS p1 ∧ s.t 4 = vP 4 1 0 ∧ s.t 5 = vP 5 1 0 ∧ s.t 7 = vR 100015 1 ∧ s.t 8 = vI v8 ∧ s.h 4 = (1, oB 251 [cI 0, cI 0, cS (⟨#[]⟩ : ByteArray)]) ∧ s.h 5 = (1, oB 251 [cI 0, cI 0, cS (⟨#[]⟩ : ByteArray)]) ∧ s.h 100015 = (1, oW 287 4 M.Item.en x1)) ∧ eV p1 x1 m v8 = some r
 have e1 := @eV.eq_2
 unfold gZ at h
 exact sgo 59 [.cell 4 251, .cell 5 251, .tmp 6] Tryz.func321
instance : bC 321 (type_of% @aQO) := ⟨@aQO⟩
theorem aT4 (p0 r) (h : rT p0 = some r) : Sc 256 [aX (M.Database.en p0)] [rB r] := by
  unfold rT at h
  simp only [EN]
  refine sgn 103 [.tmp 2] Tryz.func256 fun base wd => ?_
  refine sq (rn ?_)
  refine an (sq (sq ?_))
  obtain ⟨x1, h2, h⟩ := bind_some h
  rcases dH (!x1) with b3 | b3
  · replace h := bJ b3 h
    refine rn1 (aNc _ _ h2) ?_
    refine an (ct (sq (rn ?_)))
    refine an (rt ?_)
    cases h
    simp [Ret, TB, EN, *]
  replace h := bI b3 h
  obtain ⟨x4, h5, h⟩ := bind_some h
  rcases dH (!x4) with b6 | b6
  · replace h := bJ b6 h
    refine rn2 (aNc _ _ h2) (aM7 _ _ _ _ h5) ?_
    refine an (ct (sq (rn ?_)))
    refine an (rt ?_)
    cases h
    simp [Ret, TB, EN, *]
  replace h := bI b6 h
  rcases dH (decide ((List.length p0.Stores : Int) > 4)) with b7 | b7
  · replace h := bJ b7 h
    refine rn2 (aNc _ _ h2) (aM7 _ _ _ _ h5) ?_
    refine an (ct (sq (rn ?_)))
    refine an (rt ?_)
    cases h
    simp [Ret, TB, EN, *]
  replace h := bI b7 h
  refine rn2 (aNc _ _ h2) (aM7 _ _ _ _ h5) ?_
  refine an ?_
  rcases dH (decide ((List.length p0.Unique : Int) > 4)) with b8 | b8
  · replace h := bJ b8 h
    refine ct (sq (rn ?_))
    refine an (rt ?_)
    cases h
    simp [Ret, TB, EN, *]
  replace h := bI b8 h
  refine cf (sk (an (sq (sq (rn ?_)))))
  refine an (bk ?_)
  refine lR (fun m s => ∃ v36 : Int, s.t 1 = vP 1 1 0 ∧ s.t 34 = vL M.aG.en p0.Stores ∧ s.t 35 = vI (List.length p0.Stores : Int) ∧ s.t 36 = vI v36 ∧ s.h 1 = (1, oX 201 (M.Database.en p0)) ∧ cY p0 m v36 = some r) fuel ?_ ?_
  · refine ⟨0, ?_, ?_, ?_, ?_, ?_, h⟩
    all_goals simp +decide only [F, reduceIte, Nat.reduceAdd, Bool.not_true, Bool.not_false, EN, *, -h]
  rintro mL1 s9 ⟨v36, f10, f11, f12, f13, f14, h⟩
  rcases mL1 with _ | mL1
  · exact absurd h (by simp [cY])
  simp only [cY] at h
  refine sq (rn ?_)
  refine an (sq ?_)
  rcases dH (decide (v36 < (List.length p0.Stores : Int))) with b15 | b15
  · replace h := bJ b15 h
    refine ct (sk (an (sq (bk (sq ?_)))))
    obtain ⟨x16, h17, h⟩ := bind_some h
    obtain ⟨q18, q19, q20⟩ := aT h17
    refine rn ?_
    refine an (sq ?_)
    obtain ⟨x21, h22, h⟩ := bind_some h
    rcases dH (!x21) with b23 | b23
    · replace h := bJ b23 h
      refine rd1 mixed (aP3 _ _ h22) ?_
      refine an (ct (sq (rn ?_)))
      refine an (rt ?_)
      cases h
      simp [Ret, TB, EN, *]
    replace h := bI b23 h
    rcases aBO (decide (v36 > 0)) with b24 | b24
    · replace h := bI b24 h
      refine rd1 mixed (aP3 _ _ h22) ?_
      refine an (cf (sk (ab (an (rn ?_)))))
      refine xX ⟨mL1, by omega, (IntKind.i64.wrap (v36 + 1)), ?_, ?_, ?_, ?_, ?_, h⟩
      all_goals simp +decide only [F, reduceIte, Nat.reduceAdd, Bool.not_true, Bool.not_false, EN, *, -h]
    replace h := bJ b24 h
    obtain ⟨x25, h26, h⟩ := bind_some h
    obtain ⟨q27, q28, q29⟩ := aT h26
    refine rd1 mixed (aP3 _ _ h22) ?_
    refine an ?_
    rcases dH (Op.bytesLess x16.Name.toList x25.Name.toList || x16.Name.toList == x25.Name.toList) with b30 | b30
    · replace h := bJ b30 h
      refine ct (sq (rn ?_))
      refine an (rt ?_)
      cases h
      simp [Ret, TB, EN, *]
    replace h := bI b30 h
    refine cf (sk (ab (an (rn ?_))))
    refine xX ⟨mL1, by omega, (IntKind.i64.wrap (v36 + 1)), ?_, ?_, ?_, ?_, ?_, h⟩
    all_goals simp +decide only [F, reduceIte, Nat.reduceAdd, Bool.not_true, Bool.not_false, EN, *, -h]
  replace h := bI b15 h
  refine cf (xt (nE (pT (aAS (an (sq (sq (rn ?_))))))))
  refine an (bk ?_)
  refine lR (fun m s => ∃ v64 : Int, s.t 1 = vP 1 1 0 ∧ s.t 62 = vL M.aA.en p0.Unique ∧ s.t 63 = vI (List.length p0.Unique : Int) ∧ s.t 64 = vI v64 ∧ s.h 1 = (1, oX 201 (M.Database.en p0)) ∧ dB p0 m v64 = some r) fuel ?_ ?_
  · refine ⟨0, ?_, ?_, ?_, ?_, ?_, h⟩
    all_goals simp +decide only [F, reduceIte, Nat.reduceAdd, Bool.not_true, Bool.not_false, EN, *, -h]
  rintro mL2 s31 ⟨v64, f32, f33, f34, f35, f36, h⟩
  rcases mL2 with _ | mL2
  · exact absurd h (by simp [dB])
  simp only [dB] at h
  refine sq (rn ?_)
  refine an (sq ?_)
  rcases aBO (decide (v64 < (List.length p0.Unique : Int))) with b37 | b37
  · replace h := bI b37 h
    refine cf (xt (nE (pT (aAS (an (sq (rn ?_)))))))
    refine an (rt ?_)
    cases h
    simp [Ret, TB, EN, *]
  replace h := bJ b37 h
  refine ct (sk (an (sq (bk (sq ?_)))))
  obtain ⟨x38, h39, h⟩ := bind_some h
  obtain ⟨q40, q41, q42⟩ := aT h39
  refine rn ?_
  refine an (sq ?_)
  obtain ⟨x43, h44, h⟩ := bind_some h
  refine rn1 (aQ2 _ _ _ h44) ?_
  refine an (sq (sq ?_))
  rcases dH (decide (x43 < 0)) with b45 | b45
  · replace h := bJ b45 h
    refine rd mixed ?_
    refine an (ct (sq (rn ?_)))
    refine an (rt ?_)
    cases h
    simp [Ret, TB, EN, *]
  replace h := bI b45 h
  obtain ⟨x46, h47, h⟩ := bind_some h
  rcases dH (!x46) with b48 | b48
  · replace h := bJ b48 h
    refine rd1 mixed (aNc _ _ h47) ?_
    refine an (ct (sq (rn ?_)))
    refine an (rt ?_)
    cases h
    simp [Ret, TB, EN, *]
  replace h := bI b48 h
  obtain ⟨x49, h50, h⟩ := bind_some h
  obtain ⟨x51, h52, h⟩ := bind_some h
  apply aIn mixed
  · simp +decide only [E, reduceIte, Nat.reduceAdd, Nat.reduceMul, Bool.not_true, Bool.not_false, ← List.map_take, ← List.map_drop, L, ti9, aLu, aLs, aLd, M.aA.en, EN, b3, b6, b7, b8, b15, f32, f33, f34, f35, f36, b37, q40, q41, q42, b45, b48]
    refine ⟨_, aNc _ _ h47, ?_⟩
    try simp +decide only [E, reduceIte, Nat.reduceAdd, Nat.reduceMul, Bool.not_true, Bool.not_false, ← List.map_take, ← List.map_drop, L, ti9, aLu, aLs, aLd, M.aA.en, EN, b3, b6, b7, b8, b15, f32, f33, f34, f35, f36, b37, q40, q41, q42, b45, b48]
    refine ⟨by first | exact aBs (f := M.aA.en) (n := 2) (fun _ => rfl) h50 | exact (aBs (f := M.aA.en) (n := 2) (fun _ => rfl) h50).2 | exact (aBs (f := M.aA.en) (n := 2) (fun _ => rfl) h50).2.2, ?_⟩
    try simp +decide only [E, reduceIte, Nat.reduceAdd, Nat.reduceMul, Bool.not_true, Bool.not_false, ← List.map_take, ← List.map_drop, L, ti9, aLu, aLs, aLd, M.aA.en, EN, b3, b6, b7, b8, b15, f32, f33, f34, f35, f36, b37, q40, q41, q42, b45, b48]
    refine ⟨_, aQV _ _ _ h52, ?_⟩
    try simp +decide only [E, reduceIte, Nat.reduceAdd, Nat.reduceMul, Bool.not_true, Bool.not_false, ← List.map_take, ← List.map_drop, L, ti9, aLu, aLs, aLd, M.aA.en, EN, b3, b6, b7, b8, b15, f32, f33, f34, f35, f36, b37, q40, q41, q42, b45, b48]
    exact ⟨.mk (by decide +kernel), Is.mk _⟩
  refine an ?_
  rcases dH x51 with b53 | b53
  · replace h := bJ b53 h
    refine ct (sq (rn ?_))
    refine an (rt ?_)
    cases h
    simp [Ret, TB, EN, *]
  replace h := bI b53 h
  refine cf (sk (an (sq ?_)))
  obtain ⟨x54, h55, h⟩ := bind_some h
  obtain ⟨q56, q57, q58⟩ := aT h55
  obtain ⟨x59, h60, h⟩ := bind_some h
  refine rd1 mixed (aQO _ _ _ h60) ?_
  refine an (sq (rn ?_))
  refine an ?_
  rcases dH x59.2.2 with b61 | b61
  · replace h := bJ b61 h
    refine ct (sq (rn ?_))
    refine an (rt ?_)
    cases h
    simp [Ret, TB, EN, *]
  replace h := bI b61 h
  refine cf (sk (ab (an (rn ?_))))
  refine xX ⟨mL2, by omega, (IntKind.i64.wrap (v64 + 1)), ?_, ?_, ?_, ?_, ?_, h⟩
  all_goals simp +decide only [F, reduceIte, Nat.reduceAdd, Bool.not_true, Bool.not_false, EN, *, -h]
instance : bC 256 (type_of% @aT4) := ⟨@aT4⟩
theorem aRV (p0 r) (h : jA p0 = some r) : Sc 191 [aX (M.aW.en p0)] [rB r] := by
 unfold jA at h
 exact sgo 26 [.tmp 2] Tryz.func191
instance : bC 191 (type_of% @aRV) := ⟨@aRV⟩
theorem aRo (p0 r) (h : xH p0 = some r) : Sc 322 [aX (M.aV.en p0)] [rB r] := by
 have i1 := inv fun m s => ∃ v12 : Int, (s.t 1 = vP 1 1 0 ∧ s.t 3 = vI (List.length p0.Writes : Int) ∧ s.t 10 = vL M.aW.en p0.Writes ∧ s.t 11 = vI (List.length p0.Writes : Int) ∧ s.t 12 = vI v12 ∧ s.h 1 = (1, oX 205 (M.aV.en p0))) ∧ iX p0 m v12 = some r
 have e1 := @iX.eq_2
 unfold xH at h
 exact sgo 51 [.tmp 2] Tryz.func322
instance : bC 322 (type_of% @aRo) := ⟨@aRo⟩
theorem aTv (p0 r) (h : tG p0 = some r) : Sc 257 [aX (M.aC.en p0)] [rB r] := by
 unfold tG at h
 exact sgo 23 [.tmp 2] Tryz.func257
instance : bC 257 (type_of% @aTv) := ⟨@aTv⟩
theorem aTK (p0 p1 r) (h : qS p0 p1 = some r) : Sc 370 [aX (M.Response.en p0), aB p1] [rI r] := by
 unfold qS at h
 exact sgo 10 [.tmp 4] Tryz.func370
instance : bC 370 (type_of% @aTK) := ⟨@aTK⟩
theorem aRO (p0 r) (h : qG p0 = some r) : Sc 323 [aX (M.aP.en p0)] [rI r] := by
 have i1 := inv fun m s => ∃ v3 : Int, ∃ v11 : Int, (s.t 3 = vI v3 ∧ s.t 9 = vL M.Cache.en p0.Caches ∧ s.t 10 = vI (List.length p0.Caches : Int) ∧ s.t 11 = vI v11) ∧ eJ p0 m v3 v11 = some r
 have e1 := @eJ.eq_2
 have i2 := fun (v11 : Int) (x7 : M.Cache) (k13 : Int → Int → Option Int) => inv fun m s => ∃ v3_L2 : Int, ∃ v18_L2 : Int, (s.t 3 = vI v3_L2 ∧ s.t 9 = vL M.Cache.en p0.Caches ∧ s.t 10 = vI (List.length p0.Caches : Int) ∧ s.t 11 = vI v11 ∧ s.t 16 = vL M.Cached.en x7.Entries ∧ s.t 17 = vI (List.length x7.Entries : Int) ∧ s.t 18 = vI v18_L2) ∧ gY x7 k13 m v3_L2 v18_L2 = some r
 have e2 := @gY.eq_2
 unfold qG at h
 exact sgo 34 [.tmp 2] Tryz.func323
instance : bC 323 (type_of% @aRO) := ⟨@aRO⟩
theorem aUe (p0 r) (h : tI p0 = some r) : Sc 372 [aX (M.Key.en p0)] [rW 5 1 enB r] := by
  unfold tI at h
  simp only [EN]
  refine sgn 34 [.tmp 2] Tryz.func372 fun base wd => ?_
  refine sq (rn ?_)
  refine an (sq (sq ?_))
  obtain ⟨x1, h2, h⟩ := bind_some h
  refine rn1 (aQN _ _ h2) ?_
  refine an ?_
  rcases dH (!x1) with b3 | b3
  · replace h := bJ b3 h
    refine ct (sq (rn ?_))
    refine an (rt ?_)
    cases h
    simp [Ret, TB, EN, *]
  replace h := bI b3 h
  refine cf (sk (an (sq (rn ?_))))
  refine an (sq (sq ?_))
  refine cu (fun s => s.t 1 = vP 1 1 0 ∧ s.t 3 = vR 100012 1 ∧ s.h 1 = (1, oX 251 (M.Key.en p0)) ∧ s.h 100012 = (1, oW 5 1 enB ([(IntKind.u8.wrap p0.Kind)])) ∧ True) ?_
  rintro s4 ⟨f5, f6, f7, f8, _⟩
  refine rn ?_
  refine an ?_
  rcases aBO (p0.Kind != 2) with b9 | b9
  · replace h := bI b9 h
    refine cf (sk (an (sq ?_)))
    obtain ⟨x28, h29, h⟩ := bind_some h
    refine rn1 h29 ?_
    refine an (rt ?_)
    cases h
    simp [Ret, TB, EN, *]
  replace h := bJ b9 h
  refine ct (sq (rn ?_))
  refine an (bk ?_)
  refine lR (fun m s => ∃ v4 : Int, ∃ r12 : List Int, ∃ u12 : Nat, s.t 1 = vP 1 1 0 ∧ s.t 3 = vR 100012 u12 ∧ s.t 4 = vI v4 ∧ s.h 1 = (1, oX 251 (M.Key.en p0)) ∧ s.h 100012 = (u12, oW 5 1 enB r12) ∧ dU p0 m v4 r12 = some r) fuel ?_ ?_
  · refine ⟨5, ([(IntKind.u8.wrap p0.Kind)]), 1, ?_, ?_, ?_, ?_, ?_, h⟩
    all_goals simp +decide only [F, reduceIte, Nat.reduceAdd, Bool.not_true, Bool.not_false, EN, *, -h]
  rintro mL1 s10 ⟨v4, r12, u12, f11, f12, f13, f14, f15, h⟩
  rcases mL1 with _ | mL1
  · exact absurd h (by simp [dU])
  simp only [dU] at h
  refine sq (sq (rn ?_))
  refine an ?_
  rcases aBO (decide (v4 ≥ 0)) with b16 | b16
  · replace h := bI b16 h
    refine cf (xt (nE (pT (aAS (an (sq ?_))))))
    obtain ⟨x26, h27, h⟩ := bind_some h
    refine rn1 h27 ?_
    refine an (rt ?_)
    cases h
    simp [Ret, TB, EN, *]
  replace h := bJ b16 h
  refine ct (sk (an (sq (bk ?_))))
  rcases aBO (decide (0 ≤ (IntKind.i64.wrap (8 * v4)))) with b17 | b17
  · replace h := bI b17 h
    cases h
  replace h := bJ b17 h
  obtain ⟨x18, h19, h⟩ := bind_some h
  apply zF
  · simp +decide only [E, reduceIte, Nat.reduceAdd, Nat.reduceMul, Bool.not_true, Bool.not_false, aEy, L, ti3, ti5, aHl, aLS, enB, EN, b3, b9, f11, f12, f13, f14, f15, b16, b17]
    refine ⟨by (have hb := kD h19); simp [enB, List.length_append, bB] at hb ⊢ <;> omega, ?_⟩
    try simp +decide only [E, reduceIte, Nat.reduceAdd, Nat.reduceMul, Bool.not_true, Bool.not_false, aEy, L, ti3, ti5, aHl, aLS, enB, EN, b3, b9, f11, f12, f13, f14, f15, b16, b17]
    exact Is.mk _
  refine ab (an ?_)
  refine cu (fun s => s.t 1 = vP 1 1 0 ∧ s.t 3 = vR 100012 (u12 + 1) ∧ s.t 4 = vI v4 ∧ s.h 1 = (1, oX 251 (M.Key.en p0)) ∧ s.h 100012 = ((u12 + 1), oW 5 1 enB (r12 ++ [(IntKind.u8.wrap (Int.fdiv (IntKind.i64.wrap (p0.N + 1000000000000)) (2 ^ (min (IntKind.i64.wrap (8 * v4)).toNat IntKind.i64.bits))))])) ∧ True) ?_
  rintro s20 ⟨f21, f22, f23, f24, f25, _⟩
  refine rn ?_
  refine xX ⟨mL1, by omega, (IntKind.i64.wrap (v4 - 1)), (r12 ++ [(IntKind.u8.wrap (Int.fdiv (IntKind.i64.wrap (p0.N + 1000000000000)) (2 ^ (min (IntKind.i64.wrap (8 * v4)).toNat IntKind.i64.bits))))]), (u12 + 1), ?_, ?_, ?_, ?_, ?_, h⟩
  all_goals simp +decide only [F, reduceIte, Nat.reduceAdd, Bool.not_true, Bool.not_false, EN, *, -h]
instance : bC 372 (type_of% @aUe) := ⟨@aUe⟩
theorem aTj (p0 p1 r) (h : gX p0 p1 = some r) : Sc 396 [aL enB p0, aI p1] [rW 5 1 enB r] := by
 have i1 := inv fun m s => ∃ v1 : Int, ∃ r7 : List Int, ∃ u7 : Nat, (s.t 1 = vI v1 ∧ s.t 5 = vR 100007 u7 ∧ s.h 100007 = (u7, oW 5 1 enB r7)) ∧ fC m v1 r7 = some r
 have e1 := @fC.eq_2
 unfold gX at h
 exact sgo 28 [.tmp 4] Tryz.func396
instance : bC 396 (type_of% @aTj) := ⟨@aTj⟩
theorem aTd (p0 p1 r) (h : pI p0 p1 = some r) : Sc 397 [aL enB p0, aL enB p1] [rW 5 1 enB r] := by
 unfold pI at h
 exact sgo 11 [.tmp 4] Tryz.func397
instance : bC 397 (type_of% @aTd) := ⟨@aTd⟩
theorem aUO (p0 r) (h : mN p0 = some r) : Sc 373 [aX (M.aU.en p0)] [rW 5 1 enB r] := by
 have i1 := aKy [.t 3 7050000 5 1] fun m s => ∃ v17 : Int, ∃ r50000 : List Int, ∃ u50000 : Nat, (s.t 3 = vR 7050000 u50000 ∧ s.t 15 = vL M.Field.en p0.Fields ∧ s.t 16 = vI (List.length p0.Fields : Int) ∧ s.t 17 = vI v17 ∧ s.h 7050000 = (u50000, oW 5 1 enB r50000)) ∧ fR p0 m v17 r50000 = some r
 have e1 := @fR.eq_2
 unfold mN at h
 exact sgo 31 [.tmp 2] Tryz.func373
instance : bC 373 (type_of% @aUO) := ⟨@aUO⟩
theorem aRJ (p0 r) (h : nP p0 = some r) : Sc 325 [aX (M.aG.en p0)] [rI r] := by
 have i1 := inv fun m s => ∃ v3 : Int, ∃ v9 : Int, (s.t 3 = vI v3 ∧ s.t 7 = vL M.Item.en p0.Items ∧ s.t 8 = vI (List.length p0.Items : Int) ∧ s.t 9 = vI v9) ∧ hZ p0 m v3 v9 = some r
 have e1 := @hZ.eq_2
 unfold nP at h
 exact sgo 26 [.tmp 2] Tryz.func325
instance : bC 325 (type_of% @aRJ) := ⟨@aRJ⟩
theorem aTf (p0 r) (h : mP p0 = some r) : Sc 371 [aX (M.Database.en p0)] [rI r] := by
 have i1 := inv fun m s => ∃ v3 : Int, ∃ v9 : Int, (s.t 3 = vI v3 ∧ s.t 7 = vL M.aG.en p0.Stores ∧ s.t 8 = vI (List.length p0.Stores : Int) ∧ s.t 9 = vI v9) ∧ fP p0 m v3 v9 = some r
 have e1 := @fP.eq_2
 unfold mP at h
 exact sgo 19 [.tmp 2] Tryz.func371
instance : bC 371 (type_of% @aTf) := ⟨@aTf⟩
theorem aTl (p0 r) (h : aBH p0 = some r) : Sc 324 [aX (M.bF.en p0)] [rI r] := by
 unfold aBH at h
 exact sgo 10 [.tmp 2] Tryz.func324
instance : bC 324 (type_of% @aTl) := ⟨@aTl⟩
theorem aT8 (p0 r) (h : aAJ p0 = some r) : Sc 258 [aX (M.aE.en p0)] [rI r] := by
 unfold aAJ at h
 exact sgo 23 [.tmp 2] Tryz.func258
instance : bC 258 (type_of% @aT8) := ⟨@aT8⟩
theorem aVD (p0 r) (h : qI p0 = some r) : Sc 185 [aX (M.aE.en p0)] [rB r] := by
 unfold qI at h
 exact sgo 50 [.tmp 2] Tryz.func185
instance : bC 185 (type_of% @aVD) := ⟨@aVD⟩
theorem aU1 (p0 p1 r) (h : mL p0 p1 = some r) : Sc 186 [aX (M.aE.en p0), aX (M.aE.en p1)] [rB r] := by
 unfold mL at h
 exact sgo 24 [.tmp 4] Tryz.func186
instance : bC 186 (type_of% @aU1) := ⟨@aU1⟩
theorem aRd (p0 r) (h : nQ p0 = some r) : Sc 105 [aX (M.aK.en p0)] [rB r] := by
 have i1 := inv fun m s => ∃ v8 : Int, (s.t 1 = vP 1 1 0 ∧ s.t 6 = vL M.aE.en p0.Buckets ∧ s.t 7 = vI (List.length p0.Buckets : Int) ∧ s.t 8 = vI v8 ∧ s.h 1 = (1, oX 39 (M.aK.en p0))) ∧ eZ p0 m v8 = some r
 have e1 := @eZ.eq_2
 unfold nQ at h
 exact sgo 36 [.tmp 2] Tryz.func105
instance : bC 105 (type_of% @aRd) := ⟨@aRd⟩
theorem aQF (p0 r) (h : qP p0 = some r) : Sc 187 [aS p0] [rB r] := by
 unfold qP at h
 exact sgo 5 [.tmp 2] Tryz.func187
instance : bC 187 (type_of% @aQF) := ⟨@aQF⟩
theorem aTH (p0 r) (h : oH p0 = some r) : Sc 106 [aX (M.aR.en p0)] [rB r] := by
  unfold oH at h
  simp only [EN]
  refine sgn 64 [.tmp 2] Tryz.func106 fun base wd => ?_
  refine sq (rn ?_)
  refine an (sq (sq (rn ?_)))
  refine an (bk ?_)
  refine lR (fun m s => ∃ v10 : Int, s.t 1 = vP 1 1 0 ∧ s.t 8 = vL M.cF.en p0.Locks ∧ s.t 9 = vI (List.length p0.Locks : Int) ∧ s.t 10 = vI v10 ∧ s.h 1 = (1, oX 43 (M.aR.en p0)) ∧ dJ p0 m v10 = some r) fuel ?_ ?_
  · refine ⟨0, ?_, ?_, ?_, ?_, ?_, h⟩
    all_goals simp +decide only [F, reduceIte, Nat.reduceAdd, Bool.not_true, Bool.not_false, EN, *, -h]
  rintro mL1 s1 ⟨v10, f2, f3, f4, f5, f6, h⟩
  rcases mL1 with _ | mL1
  · exact absurd h (by simp [dJ])
  simp only [dJ] at h
  refine sq (rn ?_)
  refine an (sq ?_)
  rcases aBO (decide (v10 < (List.length p0.Locks : Int))) with b7 | b7
  · replace h := bI b7 h
    refine cf (xt (nE (pT (aAS (an (sq (rn ?_)))))))
    refine an (rt ?_)
    cases h
    simp [Ret, TB, EN, *]
  replace h := bJ b7 h
  refine ct (sk (an (sq (bk (sq ?_)))))
  obtain ⟨x8, h9, h⟩ := bind_some h
  obtain ⟨q10, q11, q12⟩ := aT h9
  refine rn ?_
  refine an (sq (sq ?_))
  obtain ⟨x13, h14, h⟩ := bind_some h
  rcases dH (!x13) with b15 | b15
  · replace h := bJ b15 h
    refine rn1 (aQF _ _ h14) ?_
    refine an (ct (sq (rn ?_)))
    refine an (rt ?_)
    cases h
    simp [Ret, TB, EN, *]
  replace h := bI b15 h
  obtain ⟨x16, h17, h⟩ := bind_some h
  refine rn2 (aQF _ _ h14) (aM7 _ _ _ _ h17) ?_
  refine an ?_
  rcases dH (!x16) with b18 | b18
  · replace h := bJ b18 h
    refine ct (sq (rn ?_))
    refine an (rt ?_)
    cases h
    simp [Ret, TB, EN, *]
  replace h := bI b18 h
  refine cf (sk (an (sq ?_)))
  obtain ⟨x19, h20, h⟩ := bind_some h
  apply zF
  · simp +decide only [E, reduceIte, Nat.reduceAdd, Nat.reduceMul, Bool.not_true, Bool.not_false, ← List.map_take, ← List.map_drop, L, aQE, aQD, aNe, M.cF.en, EN, f2, f3, f4, f5, f6, b7, q10, q11, q12, b15, b18]
    refine ⟨by first | exact aBs (f := M.cF.en) (n := 4) (fun _ => rfl) h20 | exact (aBs (f := M.cF.en) (n := 4) (fun _ => rfl) h20).2 | exact (aBs (f := M.cF.en) (n := 4) (fun _ => rfl) h20).2.2, ?_⟩
    try simp +decide only [E, reduceIte, Nat.reduceAdd, Nat.reduceMul, Bool.not_true, Bool.not_false, ← List.map_take, ← List.map_drop, L, aQE, aQD, aNe, M.cF.en, EN, f2, f3, f4, f5, f6, b7, q10, q11, q12, b15, b18]
    exact Is.mk _
  refine an (bk ?_)
  obtain ⟨k22, e23, h⟩ := aQb (f := fun kk => bL p0 v10 x8 kk fuel 0) h
  refine lR (fun m s => ∃ v30_L2 : Int, s.t 1 = vP 1 1 0 ∧ s.t 4 = vP 4 ((s1.h 4).1 + 1) 0 ∧ s.t 8 = vL M.cF.en p0.Locks ∧ s.t 9 = vI (List.length p0.Locks : Int) ∧ s.t 10 = vI v10 ∧ s.t 28 = vL M.cF.en (List.take v10.toNat p0.Locks) ∧ s.t 29 = vI (List.length (List.take v10.toNat p0.Locks) : Int) ∧ s.t 30 = vI v30_L2 ∧ s.h 1 = (1, oX 43 (M.aR.en p0)) ∧ s.h 4 = (((s1.h 4).1 + 1), oX 186 (M.cF.en x8)) ∧ bL p0 v10 x8 k22 m v30_L2 = some r) fuel ?_ ?_
  · refine ⟨0, ?_, ?_, ?_, ?_, ?_, ?_, ?_, ?_, ?_, ?_, h⟩
    all_goals simp +decide only [F, reduceIte, Nat.reduceAdd, Bool.not_true, Bool.not_false, EN, *, -h]
  rintro mL2 s21 ⟨v30_L2, f24, f25, f26, f27, f28, f29, f30, f31, f32, f33, h⟩
  rcases mL2 with _ | mL2
  · exact absurd h (by simp [bL])
  simp only [bL] at h
  refine sq (rn ?_)
  refine an (sq ?_)
  rcases aBO (decide (v30_L2 < (List.length (List.take v10.toNat p0.Locks) : Int))) with b34 | b34
  · replace h := bI b34 h
    refine cf (xt (nE ?_))
    subst e23
    refine pT (aAS (ab (an (rn ?_))))
    refine xX ⟨mL1, by omega, (IntKind.i64.wrap (v10 + 1)), ?_, ?_, ?_, ?_, ?_, h⟩
    all_goals simp +decide only [F, reduceIte, Nat.reduceAdd, Bool.not_true, Bool.not_false, EN, *, -h]
  replace h := bJ b34 h
  refine ct (sk (an (sq (bk (sq ?_)))))
  obtain ⟨x35, h36, h⟩ := bind_some h
  obtain ⟨q37, q38, q39⟩ := aT h36
  refine rn ?_
  refine an (sq ?_)
  rcases aBO (x35.Name.toList == x8.Name.toList) with b40 | b40
  · replace h := bI b40 h
    refine rn ?_
    refine an (cf (sk (ab (an (rn ?_)))))
    refine xX ⟨mL2, by omega, (IntKind.i64.wrap (v30_L2 + 1)), ?_, ?_, ?_, ?_, ?_, ?_, ?_, ?_, ?_, ?_, h⟩
    all_goals simp +decide only [F, reduceIte, Nat.reduceAdd, Bool.not_true, Bool.not_false, EN, *, -h]
  replace h := bJ b40 h
  rcases aBO x8.Held with b41 | b41
  · replace h := bI b41 h
    refine rn ?_
    refine an (cf (sk (ab (an (rn ?_)))))
    refine xX ⟨mL2, by omega, (IntKind.i64.wrap (v30_L2 + 1)), ?_, ?_, ?_, ?_, ?_, ?_, ?_, ?_, ?_, ?_, h⟩
    all_goals simp +decide only [F, reduceIte, Nat.reduceAdd, Bool.not_true, Bool.not_false, EN, *, -h]
  replace h := bJ b41 h
  rcases dH (!x35.Held) with b42 | b42
  · replace h := bJ b42 h
    refine rn ?_
    refine an (ct (sq (rn ?_)))
    refine an (rt ?_)
    cases h
    simp [Ret, TB, EN, *]
  replace h := bI b42 h
  rcases dH (!x8.Shared) with b43 | b43
  · replace h := bJ b43 h
    refine rn ?_
    refine an (ct (sq (rn ?_)))
    refine an (rt ?_)
    cases h
    simp [Ret, TB, EN, *]
  replace h := bI b43 h
  refine rn ?_
  refine an ?_
  rcases dH (!x35.Shared) with b44 | b44
  · replace h := bJ b44 h
    refine ct (sq (rn ?_))
    refine an (rt ?_)
    cases h
    simp [Ret, TB, EN, *]
  replace h := bI b44 h
  refine cf (sk (ab (an (rn ?_))))
  refine xX ⟨mL2, by omega, (IntKind.i64.wrap (v30_L2 + 1)), ?_, ?_, ?_, ?_, ?_, ?_, ?_, ?_, ?_, ?_, h⟩
  all_goals simp +decide only [F, reduceIte, Nat.reduceAdd, Bool.not_true, Bool.not_false, EN, *, -h]
instance : bC 106 (type_of% @aTH) := ⟨@aTH⟩
theorem aUB (p0 r) (h : sU p0 = some r) : Sc 107 [aX (M.bG.en p0)] [rB r] := by
 have i1 := inv fun m s => ∃ v8 : Int, (s.t 1 = vP 1 1 0 ∧ s.t 6 = vL M.aJ.en p0.aJ ∧ s.t 7 = vI (List.length p0.aJ : Int) ∧ s.t 8 = vI v8 ∧ s.h 1 = (1, oX 104 (M.bG.en p0))) ∧ lH p0 m v8 = some r
 have e1 := @lH.eq_2
 unfold sU at h
 exact sgo 48 [.tmp 2] Tryz.func107
instance : bC 107 (type_of% @aUB) := ⟨@aUB⟩
theorem aQi (p0 c0 c1 r) (h : mY p0 c0 c1 = some r) : Sc 190 [aX (M.aE.en p0), (false, [.ptr [.str c0]]), (false, [.ptr [.str c1]])] [rB r] := by
 unfold mY at h
 exact sgo 15 [.tmp 4] Tryz.func190
instance : bC 190 (type_of% @aQi) := ⟨@aQi⟩
theorem aQ1 (p0 : List M.aE) (p1 : M.aE → Option Bool) (f1_ : FuncId) (k1_ : List D) (hp1 : ∀ z0 r, p1 z0 = some r → rU Tryz.prog f1_ ((true, M.aE.en z0) ::  k1_.map fun c => (false, [c])) [(false, [.ro (.bool r)])]) (r : Int) (h : hP p0 p1 = some r) : Sc 189 [(false, [.sl (List.map M.aE.en p0)]), (false, [.fn f1_ k1_])] [rI r] := by
  unfold hP at h
  simp only [EN]
  refine sgn 19 [.tmp 4] Tryz.func189 fun base wd => ?_
  refine sq (rn ?_)
  refine an (sq (sq (rn ?_)))
  refine an (bk ?_)
  refine lR (fun m s => ∃ v8 : Int, s.t 0 = vL M.aE.en p0 ∧ s.t 1 = .v false [.dat (.fn f1_ k1_)] ∧ s.t 7 = vI (List.length p0 : Int) ∧ s.t 8 = vI v8 ∧ bR p0 p1 m v8 = some r) fuel ?_ ?_
  · refine ⟨0, ?_, ?_, ?_, ?_, h⟩
    all_goals simp +decide only [F, reduceIte, Nat.reduceAdd, Bool.not_true, Bool.not_false, EN, *, -h]
  rintro mL1 s1 ⟨v8, f2, f3, f4, f5, h⟩
  rcases mL1 with _ | mL1
  · exact absurd h (by simp [bR])
  simp only [bR] at h
  refine sq (rn ?_)
  refine an (sq ?_)
  rcases aBO (decide (v8 < (List.length p0 : Int))) with b6 | b6
  · replace h := bI b6 h
    refine cf (xt (nE (pT (aAS (an (sq (rn ?_)))))))
    refine an (rt ?_)
    cases h
    simp [Ret, TB, EN, *]
  replace h := bJ b6 h
  refine ct (sk (an (sq (bk (sq (rn ?_))))))
  refine an (sq ?_)
  obtain ⟨x7, h8, h⟩ := bind_some h
  obtain ⟨q9, q10, q11⟩ := aT h8
  obtain ⟨x12, h13, h⟩ := bind_some h
  refine rn1 (hp1 x7 x12 h13) ?_
  refine an ?_
  rcases dH x12 with b14 | b14
  · replace h := bJ b14 h
    refine ct (sq (rn ?_))
    refine an (rt ?_)
    cases h
    simp [Ret, TB, EN, *]
  replace h := bI b14 h
  refine cf (sk (ab (an (rn ?_))))
  refine xX ⟨mL1, by omega, (IntKind.i64.wrap (v8 + 1)), ?_, ?_, ?_, ?_, h⟩
  all_goals simp +decide only [F, reduceIte, Nat.reduceAdd, Bool.not_true, Bool.not_false, EN, *, -h]
instance : bC 189 (type_of% @aQ1) := ⟨@aQ1⟩
theorem aT6 (p0 p1 p2 r) (h : jI p0 p1 p2 = some r) : Sc 108 [aX (M.aK.en p0), aS p1, aS p2] [rI r] := by
  unfold jI at h
  simp only [EN]
  refine sgn 11 [.tmp 6] Tryz.func108 fun base wd => ?_
  refine sq (rn ?_)
  refine an (sq ?_)
  obtain ⟨x1, h2, h⟩ := bind_some h
  refine rn1 (aQ1 p0.Buckets (fun z0 => mY z0 p1 p2) 190 [.ptr [.str p1], .ptr [.str p2]] (fun z0 r hr => aQi z0 p1 p2 r hr) x1 h2) ?_
  refine an (rt ?_)
  cases h
  simp [Ret, TB, EN, *]
instance : bC 108 (type_of% @aT6) := ⟨@aT6⟩
end Go.Proofs.YtecmnmaaopkdfaaGreat.gen
