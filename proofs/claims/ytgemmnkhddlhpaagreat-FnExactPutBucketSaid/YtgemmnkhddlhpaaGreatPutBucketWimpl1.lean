/-
  Helper text: walks: each function's contract out of its model. No conditions beyond those of each contract.
-/
import Derived.Test.YtgemmnkhddlhpaaGreatPutBucketTi
import Derived.Test.YtgemmnkhddlhpaaGreatPutBucketWimpl0
import Derived.Test.YtgemmnkhddlhpaaGreatPutBucketWlib
namespace Go.Proofs.YtgemmnkhddlhpaaGreat.gen
open Go Go.Sh
set_option linter.unusedVariables false
set_option linter.unusedSimpArgs false
set_option maxRecDepth 20000
set_option maxHeartbeats 4000000
theorem c346 (p0 p1 r) (h : m_impl_IndexOn p0 p1 = some r) : Sc 346 [aX (M.Store.en p0), aS p1] [rW 315 4 M.Item.en r] := by
  unfold m_impl_IndexOn at h
  simp only [EN]
  refine sgn 52 [.tmp 4] Tryz.func346 fun base wd => ?_
  refine sq (rn ?_)
  refine an (sq (rn ?_))
  refine an (sq (sq ?_))
  refine cu (fun s => s.t 1 = vS p1 ∧ s.t 2 = vP 2 1 0 ∧ s.t 5 = vR 100011 1 ∧ s.h 2 = (1, oX 36 (M.Store.en p0)) ∧ s.h 100011 = (1, oW 315 4 M.Item.en ([] : List M.Item)) ∧ True) ?_
  rintro s1 ⟨f2, f3, f4, f5, f6, _⟩
  refine rn ?_
  refine an (bk ?_)
  refine SW_loop (fun m s => ∃ v15 : Int, ∃ r11 : List M.Item, ∃ u11 : Nat, s.t 1 = vS p1 ∧ s.t 5 = vR 100011 u11 ∧ s.t 13 = vL M.Item.en p0.Items ∧ s.t 14 = vI (List.length p0.Items : Int) ∧ s.t 15 = vI v15 ∧ s.h 100011 = (u11, oW 315 4 M.Item.en r11) ∧ m_impl_IndexOn_L1 p0 p1 m v15 r11 = some r) fuel ?_ ?_
  · refine ⟨0, ([] : List M.Item), 1, ?_, ?_, ?_, ?_, ?_, ?_, h⟩
    all_goals simp +decide only [F, reduceIte, Nat.reduceAdd, Bool.not_true, Bool.not_false, EN, *, -h]
  rintro mL1 s7 ⟨v15, r11, u11, f8, f9, f10, f11, f12, f13, h⟩
  rcases mL1 with _ | mL1
  · exact absurd h (by simp [m_impl_IndexOn_L1])
  simp only [m_impl_IndexOn_L1] at h
  refine sq (rn ?_)
  refine an (sq ?_)
  rcases bcas (decide (v15 < (List.length p0.Items : Int))) with b14 | b14
  · replace h := ite_f b14 h
    refine cf (xt (aft_cx (aft_ix (aft_x (an (sq (rn ?_)))))))
    refine an (rt ?_)
    cases h
    simp [Ret, TB, EN, *]
  replace h := ite_t b14 h
  refine ct (sk (an (sq (bk (sq ?_)))))
  obtain ⟨x15, h16, h⟩ := bind_some h
  obtain ⟨q17, q18, q19⟩ := idx_some h16
  refine rn ?_
  refine an (sq (sq ?_))
  obtain ⟨x20, h21, h⟩ := bind_some h
  refine rn1 (c141 _ _ _ h21) ?_
  refine an (sq (rn ?_))
  refine an ?_
  rcases bcase (!x20.2) with b22 | b22
  · replace h := ite_t b22 h
    refine ct (xt (aft_cx (aft_x (an (rn ?_)))))
    refine aft_i ⟨mL1, by omega, (IntKind.i64.wrap (v15 + 1)), r11, u11, ?_, ?_, ?_, ?_, ?_, ?_, h⟩
    all_goals simp +decide only [F, reduceIte, Nat.reduceAdd, Bool.not_true, Bool.not_false, EN, *, -h]
  replace h := ite_f b22 h
  refine cf (sk (an (sq (rn ?_))))
  refine an (sq (bk ?_))
  obtain ⟨k24, e25, h⟩ := absk (f := fun kk => m_impl_IndexOn_L2 p1 r11 x15 kk fuel (List.length r11 : Int)) h
  refine SW_loop (fun m s => ∃ v10_L2 : Int, s.t 1 = vS p1 ∧ s.t 5 = vR 100011 u11 ∧ s.t 7 = vP 7 ((s7.h 7).1 + 1) 0 ∧ s.t 10 = vI v10_L2 ∧ s.t 13 = vL M.Item.en p0.Items ∧ s.t 14 = vI (List.length p0.Items : Int) ∧ s.t 15 = vI v15 ∧ s.h 7 = (((s7.h 7).1 + 1), oX 315 (M.Item.en x15)) ∧ s.h 100011 = (u11, oW 315 4 M.Item.en r11) ∧ m_impl_IndexOn_L2 p1 r11 x15 k24 m v10_L2 = some r) fuel ?_ ?_
  · refine ⟨(List.length r11 : Int), ?_, ?_, ?_, ?_, ?_, ?_, ?_, ?_, ?_, h⟩
    all_goals simp +decide only [F, reduceIte, Nat.reduceAdd, Bool.not_true, Bool.not_false, EN, *, -h]
  rintro mL2 s23 ⟨v10_L2, f26, f27, f28, f29, f30, f31, f32, f33, f34, h⟩
  rcases mL2 with _ | mL2
  · exact absurd h (by simp [m_impl_IndexOn_L2])
  simp only [m_impl_IndexOn_L2] at h
  refine sq (sq ?_)
  rcases bcas (decide (v10_L2 > 0)) with b35 | b35
  · replace h := ite_f b35 h
    refine rd mixed ?_
    refine an (cf (xt (aft_cx ?_)))
    subst e25
    refine aft_ix (aft_x (an ?_))
    obtain ⟨x55, h56, h⟩ := bind_some h
    obtain ⟨x57, h58, h⟩ := bind_some h
    apply SW_run
    · simp +decide only [E, reduceIte, Nat.reduceAdd, Nat.reduceMul, Bool.not_true, Bool.not_false, ← List.map_take, ← List.map_drop, L, ti34, ti315, M.Item.en, EN, b14, q17, q18, q19, b22, f26, f27, f28, f29, f30, f31, f32, f33, f34, b35]
      refine ⟨_, c375 _ _ h56, ?_⟩
      try simp +decide only [E, reduceIte, Nat.reduceAdd, Nat.reduceMul, Bool.not_true, Bool.not_false, ← List.map_take, ← List.map_drop, L, ti34, ti315, M.Item.en, EN, b14, q17, q18, q19, b22, f26, f27, f28, f29, f30, f31, f32, f33, f34, b35]
      refine ⟨_, L401.ed401 _, ?_⟩
      try simp +decide only [E, reduceIte, Nat.reduceAdd, Nat.reduceMul, Bool.not_true, Bool.not_false, ← List.map_take, ← List.map_drop, L, ti34, ti315, M.Item.en, EN, b14, q17, q18, q19, b22, f26, f27, f28, f29, f30, f31, f32, f33, f34, b35]
      refine ⟨by (have hb := insAt_some h58); simp [M.Item.en, List.length_append] at hb ⊢ <;> omega, ?_⟩
      try simp +decide only [E, reduceIte, Nat.reduceAdd, Nat.reduceMul, Bool.not_true, Bool.not_false, ← List.map_take, ← List.map_drop, L, ti34, ti315, M.Item.en, EN, b14, q17, q18, q19, b22, f26, f27, f28, f29, f30, f31, f32, f33, f34, b35]
      exact Is.mk _
    refine ab (an ?_)
    refine cu (fun s => s.t 1 = vS p1 ∧ s.t 5 = vR 100011 (u11 + 1) ∧ s.t 13 = vL M.Item.en p0.Items ∧ s.t 14 = vI (List.length p0.Items : Int) ∧ s.t 15 = vI v15 ∧ s.h 100011 = ((u11 + 1), oW 315 4 M.Item.en (List.take v10_L2.toNat r11 ++ ([x55] ++ List.drop v10_L2.toNat r11))) ∧ True) ?_
    rintro s59 ⟨f60, f61, f62, f63, f64, f65, _⟩
    refine rn ?_
    refine aft_i ⟨mL1, by omega, (IntKind.i64.wrap (v15 + 1)), (List.take v10_L2.toNat r11 ++ ([x55] ++ List.drop v10_L2.toNat r11)), (u11 + 1), ?_, ?_, ?_, ?_, ?_, ?_, h⟩
    all_goals simp +decide only [F, reduceIte, Nat.reduceAdd, Bool.not_true, Bool.not_false, EN, *, -h]
  replace h := ite_t b35 h
  obtain ⟨x36, h37, h⟩ := bind_some h
  obtain ⟨q38, q39, q40⟩ := idx_some h37
  obtain ⟨x41, h42, h⟩ := bind_some h
  refine rd1 mixed (c400 _ _ _ _ h42) ?_
  refine an ?_
  rcases bcase x41 with b43 | b43
  · replace h := ite_t b43 h
    refine ct (sk (an (bk (rn ?_))))
    refine ab ?_
    refine aft_i ⟨mL2, by omega, (IntKind.i64.wrap (v10_L2 - 1)), ?_, ?_, ?_, ?_, ?_, ?_, ?_, ?_, ?_, h⟩
    all_goals simp +decide only [F, reduceIte, Nat.reduceAdd, Bool.not_true, Bool.not_false, EN, *, -h]
  replace h := ite_f b43 h
  refine cf (xt (aft_cx ?_))
  subst e25
  refine aft_ix (aft_x (an ?_))
  obtain ⟨x44, h45, h⟩ := bind_some h
  obtain ⟨x46, h47, h⟩ := bind_some h
  apply SW_run
  · simp +decide only [E, reduceIte, Nat.reduceAdd, Nat.reduceMul, Bool.not_true, Bool.not_false, ← List.map_take, ← List.map_drop, L, ti34, ti315, M.Item.en, EN, b14, q17, q18, q19, b22, f26, f27, f28, f29, f30, f31, f32, f33, f34, b35, q38, q39, q40, b43]
    refine ⟨_, c375 _ _ h45, ?_⟩
    try simp +decide only [E, reduceIte, Nat.reduceAdd, Nat.reduceMul, Bool.not_true, Bool.not_false, ← List.map_take, ← List.map_drop, L, ti34, ti315, M.Item.en, EN, b14, q17, q18, q19, b22, f26, f27, f28, f29, f30, f31, f32, f33, f34, b35, q38, q39, q40, b43]
    refine ⟨_, L401.ed401 _, ?_⟩
    try simp +decide only [E, reduceIte, Nat.reduceAdd, Nat.reduceMul, Bool.not_true, Bool.not_false, ← List.map_take, ← List.map_drop, L, ti34, ti315, M.Item.en, EN, b14, q17, q18, q19, b22, f26, f27, f28, f29, f30, f31, f32, f33, f34, b35, q38, q39, q40, b43]
    refine ⟨by (have hb := insAt_some h47); simp [M.Item.en, List.length_append] at hb ⊢ <;> omega, ?_⟩
    try simp +decide only [E, reduceIte, Nat.reduceAdd, Nat.reduceMul, Bool.not_true, Bool.not_false, ← List.map_take, ← List.map_drop, L, ti34, ti315, M.Item.en, EN, b14, q17, q18, q19, b22, f26, f27, f28, f29, f30, f31, f32, f33, f34, b35, q38, q39, q40, b43]
    exact Is.mk _
  refine ab (an ?_)
  refine cu (fun s => s.t 1 = vS p1 ∧ s.t 5 = vR 100011 (u11 + 1) ∧ s.t 13 = vL M.Item.en p0.Items ∧ s.t 14 = vI (List.length p0.Items : Int) ∧ s.t 15 = vI v15 ∧ s.h 100011 = ((u11 + 1), oW 315 4 M.Item.en (List.take v10_L2.toNat r11 ++ ([x44] ++ List.drop v10_L2.toNat r11))) ∧ True) ?_
  rintro s48 ⟨f49, f50, f51, f52, f53, f54, _⟩
  refine rn ?_
  refine aft_i ⟨mL1, by omega, (IntKind.i64.wrap (v15 + 1)), (List.take v10_L2.toNat r11 ++ ([x44] ++ List.drop v10_L2.toNat r11)), (u11 + 1), ?_, ?_, ?_, ?_, ?_, ?_, h⟩
  all_goals simp +decide only [F, reduceIte, Nat.reduceAdd, Bool.not_true, Bool.not_false, EN, *, -h]
instance : HasC 346 (type_of% @c346) := ⟨@c346⟩

theorem c260 (p0 p1 r) (h : m_impl_UniqueFault p0 p1 = some r) : Sc 260 [aX (M.Store.en p0), aS p1] [(true, M.Key.rs r.1), (true, M.Key.rs r.2.1), rB r.2.2] := by
 have i1 := fun (x1 : (List M.Item)) => inv fun m s => ∃ v8 : Int, (s.t 1 = vS p1 ∧ s.t 4 = vP 4 1 0 ∧ s.t 5 = vP 5 1 0 ∧ s.t 7 = vR 100015 1 ∧ s.t 8 = vI v8 ∧ s.h 4 = (1, oB 259 [cI 0, cI 0, cS (⟨#[]⟩ : ByteArray)]) ∧ s.h 5 = (1, oB 259 [cI 0, cI 0, cS (⟨#[]⟩ : ByteArray)]) ∧ s.h 100015 = (1, oW 315 4 M.Item.en x1)) ∧ m_impl_UniqueFault_L1 p1 x1 m v8 = some r
 have e1 := @m_impl_UniqueFault_L1.eq_2
 unfold m_impl_UniqueFault at h
 exact sgo 59 [.cell 4 259, .cell 5 259, .tmp 6] Tryz.func260
instance : HasC 260 (type_of% @c260) := ⟨@c260⟩

theorem c156 (p0 r) (h : m_impl_IsDatabase p0 = some r) : Sc 156 [aX (M.Database.en p0)] [rB r] := by
  unfold m_impl_IsDatabase at h
  simp only [EN]
  refine sgn 103 [.tmp 2] Tryz.func156 fun base wd => ?_
  refine sq (rn ?_)
  refine an (sq (sq ?_))
  obtain ⟨x1, h2, h⟩ := bind_some h
  rcases bcase (!x1) with b3 | b3
  · replace h := ite_t b3 h
    refine rn1 (c153 _ _ h2) ?_
    refine an (ct (sq (rn ?_)))
    refine an (rt ?_)
    cases h
    simp [Ret, TB, EN, *]
  replace h := ite_f b3 h
  obtain ⟨x4, h5, h⟩ := bind_some h
  rcases bcase (!x4) with b6 | b6
  · replace h := ite_t b6 h
    refine rn2 (c153 _ _ h2) (c158 _ _ _ _ h5) ?_
    refine an (ct (sq (rn ?_)))
    refine an (rt ?_)
    cases h
    simp [Ret, TB, EN, *]
  replace h := ite_f b6 h
  rcases bcase (decide ((List.length p0.Stores : Int) > 4)) with b7 | b7
  · replace h := ite_t b7 h
    refine rn2 (c153 _ _ h2) (c158 _ _ _ _ h5) ?_
    refine an (ct (sq (rn ?_)))
    refine an (rt ?_)
    cases h
    simp [Ret, TB, EN, *]
  replace h := ite_f b7 h
  refine rn2 (c153 _ _ h2) (c158 _ _ _ _ h5) ?_
  refine an ?_
  rcases bcase (decide ((List.length p0.Unique : Int) > 4)) with b8 | b8
  · replace h := ite_t b8 h
    refine ct (sq (rn ?_))
    refine an (rt ?_)
    cases h
    simp [Ret, TB, EN, *]
  replace h := ite_f b8 h
  refine cf (sk (an (sq (sq (rn ?_)))))
  refine an (bk ?_)
  refine SW_loop (fun m s => ∃ v36 : Int, s.t 1 = vP 1 1 0 ∧ s.t 34 = vL M.Store.en p0.Stores ∧ s.t 35 = vI (List.length p0.Stores : Int) ∧ s.t 36 = vI v36 ∧ s.h 1 = (1, oX 30 (M.Database.en p0)) ∧ m_impl_IsDatabase_L1 p0 m v36 = some r) fuel ?_ ?_
  · refine ⟨0, ?_, ?_, ?_, ?_, ?_, h⟩
    all_goals simp +decide only [F, reduceIte, Nat.reduceAdd, Bool.not_true, Bool.not_false, EN, *, -h]
  rintro mL1 s9 ⟨v36, f10, f11, f12, f13, f14, h⟩
  rcases mL1 with _ | mL1
  · exact absurd h (by simp [m_impl_IsDatabase_L1])
  simp only [m_impl_IsDatabase_L1] at h
  refine sq (rn ?_)
  refine an (sq ?_)
  rcases bcase (decide (v36 < (List.length p0.Stores : Int))) with b15 | b15
  · replace h := ite_t b15 h
    refine ct (sk (an (sq (bk (sq ?_)))))
    obtain ⟨x16, h17, h⟩ := bind_some h
    obtain ⟨q18, q19, q20⟩ := idx_some h17
    refine rn ?_
    refine an (sq ?_)
    obtain ⟨x21, h22, h⟩ := bind_some h
    rcases bcase (!x21) with b23 | b23
    · replace h := ite_t b23 h
      refine rd1 mixed (c258 _ _ h22) ?_
      refine an (ct (sq (rn ?_)))
      refine an (rt ?_)
      cases h
      simp [Ret, TB, EN, *]
    replace h := ite_f b23 h
    rcases bcas (decide (v36 > 0)) with b24 | b24
    · replace h := ite_f b24 h
      refine rd1 mixed (c258 _ _ h22) ?_
      refine an (cf (sk (ab (an (rn ?_)))))
      refine aft_i ⟨mL1, by omega, (IntKind.i64.wrap (v36 + 1)), ?_, ?_, ?_, ?_, ?_, h⟩
      all_goals simp +decide only [F, reduceIte, Nat.reduceAdd, Bool.not_true, Bool.not_false, EN, *, -h]
    replace h := ite_t b24 h
    obtain ⟨x25, h26, h⟩ := bind_some h
    obtain ⟨q27, q28, q29⟩ := idx_some h26
    refine rd1 mixed (c258 _ _ h22) ?_
    refine an ?_
    rcases bcase (Op.bytesLess x16.Name.toList x25.Name.toList || x16.Name.toList == x25.Name.toList) with b30 | b30
    · replace h := ite_t b30 h
      refine ct (sq (rn ?_))
      refine an (rt ?_)
      cases h
      simp [Ret, TB, EN, *]
    replace h := ite_f b30 h
    refine cf (sk (ab (an (rn ?_))))
    refine aft_i ⟨mL1, by omega, (IntKind.i64.wrap (v36 + 1)), ?_, ?_, ?_, ?_, ?_, h⟩
    all_goals simp +decide only [F, reduceIte, Nat.reduceAdd, Bool.not_true, Bool.not_false, EN, *, -h]
  replace h := ite_f b15 h
  refine cf (xt (aft_cx (aft_ix (aft_x (an (sq (sq (rn ?_))))))))
  refine an (bk ?_)
  refine SW_loop (fun m s => ∃ v64 : Int, s.t 1 = vP 1 1 0 ∧ s.t 62 = vL M.IndexDef.en p0.Unique ∧ s.t 63 = vI (List.length p0.Unique : Int) ∧ s.t 64 = vI v64 ∧ s.h 1 = (1, oX 30 (M.Database.en p0)) ∧ m_impl_IsDatabase_L2 p0 m v64 = some r) fuel ?_ ?_
  · refine ⟨0, ?_, ?_, ?_, ?_, ?_, h⟩
    all_goals simp +decide only [F, reduceIte, Nat.reduceAdd, Bool.not_true, Bool.not_false, EN, *, -h]
  rintro mL2 s31 ⟨v64, f32, f33, f34, f35, f36, h⟩
  rcases mL2 with _ | mL2
  · exact absurd h (by simp [m_impl_IsDatabase_L2])
  simp only [m_impl_IsDatabase_L2] at h
  refine sq (rn ?_)
  refine an (sq ?_)
  rcases bcas (decide (v64 < (List.length p0.Unique : Int))) with b37 | b37
  · replace h := ite_f b37 h
    refine cf (xt (aft_cx (aft_ix (aft_x (an (sq (rn ?_)))))))
    refine an (rt ?_)
    cases h
    simp [Ret, TB, EN, *]
  replace h := ite_t b37 h
  refine ct (sk (an (sq (bk (sq ?_)))))
  obtain ⟨x38, h39, h⟩ := bind_some h
  obtain ⟨q40, q41, q42⟩ := idx_some h39
  refine rn ?_
  refine an (sq ?_)
  obtain ⟨x43, h44, h⟩ := bind_some h
  refine rn1 (c240 _ _ _ h44) ?_
  refine an (sq (sq ?_))
  rcases bcase (decide (x43 < 0)) with b45 | b45
  · replace h := ite_t b45 h
    refine rd mixed ?_
    refine an (ct (sq (rn ?_)))
    refine an (rt ?_)
    cases h
    simp [Ret, TB, EN, *]
  replace h := ite_f b45 h
  obtain ⟨x46, h47, h⟩ := bind_some h
  rcases bcase (!x46) with b48 | b48
  · replace h := ite_t b48 h
    refine rd1 mixed (c153 _ _ h47) ?_
    refine an (ct (sq (rn ?_)))
    refine an (rt ?_)
    cases h
    simp [Ret, TB, EN, *]
  replace h := ite_f b48 h
  obtain ⟨x49, h50, h⟩ := bind_some h
  obtain ⟨x51, h52, h⟩ := bind_some h
  apply SW_runD mixed
  · simp +decide only [E, reduceIte, Nat.reduceAdd, Nat.reduceMul, Bool.not_true, Bool.not_false, ← List.map_take, ← List.map_drop, L, ti9, ti28, ti30, ti337, M.IndexDef.en, EN, b3, b6, b7, b8, b15, f32, f33, f34, f35, f36, b37, q40, q41, q42, b45, b48]
    refine ⟨_, c153 _ _ h47, ?_⟩
    try simp +decide only [E, reduceIte, Nat.reduceAdd, Nat.reduceMul, Bool.not_true, Bool.not_false, ← List.map_take, ← List.map_drop, L, ti9, ti28, ti30, ti337, M.IndexDef.en, EN, b3, b6, b7, b8, b15, f32, f33, f34, f35, f36, b37, q40, q41, q42, b45, b48]
    refine ⟨by first | exact slcHi_some (f := M.IndexDef.en) (n := 2) (fun _ => rfl) h50 | exact (slcHi_some (f := M.IndexDef.en) (n := 2) (fun _ => rfl) h50).2 | exact (slcHi_some (f := M.IndexDef.en) (n := 2) (fun _ => rfl) h50).2.2, ?_⟩
    try simp +decide only [E, reduceIte, Nat.reduceAdd, Nat.reduceMul, Bool.not_true, Bool.not_false, ← List.map_take, ← List.map_drop, L, ti9, ti28, ti30, ti337, M.IndexDef.en, EN, b3, b6, b7, b8, b15, f32, f33, f34, f35, f36, b37, q40, q41, q42, b45, b48]
    refine ⟨_, c259 _ _ _ h52, ?_⟩
    try simp +decide only [E, reduceIte, Nat.reduceAdd, Nat.reduceMul, Bool.not_true, Bool.not_false, ← List.map_take, ← List.map_drop, L, ti9, ti28, ti30, ti337, M.IndexDef.en, EN, b3, b6, b7, b8, b15, f32, f33, f34, f35, f36, b37, q40, q41, q42, b45, b48]
    exact ⟨.mk (by decide +kernel), Is.mk _⟩
  refine an ?_
  rcases bcase x51 with b53 | b53
  · replace h := ite_t b53 h
    refine ct (sq (rn ?_))
    refine an (rt ?_)
    cases h
    simp [Ret, TB, EN, *]
  replace h := ite_f b53 h
  refine cf (sk (an (sq ?_)))
  obtain ⟨x54, h55, h⟩ := bind_some h
  obtain ⟨q56, q57, q58⟩ := idx_some h55
  obtain ⟨x59, h60, h⟩ := bind_some h
  refine rd1 mixed (c260 _ _ _ h60) ?_
  refine an (sq (rn ?_))
  refine an ?_
  rcases bcase x59.2.2 with b61 | b61
  · replace h := ite_t b61 h
    refine ct (sq (rn ?_))
    refine an (rt ?_)
    cases h
    simp [Ret, TB, EN, *]
  replace h := ite_f b61 h
  refine cf (sk (ab (an (rn ?_))))
  refine aft_i ⟨mL2, by omega, (IntKind.i64.wrap (v64 + 1)), ?_, ?_, ?_, ?_, ?_, h⟩
  all_goals simp +decide only [F, reduceIte, Nat.reduceAdd, Bool.not_true, Bool.not_false, EN, *, -h]
instance : HasC 156 (type_of% @c156) := ⟨@c156⟩

theorem c254 (p0 r) (h : m_impl_IsQueuedWrite p0 = some r) : Sc 254 [aX (M.Write.en p0)] [rB r] := by
 unfold m_impl_IsQueuedWrite at h
 exact sgo 26 [.tmp 2] Tryz.func254
instance : HasC 254 (type_of% @c254) := ⟨@c254⟩

theorem c152 (p0 r) (h : m_impl_IsOutbox p0 = some r) : Sc 152 [aX (M.Outbox.en p0)] [rB r] := by
 have i1 := inv fun m s => ∃ v12 : Int, (s.t 1 = vP 1 1 0 ∧ s.t 3 = vI (List.length p0.Writes : Int) ∧ s.t 10 = vL M.Write.en p0.Writes ∧ s.t 11 = vI (List.length p0.Writes : Int) ∧ s.t 12 = vI v12 ∧ s.h 1 = (1, oX 39 (M.Outbox.en p0))) ∧ m_impl_IsOutbox_L1 p0 m v12 = some r
 have e1 := @m_impl_IsOutbox_L1.eq_2
 unfold m_impl_IsOutbox at h
 exact sgo 51 [.tmp 2] Tryz.func152
instance : HasC 152 (type_of% @c152) := ⟨@c152⟩

theorem c157 (p0 r) (h : m_impl_IsReplica p0 = some r) : Sc 157 [aX (M.Replica.en p0)] [rB r] := by
 unfold m_impl_IsReplica at h
 exact sgo 23 [.tmp 2] Tryz.func157
instance : HasC 157 (type_of% @c157) := ⟨@c157⟩

theorem c347 (p0 p1 r) (h : m_impl_StoredSize p0 p1 = some r) : Sc 347 [aX (M.Response.en p0), aB p1] [rI r] := by
 unfold m_impl_StoredSize at h
 exact sgo 10 [.tmp 4] Tryz.func347
instance : HasC 347 (type_of% @c347) := ⟨@c347⟩

theorem c261 (p0 r) (h : m_impl_SizeCaches p0 = some r) : Sc 261 [aX (M.CacheSet.en p0)] [rI r] := by
 have i1 := inv fun m s => ∃ v3 : Int, ∃ v11 : Int, (s.t 3 = vI v3 ∧ s.t 9 = vL M.Cache.en p0.Caches ∧ s.t 10 = vI (List.length p0.Caches : Int) ∧ s.t 11 = vI v11) ∧ m_impl_SizeCaches_L1 p0 m v3 v11 = some r
 have e1 := @m_impl_SizeCaches_L1.eq_2
 have i2 := fun (v11 : Int) (x7 : M.Cache) (k13 : Int → Int → Option Int) => inv fun m s => ∃ v3_L2 : Int, ∃ v18_L2 : Int, (s.t 3 = vI v3_L2 ∧ s.t 9 = vL M.Cache.en p0.Caches ∧ s.t 10 = vI (List.length p0.Caches : Int) ∧ s.t 11 = vI v11 ∧ s.t 16 = vL M.Cached.en x7.Entries ∧ s.t 17 = vI (List.length x7.Entries : Int) ∧ s.t 18 = vI v18_L2) ∧ m_impl_SizeCaches_L2 x7 k13 m v3_L2 v18_L2 = some r
 have e2 := @m_impl_SizeCaches_L2.eq_2
 unfold m_impl_SizeCaches at h
 exact sgo 34 [.tmp 2] Tryz.func261
instance : HasC 261 (type_of% @c261) := ⟨@c261⟩

theorem c349 (p0 r) (h : m_impl_EncodeKey p0 = some r) : Sc 349 [aX (M.Key.en p0)] [rW 5 1 enB r] := by
  unfold m_impl_EncodeKey at h
  simp only [EN]
  refine sgn 34 [.tmp 2] Tryz.func349 fun base wd => ?_
  refine sq (rn ?_)
  refine an (sq (sq ?_))
  obtain ⟨x1, h2, h⟩ := bind_some h
  refine rn1 (c340 _ _ h2) ?_
  refine an ?_
  rcases bcase (!x1) with b3 | b3
  · replace h := ite_t b3 h
    refine ct (sq (rn ?_))
    refine an (rt ?_)
    cases h
    simp [Ret, TB, EN, *]
  replace h := ite_f b3 h
  refine cf (sk (an (sq (rn ?_))))
  refine an (sq (sq ?_))
  refine cu (fun s => s.t 1 = vP 1 1 0 ∧ s.t 3 = vR 100012 1 ∧ s.h 1 = (1, oX 259 (M.Key.en p0)) ∧ s.h 100012 = (1, oW 5 1 enB ([(IntKind.u8.wrap p0.Kind)])) ∧ True) ?_
  rintro s4 ⟨f5, f6, f7, f8, _⟩
  refine rn ?_
  refine an ?_
  rcases bcas (p0.Kind != 2) with b9 | b9
  · replace h := ite_f b9 h
    refine cf (sk (an (sq ?_)))
    obtain ⟨x28, h29, h⟩ := bind_some h
    refine rn1 h29 ?_
    refine an (rt ?_)
    cases h
    simp [Ret, TB, EN, *]
  replace h := ite_t b9 h
  refine ct (sq (rn ?_))
  refine an (bk ?_)
  refine SW_loop (fun m s => ∃ v4 : Int, ∃ r12 : List Int, ∃ u12 : Nat, s.t 1 = vP 1 1 0 ∧ s.t 3 = vR 100012 u12 ∧ s.t 4 = vI v4 ∧ s.h 1 = (1, oX 259 (M.Key.en p0)) ∧ s.h 100012 = (u12, oW 5 1 enB r12) ∧ m_impl_EncodeKey_L1 p0 m v4 r12 = some r) fuel ?_ ?_
  · refine ⟨5, ([(IntKind.u8.wrap p0.Kind)]), 1, ?_, ?_, ?_, ?_, ?_, h⟩
    all_goals simp +decide only [F, reduceIte, Nat.reduceAdd, Bool.not_true, Bool.not_false, EN, *, -h]
  rintro mL1 s10 ⟨v4, r12, u12, f11, f12, f13, f14, f15, h⟩
  rcases mL1 with _ | mL1
  · exact absurd h (by simp [m_impl_EncodeKey_L1])
  simp only [m_impl_EncodeKey_L1] at h
  refine sq (sq (rn ?_))
  refine an ?_
  rcases bcas (decide (v4 ≥ 0)) with b16 | b16
  · replace h := ite_f b16 h
    refine cf (xt (aft_cx (aft_ix (aft_x (an (sq ?_))))))
    obtain ⟨x26, h27, h⟩ := bind_some h
    refine rn1 h27 ?_
    refine an (rt ?_)
    cases h
    simp [Ret, TB, EN, *]
  replace h := ite_t b16 h
  refine ct (sk (an (sq (bk ?_))))
  rcases bcas (decide (0 ≤ (IntKind.i64.wrap (8 * v4)))) with b17 | b17
  · replace h := ite_f b17 h
    cases h
  replace h := ite_t b17 h
  obtain ⟨x18, h19, h⟩ := bind_some h
  apply SW_run
  · simp +decide only [E, reduceIte, Nat.reduceAdd, Nat.reduceMul, Bool.not_true, Bool.not_false, shr_ok, L, ti3, ti5, ti31, ti259, enB, EN, b3, b9, f11, f12, f13, f14, f15, b16, b17]
    refine ⟨by (have hb := app_some h19); simp [enB, List.length_append, strBytes_len] at hb ⊢ <;> omega, ?_⟩
    try simp +decide only [E, reduceIte, Nat.reduceAdd, Nat.reduceMul, Bool.not_true, Bool.not_false, shr_ok, L, ti3, ti5, ti31, ti259, enB, EN, b3, b9, f11, f12, f13, f14, f15, b16, b17]
    exact Is.mk _
  refine ab (an ?_)
  refine cu (fun s => s.t 1 = vP 1 1 0 ∧ s.t 3 = vR 100012 (u12 + 1) ∧ s.t 4 = vI v4 ∧ s.h 1 = (1, oX 259 (M.Key.en p0)) ∧ s.h 100012 = ((u12 + 1), oW 5 1 enB (r12 ++ [(IntKind.u8.wrap (Int.fdiv (IntKind.i64.wrap (p0.N + 1000000000000)) (2 ^ (min (IntKind.i64.wrap (8 * v4)).toNat IntKind.i64.bits))))])) ∧ True) ?_
  rintro s20 ⟨f21, f22, f23, f24, f25, _⟩
  refine rn ?_
  refine aft_i ⟨mL1, by omega, (IntKind.i64.wrap (v4 - 1)), (r12 ++ [(IntKind.u8.wrap (Int.fdiv (IntKind.i64.wrap (p0.N + 1000000000000)) (2 ^ (min (IntKind.i64.wrap (8 * v4)).toNat IntKind.i64.bits))))]), (u12 + 1), ?_, ?_, ?_, ?_, ?_, h⟩
  all_goals simp +decide only [F, reduceIte, Nat.reduceAdd, Bool.not_true, Bool.not_false, EN, *, -h]
instance : HasC 349 (type_of% @c349) := ⟨@c349⟩

theorem c388 (p0 p1 r) (h : m_impl_AppendUvarint p0 p1 = some r) : Sc 388 [aL enB p0, aI p1] [rW 5 1 enB r] := by
 have i1 := inv fun m s => ∃ v1 : Int, ∃ r7 : List Int, ∃ u7 : Nat, (s.t 1 = vI v1 ∧ s.t 5 = vR 100007 u7 ∧ s.h 100007 = (u7, oW 5 1 enB r7)) ∧ m_impl_AppendUvarint_L1 m v1 r7 = some r
 have e1 := @m_impl_AppendUvarint_L1.eq_2
 unfold m_impl_AppendUvarint at h
 exact sgo 28 [.tmp 4] Tryz.func388
instance : HasC 388 (type_of% @c388) := ⟨@c388⟩

theorem c389 (p0 p1 r) (h : m_impl_AppendBytes p0 p1 = some r) : Sc 389 [aL enB p0, aL enB p1] [rW 5 1 enB r] := by
 unfold m_impl_AppendBytes at h
 exact sgo 11 [.tmp 4] Tryz.func389
instance : HasC 389 (type_of% @c389) := ⟨@c389⟩

theorem c350 (p0 r) (h : m_impl_EncodeRecord p0 = some r) : Sc 350 [aX (M.Record.en p0)] [rW 5 1 enB r] := by
 have i1 := invM [.t 3 7050000 5 1] fun m s => ∃ v17 : Int, ∃ r50000 : List Int, ∃ u50000 : Nat, (s.t 3 = vR 7050000 u50000 ∧ s.t 15 = vL M.Field.en p0.Fields ∧ s.t 16 = vI (List.length p0.Fields : Int) ∧ s.t 17 = vI v17 ∧ s.h 7050000 = (u50000, oW 5 1 enB r50000)) ∧ m_impl_EncodeRecord_L1 p0 m v17 r50000 = some r
 have e1 := @m_impl_EncodeRecord_L1.eq_2
 unfold m_impl_EncodeRecord at h
 exact sgo 31 [.tmp 2] Tryz.func350
instance : HasC 350 (type_of% @c350) := ⟨@c350⟩

theorem c263 (p0 r) (h : m_impl_SizeStore p0 = some r) : Sc 263 [aX (M.Store.en p0)] [rI r] := by
 have i1 := inv fun m s => ∃ v3 : Int, ∃ v9 : Int, (s.t 3 = vI v3 ∧ s.t 7 = vL M.Item.en p0.Items ∧ s.t 8 = vI (List.length p0.Items : Int) ∧ s.t 9 = vI v9) ∧ m_impl_SizeStore_L1 p0 m v3 v9 = some r
 have e1 := @m_impl_SizeStore_L1.eq_2
 unfold m_impl_SizeStore at h
 exact sgo 26 [.tmp 2] Tryz.func263
instance : HasC 263 (type_of% @c263) := ⟨@c263⟩

theorem c348 (p0 r) (h : m_impl_SizeDatabase p0 = some r) : Sc 348 [aX (M.Database.en p0)] [rI r] := by
 have i1 := inv fun m s => ∃ v3 : Int, ∃ v9 : Int, (s.t 3 = vI v3 ∧ s.t 7 = vL M.Store.en p0.Stores ∧ s.t 8 = vI (List.length p0.Stores : Int) ∧ s.t 9 = vI v9) ∧ m_impl_SizeDatabase_L1 p0 m v3 v9 = some r
 have e1 := @m_impl_SizeDatabase_L1.eq_2
 unfold m_impl_SizeDatabase at h
 exact sgo 19 [.tmp 2] Tryz.func348
instance : HasC 348 (type_of% @c348) := ⟨@c348⟩

theorem c262 (p0 r) (h : m_impl_SizeDisk p0 = some r) : Sc 262 [aX (M.Disk.en p0)] [rI r] := by
 unfold m_impl_SizeDisk at h
 exact sgo 10 [.tmp 2] Tryz.func262
instance : HasC 262 (type_of% @c262) := ⟨@c262⟩

theorem c159 (p0 r) (h : m_impl_UsageOf p0 = some r) : Sc 159 [aX (M.Bucket.en p0)] [rI r] := by
 unfold m_impl_UsageOf at h
 exact sgo 23 [.tmp 2] Tryz.func159
instance : HasC 159 (type_of% @c159) := ⟨@c159⟩

theorem c57 (p0 r) (h : m_impl_IsBucket p0 = some r) : Sc 57 [aX (M.Bucket.en p0)] [rB r] := by
 unfold m_impl_IsBucket at h
 exact sgo 50 [.tmp 2] Tryz.func57
instance : HasC 57 (type_of% @c57) := ⟨@c57⟩

theorem c127 (p0 r) (h : m_impl_IsStorage p0 = some r) : Sc 127 [aX (M.Storage.en p0)] [rB r] := by
 have i1 := inv fun m s => ∃ v8 : Int, (s.t 1 = vP 1 1 0 ∧ s.t 6 = vL M.Bucket.en p0.Buckets ∧ s.t 7 = vI (List.length p0.Buckets : Int) ∧ s.t 8 = vI v8 ∧ s.h 1 = (1, oX 69 (M.Storage.en p0))) ∧ m_impl_IsStorage_L1 p0 m v8 = some r
 have e1 := @m_impl_IsStorage_L1.eq_2
 unfold m_impl_IsStorage at h
 exact sgo 36 [.tmp 2] Tryz.func127
instance : HasC 127 (type_of% @c127) := ⟨@c127⟩

theorem c45 (p0 p1 r) (h : m_impl_PutBucket p0 p1 = some r) : Sc 45 [aX (M.Storage.en p0), aX (M.Bucket.en p1)] [(true, M.Storage.rs r.1), rB r.2] := by
  unfold m_impl_PutBucket at h
  simp only [EN]
  refine sgn 60 [.cell 4 69, .tmp 5] Tryz.func45 fun base wd => ?_
  refine sq (rn ?_)
  refine an (sq ?_)
  obtain ⟨x1, h2, h⟩ := bind_some h
  refine rn1 (c122 _ _ h2) ?_
  refine an (sq (sq ?_))
  obtain ⟨x3, h4, h⟩ := bind_some h
  refine rn1 (c123 _ _ _ _ h4) ?_
  refine an (sq (rn ?_))
  refine an ?_
  rcases bcase (decide (x3 ≥ 0)) with b5 | b5
  · replace h := ite_t b5 h
    refine ct ?_
    obtain ⟨x6, h7, h⟩ := bind_some h
    obtain ⟨x8, h9, h⟩ := bind_some h
    obtain ⟨q10, q11, q12⟩ := idx_some h9
    refine rd1 mixed (c124 _ _ h7) ?_
    refine an (sq (sq ?_))
    refine cu (fun s => s.t 2 = vP 2 1 0 ∧ s.t 4 = vP 4 1 0 ∧ s.t 6 = vP 6 1 0 ∧ s.h 2 = (1, oX 69 (M.Storage.en p0)) ∧ s.h 4 = (1, oB 69 [.nil]) ∧ s.h 6 = (1, oB 69 [.row 100010 1]) ∧ s.h 100010 = (1, oW 45 24 M.Bucket.en (List.set x1.Buckets x3.toNat x6)) ∧ True) ?_
    rintro s13 ⟨f14, f15, f16, f17, f18, f19, f20, _⟩
    obtain ⟨x21, h22, h⟩ := bind_some h
    rcases bcase (!x21) with b23 | b23
    · replace h := ite_t b23 h
      refine rn1 (c127 _ _ h22) ?_
      refine an (ct (sq ?_))
      obtain ⟨x24, h25, h⟩ := bind_some h
      refine rn1 (c122 _ _ h25) ?_
      refine an (rt ?_)
      cases h
      simp [Ret, TB, EN, *]
    replace h := ite_f b23 h
    obtain ⟨x26, h27, h⟩ := bind_some h
    refine rn2 (c127 _ _ h22) (c127 _ _ h27) ?_
    refine an ?_
    rcases bcas (!x26) with b28 | b28
    · replace h := ite_f b28 h
      refine cf (sk (an (sq (rn ?_))))
      refine an (rt ?_)
      cases h
      simp [Ret, TB, EN, *]
    replace h := ite_t b28 h
    refine ct (sq ?_)
    obtain ⟨x29, h30, h⟩ := bind_some h
    refine rn1 (c122 _ _ h30) ?_
    refine an (rt ?_)
    cases h
    simp [Ret, TB, EN, *]
  replace h := ite_f b5 h
  refine cf (sq (rn ?_))
  refine an (sq (bk ?_))
  refine SW_loop (fun m s => ∃ v8 : Int, s.t 2 = vP 2 1 0 ∧ s.t 3 = vP 3 1 0 ∧ s.t 4 = vP 4 1 0 ∧ s.t 6 = vP 6 1 0 ∧ s.t 8 = vI v8 ∧ s.h 2 = (1, oX 69 (M.Storage.en p0)) ∧ s.h 3 = (1, oX 45 (M.Bucket.en p1)) ∧ s.h 4 = (1, oB 69 [.nil]) ∧ s.h 6 = (1, oB 69 [.row 100010 1]) ∧ s.h 100010 = (1, oW 45 24 M.Bucket.en x1.Buckets) ∧ m_impl_PutBucket_L1 p0 p1 x1 m v8 = some r) fuel ?_ ?_
  · refine ⟨0, ?_, ?_, ?_, ?_, ?_, ?_, ?_, ?_, ?_, ?_, h⟩
    all_goals simp +decide only [F, reduceIte, Nat.reduceAdd, Bool.not_true, Bool.not_false, EN, *, -h]
  rintro mL1 s31 ⟨v8, f32, f33, f34, f35, f36, f37, f38, f39, f40, f41, h⟩
  rcases mL1 with _ | mL1
  · exact absurd h (by simp [m_impl_PutBucket_L1])
  simp only [m_impl_PutBucket_L1] at h
  refine sq (sq ?_)
  rcases bcas (decide (v8 < (List.length x1.Buckets : Int))) with b42 | b42
  · replace h := ite_f b42 h
    refine rd mixed ?_
    refine an (cf (xt (aft_cx (aft_ix (aft_x (an ?_))))))
    obtain ⟨x73, h74, h⟩ := bind_some h
    obtain ⟨x75, h76, h⟩ := bind_some h
    apply SW_runD mixed
    · simp +decide only [E, reduceIte, Nat.reduceAdd, Nat.reduceMul, Bool.not_true, Bool.not_false, ← List.map_take, ← List.map_drop, L, ti45, ti67, ti69, M.Bucket.en, EN, b5, f32, f33, f34, f35, f36, f37, f38, f39, f40, f41, b42]
      refine ⟨_, c124 _ _ h74, ?_⟩
      try simp +decide only [E, reduceIte, Nat.reduceAdd, Nat.reduceMul, Bool.not_true, Bool.not_false, ← List.map_take, ← List.map_drop, L, ti45, ti67, ti69, M.Bucket.en, EN, b5, f32, f33, f34, f35, f36, f37, f38, f39, f40, f41, b42]
      refine ⟨_, L126.ed126 _, ?_⟩
      try simp +decide only [E, reduceIte, Nat.reduceAdd, Nat.reduceMul, Bool.not_true, Bool.not_false, ← List.map_take, ← List.map_drop, L, ti45, ti67, ti69, M.Bucket.en, EN, b5, f32, f33, f34, f35, f36, f37, f38, f39, f40, f41, b42]
      refine ⟨by (have hb := insAt_some h76); simp [M.Bucket.en, List.length_append] at hb ⊢ <;> omega, ?_⟩
      try simp +decide only [E, reduceIte, Nat.reduceAdd, Nat.reduceMul, Bool.not_true, Bool.not_false, ← List.map_take, ← List.map_drop, L, ti45, ti67, ti69, M.Bucket.en, EN, b5, f32, f33, f34, f35, f36, f37, f38, f39, f40, f41, b42]
      exact ⟨.mk (by decide +kernel), Is.mk _⟩
    refine an (sq (sq ?_))
    refine cu (fun s => s.t 2 = vP 2 1 0 ∧ s.t 4 = vP 4 1 0 ∧ s.t 6 = vP 6 1 0 ∧ s.h 2 = (1, oX 69 (M.Storage.en p0)) ∧ s.h 4 = (1, oB 69 [.nil]) ∧ s.h 6 = (1, oB 69 [.row 100010 2]) ∧ s.h 100010 = (2, oW 45 24 M.Bucket.en (List.take v8.toNat x1.Buckets ++ ([x73] ++ List.drop v8.toNat x1.Buckets))) ∧ True) ?_
    rintro s77 ⟨f78, f79, f80, f81, f82, f83, f84, _⟩
    obtain ⟨x85, h86, h⟩ := bind_some h
    rcases bcase (!x85) with b87 | b87
    · replace h := ite_t b87 h
      refine rn1 (c127 _ _ h86) ?_
      refine an (ct (sq ?_))
      obtain ⟨x88, h89, h⟩ := bind_some h
      refine rn1 (c122 _ _ h89) ?_
      refine an (rt ?_)
      cases h
      simp [Ret, TB, EN, *]
    replace h := ite_f b87 h
    obtain ⟨x90, h91, h⟩ := bind_some h
    refine rn2 (c127 _ _ h86) (c127 _ _ h91) ?_
    refine an ?_
    rcases bcas (!x90) with b92 | b92
    · replace h := ite_f b92 h
      refine cf (sk (an (sq (rn ?_))))
      refine an (rt ?_)
      cases h
      simp [Ret, TB, EN, *]
    replace h := ite_t b92 h
    refine ct (sq ?_)
    obtain ⟨x93, h94, h⟩ := bind_some h
    refine rn1 (c122 _ _ h94) ?_
    refine an (rt ?_)
    cases h
    simp [Ret, TB, EN, *]
  replace h := ite_t b42 h
  obtain ⟨x43, h44, h⟩ := bind_some h
  obtain ⟨q45, q46, q47⟩ := idx_some h44
  obtain ⟨x48, h49, h⟩ := bind_some h
  refine rd1 mixed (c125 _ _ _ h49) ?_
  refine an ?_
  rcases bcase x48 with b50 | b50
  · replace h := ite_t b50 h
    refine ct (sk (an (bk (rn ?_))))
    refine ab ?_
    refine aft_i ⟨mL1, by omega, (IntKind.i64.wrap (v8 + 1)), ?_, ?_, ?_, ?_, ?_, ?_, ?_, ?_, ?_, ?_, h⟩
    all_goals simp +decide only [F, reduceIte, Nat.reduceAdd, Bool.not_true, Bool.not_false, EN, *, -h]
  replace h := ite_f b50 h
  refine cf (xt (aft_cx (aft_ix (aft_x (an ?_)))))
  obtain ⟨x51, h52, h⟩ := bind_some h
  obtain ⟨x53, h54, h⟩ := bind_some h
  apply SW_runD mixed
  · simp +decide only [E, reduceIte, Nat.reduceAdd, Nat.reduceMul, Bool.not_true, Bool.not_false, ← List.map_take, ← List.map_drop, L, ti45, ti67, ti69, M.Bucket.en, EN, b5, f32, f33, f34, f35, f36, f37, f38, f39, f40, f41, b42, q45, q46, q47, b50]
    refine ⟨_, c124 _ _ h52, ?_⟩
    try simp +decide only [E, reduceIte, Nat.reduceAdd, Nat.reduceMul, Bool.not_true, Bool.not_false, ← List.map_take, ← List.map_drop, L, ti45, ti67, ti69, M.Bucket.en, EN, b5, f32, f33, f34, f35, f36, f37, f38, f39, f40, f41, b42, q45, q46, q47, b50]
    refine ⟨_, L126.ed126 _, ?_⟩
    try simp +decide only [E, reduceIte, Nat.reduceAdd, Nat.reduceMul, Bool.not_true, Bool.not_false, ← List.map_take, ← List.map_drop, L, ti45, ti67, ti69, M.Bucket.en, EN, b5, f32, f33, f34, f35, f36, f37, f38, f39, f40, f41, b42, q45, q46, q47, b50]
    refine ⟨by (have hb := insAt_some h54); simp [M.Bucket.en, List.length_append] at hb ⊢ <;> omega, ?_⟩
    try simp +decide only [E, reduceIte, Nat.reduceAdd, Nat.reduceMul, Bool.not_true, Bool.not_false, ← List.map_take, ← List.map_drop, L, ti45, ti67, ti69, M.Bucket.en, EN, b5, f32, f33, f34, f35, f36, f37, f38, f39, f40, f41, b42, q45, q46, q47, b50]
    exact ⟨.mk (by decide +kernel), Is.mk _⟩
  refine an (sq (sq ?_))
  refine cu (fun s => s.t 2 = vP 2 1 0 ∧ s.t 4 = vP 4 1 0 ∧ s.t 6 = vP 6 1 0 ∧ s.h 2 = (1, oX 69 (M.Storage.en p0)) ∧ s.h 4 = (1, oB 69 [.nil]) ∧ s.h 6 = (1, oB 69 [.row 100010 2]) ∧ s.h 100010 = (2, oW 45 24 M.Bucket.en (List.take v8.toNat x1.Buckets ++ ([x51] ++ List.drop v8.toNat x1.Buckets))) ∧ True) ?_
  rintro s55 ⟨f56, f57, f58, f59, f60, f61, f62, _⟩
  obtain ⟨x63, h64, h⟩ := bind_some h
  rcases bcase (!x63) with b65 | b65
  · replace h := ite_t b65 h
    refine rn1 (c127 _ _ h64) ?_
    refine an (ct (sq ?_))
    obtain ⟨x66, h67, h⟩ := bind_some h
    refine rn1 (c122 _ _ h67) ?_
    refine an (rt ?_)
    cases h
    simp [Ret, TB, EN, *]
  replace h := ite_f b65 h
  obtain ⟨x68, h69, h⟩ := bind_some h
  refine rn2 (c127 _ _ h64) (c127 _ _ h69) ?_
  refine an ?_
  rcases bcas (!x68) with b70 | b70
  · replace h := ite_f b70 h
    refine cf (sk (an (sq (rn ?_))))
    refine an (rt ?_)
    cases h
    simp [Ret, TB, EN, *]
  replace h := ite_t b70 h
  refine ct (sq ?_)
  obtain ⟨x71, h72, h⟩ := bind_some h
  refine rn1 (c122 _ _ h72) ?_
  refine an (rt ?_)
  cases h
  simp [Ret, TB, EN, *]
instance : HasC 45 (type_of% @c45) := ⟨@c45⟩

end Go.Proofs.YtgemmnkhddlhpaaGreat.gen
