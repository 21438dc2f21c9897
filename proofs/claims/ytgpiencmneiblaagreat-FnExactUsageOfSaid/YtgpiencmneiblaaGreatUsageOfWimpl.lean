/-
  Helper text: walks: each function's contract out of its model. No conditions beyond those of each contract.
-/
import Derived.Test.YtgpiencmneiblaaGreatUsageOfTi
namespace Go.Proofs.YtgpiencmneiblaaGreat.gen
open Go Go.Sh
set_option linter.unusedVariables false
set_option linter.unusedSimpArgs false
set_option maxHeartbeats 4000000 in
theorem c_impl_StoredSize (p0 : M.Response) (p1 : Bool) (r : Int) (h : m_impl_StoredSize p0 p1 = some r) : SCalls Tryz.prog 157 [(true, M.Response.en p0), (false, [.bool p1])] [(false, [.ro (.int .i64 r)])] := by
  unfold m_impl_StoredSize at h
  simp only [M.Response.en]
  refine scalls_n (N := 10) (vars := [.tmp 4]) Tryz.func157 rfl rfl rfl (by decide +kernel) (Nat.le_of_ble_eq_true rfl) fun base wd => ?_
  refine sq ?_
  apply SW_run
  · simp +decide only [E, reduceIte, Nat.reduceAdd, Nat.reduceMul, Bool.not_true, Bool.not_false, L]
    exact Is.mk _
  refine an (sq (sq ?_))
  apply SW_run
  · simp +decide only [E, reduceIte, Nat.reduceAdd, Nat.reduceMul, Bool.not_true, Bool.not_false, L]
    exact Is.mk _
  refine an ?_
  rcases bcase p1 with b1 | b1
  · replace h := ite_t b1 h
    refine SW_ct (by simp +decide only [F, reduceIte, Nat.reduceAdd, Bool.not_true, Bool.not_false, b1]) ?_
    refine sq ?_
    apply SW_run
    · simp +decide only [E, reduceIte, Nat.reduceAdd, Nat.reduceMul, Bool.not_true, Bool.not_false, L, b1]
      exact Is.mk _
    refine an (rt ?_)
    cases h
    simp [Ret, b1]
  replace h := ite_f b1 h
  refine SW_cf (by simp +decide only [F, reduceIte, Nat.reduceAdd, Bool.not_true, Bool.not_false, b1]) ?_
  refine sk (an (sq ?_))
  apply SW_run
  · simp +decide only [E, reduceIte, Nat.reduceAdd, Nat.reduceMul, Bool.not_true, Bool.not_false, L, ti31, ti187, b1]
    exact Is.mk _
  refine an (rt ?_)
  cases h
  simp [Ret, b1]

set_option maxHeartbeats 4000000 in
theorem c_impl_SizeCaches (p0 : M.CacheSet) (r : Int) (h : m_impl_SizeCaches p0 = some r) : SCalls Tryz.prog 75 [(true, M.CacheSet.en p0)] [(false, [.ro (.int .i64 r)])] := by
  unfold m_impl_SizeCaches at h
  simp only [M.CacheSet.en]
  refine scalls_n (N := 34) (vars := [.tmp 2]) Tryz.func75 rfl rfl rfl (by decide +kernel) (Nat.le_of_ble_eq_true rfl) fun base wd => ?_
  refine sq ?_
  apply SW_run
  · simp +decide only [E, reduceIte, Nat.reduceAdd, Nat.reduceMul, Bool.not_true, Bool.not_false, L]
    exact Is.mk _
  refine an (sq ?_)
  apply SW_run
  · simp +decide only [E, reduceIte, Nat.reduceAdd, Nat.reduceMul, Bool.not_true, Bool.not_false, L]
    exact Is.mk _
  refine an (sq (sq ?_))
  apply SW_run
  · simp +decide only [E, reduceIte, Nat.reduceAdd, Nat.reduceMul, Bool.not_true, Bool.not_false, L, ti49, ti51]
    exact Is.mk _
  refine an (bk ?_)
  refine SW_loop (fun m s => ∃ v3 : Int, ∃ v11 : Int, s.t 3 = .v false [.dat (.int .i64 v3)] ∧ s.t 9 = .v false [.dat (.sl (List.map M.Cache.en p0.Caches))] ∧ s.t 10 = .v false [.dat (.int .i64 (List.length p0.Caches : Int))] ∧ s.t 11 = .v false [.dat (.int .i64 v11)] ∧ m_impl_SizeCaches_L1 p0 m v3 v11 = some r) fuel ?_ ?_
  · refine ⟨0, 0, ?_, ?_, ?_, ?_, h⟩
    all_goals simp +decide only [F, reduceIte, Nat.reduceAdd, Bool.not_true, Bool.not_false]
  rintro mL1 s1 ⟨v3, v11, f2, f3, f4, f5, h⟩
  rcases mL1 with _ | mL1
  · exact absurd h (by simp [m_impl_SizeCaches_L1])
  simp only [m_impl_SizeCaches_L1] at h
  refine sq ?_
  apply SW_run
  · simp +decide only [E, reduceIte, Nat.reduceAdd, Nat.reduceMul, Bool.not_true, Bool.not_false, L, f2, f3, f4, f5]
    exact Is.mk _
  refine an (sq ?_)
  rcases bcas (decide (v11 < (List.length p0.Caches : Int))) with b6 | b6
  · replace h := ite_f b6 h
    refine SW_cf (by simp +decide only [F, reduceIte, Nat.reduceAdd, Bool.not_true, Bool.not_false, f2, f3, f4, f5, b6]) ?_
    refine xt (aft_cx (aft_ix (aft_x (an (sq ?_)))))
    apply SW_run
    · simp +decide only [E, reduceIte, Nat.reduceAdd, Nat.reduceMul, Bool.not_true, Bool.not_false, L, f2, f3, f4, f5, b6]
      exact Is.mk _
    refine an (rt ?_)
    cases h
    simp [Ret, f2, f3, f4, f5, b6]
  replace h := ite_t b6 h
  refine SW_ct (by simp +decide only [F, reduceIte, Nat.reduceAdd, Bool.not_true, Bool.not_false, f2, f3, f4, f5, b6]) ?_
  refine sk (an (sq (bk (sq ?_))))
  obtain ⟨x7, h8, h⟩ := bind_some h
  obtain ⟨q9, q10, q11⟩ := idx_some h8
  apply SW_run
  · simp +decide only [E, reduceIte, Nat.reduceAdd, Nat.reduceMul, Bool.not_true, Bool.not_false, L, ti49, ti185, M.Cache.en, f2, f3, f4, f5, b6, q9, q10, q11]
    exact Is.mk _
  refine an (sq ?_)
  apply SW_run
  · simp +decide only [E, reduceIte, Nat.reduceAdd, Nat.reduceMul, Bool.not_true, Bool.not_false, L, ti183, ti185, f2, f3, f4, f5, b6, q9, q10, q11]
    exact Is.mk _
  refine an (bk ?_)
  obtain ⟨k13, e14, h⟩ := absk (f := fun kk => m_impl_SizeCaches_L2 x7 kk fuel v3 0) h
  refine SW_loop (fun m s => ∃ v3_L2 : Int, ∃ v18_L2 : Int, s.t 3 = .v false [.dat (.int .i64 v3_L2)] ∧ s.t 9 = .v false [.dat (.sl (List.map M.Cache.en p0.Caches))] ∧ s.t 10 = .v false [.dat (.int .i64 (List.length p0.Caches : Int))] ∧ s.t 11 = .v false [.dat (.int .i64 v11)] ∧ s.t 16 = .v false [.dat (.sl (List.map M.Cached.en x7.Entries))] ∧ s.t 17 = .v false [.dat (.int .i64 (List.length x7.Entries : Int))] ∧ s.t 18 = .v false [.dat (.int .i64 v18_L2)] ∧ m_impl_SizeCaches_L2 x7 k13 m v3_L2 v18_L2 = some r) fuel ?_ ?_
  · refine ⟨v3, 0, ?_, ?_, ?_, ?_, ?_, ?_, ?_, h⟩
    all_goals simp +decide only [F, reduceIte, Nat.reduceAdd, Bool.not_true, Bool.not_false, f2, f3, f4, f5, b6, q9, q10, q11]
  rintro mL2 s12 ⟨v3_L2, v18_L2, f15, f16, f17, f18, f19, f20, f21, h⟩
  rcases mL2 with _ | mL2
  · exact absurd h (by simp [m_impl_SizeCaches_L2])
  simp only [m_impl_SizeCaches_L2] at h
  refine sq ?_
  apply SW_run
  · simp +decide only [E, reduceIte, Nat.reduceAdd, Nat.reduceMul, Bool.not_true, Bool.not_false, L, b6, q9, q10, q11, f15, f16, f17, f18, f19, f20, f21]
    exact Is.mk _
  refine an (sq ?_)
  rcases bcas (decide (v18_L2 < (List.length x7.Entries : Int))) with b22 | b22
  · replace h := ite_f b22 h
    refine SW_cf (by simp +decide only [F, reduceIte, Nat.reduceAdd, Bool.not_true, Bool.not_false, b6, q9, q10, q11, f15, f16, f17, f18, f19, f20, f21, b22]) ?_
    refine xt (aft_cx ?_)
    subst e14
    refine aft_ix (aft_x (ab (an ?_)))
    apply SW_run
    · simp +decide only [E, reduceIte, Nat.reduceAdd, Nat.reduceMul, Bool.not_true, Bool.not_false, L, b6, q9, q10, q11, f15, f16, f17, f18, f19, f20, f21, b22]
      exact Is.mk _
    refine aft_i ⟨mL1, by omega, v3_L2, (IntKind.i64.wrap (v11 + 1)), ?_, ?_, ?_, ?_, h⟩
    all_goals simp +decide only [F, reduceIte, Nat.reduceAdd, Bool.not_true, Bool.not_false, b6, q9, q10, q11, f15, f16, f17, f18, f19, f20, f21, b22]
  replace h := ite_t b22 h
  refine SW_ct (by simp +decide only [F, reduceIte, Nat.reduceAdd, Bool.not_true, Bool.not_false, b6, q9, q10, q11, f15, f16, f17, f18, f19, f20, f21, b22]) ?_
  refine sk (an (sq (bk (sq ?_))))
  obtain ⟨x23, h24, h⟩ := bind_some h
  obtain ⟨q25, q26, q27⟩ := idx_some h24
  apply SW_run
  · simp +decide only [E, reduceIte, Nat.reduceAdd, Nat.reduceMul, Bool.not_true, Bool.not_false, L, ti183, ti189, M.Cached.en, b6, q9, q10, q11, f15, f16, f17, f18, f19, f20, f21, b22, q25, q26, q27]
    exact Is.mk _
  refine an ?_
  obtain ⟨x28, h29, h⟩ := bind_some h
  apply SW_run
  · simp +decide only [E, reduceIte, Nat.reduceAdd, Nat.reduceMul, Bool.not_true, Bool.not_false, L, ti3, ti187, ti189, b6, q9, q10, q11, f15, f16, f17, f18, f19, f20, f21, b22, q25, q26, q27]
    refine ⟨_, c_impl_StoredSize x23.Response (x23.Response.Type_ == 3) x28 h29, ?_⟩
    try simp +decide only [E, reduceIte, Nat.reduceAdd, Nat.reduceMul, Bool.not_true, Bool.not_false, L, ti3, ti187, ti189, b6, q9, q10, q11, f15, f16, f17, f18, f19, f20, f21, b22, q25, q26, q27]
    exact Is.mk _
  refine ab (an ?_)
  apply SW_run
  · simp +decide only [E, reduceIte, Nat.reduceAdd, Nat.reduceMul, Bool.not_true, Bool.not_false, L, b6, q9, q10, q11, f15, f16, f17, f18, f19, f20, f21, b22, q25, q26, q27]
    exact Is.mk _
  refine aft_i ⟨mL2, by omega, (IntKind.i64.wrap (v3_L2 + x28)), (IntKind.i64.wrap (v18_L2 + 1)), ?_, ?_, ?_, ?_, ?_, ?_, ?_, h⟩
  all_goals simp +decide only [F, reduceIte, Nat.reduceAdd, Bool.not_true, Bool.not_false, b6, q9, q10, q11, f15, f16, f17, f18, f19, f20, f21, b22, q25, q26, q27]

set_option maxHeartbeats 4000000 in
theorem c_impl_InRange (p0 : Int) (p1 : Int) (p2 : Int) (r : Bool) (h : m_impl_InRange p0 p1 p2 = some r) : SCalls Tryz.prog 106 [(false, [.int .i64 p0]), (false, [.int .i64 p1]), (false, [.int .i64 p2])] [(false, [.ro (.bool r)])] := by
  unfold m_impl_InRange at h
  refine scalls_n (N := 15) (vars := [.tmp 6]) Tryz.func106 rfl rfl rfl (by decide +kernel) (Nat.le_of_ble_eq_true rfl) fun base wd => ?_
  refine sq ?_
  apply SW_run
  · simp +decide only [E, reduceIte, Nat.reduceAdd, Nat.reduceMul, Bool.not_true, Bool.not_false, L]
    exact Is.mk _
  refine an (sq ?_)
  rcases bcase (decide (p1 ≤ p0)) with b1 | b1
  · replace h := ite_t b1 h
    apply SW_run
    · simp +decide only [E, reduceIte, Nat.reduceAdd, Nat.reduceMul, Bool.not_true, Bool.not_false, L, b1]
      exact Is.mk _
    refine an (rt ?_)
    cases h
    simp [Ret, b1]
  replace h := ite_f b1 h
  apply SW_run
  · simp +decide only [E, reduceIte, Nat.reduceAdd, Nat.reduceMul, Bool.not_true, Bool.not_false, L, b1]
    exact Is.mk _
  refine an (rt ?_)
  cases h
  simp [Ret, b1]

set_option maxHeartbeats 4000000 in
theorem c_impl_isKeyText (p0 : ByteArray) (r : Bool) (h : m_impl_isKeyText p0 = some r) : SCalls Tryz.prog 294 [(false, [.str p0])] [(false, [.ro (.bool r)])] := by
  unfold m_impl_isKeyText at h
  refine scalls_n (N := 36) (vars := [.tmp 2]) Tryz.func294 rfl rfl rfl (by decide +kernel) (Nat.le_of_ble_eq_true rfl) fun base wd => ?_
  refine sq ?_
  apply SW_run
  · simp +decide only [E, reduceIte, Nat.reduceAdd, Nat.reduceMul, Bool.not_true, Bool.not_false, L]
    exact Is.mk _
  refine an (sq (sq ?_))
  apply SW_run
  · simp +decide only [E, reduceIte, Nat.reduceAdd, Nat.reduceMul, Bool.not_true, Bool.not_false, L]
    exact Is.mk _
  refine an (bk ?_)
  refine SW_loop (fun m s => ∃ v3 : Int, s.t 0 = .v false [.dat (.str p0)] ∧ s.t 3 = .v false [.dat (.int .i64 v3)] ∧ m_impl_isKeyText_L1 p0 m v3 = some r) fuel ?_ ?_
  · refine ⟨0, ?_, ?_, h⟩
    all_goals simp +decide only [F, reduceIte, Nat.reduceAdd, Bool.not_true, Bool.not_false]
  rintro mL1 s1 ⟨v3, f2, f3, h⟩
  rcases mL1 with _ | mL1
  · exact absurd h (by simp [m_impl_isKeyText_L1])
  simp only [m_impl_isKeyText_L1] at h
  refine sq (sq ?_)
  apply SW_run
  · simp +decide only [E, reduceIte, Nat.reduceAdd, Nat.reduceMul, Bool.not_true, Bool.not_false, L, ti9, f2, f3]
    exact Is.mk _
  refine an ?_
  rcases bcas (decide (v3 < (p0.size : Int))) with b4 | b4
  · replace h := ite_f b4 h
    refine SW_cf (by simp +decide only [F, reduceIte, Nat.reduceAdd, Bool.not_true, Bool.not_false, f2, f3, b4]) ?_
    refine xt (aft_cx (aft_ix (aft_x (an (sq ?_)))))
    apply SW_run
    · simp +decide only [E, reduceIte, Nat.reduceAdd, Nat.reduceMul, Bool.not_true, Bool.not_false, L, ti9, f2, f3, b4]
      exact Is.mk _
    refine an (rt ?_)
    cases h
    simp [Ret, f2, f3, b4]
  replace h := ite_t b4 h
  refine SW_ct (by simp +decide only [F, reduceIte, Nat.reduceAdd, Bool.not_true, Bool.not_false, f2, f3, b4]) ?_
  refine sk (an (sq (bk (sq ?_))))
  obtain ⟨x5, h6, h⟩ := bind_some h
  obtain ⟨q7, q8⟩ := sidx_some h6
  rcases bcas (decide ((x5.toNat : Int) ≥ 97)) with b9 | b9
  · replace h := ite_f b9 h
    rcases bcas (decide ((x5.toNat : Int) ≥ 48)) with b13 | b13
    · replace h := ite_f b13 h
      apply SW_run
      · simp +decide only [E, reduceIte, Nat.reduceAdd, Nat.reduceMul, Bool.not_true, Bool.not_false, L, ti9, f2, f3, b4, q7, q8, b9, b13]
        exact Is.mk _
      refine an ?_
      refine SW_ct (by simp +decide only [F, reduceIte, Nat.reduceAdd, Bool.not_true, Bool.not_false, f2, f3, b4, q7, q8, b9, b13]) ?_
      refine sq ?_
      apply SW_run
      · simp +decide only [E, reduceIte, Nat.reduceAdd, Nat.reduceMul, Bool.not_true, Bool.not_false, L, f2, f3, b4, q7, q8, b9, b13]
        exact Is.mk _
      refine an (rt ?_)
      cases h
      simp [Ret, f2, f3, b4, q7, q8, b9, b13]
    replace h := ite_t b13 h
    apply SW_run
    · simp +decide only [E, reduceIte, Nat.reduceAdd, Nat.reduceMul, Bool.not_true, Bool.not_false, L, ti9, f2, f3, b4, q7, q8, b9, b13]
      exact Is.mk _
    refine an ?_
    rcases bcase (!(decide ((x5.toNat : Int) ≤ 57))) with b14 | b14
    · replace h := ite_t b14 h
      refine SW_ct (by simp +decide only [F, reduceIte, Nat.reduceAdd, Bool.not_true, Bool.not_false, f2, f3, b4, q7, q8, b9, b13, b14]) ?_
      refine sq ?_
      apply SW_run
      · simp +decide only [E, reduceIte, Nat.reduceAdd, Nat.reduceMul, Bool.not_true, Bool.not_false, L, f2, f3, b4, q7, q8, b9, b13, b14]
        exact Is.mk _
      refine an (rt ?_)
      cases h
      simp [Ret, f2, f3, b4, q7, q8, b9, b13, b14]
    replace h := ite_f b14 h
    refine SW_cf (by simp +decide only [F, reduceIte, Nat.reduceAdd, Bool.not_true, Bool.not_false, f2, f3, b4, q7, q8, b9, b13, b14]) ?_
    refine sk (ab (an ?_))
    apply SW_run
    · simp +decide only [E, reduceIte, Nat.reduceAdd, Nat.reduceMul, Bool.not_true, Bool.not_false, L, f2, f3, b4, q7, q8, b9, b13, b14]
      exact Is.mk _
    refine aft_i ⟨mL1, by omega, (IntKind.i64.wrap (v3 + 1)), ?_, ?_, h⟩
    all_goals simp +decide only [F, reduceIte, Nat.reduceAdd, Bool.not_true, Bool.not_false, f2, f3, b4, q7, q8, b9, b13, b14]
  replace h := ite_t b9 h
  rcases bcase (decide ((x5.toNat : Int) ≤ 122)) with b10 | b10
  · replace h := ite_t b10 h
    apply SW_run
    · simp +decide only [E, reduceIte, Nat.reduceAdd, Nat.reduceMul, Bool.not_true, Bool.not_false, L, ti9, f2, f3, b4, q7, q8, b9, b10]
      exact Is.mk _
    refine an ?_
    refine SW_cf (by simp +decide only [F, reduceIte, Nat.reduceAdd, Bool.not_true, Bool.not_false, f2, f3, b4, q7, q8, b9, b10]) ?_
    refine sk (ab (an ?_))
    apply SW_run
    · simp +decide only [E, reduceIte, Nat.reduceAdd, Nat.reduceMul, Bool.not_true, Bool.not_false, L, f2, f3, b4, q7, q8, b9, b10]
      exact Is.mk _
    refine aft_i ⟨mL1, by omega, (IntKind.i64.wrap (v3 + 1)), ?_, ?_, h⟩
    all_goals simp +decide only [F, reduceIte, Nat.reduceAdd, Bool.not_true, Bool.not_false, f2, f3, b4, q7, q8, b9, b10]
  replace h := ite_f b10 h
  rcases bcas (decide ((x5.toNat : Int) ≥ 48)) with b11 | b11
  · replace h := ite_f b11 h
    apply SW_run
    · simp +decide only [E, reduceIte, Nat.reduceAdd, Nat.reduceMul, Bool.not_true, Bool.not_false, L, ti9, f2, f3, b4, q7, q8, b9, b10, b11]
      exact Is.mk _
    refine an ?_
    refine SW_ct (by simp +decide only [F, reduceIte, Nat.reduceAdd, Bool.not_true, Bool.not_false, f2, f3, b4, q7, q8, b9, b10, b11]) ?_
    refine sq ?_
    apply SW_run
    · simp +decide only [E, reduceIte, Nat.reduceAdd, Nat.reduceMul, Bool.not_true, Bool.not_false, L, f2, f3, b4, q7, q8, b9, b10, b11]
      exact Is.mk _
    refine an (rt ?_)
    cases h
    simp [Ret, f2, f3, b4, q7, q8, b9, b10, b11]
  replace h := ite_t b11 h
  apply SW_run
  · simp +decide only [E, reduceIte, Nat.reduceAdd, Nat.reduceMul, Bool.not_true, Bool.not_false, L, ti9, f2, f3, b4, q7, q8, b9, b10, b11]
    exact Is.mk _
  refine an ?_
  rcases bcase (!(decide ((x5.toNat : Int) ≤ 57))) with b12 | b12
  · replace h := ite_t b12 h
    refine SW_ct (by simp +decide only [F, reduceIte, Nat.reduceAdd, Bool.not_true, Bool.not_false, f2, f3, b4, q7, q8, b9, b10, b11, b12]) ?_
    refine sq ?_
    apply SW_run
    · simp +decide only [E, reduceIte, Nat.reduceAdd, Nat.reduceMul, Bool.not_true, Bool.not_false, L, f2, f3, b4, q7, q8, b9, b10, b11, b12]
      exact Is.mk _
    refine an (rt ?_)
    cases h
    simp [Ret, f2, f3, b4, q7, q8, b9, b10, b11, b12]
  replace h := ite_f b12 h
  refine SW_cf (by simp +decide only [F, reduceIte, Nat.reduceAdd, Bool.not_true, Bool.not_false, f2, f3, b4, q7, q8, b9, b10, b11, b12]) ?_
  refine sk (ab (an ?_))
  apply SW_run
  · simp +decide only [E, reduceIte, Nat.reduceAdd, Nat.reduceMul, Bool.not_true, Bool.not_false, L, f2, f3, b4, q7, q8, b9, b10, b11, b12]
    exact Is.mk _
  refine aft_i ⟨mL1, by omega, (IntKind.i64.wrap (v3 + 1)), ?_, ?_, h⟩
  all_goals simp +decide only [F, reduceIte, Nat.reduceAdd, Bool.not_true, Bool.not_false, f2, f3, b4, q7, q8, b9, b10, b11, b12]

set_option maxHeartbeats 4000000 in
theorem c_impl_IsKey (p0 : M.Key) (r : Bool) (h : m_impl_IsKey p0 = some r) : SCalls Tryz.prog 236 [(true, M.Key.en p0)] [(false, [.ro (.bool r)])] := by
  unfold m_impl_IsKey at h
  simp only [M.Key.en]
  refine scalls_n (N := 39) (vars := [.tmp 2]) Tryz.func236 rfl rfl rfl (by decide +kernel) (Nat.le_of_ble_eq_true rfl) fun base wd => ?_
  refine sq ?_
  apply SW_run
  · simp +decide only [E, reduceIte, Nat.reduceAdd, Nat.reduceMul, Bool.not_true, Bool.not_false, L]
    exact Is.mk _
  refine an (sq (sq ?_))
  obtain ⟨x1, h2, h⟩ := bind_some h
  rcases bcase (!x1) with b3 | b3
  · replace h := ite_t b3 h
    apply SW_run
    · simp +decide only [E, reduceIte, Nat.reduceAdd, Nat.reduceMul, Bool.not_true, Bool.not_false, L, ti3, ti203, b3]
      refine ⟨_, c_impl_InRange p0.Kind 1 3 x1 h2, ?_⟩
      try simp +decide only [E, reduceIte, Nat.reduceAdd, Nat.reduceMul, Bool.not_true, Bool.not_false, L, ti3, ti203, b3]
      exact Is.mk _
    refine an ?_
    refine SW_ct (by simp +decide only [F, reduceIte, Nat.reduceAdd, Bool.not_true, Bool.not_false, b3]) ?_
    refine sq ?_
    apply SW_run
    · simp +decide only [E, reduceIte, Nat.reduceAdd, Nat.reduceMul, Bool.not_true, Bool.not_false, L, b3]
      exact Is.mk _
    refine an (rt ?_)
    cases h
    simp [Ret, b3]
  replace h := ite_f b3 h
  obtain ⟨x4, h5, h⟩ := bind_some h
  rcases bcase (!x4) with b6 | b6
  · replace h := ite_t b6 h
    apply SW_run
    · simp +decide only [E, reduceIte, Nat.reduceAdd, Nat.reduceMul, Bool.not_true, Bool.not_false, L, ti3, ti203, b3, b6]
      refine ⟨_, c_impl_InRange p0.Kind 1 3 x1 h2, ?_⟩
      try simp +decide only [E, reduceIte, Nat.reduceAdd, Nat.reduceMul, Bool.not_true, Bool.not_false, L, ti3, ti203, b3, b6]
      refine ⟨_, c_impl_InRange p0.N (-1000000000000) 1000000000000 x4 h5, ?_⟩
      try simp +decide only [E, reduceIte, Nat.reduceAdd, Nat.reduceMul, Bool.not_true, Bool.not_false, L, ti3, ti203, b3, b6]
      exact Is.mk _
    refine an ?_
    refine SW_ct (by simp +decide only [F, reduceIte, Nat.reduceAdd, Bool.not_true, Bool.not_false, b3, b6]) ?_
    refine sq ?_
    apply SW_run
    · simp +decide only [E, reduceIte, Nat.reduceAdd, Nat.reduceMul, Bool.not_true, Bool.not_false, L, b3, b6]
      exact Is.mk _
    refine an (rt ?_)
    cases h
    simp [Ret, b3, b6]
  replace h := ite_f b6 h
  obtain ⟨x7, h8, h⟩ := bind_some h
  apply SW_run
  · simp +decide only [E, reduceIte, Nat.reduceAdd, Nat.reduceMul, Bool.not_true, Bool.not_false, L, ti3, ti9, ti203, b3, b6]
    refine ⟨_, c_impl_InRange p0.Kind 1 3 x1 h2, ?_⟩
    try simp +decide only [E, reduceIte, Nat.reduceAdd, Nat.reduceMul, Bool.not_true, Bool.not_false, L, ti3, ti9, ti203, b3, b6]
    refine ⟨_, c_impl_InRange p0.N (-1000000000000) 1000000000000 x4 h5, ?_⟩
    try simp +decide only [E, reduceIte, Nat.reduceAdd, Nat.reduceMul, Bool.not_true, Bool.not_false, L, ti3, ti9, ti203, b3, b6]
    refine ⟨_, c_impl_isKeyText p0.Text x7 h8, ?_⟩
    try simp +decide only [E, reduceIte, Nat.reduceAdd, Nat.reduceMul, Bool.not_true, Bool.not_false, L, ti3, ti9, ti203, b3, b6]
    exact Is.mk _
  refine an ?_
  rcases bcase (!x7) with b9 | b9
  · replace h := ite_t b9 h
    refine SW_ct (by simp +decide only [F, reduceIte, Nat.reduceAdd, Bool.not_true, Bool.not_false, b3, b6, b9]) ?_
    refine sq ?_
    apply SW_run
    · simp +decide only [E, reduceIte, Nat.reduceAdd, Nat.reduceMul, Bool.not_true, Bool.not_false, L, b3, b6, b9]
      exact Is.mk _
    refine an (rt ?_)
    cases h
    simp [Ret, b3, b6, b9]
  replace h := ite_f b9 h
  refine SW_cf (by simp +decide only [F, reduceIte, Nat.reduceAdd, Bool.not_true, Bool.not_false, b3, b6, b9]) ?_
  refine sk (an (sq ?_))
  rcases bcas (p0.Kind == 2) with b10 | b10
  · replace h := ite_f b10 h
    rcases bcas (p0.Kind == 1) with b13 | b13
    · replace h := ite_f b13 h
      apply SW_run
      · simp +decide only [E, reduceIte, Nat.reduceAdd, Nat.reduceMul, Bool.not_true, Bool.not_false, L, ti3, ti203, b3, b6, b9, b10, b13]
        exact Is.mk _
      refine an (rt ?_)
      cases h
      simp [Ret, b3, b6, b9, b10, b13]
    replace h := ite_t b13 h
    apply SW_run
    · simp +decide only [E, reduceIte, Nat.reduceAdd, Nat.reduceMul, Bool.not_true, Bool.not_false, L, ti3, ti9, ti203, b3, b6, b9, b10, b13]
      exact Is.mk _
    refine an (rt ?_)
    cases h
    simp [Ret, b3, b6, b9, b10, b13]
  replace h := ite_t b10 h
  rcases bcas (!(p0.N != 0)) with b11 | b11
  · replace h := ite_f b11 h
    apply SW_run
    · simp +decide only [E, reduceIte, Nat.reduceAdd, Nat.reduceMul, Bool.not_true, Bool.not_false, L, ti3, ti203, b3, b6, b9, b10, b11]
      exact Is.mk _
    refine an (rt ?_)
    cases h
    simp [Ret, b3, b6, b9, b10, b11]
  replace h := ite_t b11 h
  rcases bcas (p0.Kind == 1) with b12 | b12
  · replace h := ite_f b12 h
    apply SW_run
    · simp +decide only [E, reduceIte, Nat.reduceAdd, Nat.reduceMul, Bool.not_true, Bool.not_false, L, ti3, ti203, b3, b6, b9, b10, b11, b12]
      exact Is.mk _
    refine an (rt ?_)
    cases h
    simp [Ret, b3, b6, b9, b10, b11, b12]
  replace h := ite_t b12 h
  apply SW_run
  · simp +decide only [E, reduceIte, Nat.reduceAdd, Nat.reduceMul, Bool.not_true, Bool.not_false, L, ti3, ti9, ti203, b3, b6, b9, b10, b11, b12]
    exact Is.mk _
  refine an (rt ?_)
  cases h
  simp [Ret, b3, b6, b9, b10, b11, b12]

set_option maxHeartbeats 4000000 in
theorem c_impl_EncodeKey (p0 : M.Key) (r : (List Int)) (h : m_impl_EncodeKey p0 = some r) : SCalls Tryz.prog 159 [(true, M.Key.en p0)] [(false, [.own 5 1 (List.map enB r)])] := by
  unfold m_impl_EncodeKey at h
  simp only [M.Key.en]
  refine scalls_n (N := 34) (vars := [.tmp 2]) Tryz.func159 rfl rfl rfl (by decide +kernel) (Nat.le_of_ble_eq_true rfl) fun base wd => ?_
  refine sq ?_
  apply SW_run
  · simp +decide only [E, reduceIte, Nat.reduceAdd, Nat.reduceMul, Bool.not_true, Bool.not_false, L]
    exact Is.mk _
  refine an (sq (sq ?_))
  obtain ⟨x1, h2, h⟩ := bind_some h
  apply SW_run
  · simp +decide only [E, reduceIte, Nat.reduceAdd, Nat.reduceMul, Bool.not_true, Bool.not_false, L, ti203]
    refine ⟨_, c_impl_IsKey p0 x1 h2, ?_⟩
    try simp +decide only [E, reduceIte, Nat.reduceAdd, Nat.reduceMul, Bool.not_true, Bool.not_false, L, ti203]
    exact Is.mk _
  refine an ?_
  rcases bcase (!x1) with b3 | b3
  · replace h := ite_t b3 h
    refine SW_ct (by simp +decide only [F, reduceIte, Nat.reduceAdd, Bool.not_true, Bool.not_false, b3]) ?_
    refine sq ?_
    apply SW_run
    · simp +decide only [E, reduceIte, Nat.reduceAdd, Nat.reduceMul, Bool.not_true, Bool.not_false, L, ti5, ti31, enB, b3]
      exact Is.mk _
    refine an (rt ?_)
    cases h
    simp [Ret, enB, b3]
  replace h := ite_f b3 h
  refine SW_cf (by simp +decide only [F, reduceIte, Nat.reduceAdd, Bool.not_true, Bool.not_false, b3]) ?_
  refine sk (an (sq ?_))
  apply SW_run
  · simp +decide only [E, reduceIte, Nat.reduceAdd, Nat.reduceMul, Bool.not_true, Bool.not_false, L, ti3, ti5, ti31, ti203, enB, b3]
    exact Is.mk _
  refine an (sq (sq ?_))
  refine SW_cut (J := fun s => s.t 1 = .v false [.bp 1 1 0] ∧ s.t 3 = .v false [.row 100012 1] ∧ s.h 1 = (1, .box 203 [.dat (.int .i64 p0.Kind), .dat (.int .i64 p0.N), .dat (.str p0.Text)]) ∧ s.h 100012 = (1, .row 5 1 (List.map enB ([(IntKind.u8.wrap p0.Kind)])) true) ∧ True) ?_ ?_
  · refine ⟨?_, ?_, ?_, ?_, trivial⟩ <;> (try simp +decide only [F, reduceIte, Nat.reduceAdd, Bool.not_true, Bool.not_false, enB, b3])
  rintro s4 ⟨f5, f6, f7, f8, _⟩
  apply SW_run
  · simp +decide only [E, reduceIte, Nat.reduceAdd, Nat.reduceMul, Bool.not_true, Bool.not_false, L, ti3, ti203, b3, f5, f6, f7, f8]
    exact Is.mk _
  refine an ?_
  rcases bcas (p0.Kind != 2) with b9 | b9
  · replace h := ite_f b9 h
    refine SW_cf (by simp +decide only [F, reduceIte, Nat.reduceAdd, Bool.not_true, Bool.not_false, b3, f5, f6, f7, f8, b9]) ?_
    refine sk (an (sq ?_))
    obtain ⟨x28, h29, h⟩ := bind_some h
    apply SW_run
    · simp +decide only [E, reduceIte, Nat.reduceAdd, Nat.reduceMul, Bool.not_true, Bool.not_false, bytesD_en, L, ti5, ti9, ti31, ti203, enB, b3, f5, f6, f7, f8, b9]
      refine ⟨by (have hb := app_some h29); simp [enB, List.length_append, strBytes_len] at hb ⊢ <;> omega, ?_⟩
      try simp +decide only [E, reduceIte, Nat.reduceAdd, Nat.reduceMul, Bool.not_true, Bool.not_false, bytesD_en, L, ti5, ti9, ti31, ti203, enB, b3, f5, f6, f7, f8, b9]
      exact Is.mk _
    refine an (rt ?_)
    cases h
    simp [Ret, enB, b3, f5, f6, f7, f8, b9]
  replace h := ite_t b9 h
  refine SW_ct (by simp +decide only [F, reduceIte, Nat.reduceAdd, Bool.not_true, Bool.not_false, b3, f5, f6, f7, f8, b9]) ?_
  refine sq ?_
  apply SW_run
  · simp +decide only [E, reduceIte, Nat.reduceAdd, Nat.reduceMul, Bool.not_true, Bool.not_false, L, b3, f5, f6, f7, f8, b9]
    exact Is.mk _
  refine an (bk ?_)
  refine SW_loop (fun m s => ∃ v4 : Int, ∃ r12 : List Int, ∃ u12 : Nat, s.t 1 = .v false [.bp 1 1 0] ∧ s.t 3 = .v false [.row 100012 u12] ∧ s.t 4 = .v false [.dat (.int .i64 v4)] ∧ s.h 1 = (1, .box 203 [.dat (.int .i64 p0.Kind), .dat (.int .i64 p0.N), .dat (.str p0.Text)]) ∧ s.h 100012 = (u12, .row 5 1 (List.map enB r12) true) ∧ m_impl_EncodeKey_L1 p0 m v4 r12 = some r) fuel ?_ ?_
  · refine ⟨5, ([(IntKind.u8.wrap p0.Kind)]), 1, ?_, ?_, ?_, ?_, ?_, h⟩
    all_goals simp +decide only [F, reduceIte, Nat.reduceAdd, Bool.not_true, Bool.not_false, enB, b3, f5, f6, f7, f8, b9]
  rintro mL1 s10 ⟨v4, r12, u12, f11, f12, f13, f14, f15, h⟩
  rcases mL1 with _ | mL1
  · exact absurd h (by simp [m_impl_EncodeKey_L1])
  simp only [m_impl_EncodeKey_L1] at h
  refine sq (sq ?_)
  apply SW_run
  · simp +decide only [E, reduceIte, Nat.reduceAdd, Nat.reduceMul, Bool.not_true, Bool.not_false, L, b3, b9, f11, f12, f13, f14, f15]
    exact Is.mk _
  refine an ?_
  rcases bcas (decide (v4 ≥ 0)) with b16 | b16
  · replace h := ite_f b16 h
    refine SW_cf (by simp +decide only [F, reduceIte, Nat.reduceAdd, Bool.not_true, Bool.not_false, b3, b9, f11, f12, f13, f14, f15, b16]) ?_
    refine xt (aft_cx (aft_ix (aft_x (an (sq ?_)))))
    obtain ⟨x26, h27, h⟩ := bind_some h
    apply SW_run
    · simp +decide only [E, reduceIte, Nat.reduceAdd, Nat.reduceMul, Bool.not_true, Bool.not_false, bytesD_en, L, ti5, ti9, ti31, ti203, enB, b3, b9, f11, f12, f13, f14, f15, b16]
      refine ⟨by (have hb := app_some h27); simp [enB, List.length_append, strBytes_len] at hb ⊢ <;> omega, ?_⟩
      try simp +decide only [E, reduceIte, Nat.reduceAdd, Nat.reduceMul, Bool.not_true, Bool.not_false, bytesD_en, L, ti5, ti9, ti31, ti203, enB, b3, b9, f11, f12, f13, f14, f15, b16]
      exact Is.mk _
    refine an (rt ?_)
    cases h
    simp [Ret, enB, b3, b9, f11, f12, f13, f14, f15, b16]
  replace h := ite_t b16 h
  refine SW_ct (by simp +decide only [F, reduceIte, Nat.reduceAdd, Bool.not_true, Bool.not_false, b3, b9, f11, f12, f13, f14, f15, b16]) ?_
  refine sk (an (sq (bk ?_)))
  rcases bcas (decide (0 ≤ (IntKind.i64.wrap (8 * v4)))) with b17 | b17
  · replace h := ite_f b17 h
    cases h
  replace h := ite_t b17 h
  obtain ⟨x18, h19, h⟩ := bind_some h
  apply SW_run
  · simp +decide only [E, reduceIte, Nat.reduceAdd, Nat.reduceMul, Bool.not_true, Bool.not_false, shr_ok, L, ti3, ti5, ti31, ti203, enB, b3, b9, f11, f12, f13, f14, f15, b16, b17]
    refine ⟨by (have hb := app_some h19); simp [enB, List.length_append, strBytes_len] at hb ⊢ <;> omega, ?_⟩
    try simp +decide only [E, reduceIte, Nat.reduceAdd, Nat.reduceMul, Bool.not_true, Bool.not_false, shr_ok, L, ti3, ti5, ti31, ti203, enB, b3, b9, f11, f12, f13, f14, f15, b16, b17]
    exact Is.mk _
  refine ab (an ?_)
  refine SW_cut (J := fun s => s.t 1 = .v false [.bp 1 1 0] ∧ s.t 3 = .v false [.row 100012 (u12 + 1)] ∧ s.t 4 = .v false [.dat (.int .i64 v4)] ∧ s.h 1 = (1, .box 203 [.dat (.int .i64 p0.Kind), .dat (.int .i64 p0.N), .dat (.str p0.Text)]) ∧ s.h 100012 = ((u12 + 1), .row 5 1 (List.map enB (r12 ++ [(IntKind.u8.wrap (Int.fdiv (IntKind.i64.wrap (p0.N + 1000000000000)) (2 ^ (min (IntKind.i64.wrap (8 * v4)).toNat IntKind.i64.bits))))])) true) ∧ True) ?_ ?_
  · refine ⟨?_, ?_, ?_, ?_, ?_, trivial⟩ <;> (try simp +decide only [F, reduceIte, Nat.reduceAdd, Bool.not_true, Bool.not_false, enB, b3, b9, f11, f12, f13, f14, f15, b16, b17])
  rintro s20 ⟨f21, f22, f23, f24, f25, _⟩
  apply SW_run
  · simp +decide only [E, reduceIte, Nat.reduceAdd, Nat.reduceMul, Bool.not_true, Bool.not_false, L, b3, b9, b16, b17, f21, f22, f23, f24, f25]
    exact Is.mk _
  refine aft_i ⟨mL1, by omega, (IntKind.i64.wrap (v4 - 1)), (r12 ++ [(IntKind.u8.wrap (Int.fdiv (IntKind.i64.wrap (p0.N + 1000000000000)) (2 ^ (min (IntKind.i64.wrap (8 * v4)).toNat IntKind.i64.bits))))]), (u12 + 1), ?_, ?_, ?_, ?_, ?_, h⟩
  all_goals simp +decide only [F, reduceIte, Nat.reduceAdd, Bool.not_true, Bool.not_false, enB, b3, b9, b16, b17, f21, f22, f23, f24, f25]

set_option maxHeartbeats 4000000 in
theorem c_impl_isWord (p0 : ByteArray) (p1 : Int) (p2 : Bool) (r : Bool) (h : m_impl_isWord p0 p1 p2 = some r) : SCalls Tryz.prog 182 [(false, [.str p0]), (false, [.int .i64 p1]), (false, [.bool p2])] [(false, [.ro (.bool r)])] := by
  unfold m_impl_isWord at h
  refine scalls_n (N := 38) (vars := [.tmp 6]) Tryz.func182 rfl rfl rfl (by decide +kernel) (Nat.le_of_ble_eq_true rfl) fun base wd => ?_
  refine sq ?_
  apply SW_run
  · simp +decide only [E, reduceIte, Nat.reduceAdd, Nat.reduceMul, Bool.not_true, Bool.not_false, L]
    exact Is.mk _
  refine an (sq (sq ?_))
  apply SW_run
  · simp +decide only [E, reduceIte, Nat.reduceAdd, Nat.reduceMul, Bool.not_true, Bool.not_false, L]
    exact Is.mk _
  refine an (bk ?_)
  refine SW_loop (fun m s => ∃ v7 : Int, s.t 0 = .v false [.dat (.str p0)] ∧ s.t 1 = .v false [.dat (.int .i64 p1)] ∧ s.t 2 = .v false [.dat (.bool p2)] ∧ s.t 7 = .v false [.dat (.int .i64 v7)] ∧ m_impl_isWord_L1 p0 p1 p2 m v7 = some r) fuel ?_ ?_
  · refine ⟨0, ?_, ?_, ?_, ?_, h⟩
    all_goals simp +decide only [F, reduceIte, Nat.reduceAdd, Bool.not_true, Bool.not_false]
  rintro mL1 s1 ⟨v7, f2, f3, f4, f5, h⟩
  rcases mL1 with _ | mL1
  · exact absurd h (by simp [m_impl_isWord_L1])
  simp only [m_impl_isWord_L1] at h
  refine sq (sq ?_)
  apply SW_run
  · simp +decide only [E, reduceIte, Nat.reduceAdd, Nat.reduceMul, Bool.not_true, Bool.not_false, L, ti9, f2, f3, f4, f5]
    exact Is.mk _
  refine an ?_
  rcases bcas (decide (v7 < (p0.size : Int))) with b6 | b6
  · replace h := ite_f b6 h
    refine SW_cf (by simp +decide only [F, reduceIte, Nat.reduceAdd, Bool.not_true, Bool.not_false, f2, f3, f4, f5, b6]) ?_
    refine xt (aft_cx (aft_ix (aft_x (an (sq ?_)))))
    obtain ⟨x17, h18, h⟩ := bind_some h
    apply SW_run
    · simp +decide only [E, reduceIte, Nat.reduceAdd, Nat.reduceMul, Bool.not_true, Bool.not_false, L, ti9, f2, f3, f4, f5, b6]
      refine ⟨_, c_impl_InRange (p0.size : Int) 1 p1 x17 h18, ?_⟩
      try simp +decide only [E, reduceIte, Nat.reduceAdd, Nat.reduceMul, Bool.not_true, Bool.not_false, L, ti9, f2, f3, f4, f5, b6]
      exact Is.mk _
    refine an (rt ?_)
    cases h
    simp [Ret, f2, f3, f4, f5, b6]
  replace h := ite_t b6 h
  refine SW_ct (by simp +decide only [F, reduceIte, Nat.reduceAdd, Bool.not_true, Bool.not_false, f2, f3, f4, f5, b6]) ?_
  refine sk (an (sq (bk (sq ?_))))
  obtain ⟨x7, h8, h⟩ := bind_some h
  obtain ⟨q9, q10⟩ := sidx_some h8
  rcases bcas (decide ((x7.toNat : Int) ≥ 97)) with b11 | b11
  · replace h := ite_f b11 h
    rcases bcas p2 with b15 | b15
    · replace h := ite_f b15 h
      apply SW_run
      · simp +decide only [E, reduceIte, Nat.reduceAdd, Nat.reduceMul, Bool.not_true, Bool.not_false, L, ti9, f2, f3, f4, f5, b6, q9, q10, b11, b15]
        exact Is.mk _
      refine an ?_
      refine SW_ct (by simp +decide only [F, reduceIte, Nat.reduceAdd, Bool.not_true, Bool.not_false, f2, f3, f4, f5, b6, q9, q10, b11, b15]) ?_
      refine sq ?_
      apply SW_run
      · simp +decide only [E, reduceIte, Nat.reduceAdd, Nat.reduceMul, Bool.not_true, Bool.not_false, L, f2, f3, f4, f5, b6, q9, q10, b11, b15]
        exact Is.mk _
      refine an (rt ?_)
      cases h
      simp [Ret, f2, f3, f4, f5, b6, q9, q10, b11, b15]
    replace h := ite_t b15 h
    apply SW_run
    · simp +decide only [E, reduceIte, Nat.reduceAdd, Nat.reduceMul, Bool.not_true, Bool.not_false, L, ti9, f2, f3, f4, f5, b6, q9, q10, b11, b15]
      exact Is.mk _
    refine an ?_
    rcases bcase (!((x7.toNat : Int) == 47)) with b16 | b16
    · replace h := ite_t b16 h
      refine SW_ct (by simp +decide only [F, reduceIte, Nat.reduceAdd, Bool.not_true, Bool.not_false, f2, f3, f4, f5, b6, q9, q10, b11, b15, b16]) ?_
      refine sq ?_
      apply SW_run
      · simp +decide only [E, reduceIte, Nat.reduceAdd, Nat.reduceMul, Bool.not_true, Bool.not_false, L, f2, f3, f4, f5, b6, q9, q10, b11, b15, b16]
        exact Is.mk _
      refine an (rt ?_)
      cases h
      simp [Ret, f2, f3, f4, f5, b6, q9, q10, b11, b15, b16]
    replace h := ite_f b16 h
    refine SW_cf (by simp +decide only [F, reduceIte, Nat.reduceAdd, Bool.not_true, Bool.not_false, f2, f3, f4, f5, b6, q9, q10, b11, b15, b16]) ?_
    refine sk (ab (an ?_))
    apply SW_run
    · simp +decide only [E, reduceIte, Nat.reduceAdd, Nat.reduceMul, Bool.not_true, Bool.not_false, L, f2, f3, f4, f5, b6, q9, q10, b11, b15, b16]
      exact Is.mk _
    refine aft_i ⟨mL1, by omega, (IntKind.i64.wrap (v7 + 1)), ?_, ?_, ?_, ?_, h⟩
    all_goals simp +decide only [F, reduceIte, Nat.reduceAdd, Bool.not_true, Bool.not_false, f2, f3, f4, f5, b6, q9, q10, b11, b15, b16]
  replace h := ite_t b11 h
  rcases bcase (decide ((x7.toNat : Int) ≤ 122)) with b12 | b12
  · replace h := ite_t b12 h
    apply SW_run
    · simp +decide only [E, reduceIte, Nat.reduceAdd, Nat.reduceMul, Bool.not_true, Bool.not_false, L, ti9, f2, f3, f4, f5, b6, q9, q10, b11, b12]
      exact Is.mk _
    refine an ?_
    refine SW_cf (by simp +decide only [F, reduceIte, Nat.reduceAdd, Bool.not_true, Bool.not_false, f2, f3, f4, f5, b6, q9, q10, b11, b12]) ?_
    refine sk (ab (an ?_))
    apply SW_run
    · simp +decide only [E, reduceIte, Nat.reduceAdd, Nat.reduceMul, Bool.not_true, Bool.not_false, L, f2, f3, f4, f5, b6, q9, q10, b11, b12]
      exact Is.mk _
    refine aft_i ⟨mL1, by omega, (IntKind.i64.wrap (v7 + 1)), ?_, ?_, ?_, ?_, h⟩
    all_goals simp +decide only [F, reduceIte, Nat.reduceAdd, Bool.not_true, Bool.not_false, f2, f3, f4, f5, b6, q9, q10, b11, b12]
  replace h := ite_f b12 h
  rcases bcas p2 with b13 | b13
  · replace h := ite_f b13 h
    apply SW_run
    · simp +decide only [E, reduceIte, Nat.reduceAdd, Nat.reduceMul, Bool.not_true, Bool.not_false, L, ti9, f2, f3, f4, f5, b6, q9, q10, b11, b12, b13]
      exact Is.mk _
    refine an ?_
    refine SW_ct (by simp +decide only [F, reduceIte, Nat.reduceAdd, Bool.not_true, Bool.not_false, f2, f3, f4, f5, b6, q9, q10, b11, b12, b13]) ?_
    refine sq ?_
    apply SW_run
    · simp +decide only [E, reduceIte, Nat.reduceAdd, Nat.reduceMul, Bool.not_true, Bool.not_false, L, f2, f3, f4, f5, b6, q9, q10, b11, b12, b13]
      exact Is.mk _
    refine an (rt ?_)
    cases h
    simp [Ret, f2, f3, f4, f5, b6, q9, q10, b11, b12, b13]
  replace h := ite_t b13 h
  apply SW_run
  · simp +decide only [E, reduceIte, Nat.reduceAdd, Nat.reduceMul, Bool.not_true, Bool.not_false, L, ti9, f2, f3, f4, f5, b6, q9, q10, b11, b12, b13]
    exact Is.mk _
  refine an ?_
  rcases bcase (!((x7.toNat : Int) == 47)) with b14 | b14
  · replace h := ite_t b14 h
    refine SW_ct (by simp +decide only [F, reduceIte, Nat.reduceAdd, Bool.not_true, Bool.not_false, f2, f3, f4, f5, b6, q9, q10, b11, b12, b13, b14]) ?_
    refine sq ?_
    apply SW_run
    · simp +decide only [E, reduceIte, Nat.reduceAdd, Nat.reduceMul, Bool.not_true, Bool.not_false, L, f2, f3, f4, f5, b6, q9, q10, b11, b12, b13, b14]
      exact Is.mk _
    refine an (rt ?_)
    cases h
    simp [Ret, f2, f3, f4, f5, b6, q9, q10, b11, b12, b13, b14]
  replace h := ite_f b14 h
  refine SW_cf (by simp +decide only [F, reduceIte, Nat.reduceAdd, Bool.not_true, Bool.not_false, f2, f3, f4, f5, b6, q9, q10, b11, b12, b13, b14]) ?_
  refine sk (ab (an ?_))
  apply SW_run
  · simp +decide only [E, reduceIte, Nat.reduceAdd, Nat.reduceMul, Bool.not_true, Bool.not_false, L, f2, f3, f4, f5, b6, q9, q10, b11, b12, b13, b14]
    exact Is.mk _
  refine aft_i ⟨mL1, by omega, (IntKind.i64.wrap (v7 + 1)), ?_, ?_, ?_, ?_, h⟩
  all_goals simp +decide only [F, reduceIte, Nat.reduceAdd, Bool.not_true, Bool.not_false, f2, f3, f4, f5, b6, q9, q10, b11, b12, b13, b14]

set_option maxHeartbeats 4000000 in
theorem c_impl_IsName (p0 : ByteArray) (r : Bool) (h : m_impl_IsName p0 = some r) : SCalls Tryz.prog 101 [(false, [.str p0])] [(false, [.ro (.bool r)])] := by
  unfold m_impl_IsName at h
  refine scalls_n (N := 5) (vars := [.tmp 2]) Tryz.func101 rfl rfl rfl (by decide +kernel) (Nat.le_of_ble_eq_true rfl) fun base wd => ?_
  refine sq ?_
  apply SW_run
  · simp +decide only [E, reduceIte, Nat.reduceAdd, Nat.reduceMul, Bool.not_true, Bool.not_false, L]
    exact Is.mk _
  refine an (sq ?_)
  obtain ⟨x1, h2, h⟩ := bind_some h
  apply SW_run
  · simp +decide only [E, reduceIte, Nat.reduceAdd, Nat.reduceMul, Bool.not_true, Bool.not_false, L]
    refine ⟨_, c_impl_isWord p0 8 false x1 h2, ?_⟩
    try simp +decide only [E, reduceIte, Nat.reduceAdd, Nat.reduceMul, Bool.not_true, Bool.not_false, L]
    exact Is.mk _
  refine an (rt ?_)
  cases h
  simp [Ret, ]

set_option maxHeartbeats 4000000 in
theorem c_impl_IsRecord (p0 : M.Record) (r : Bool) (h : m_impl_IsRecord p0 = some r) : SCalls Tryz.prog 237 [(true, M.Record.en p0)] [(false, [.ro (.bool r)])] := by
  unfold m_impl_IsRecord at h
  simp only [M.Record.en]
  refine scalls_n (N := 44) (vars := [.tmp 2]) Tryz.func237 rfl rfl rfl (by decide +kernel) (Nat.le_of_ble_eq_true rfl) fun base wd => ?_
  refine sq ?_
  apply SW_run
  · simp +decide only [E, reduceIte, Nat.reduceAdd, Nat.reduceMul, Bool.not_true, Bool.not_false, L]
    exact Is.mk _
  refine an (sq (sq ?_))
  apply SW_run
  · simp +decide only [E, reduceIte, Nat.reduceAdd, Nat.reduceMul, Bool.not_true, Bool.not_false, L, ti204, ti206]
    exact Is.mk _
  refine an (bk ?_)
  refine SW_loop (fun m s => ∃ v8 : Int, s.t 1 = .v false [.bp 1 1 0] ∧ s.t 6 = .v false [.dat (.sl (List.map M.Field.en p0.Fields))] ∧ s.t 7 = .v false [.dat (.int .i64 (List.length p0.Fields : Int))] ∧ s.t 8 = .v false [.dat (.int .i64 v8)] ∧ s.h 1 = (1, .box 206 [.dat (.sl (List.map M.Field.en p0.Fields))]) ∧ m_impl_IsRecord_L1 p0 m v8 = some r) fuel ?_ ?_
  · refine ⟨0, ?_, ?_, ?_, ?_, ?_, h⟩
    all_goals simp +decide only [F, reduceIte, Nat.reduceAdd, Bool.not_true, Bool.not_false]
  rintro mL1 s1 ⟨v8, f2, f3, f4, f5, f6, h⟩
  rcases mL1 with _ | mL1
  · exact absurd h (by simp [m_impl_IsRecord_L1])
  simp only [m_impl_IsRecord_L1] at h
  refine sq ?_
  apply SW_run
  · simp +decide only [E, reduceIte, Nat.reduceAdd, Nat.reduceMul, Bool.not_true, Bool.not_false, L, f2, f3, f4, f5, f6]
    exact Is.mk _
  refine an (sq ?_)
  rcases bcas (decide (v8 < (List.length p0.Fields : Int))) with b7 | b7
  · replace h := ite_f b7 h
    refine SW_cf (by simp +decide only [F, reduceIte, Nat.reduceAdd, Bool.not_true, Bool.not_false, f2, f3, f4, f5, f6, b7]) ?_
    refine xt (aft_cx (aft_ix (aft_x (an (sq ?_)))))
    apply SW_run
    · simp +decide only [E, reduceIte, Nat.reduceAdd, Nat.reduceMul, Bool.not_true, Bool.not_false, L, ti204, ti206, f2, f3, f4, f5, f6, b7]
      exact Is.mk _
    refine an (rt ?_)
    cases h
    simp [Ret, f2, f3, f4, f5, f6, b7]
  replace h := ite_t b7 h
  refine SW_ct (by simp +decide only [F, reduceIte, Nat.reduceAdd, Bool.not_true, Bool.not_false, f2, f3, f4, f5, f6, b7]) ?_
  refine sk (an (sq (bk (sq ?_))))
  obtain ⟨x8, h9, h⟩ := bind_some h
  obtain ⟨q10, q11, q12⟩ := idx_some h9
  apply SW_run
  · simp +decide only [E, reduceIte, Nat.reduceAdd, Nat.reduceMul, Bool.not_true, Bool.not_false, L, ti204, ti273, M.Field.en, f2, f3, f4, f5, f6, b7, q10, q11, q12]
    exact Is.mk _
  refine an (sq ?_)
  obtain ⟨x13, h14, h⟩ := bind_some h
  rcases bcase (!x13) with b15 | b15
  · replace h := ite_t b15 h
    apply SW_runD mixed
    · simp +decide only [E, reduceIte, Nat.reduceAdd, Nat.reduceMul, Bool.not_true, Bool.not_false, L, ti9, ti273, f2, f3, f4, f5, f6, b7, q10, q11, q12, b15]
      refine ⟨_, c_impl_IsName x8.Name x13 h14, ?_⟩
      try simp +decide only [E, reduceIte, Nat.reduceAdd, Nat.reduceMul, Bool.not_true, Bool.not_false, L, ti9, ti273, f2, f3, f4, f5, f6, b7, q10, q11, q12, b15]
      exact ⟨.mk (by decide +kernel), Is.mk _⟩
    refine an ?_
    refine SW_ct (by simp +decide only [F, reduceIte, Nat.reduceAdd, Bool.not_true, Bool.not_false, f2, f3, f4, f5, f6, b7, q10, q11, q12, b15]) ?_
    refine sq ?_
    apply SW_run
    · simp +decide only [E, reduceIte, Nat.reduceAdd, Nat.reduceMul, Bool.not_true, Bool.not_false, L, f2, f3, f4, f5, f6, b7, q10, q11, q12, b15]
      exact Is.mk _
    refine an (rt ?_)
    cases h
    simp [Ret, f2, f3, f4, f5, f6, b7, q10, q11, q12, b15]
  replace h := ite_f b15 h
  obtain ⟨x16, h17, h⟩ := bind_some h
  rcases bcase (!x16) with b18 | b18
  · replace h := ite_t b18 h
    apply SW_runD mixed
    · simp +decide only [E, reduceIte, Nat.reduceAdd, Nat.reduceMul, Bool.not_true, Bool.not_false, L, ti3, ti9, ti273, f2, f3, f4, f5, f6, b7, q10, q11, q12, b15, b18]
      refine ⟨_, c_impl_IsName x8.Name x13 h14, ?_⟩
      try simp +decide only [E, reduceIte, Nat.reduceAdd, Nat.reduceMul, Bool.not_true, Bool.not_false, L, ti3, ti9, ti273, f2, f3, f4, f5, f6, b7, q10, q11, q12, b15, b18]
      refine ⟨_, c_impl_InRange x8.N 0 1000000000 x16 h17, ?_⟩
      try simp +decide only [E, reduceIte, Nat.reduceAdd, Nat.reduceMul, Bool.not_true, Bool.not_false, L, ti3, ti9, ti273, f2, f3, f4, f5, f6, b7, q10, q11, q12, b15, b18]
      exact ⟨.mk (by decide +kernel), Is.mk _⟩
    refine an ?_
    refine SW_ct (by simp +decide only [F, reduceIte, Nat.reduceAdd, Bool.not_true, Bool.not_false, f2, f3, f4, f5, f6, b7, q10, q11, q12, b15, b18]) ?_
    refine sq ?_
    apply SW_run
    · simp +decide only [E, reduceIte, Nat.reduceAdd, Nat.reduceMul, Bool.not_true, Bool.not_false, L, f2, f3, f4, f5, f6, b7, q10, q11, q12, b15, b18]
      exact Is.mk _
    refine an (rt ?_)
    cases h
    simp [Ret, f2, f3, f4, f5, f6, b7, q10, q11, q12, b15, b18]
  replace h := ite_f b18 h
  rcases bcas (decide (v8 > 0)) with b19 | b19
  · replace h := ite_f b19 h
    apply SW_runD mixed
    · simp +decide only [E, reduceIte, Nat.reduceAdd, Nat.reduceMul, Bool.not_true, Bool.not_false, L, ti3, ti9, ti273, f2, f3, f4, f5, f6, b7, q10, q11, q12, b15, b18, b19]
      refine ⟨_, c_impl_IsName x8.Name x13 h14, ?_⟩
      try simp +decide only [E, reduceIte, Nat.reduceAdd, Nat.reduceMul, Bool.not_true, Bool.not_false, L, ti3, ti9, ti273, f2, f3, f4, f5, f6, b7, q10, q11, q12, b15, b18, b19]
      refine ⟨_, c_impl_InRange x8.N 0 1000000000 x16 h17, ?_⟩
      try simp +decide only [E, reduceIte, Nat.reduceAdd, Nat.reduceMul, Bool.not_true, Bool.not_false, L, ti3, ti9, ti273, f2, f3, f4, f5, f6, b7, q10, q11, q12, b15, b18, b19]
      exact ⟨.mk (by decide +kernel), Is.mk _⟩
    refine an ?_
    refine SW_cf (by simp +decide only [F, reduceIte, Nat.reduceAdd, Bool.not_true, Bool.not_false, f2, f3, f4, f5, f6, b7, q10, q11, q12, b15, b18, b19]) ?_
    refine sk (ab (an ?_))
    apply SW_run
    · simp +decide only [E, reduceIte, Nat.reduceAdd, Nat.reduceMul, Bool.not_true, Bool.not_false, L, f2, f3, f4, f5, f6, b7, q10, q11, q12, b15, b18, b19]
      exact Is.mk _
    refine aft_i ⟨mL1, by omega, (IntKind.i64.wrap (v8 + 1)), ?_, ?_, ?_, ?_, ?_, h⟩
    all_goals simp +decide only [F, reduceIte, Nat.reduceAdd, Bool.not_true, Bool.not_false, f2, f3, f4, f5, f6, b7, q10, q11, q12, b15, b18, b19]
  replace h := ite_t b19 h
  obtain ⟨x20, h21, h⟩ := bind_some h
  obtain ⟨q22, q23, q24⟩ := idx_some h21
  apply SW_runD mixed
  · simp +decide only [E, reduceIte, Nat.reduceAdd, Nat.reduceMul, Bool.not_true, Bool.not_false, L, ti3, ti9, ti204, ti206, ti273, M.Field.en, f2, f3, f4, f5, f6, b7, q10, q11, q12, b15, b18, b19, q22, q23, q24]
    refine ⟨_, c_impl_IsName x8.Name x13 h14, ?_⟩
    try simp +decide only [E, reduceIte, Nat.reduceAdd, Nat.reduceMul, Bool.not_true, Bool.not_false, L, ti3, ti9, ti204, ti206, ti273, M.Field.en, f2, f3, f4, f5, f6, b7, q10, q11, q12, b15, b18, b19, q22, q23, q24]
    refine ⟨_, c_impl_InRange x8.N 0 1000000000 x16 h17, ?_⟩
    try simp +decide only [E, reduceIte, Nat.reduceAdd, Nat.reduceMul, Bool.not_true, Bool.not_false, L, ti3, ti9, ti204, ti206, ti273, M.Field.en, f2, f3, f4, f5, f6, b7, q10, q11, q12, b15, b18, b19, q22, q23, q24]
    exact ⟨.mk (by decide +kernel), Is.mk _⟩
  refine an ?_
  rcases bcase (Op.bytesLess x8.Name.toList x20.Name.toList || x8.Name.toList == x20.Name.toList) with b25 | b25
  · replace h := ite_t b25 h
    refine SW_ct (by simp +decide only [F, reduceIte, Nat.reduceAdd, Bool.not_true, Bool.not_false, f2, f3, f4, f5, f6, b7, q10, q11, q12, b15, b18, b19, q22, q23, q24, b25]) ?_
    refine sq ?_
    apply SW_run
    · simp +decide only [E, reduceIte, Nat.reduceAdd, Nat.reduceMul, Bool.not_true, Bool.not_false, L, f2, f3, f4, f5, f6, b7, q10, q11, q12, b15, b18, b19, q22, q23, q24, b25]
      exact Is.mk _
    refine an (rt ?_)
    cases h
    simp [Ret, f2, f3, f4, f5, f6, b7, q10, q11, q12, b15, b18, b19, q22, q23, q24, b25]
  replace h := ite_f b25 h
  refine SW_cf (by simp +decide only [F, reduceIte, Nat.reduceAdd, Bool.not_true, Bool.not_false, f2, f3, f4, f5, f6, b7, q10, q11, q12, b15, b18, b19, q22, q23, q24, b25]) ?_
  refine sk (ab (an ?_))
  apply SW_run
  · simp +decide only [E, reduceIte, Nat.reduceAdd, Nat.reduceMul, Bool.not_true, Bool.not_false, L, f2, f3, f4, f5, f6, b7, q10, q11, q12, b15, b18, b19, q22, q23, q24, b25]
    exact Is.mk _
  refine aft_i ⟨mL1, by omega, (IntKind.i64.wrap (v8 + 1)), ?_, ?_, ?_, ?_, ?_, h⟩
  all_goals simp +decide only [F, reduceIte, Nat.reduceAdd, Bool.not_true, Bool.not_false, f2, f3, f4, f5, f6, b7, q10, q11, q12, b15, b18, b19, q22, q23, q24, b25]

set_option maxHeartbeats 4000000 in
theorem c_impl_copyBytes (p0 : List Int) (r : (List Int)) (h : m_impl_copyBytes p0 = some r) : SCalls Tryz.prog 272 [(false, [.sl (List.map enB p0)])] [(false, [.own 5 1 (List.map enB r)])] := by
  unfold m_impl_copyBytes at h
  refine scalls_n (N := 6) (vars := [.tmp 2]) Tryz.func272 rfl rfl rfl (by decide +kernel) (Nat.le_of_ble_eq_true rfl) fun base wd => ?_
  refine sq ?_
  apply SW_run
  · simp +decide only [E, reduceIte, Nat.reduceAdd, Nat.reduceMul, Bool.not_true, Bool.not_false, L]
    exact Is.mk _
  refine an (sq ?_)
  obtain ⟨x1, h2, h⟩ := bind_some h
  apply SW_run
  · simp +decide only [E, reduceIte, Nat.reduceAdd, Nat.reduceMul, Bool.not_true, Bool.not_false, enB.fl, L, ti5, ti31, enB]
    refine ⟨by (have hb := app_some h2); simp [enB, List.length_append, strBytes_len] at hb ⊢ <;> omega, ?_⟩
    try simp +decide only [E, reduceIte, Nat.reduceAdd, Nat.reduceMul, Bool.not_true, Bool.not_false, enB.fl, L, ti5, ti31, enB]
    exact Is.mk _
  refine an (rt ?_)
  cases h
  simp [Ret, enB]

set_option maxHeartbeats 4000000 in
theorem c_impl_AppendUvarint (p0 : List Int) (p1 : Int) (r : (List Int)) (h : m_impl_AppendUvarint p0 p1 = some r) : SCalls Tryz.prog 238 [(false, [.sl (List.map enB p0)]), (false, [.int .i64 p1])] [(false, [.own 5 1 (List.map enB r)])] := by
  unfold m_impl_AppendUvarint at h
  refine scalls_n (N := 28) (vars := [.tmp 4]) Tryz.func238 rfl rfl rfl (by decide +kernel) (Nat.le_of_ble_eq_true rfl) fun base wd => ?_
  refine sq ?_
  apply SW_run
  · simp +decide only [E, reduceIte, Nat.reduceAdd, Nat.reduceMul, Bool.not_true, Bool.not_false, L]
    exact Is.mk _
  refine an (sq ?_)
  obtain ⟨x1, h2, h⟩ := bind_some h
  apply SW_run
  · simp +decide only [E, reduceIte, Nat.reduceAdd, Nat.reduceMul, Bool.not_true, Bool.not_false, L]
    refine ⟨_, c_impl_copyBytes p0 x1 h2, ?_⟩
    try simp +decide only [E, reduceIte, Nat.reduceAdd, Nat.reduceMul, Bool.not_true, Bool.not_false, L]
    exact Is.mk _
  refine an (sq (sq ?_))
  obtain ⟨x3, h4, h⟩ := bind_some h
  apply SW_run
  · simp +decide only [E, reduceIte, Nat.reduceAdd, Nat.reduceMul, Bool.not_true, Bool.not_false, L]
    refine ⟨_, c_impl_InRange p1 0 1000000000000 x3 h4, ?_⟩
    try simp +decide only [E, reduceIte, Nat.reduceAdd, Nat.reduceMul, Bool.not_true, Bool.not_false, L]
    exact Is.mk _
  refine an ?_
  rcases bcase (!x3) with b5 | b5
  · replace h := ite_t b5 h
    refine SW_ct (by simp +decide only [F, reduceIte, Nat.reduceAdd, Bool.not_true, Bool.not_false, b5]) ?_
    refine sq ?_
    apply SW_run
    · simp +decide only [E, reduceIte, Nat.reduceAdd, Nat.reduceMul, Bool.not_true, Bool.not_false, L, b5]
      exact Is.mk _
    refine an (rt ?_)
    cases h
    simp [Ret, enB, b5]
  replace h := ite_f b5 h
  refine SW_cf (by simp +decide only [F, reduceIte, Nat.reduceAdd, Bool.not_true, Bool.not_false, b5]) ?_
  refine sk (an (sq (bk ?_)))
  refine SW_loop (fun m s => ∃ v1 : Int, ∃ r7 : List Int, ∃ u7 : Nat, s.t 1 = .v false [.dat (.int .i64 v1)] ∧ s.t 5 = .v false [.row 100007 u7] ∧ s.h 100007 = (u7, .row 5 1 (List.map enB r7) true) ∧ m_impl_AppendUvarint_L1 m v1 r7 = some r) fuel ?_ ?_
  · refine ⟨p1, x1, 1, ?_, ?_, ?_, h⟩
    all_goals simp +decide only [F, reduceIte, Nat.reduceAdd, Bool.not_true, Bool.not_false, enB, b5]
  rintro mL1 s6 ⟨v1, r7, u7, f7, f8, f9, h⟩
  rcases mL1 with _ | mL1
  · exact absurd h (by simp [m_impl_AppendUvarint_L1])
  simp only [m_impl_AppendUvarint_L1] at h
  refine sq (sq ?_)
  apply SW_run
  · simp +decide only [E, reduceIte, Nat.reduceAdd, Nat.reduceMul, Bool.not_true, Bool.not_false, L, b5, f7, f8, f9]
    exact Is.mk _
  refine an ?_
  rcases bcas (decide (v1 ≥ 128)) with b10 | b10
  · replace h := ite_f b10 h
    refine SW_cf (by simp +decide only [F, reduceIte, Nat.reduceAdd, Bool.not_true, Bool.not_false, b5, f7, f8, f9, b10]) ?_
    refine xt (aft_cx (aft_ix (aft_x (an (sq ?_)))))
    obtain ⟨x17, h18, h⟩ := bind_some h
    apply SW_run
    · simp +decide only [E, reduceIte, Nat.reduceAdd, Nat.reduceMul, Bool.not_true, Bool.not_false, L, ti3, ti5, ti31, enB, b5, f7, f8, f9, b10]
      refine ⟨by (have hb := app_some h18); simp [enB, List.length_append, strBytes_len] at hb ⊢ <;> omega, ?_⟩
      try simp +decide only [E, reduceIte, Nat.reduceAdd, Nat.reduceMul, Bool.not_true, Bool.not_false, L, ti3, ti5, ti31, enB, b5, f7, f8, f9, b10]
      exact Is.mk _
    refine an (rt ?_)
    cases h
    simp [Ret, enB, b5, f7, f8, f9, b10]
  replace h := ite_t b10 h
  refine SW_ct (by simp +decide only [F, reduceIte, Nat.reduceAdd, Bool.not_true, Bool.not_false, b5, f7, f8, f9, b10]) ?_
  refine sk (an (bk (sq ?_)))
  obtain ⟨x11, h12, h⟩ := bind_some h
  apply SW_run
  · simp +decide only [E, reduceIte, Nat.reduceAdd, Nat.reduceMul, Bool.not_true, Bool.not_false, Int.reduceEq, L, ti3, ti5, ti31, enB, b5, f7, f8, f9, b10]
    refine ⟨by (have hb := app_some h12); simp [enB, List.length_append, strBytes_len] at hb ⊢ <;> omega, ?_⟩
    try simp +decide only [E, reduceIte, Nat.reduceAdd, Nat.reduceMul, Bool.not_true, Bool.not_false, Int.reduceEq, L, ti3, ti5, ti31, enB, b5, f7, f8, f9, b10]
    exact Is.mk _
  refine an ?_
  refine SW_cut (J := fun s => s.t 1 = .v false [.dat (.int .i64 v1)] ∧ s.t 5 = .v false [.row 100007 (u7 + 1)] ∧ s.h 100007 = ((u7 + 1), .row 5 1 (List.map enB (r7 ++ [(IntKind.u8.wrap (IntKind.i64.wrap ((Int.tmod v1 128) + 128)))])) true) ∧ True) ?_ ?_
  · refine ⟨?_, ?_, ?_, trivial⟩ <;> (try simp +decide only [F, reduceIte, Nat.reduceAdd, Bool.not_true, Bool.not_false, enB, b5, f7, f8, f9, b10])
  rintro s13 ⟨f14, f15, f16, _⟩
  apply SW_run
  · simp +decide only [E, reduceIte, Nat.reduceAdd, Nat.reduceMul, Bool.not_true, Bool.not_false, Int.reduceEq, L, b5, b10, f14, f15, f16]
    exact Is.mk _
  refine ab ?_
  refine aft_i ⟨mL1, by omega, (IntKind.i64.wrap (Int.tdiv v1 128)), (r7 ++ [(IntKind.u8.wrap (IntKind.i64.wrap ((Int.tmod v1 128) + 128)))]), (u7 + 1), ?_, ?_, ?_, h⟩
  all_goals simp +decide only [F, reduceIte, Nat.reduceAdd, Bool.not_true, Bool.not_false, enB, b5, b10, f14, f15, f16]

set_option maxHeartbeats 4000000 in
theorem c_impl_AppendBytes (p0 : List Int) (p1 : List Int) (r : (List Int)) (h : m_impl_AppendBytes p0 p1 = some r) : SCalls Tryz.prog 239 [(false, [.sl (List.map enB p0)]), (false, [.sl (List.map enB p1)])] [(false, [.own 5 1 (List.map enB r)])] := by
  unfold m_impl_AppendBytes at h
  refine scalls_n (N := 11) (vars := [.tmp 4]) Tryz.func239 rfl rfl rfl (by decide +kernel) (Nat.le_of_ble_eq_true rfl) fun base wd => ?_
  refine sq ?_
  apply SW_run
  · simp +decide only [E, reduceIte, Nat.reduceAdd, Nat.reduceMul, Bool.not_true, Bool.not_false, L]
    exact Is.mk _
  refine an (sq ?_)
  obtain ⟨x1, h2, h⟩ := bind_some h
  obtain ⟨x3, h4, h⟩ := bind_some h
  apply SW_run
  · simp +decide only [E, reduceIte, Nat.reduceAdd, Nat.reduceMul, Bool.not_true, Bool.not_false, enB.fl, L, ti5, ti31, enB]
    refine ⟨_, c_impl_AppendUvarint p0 (List.length p1 : Int) x1 h2, ?_⟩
    try simp +decide only [E, reduceIte, Nat.reduceAdd, Nat.reduceMul, Bool.not_true, Bool.not_false, enB.fl, L, ti5, ti31, enB]
    refine ⟨by (have hb := app_some h4); simp [enB, List.length_append, strBytes_len] at hb ⊢ <;> omega, ?_⟩
    try simp +decide only [E, reduceIte, Nat.reduceAdd, Nat.reduceMul, Bool.not_true, Bool.not_false, enB.fl, L, ti5, ti31, enB]
    exact Is.mk _
  refine an (rt ?_)
  cases h
  simp [Ret, enB]

set_option maxHeartbeats 4000000 in
theorem c_impl_EncodeRecord (p0 : M.Record) (r : (List Int)) (h : m_impl_EncodeRecord p0 = some r) : SCalls Tryz.prog 160 [(true, M.Record.en p0)] [(false, [.own 5 1 (List.map enB r)])] := by
  unfold m_impl_EncodeRecord at h
  simp only [M.Record.en]
  refine scalls_n (N := 31) (vars := [.tmp 2]) Tryz.func160 rfl rfl rfl (by decide +kernel) (Nat.le_of_ble_eq_true rfl) fun base wd => ?_
  refine sq ?_
  apply SW_run
  · simp +decide only [E, reduceIte, Nat.reduceAdd, Nat.reduceMul, Bool.not_true, Bool.not_false, L]
    exact Is.mk _
  refine an (sq (sq ?_))
  obtain ⟨x1, h2, h⟩ := bind_some h
  apply SW_run
  · simp +decide only [E, reduceIte, Nat.reduceAdd, Nat.reduceMul, Bool.not_true, Bool.not_false, L, ti206]
    refine ⟨_, c_impl_IsRecord p0 x1 h2, ?_⟩
    try simp +decide only [E, reduceIte, Nat.reduceAdd, Nat.reduceMul, Bool.not_true, Bool.not_false, L, ti206]
    exact Is.mk _
  refine an ?_
  rcases bcase (!x1) with b3 | b3
  · replace h := ite_t b3 h
    refine SW_ct (by simp +decide only [F, reduceIte, Nat.reduceAdd, Bool.not_true, Bool.not_false, b3]) ?_
    refine sq ?_
    apply SW_run
    · simp +decide only [E, reduceIte, Nat.reduceAdd, Nat.reduceMul, Bool.not_true, Bool.not_false, L, ti5, ti31, enB, b3]
      exact Is.mk _
    refine an (rt ?_)
    cases h
    simp [Ret, enB, b3]
  replace h := ite_f b3 h
  refine SW_cf (by simp +decide only [F, reduceIte, Nat.reduceAdd, Bool.not_true, Bool.not_false, b3]) ?_
  refine sk (an (sq ?_))
  obtain ⟨x4, h5, h⟩ := bind_some h
  apply SW_run
  · simp +decide only [E, reduceIte, Nat.reduceAdd, Nat.reduceMul, Bool.not_true, Bool.not_false, L, ti204, ti206, b3]
    refine ⟨_, c_impl_AppendUvarint ([] : List Int) (List.length p0.Fields : Int) x4 h5, ?_⟩
    try simp +decide only [E, reduceIte, Nat.reduceAdd, Nat.reduceMul, Bool.not_true, Bool.not_false, L, ti204, ti206, b3]
    exact Is.mk _
  refine an (sq (sq ?_))
  apply SW_run
  · simp +decide only [E, reduceIte, Nat.reduceAdd, Nat.reduceMul, Bool.not_true, Bool.not_false, L, ti204, ti206, b3]
    exact Is.mk _
  refine an (bk ?_)
  refine SW_gho ((Gho.ren_t (i := 3) (K := 7030000) (j := 100013) (by simp +decide only [F, reduceIte, Nat.reduceAdd, Bool.not_true, Bool.not_false, b3]; rfl) (by simp +decide only [F, reduceIte, Nat.reduceAdd, Bool.not_true, Bool.not_false, b3]; rfl))) ?_
  refine SW_loopG (fun m s => ∃ v17 : Int, ∃ r30000 : List Int, ∃ u30000 : Nat, s.t 3 = .v false [.row 7030000 u30000] ∧ s.t 15 = .v false [.dat (.sl (List.map M.Field.en p0.Fields))] ∧ s.t 16 = .v false [.dat (.int .i64 (List.length p0.Fields : Int))] ∧ s.t 17 = .v false [.dat (.int .i64 v17)] ∧ s.h 7030000 = (u30000, .row 5 1 (List.map enB r30000) true) ∧ m_impl_EncodeRecord_L1 p0 m v17 r30000 = some r) fuel ?_ ?_
  · refine ⟨0, x4, 1, ?_, ?_, ?_, ?_, ?_, h⟩
    all_goals simp +decide only [F, reduceIte, Nat.reduceAdd, Bool.not_true, Bool.not_false, enB, b3]
  rintro mL1 s6 ⟨v17, r30000, u30000, f7, f8, f9, f10, f11, h⟩
  rcases mL1 with _ | mL1
  · exact absurd h (by simp [m_impl_EncodeRecord_L1])
  simp only [m_impl_EncodeRecord_L1] at h
  refine sq ?_
  apply SW_run
  · simp +decide only [E, reduceIte, Nat.reduceAdd, Nat.reduceMul, Bool.not_true, Bool.not_false, L, b3, f7, f8, f9, f10, f11]
    exact Is.mk _
  refine an (sq ?_)
  rcases bcas (decide (v17 < (List.length p0.Fields : Int))) with b12 | b12
  · replace h := ite_f b12 h
    refine SW_cf (by simp +decide only [F, reduceIte, Nat.reduceAdd, Bool.not_true, Bool.not_false, b3, f7, f8, f9, f10, f11, b12]) ?_
    refine xt (aft_cx (aft_ix (aft_x (an (sq ?_)))))
    apply SW_run
    · simp +decide only [E, reduceIte, Nat.reduceAdd, Nat.reduceMul, Bool.not_true, Bool.not_false, L, b3, f7, f8, f9, f10, f11, b12]
      exact Is.mk _
    refine an (rt ?_)
    cases h
    simp [Ret, enB, b3, f7, f8, f9, f10, f11, b12]
  replace h := ite_t b12 h
  refine SW_ct (by simp +decide only [F, reduceIte, Nat.reduceAdd, Bool.not_true, Bool.not_false, b3, f7, f8, f9, f10, f11, b12]) ?_
  refine sk (an (sq (bk (sq ?_))))
  obtain ⟨x13, h14, h⟩ := bind_some h
  obtain ⟨q15, q16, q17⟩ := idx_some h14
  apply SW_run
  · simp +decide only [E, reduceIte, Nat.reduceAdd, Nat.reduceMul, Bool.not_true, Bool.not_false, L, ti204, ti273, M.Field.en, b3, f7, f8, f9, f10, f11, b12, q15, q16, q17]
    exact Is.mk _
  refine an ?_
  obtain ⟨x18, h19, h⟩ := bind_some h
  obtain ⟨x20, h21, h⟩ := bind_some h
  apply SW_runD mixed
  · simp +decide only [E, reduceIte, Nat.reduceAdd, Nat.reduceMul, Bool.not_true, Bool.not_false, bytesD_en, L, ti3, ti5, ti9, ti31, ti273, b3, f7, f8, f9, f10, f11, b12, q15, q16, q17]
    refine ⟨_, c_impl_AppendBytes r30000 (strBytes x13.Name) x18 h19, ?_⟩
    try simp +decide only [E, reduceIte, Nat.reduceAdd, Nat.reduceMul, Bool.not_true, Bool.not_false, bytesD_en, L, ti3, ti5, ti9, ti31, ti273, b3, f7, f8, f9, f10, f11, b12, q15, q16, q17]
    refine ⟨_, c_impl_AppendUvarint x18 x13.N x20 h21, ?_⟩
    try simp +decide only [E, reduceIte, Nat.reduceAdd, Nat.reduceMul, Bool.not_true, Bool.not_false, bytesD_en, L, ti3, ti5, ti9, ti31, ti273, b3, f7, f8, f9, f10, f11, b12, q15, q16, q17]
    exact ⟨.mk (by decide +kernel), Is.mk _⟩
  refine ab (an ?_)
  apply SW_run
  · simp +decide only [E, reduceIte, Nat.reduceAdd, Nat.reduceMul, Bool.not_true, Bool.not_false, L, b3, f7, f8, f9, f10, f11, b12, q15, q16, q17]
    exact Is.mk _
  refine aft_i ⟨_, (Gho.ren_t (i := 3) (K := 7030000) (j := 100028) (by simp +decide only [F, reduceIte, Nat.reduceAdd, Bool.not_true, Bool.not_false, b3, f7, f8, f9, f10, f11, b12, q15, q16, q17]; rfl) (by simp +decide only [F, reduceIte, Nat.reduceAdd, Bool.not_true, Bool.not_false, b3, f7, f8, f9, f10, f11, b12, q15, q16, q17]; rfl)), mL1, by omega, (IntKind.i64.wrap (v17 + 1)), x20, (u30000 + 1), ?_, ?_, ?_, ?_, ?_, h⟩
  all_goals simp +decide only [F, reduceIte, Nat.reduceAdd, Bool.not_true, Bool.not_false, enB, b3, f7, f8, f9, f10, f11, b12, q15, q16, q17]

set_option maxHeartbeats 4000000 in
theorem c_impl_SizeStore (p0 : M.Store) (r : Int) (h : m_impl_SizeStore p0 = some r) : SCalls Tryz.prog 77 [(true, M.Store.en p0)] [(false, [.ro (.int .i64 r)])] := by
  unfold m_impl_SizeStore at h
  simp only [M.Store.en]
  refine scalls_n (N := 26) (vars := [.tmp 2]) Tryz.func77 rfl rfl rfl (by decide +kernel) (Nat.le_of_ble_eq_true rfl) fun base wd => ?_
  refine sq ?_
  apply SW_run
  · simp +decide only [E, reduceIte, Nat.reduceAdd, Nat.reduceMul, Bool.not_true, Bool.not_false, L]
    exact Is.mk _
  refine an (sq ?_)
  apply SW_run
  · simp +decide only [E, reduceIte, Nat.reduceAdd, Nat.reduceMul, Bool.not_true, Bool.not_false, L]
    exact Is.mk _
  refine an (sq (sq ?_))
  apply SW_run
  · simp +decide only [E, reduceIte, Nat.reduceAdd, Nat.reduceMul, Bool.not_true, Bool.not_false, L, ti58, ti60]
    exact Is.mk _
  refine an (bk ?_)
  refine SW_loop (fun m s => ∃ v3 : Int, ∃ v9 : Int, s.t 3 = .v false [.dat (.int .i64 v3)] ∧ s.t 7 = .v false [.dat (.sl (List.map M.Item.en p0.Items))] ∧ s.t 8 = .v false [.dat (.int .i64 (List.length p0.Items : Int))] ∧ s.t 9 = .v false [.dat (.int .i64 v9)] ∧ m_impl_SizeStore_L1 p0 m v3 v9 = some r) fuel ?_ ?_
  · refine ⟨0, 0, ?_, ?_, ?_, ?_, h⟩
    all_goals simp +decide only [F, reduceIte, Nat.reduceAdd, Bool.not_true, Bool.not_false]
  rintro mL1 s1 ⟨v3, v9, f2, f3, f4, f5, h⟩
  rcases mL1 with _ | mL1
  · exact absurd h (by simp [m_impl_SizeStore_L1])
  simp only [m_impl_SizeStore_L1] at h
  refine sq ?_
  apply SW_run
  · simp +decide only [E, reduceIte, Nat.reduceAdd, Nat.reduceMul, Bool.not_true, Bool.not_false, L, f2, f3, f4, f5]
    exact Is.mk _
  refine an (sq ?_)
  rcases bcas (decide (v9 < (List.length p0.Items : Int))) with b6 | b6
  · replace h := ite_f b6 h
    refine SW_cf (by simp +decide only [F, reduceIte, Nat.reduceAdd, Bool.not_true, Bool.not_false, f2, f3, f4, f5, b6]) ?_
    refine xt (aft_cx (aft_ix (aft_x (an (sq ?_)))))
    apply SW_run
    · simp +decide only [E, reduceIte, Nat.reduceAdd, Nat.reduceMul, Bool.not_true, Bool.not_false, L, f2, f3, f4, f5, b6]
      exact Is.mk _
    refine an (rt ?_)
    cases h
    simp [Ret, f2, f3, f4, f5, b6]
  replace h := ite_t b6 h
  refine SW_ct (by simp +decide only [F, reduceIte, Nat.reduceAdd, Bool.not_true, Bool.not_false, f2, f3, f4, f5, b6]) ?_
  refine sk (an (sq (bk (sq ?_))))
  obtain ⟨x7, h8, h⟩ := bind_some h
  obtain ⟨q9, q10, q11⟩ := idx_some h8
  apply SW_run
  · simp +decide only [E, reduceIte, Nat.reduceAdd, Nat.reduceMul, Bool.not_true, Bool.not_false, L, ti58, ti208, M.Item.en, f2, f3, f4, f5, b6, q9, q10, q11]
    exact Is.mk _
  refine an ?_
  obtain ⟨x12, h13, h⟩ := bind_some h
  obtain ⟨x14, h15, h⟩ := bind_some h
  apply SW_runD mixed
  · simp +decide only [E, reduceIte, Nat.reduceAdd, Nat.reduceMul, Bool.not_true, Bool.not_false, L, ti31, ti203, ti206, ti208, f2, f3, f4, f5, b6, q9, q10, q11]
    refine ⟨_, c_impl_EncodeKey x7.Key x12 h13, ?_⟩
    try simp +decide only [E, reduceIte, Nat.reduceAdd, Nat.reduceMul, Bool.not_true, Bool.not_false, L, ti31, ti203, ti206, ti208, f2, f3, f4, f5, b6, q9, q10, q11]
    refine ⟨_, c_impl_EncodeRecord x7.Record x14 h15, ?_⟩
    try simp +decide only [E, reduceIte, Nat.reduceAdd, Nat.reduceMul, Bool.not_true, Bool.not_false, L, ti31, ti203, ti206, ti208, f2, f3, f4, f5, b6, q9, q10, q11]
    exact ⟨.mk (by decide +kernel), Is.mk _⟩
  refine ab (an ?_)
  apply SW_run
  · simp +decide only [E, reduceIte, Nat.reduceAdd, Nat.reduceMul, Bool.not_true, Bool.not_false, L, f2, f3, f4, f5, b6, q9, q10, q11]
    exact Is.mk _
  refine aft_i ⟨mL1, by omega, (IntKind.i64.wrap (v3 + (IntKind.i64.wrap ((List.length x12 : Int) + (List.length x14 : Int))))), (IntKind.i64.wrap (v9 + 1)), ?_, ?_, ?_, ?_, h⟩
  all_goals simp +decide only [F, reduceIte, Nat.reduceAdd, Bool.not_true, Bool.not_false, f2, f3, f4, f5, b6, q9, q10, q11]

set_option maxHeartbeats 4000000 in
theorem c_impl_SizeDatabase (p0 : M.Database) (r : Int) (h : m_impl_SizeDatabase p0 = some r) : SCalls Tryz.prog 158 [(true, M.Database.en p0)] [(false, [.ro (.int .i64 r)])] := by
  unfold m_impl_SizeDatabase at h
  simp only [M.Database.en]
  refine scalls_n (N := 19) (vars := [.tmp 2]) Tryz.func158 rfl rfl rfl (by decide +kernel) (Nat.le_of_ble_eq_true rfl) fun base wd => ?_
  refine sq ?_
  apply SW_run
  · simp +decide only [E, reduceIte, Nat.reduceAdd, Nat.reduceMul, Bool.not_true, Bool.not_false, L]
    exact Is.mk _
  refine an (sq ?_)
  apply SW_run
  · simp +decide only [E, reduceIte, Nat.reduceAdd, Nat.reduceMul, Bool.not_true, Bool.not_false, L]
    exact Is.mk _
  refine an (sq (sq ?_))
  apply SW_run
  · simp +decide only [E, reduceIte, Nat.reduceAdd, Nat.reduceMul, Bool.not_true, Bool.not_false, L, ti52, ti55]
    exact Is.mk _
  refine an (bk ?_)
  refine SW_loop (fun m s => ∃ v3 : Int, ∃ v9 : Int, s.t 3 = .v false [.dat (.int .i64 v3)] ∧ s.t 7 = .v false [.dat (.sl (List.map M.Store.en p0.Stores))] ∧ s.t 8 = .v false [.dat (.int .i64 (List.length p0.Stores : Int))] ∧ s.t 9 = .v false [.dat (.int .i64 v9)] ∧ m_impl_SizeDatabase_L1 p0 m v3 v9 = some r) fuel ?_ ?_
  · refine ⟨0, 0, ?_, ?_, ?_, ?_, h⟩
    all_goals simp +decide only [F, reduceIte, Nat.reduceAdd, Bool.not_true, Bool.not_false]
  rintro mL1 s1 ⟨v3, v9, f2, f3, f4, f5, h⟩
  rcases mL1 with _ | mL1
  · exact absurd h (by simp [m_impl_SizeDatabase_L1])
  simp only [m_impl_SizeDatabase_L1] at h
  refine sq ?_
  apply SW_run
  · simp +decide only [E, reduceIte, Nat.reduceAdd, Nat.reduceMul, Bool.not_true, Bool.not_false, L, f2, f3, f4, f5]
    exact Is.mk _
  refine an (sq ?_)
  rcases bcas (decide (v9 < (List.length p0.Stores : Int))) with b6 | b6
  · replace h := ite_f b6 h
    refine SW_cf (by simp +decide only [F, reduceIte, Nat.reduceAdd, Bool.not_true, Bool.not_false, f2, f3, f4, f5, b6]) ?_
    refine xt (aft_cx (aft_ix (aft_x (an (sq ?_)))))
    apply SW_run
    · simp +decide only [E, reduceIte, Nat.reduceAdd, Nat.reduceMul, Bool.not_true, Bool.not_false, L, f2, f3, f4, f5, b6]
      exact Is.mk _
    refine an (rt ?_)
    cases h
    simp [Ret, f2, f3, f4, f5, b6]
  replace h := ite_t b6 h
  refine SW_ct (by simp +decide only [F, reduceIte, Nat.reduceAdd, Bool.not_true, Bool.not_false, f2, f3, f4, f5, b6]) ?_
  refine sk (an (sq (bk (sq ?_))))
  obtain ⟨x7, h8, h⟩ := bind_some h
  obtain ⟨q9, q10, q11⟩ := idx_some h8
  apply SW_run
  · simp +decide only [E, reduceIte, Nat.reduceAdd, Nat.reduceMul, Bool.not_true, Bool.not_false, L, ti52, ti60, M.Store.en, f2, f3, f4, f5, b6, q9, q10, q11]
    exact Is.mk _
  refine an ?_
  obtain ⟨x12, h13, h⟩ := bind_some h
  apply SW_run
  · simp +decide only [E, reduceIte, Nat.reduceAdd, Nat.reduceMul, Bool.not_true, Bool.not_false, L, ti60, f2, f3, f4, f5, b6, q9, q10, q11]
    refine ⟨_, c_impl_SizeStore x7 x12 h13, ?_⟩
    try simp +decide only [E, reduceIte, Nat.reduceAdd, Nat.reduceMul, Bool.not_true, Bool.not_false, L, ti60, f2, f3, f4, f5, b6, q9, q10, q11]
    exact Is.mk _
  refine ab (an ?_)
  apply SW_run
  · simp +decide only [E, reduceIte, Nat.reduceAdd, Nat.reduceMul, Bool.not_true, Bool.not_false, L, f2, f3, f4, f5, b6, q9, q10, q11]
    exact Is.mk _
  refine aft_i ⟨mL1, by omega, (IntKind.i64.wrap (v3 + x12)), (IntKind.i64.wrap (v9 + 1)), ?_, ?_, ?_, ?_, h⟩
  all_goals simp +decide only [F, reduceIte, Nat.reduceAdd, Bool.not_true, Bool.not_false, f2, f3, f4, f5, b6, q9, q10, q11]

set_option maxHeartbeats 4000000 in
theorem c_impl_SizeDisk (p0 : M.Disk) (r : Int) (h : m_impl_SizeDisk p0 = some r) : SCalls Tryz.prog 76 [(true, M.Disk.en p0)] [(false, [.ro (.int .i64 r)])] := by
  unfold m_impl_SizeDisk at h
  simp only [M.Disk.en]
  refine scalls_n (N := 10) (vars := [.tmp 2]) Tryz.func76 rfl rfl rfl (by decide +kernel) (Nat.le_of_ble_eq_true rfl) fun base wd => ?_
  refine sq ?_
  apply SW_run
  · simp +decide only [E, reduceIte, Nat.reduceAdd, Nat.reduceMul, Bool.not_true, Bool.not_false, L]
    exact Is.mk _
  refine an (sq ?_)
  obtain ⟨x1, h2, h⟩ := bind_some h
  apply SW_runD mixed
  · simp +decide only [E, reduceIte, Nat.reduceAdd, Nat.reduceMul, Bool.not_true, Bool.not_false, L, ti31, ti55, ti57]
    refine ⟨_, c_impl_SizeDatabase p0.Base x1 h2, ?_⟩
    try simp +decide only [E, reduceIte, Nat.reduceAdd, Nat.reduceMul, Bool.not_true, Bool.not_false, L, ti31, ti55, ti57]
    exact ⟨.mk (by decide +kernel), Is.mk _⟩
  refine an (rt ?_)
  cases h
  simp [Ret, ]

set_option maxHeartbeats 4000000 in
theorem c_impl_UsageOf (p0 : M.Bucket) (r : Int) (h : m_impl_UsageOf p0 = some r) : SCalls Tryz.prog 20 [(true, M.Bucket.en p0)] [(false, [.ro (.int .i64 r)])] := by
  unfold m_impl_UsageOf at h
  simp only [M.Bucket.en]
  refine scalls_n (N := 23) (vars := [.tmp 2]) Tryz.func20 rfl rfl rfl (by decide +kernel) (Nat.le_of_ble_eq_true rfl) fun base wd => ?_
  refine sq ?_
  apply SW_run
  · simp +decide only [E, reduceIte, Nat.reduceAdd, Nat.reduceMul, Bool.not_true, Bool.not_false, L]
    exact Is.mk _
  refine an (sq ?_)
  obtain ⟨x1, h2, h⟩ := bind_some h
  obtain ⟨x3, h4, h⟩ := bind_some h
  obtain ⟨x5, h6, h⟩ := bind_some h
  apply SW_runD mixed
  · simp +decide only [E, reduceIte, Nat.reduceAdd, Nat.reduceMul, Bool.not_true, Bool.not_false, L, ti51, ti57, ti60, ti61, ti63, ti65, ti67, ti69]
    refine ⟨_, c_impl_SizeCaches p0.Caches x1 h2, ?_⟩
    try simp +decide only [E, reduceIte, Nat.reduceAdd, Nat.reduceMul, Bool.not_true, Bool.not_false, L, ti51, ti57, ti60, ti61, ti63, ti65, ti67, ti69]
    refine ⟨_, c_impl_SizeDisk p0.Disk x3 h4, ?_⟩
    try simp +decide only [E, reduceIte, Nat.reduceAdd, Nat.reduceMul, Bool.not_true, Bool.not_false, L, ti51, ti57, ti60, ti61, ti63, ti65, ti67, ti69]
    refine ⟨_, c_impl_SizeStore p0.Replica.Base x5 h6, ?_⟩
    try simp +decide only [E, reduceIte, Nat.reduceAdd, Nat.reduceMul, Bool.not_true, Bool.not_false, L, ti51, ti57, ti60, ti61, ti63, ti65, ti67, ti69]
    exact ⟨.mk (by decide +kernel), Is.mk _⟩
  refine an (rt ?_)
  cases h
  simp [Ret, ]

end Go.Proofs.YtgpiencmneiblaaGreat.gen
