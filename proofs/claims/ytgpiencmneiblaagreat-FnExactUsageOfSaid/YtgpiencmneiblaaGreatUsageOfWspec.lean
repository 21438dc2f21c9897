/-
  Helper text: walks: each function's contract out of its model. No conditions beyond those of each contract.
-/
import Derived.Test.YtgpiencmneiblaaGreatUsageOfTi
namespace Go.Proofs.YtgpiencmneiblaaGreat.gen
open Go Go.Sh
set_option linter.unusedVariables false
set_option linter.unusedSimpArgs false
set_option maxHeartbeats 4000000 in
theorem c_spec_StoredSize (p0 : M.Response) (p1 : Bool) (r : Int) (h : m_spec_StoredSize p0 p1 = some r) : SCalls Tryz.prog 153 [(true, M.Response.en p0), (false, [.bool p1])] [(false, [.ro (.int .i64 r)])] := by
  unfold m_spec_StoredSize at h
  simp only [M.Response.en]
  refine scalls_n (N := 10) (vars := [.tmp 4]) Tryz.func153 rfl rfl rfl (by decide +kernel) (Nat.le_of_ble_eq_true rfl) fun base wd => ?_
  refine sq ?_
  apply SW_run
  · simp +decide only [E, reduceIte, Nat.reduceAdd, Nat.reduceMul, L]
    exact Is.mk _
  refine an (sq (sq ?_))
  apply SW_run
  · simp +decide only [E, reduceIte, Nat.reduceAdd, Nat.reduceMul, L]
    exact Is.mk _
  refine an ?_
  rcases bcase p1 with b1 | b1
  · replace h := ite_t b1 h
    refine SW_ct (by simp +decide only [F, reduceIte, Nat.reduceAdd, b1]) ?_
    refine sq ?_
    apply SW_run
    · simp +decide only [E, reduceIte, Nat.reduceAdd, Nat.reduceMul, L, b1]
      exact Is.mk _
    refine an (rt ?_)
    cases h
    simp [Ret, b1]
  replace h := ite_f b1 h
  refine SW_cf (by simp +decide only [F, reduceIte, Nat.reduceAdd, b1]) ?_
  refine sk (an (sq ?_))
  apply SW_run
  · simp +decide only [E, reduceIte, Nat.reduceAdd, Nat.reduceMul, L, ti31, ti187, b1]
    exact Is.mk _
  refine an (rt ?_)
  cases h
  simp [Ret, b1]

set_option maxHeartbeats 4000000 in
theorem c_spec_SizeCaches (p0 : M.CacheSet) (r : Int) (h : m_spec_SizeCaches p0 = some r) : SCalls Tryz.prog 72 [(true, M.CacheSet.en p0)] [(false, [.ro (.int .i64 r)])] := by
  unfold m_spec_SizeCaches at h
  simp only [M.CacheSet.en]
  refine scalls_n (N := 43) (vars := [.tmp 2]) Tryz.func72 rfl rfl rfl (by decide +kernel) (Nat.le_of_ble_eq_true rfl) fun base wd => ?_
  refine sq ?_
  apply SW_run
  · simp +decide only [E, reduceIte, Nat.reduceAdd, Nat.reduceMul, L]
    exact Is.mk _
  refine an (sq ?_)
  apply SW_run
  · simp +decide only [E, reduceIte, Nat.reduceAdd, Nat.reduceMul, L]
    exact Is.mk _
  refine an (sq (sq ?_))
  apply SW_run
  · simp +decide only [E, reduceIte, Nat.reduceAdd, Nat.reduceMul, L]
    exact Is.mk _
  refine an (bk ?_)
  refine SW_loop (fun m s => ∃ v3 : Int, ∃ v4 : Int, s.t 1 = .v false [.bp 1 1 0] ∧ s.t 3 = .v false [.dat (.int .i64 v3)] ∧ s.t 4 = .v false [.dat (.int .i64 v4)] ∧ s.h 1 = (1, .box 51 [.dat (.sl (List.map M.Cache.en p0.Caches))]) ∧ m_spec_SizeCaches_L1 p0 m v3 v4 = some r) fuel ?_ ?_
  · refine ⟨0, 0, ?_, ?_, ?_, ?_, h⟩
    all_goals simp +decide only [F, reduceIte, Nat.reduceAdd]
  rintro mL1 s1 ⟨v3, v4, f2, f3, f4, f5, h⟩
  rcases mL1 with _ | mL1
  · exact absurd h (by simp [m_spec_SizeCaches_L1])
  simp only [m_spec_SizeCaches_L1] at h
  refine sq (sq ?_)
  apply SW_run
  · simp +decide only [E, reduceIte, Nat.reduceAdd, Nat.reduceMul, L, ti49, ti51, f2, f3, f4, f5]
    exact Is.mk _
  refine an ?_
  rcases bcas (decide (v4 < (List.length p0.Caches : Int))) with b6 | b6
  · replace h := ite_f b6 h
    refine SW_cf (by simp +decide only [F, reduceIte, Nat.reduceAdd, f2, f3, f4, f5, b6]) ?_
    refine xt (aft_cx (aft_ix (aft_x (an (sq ?_)))))
    apply SW_run
    · simp +decide only [E, reduceIte, Nat.reduceAdd, Nat.reduceMul, L, f2, f3, f4, f5, b6]
      exact Is.mk _
    refine an (rt ?_)
    cases h
    simp [Ret, f2, f3, f4, f5, b6]
  replace h := ite_t b6 h
  refine SW_ct (by simp +decide only [F, reduceIte, Nat.reduceAdd, f2, f3, f4, f5, b6]) ?_
  refine sk (an (sq (bk (sq ?_))))
  apply SW_run
  · simp +decide only [E, reduceIte, Nat.reduceAdd, Nat.reduceMul, L, f2, f3, f4, f5, b6]
    exact Is.mk _
  refine an (bk ?_)
  obtain ⟨k8, e9, h⟩ := absk (f := fun kk => m_spec_SizeCaches_L2 p0 v4 kk fuel v3 0) h
  refine SW_loop (fun m s => ∃ v3_L2 : Int, ∃ v5_L2 : Int, s.t 1 = .v false [.bp 1 1 0] ∧ s.t 3 = .v false [.dat (.int .i64 v3_L2)] ∧ s.t 4 = .v false [.dat (.int .i64 v4)] ∧ s.t 5 = .v false [.dat (.int .i64 v5_L2)] ∧ s.h 1 = (1, .box 51 [.dat (.sl (List.map M.Cache.en p0.Caches))]) ∧ m_spec_SizeCaches_L2 p0 v4 k8 m v3_L2 v5_L2 = some r) fuel ?_ ?_
  · refine ⟨v3, 0, ?_, ?_, ?_, ?_, ?_, h⟩
    all_goals simp +decide only [F, reduceIte, Nat.reduceAdd, f2, f3, f4, f5, b6]
  rintro mL2 s7 ⟨v3_L2, v5_L2, f10, f11, f12, f13, f14, h⟩
  rcases mL2 with _ | mL2
  · exact absurd h (by simp [m_spec_SizeCaches_L2])
  simp only [m_spec_SizeCaches_L2] at h
  refine sq (sq ?_)
  obtain ⟨x15, h16, h⟩ := bind_some h
  obtain ⟨q17, q18, q19⟩ := idx_some h16
  apply SW_run
  · simp +decide only [E, reduceIte, Nat.reduceAdd, Nat.reduceMul, L, ti49, ti51, ti183, ti185, M.Cache.en, b6, f10, f11, f12, f13, f14, q17, q18, q19]
    exact Is.mk _
  refine an ?_
  rcases bcas (decide (v5_L2 < (List.length x15.Entries : Int))) with b20 | b20
  · replace h := ite_f b20 h
    refine SW_cf (by simp +decide only [F, reduceIte, Nat.reduceAdd, b6, f10, f11, f12, f13, f14, q17, q18, q19, b20]) ?_
    refine xt (aft_cx ?_)
    subst e9
    refine aft_ix (aft_x (ab (an ?_)))
    apply SW_run
    · simp +decide only [E, reduceIte, Nat.reduceAdd, Nat.reduceMul, L, b6, f10, f11, f12, f13, f14, q17, q18, q19, b20]
      exact Is.mk _
    refine aft_i ⟨mL1, by omega, v3_L2, (IntKind.i64.wrap (v4 + 1)), ?_, ?_, ?_, ?_, h⟩
    all_goals simp +decide only [F, reduceIte, Nat.reduceAdd, b6, f10, f11, f12, f13, f14, q17, q18, q19, b20]
  replace h := ite_t b20 h
  refine SW_ct (by simp +decide only [F, reduceIte, Nat.reduceAdd, b6, f10, f11, f12, f13, f14, q17, q18, q19, b20]) ?_
  refine sk (an (sq (bk (sq ?_))))
  obtain ⟨x21, h22, h⟩ := bind_some h
  obtain ⟨q23, q24, q25⟩ := idx_some h22
  apply SW_run
  · simp +decide only [E, reduceIte, Nat.reduceAdd, Nat.reduceMul, L, ti49, ti51, ti183, ti185, ti187, ti189, M.Cache.en, M.Cached.en, b6, f10, f11, f12, f13, f14, q17, q18, q19, b20, q23, q24, q25]
    exact Is.mk _
  refine an ?_
  obtain ⟨x26, h27, h⟩ := bind_some h
  apply SW_run
  · simp +decide only [E, reduceIte, Nat.reduceAdd, Nat.reduceMul, L, ti3, ti187, b6, f10, f11, f12, f13, f14, q17, q18, q19, b20, q23, q24, q25]
    refine ⟨_, c_spec_StoredSize x21.Response (x21.Response.Type_ == 3) x26 h27, ?_⟩
    try simp +decide only [E, reduceIte, Nat.reduceAdd, Nat.reduceMul, L, ti3, ti187, b6, f10, f11, f12, f13, f14, q17, q18, q19, b20, q23, q24, q25]
    exact Is.mk _
  refine ab (an ?_)
  apply SW_run
  · simp +decide only [E, reduceIte, Nat.reduceAdd, Nat.reduceMul, L, b6, f10, f11, f12, f13, f14, q17, q18, q19, b20, q23, q24, q25]
    exact Is.mk _
  refine aft_i ⟨mL2, by omega, (IntKind.i64.wrap (v3_L2 + x26)), (IntKind.i64.wrap (v5_L2 + 1)), ?_, ?_, ?_, ?_, ?_, h⟩
  all_goals simp +decide only [F, reduceIte, Nat.reduceAdd, b6, f10, f11, f12, f13, f14, q17, q18, q19, b20, q23, q24, q25]

set_option maxHeartbeats 4000000 in
theorem c_spec_l1In (p0 : Int) (p1 : Int) (p2 : Int) (r : Bool) (h : m_spec_l1In p0 p1 p2 = some r) : SCalls Tryz.prog 100 [(false, [.int .i64 p0]), (false, [.int .i64 p1]), (false, [.int .i64 p2])] [(false, [.ro (.bool r)])] := by
  unfold m_spec_l1In at h
  refine scalls_n (N := 15) (vars := [.tmp 6]) Tryz.func100 rfl rfl rfl (by decide +kernel) (Nat.le_of_ble_eq_true rfl) fun base wd => ?_
  refine sq ?_
  apply SW_run
  · simp +decide only [E, reduceIte, Nat.reduceAdd, Nat.reduceMul, L]
    exact Is.mk _
  refine an (sq ?_)
  rcases bcase (decide (p0 ≥ p1)) with b1 | b1
  · replace h := ite_t b1 h
    apply SW_run
    · simp +decide only [E, reduceIte, Nat.reduceAdd, Nat.reduceMul, L, b1]
      exact Is.mk _
    refine an (rt ?_)
    cases h
    simp [Ret, b1]
  replace h := ite_f b1 h
  apply SW_run
  · simp +decide only [E, reduceIte, Nat.reduceAdd, Nat.reduceMul, L, b1]
    exact Is.mk _
  refine an (rt ?_)
  cases h
  simp [Ret, b1]

set_option maxHeartbeats 4000000 in
theorem c_spec_l4Text (p0 : ByteArray) (r : Bool) (h : m_spec_l4Text p0 = some r) : SCalls Tryz.prog 293 [(false, [.str p0])] [(false, [.ro (.bool r)])] := by
  unfold m_spec_l4Text at h
  refine scalls_n (N := 35) (vars := [.tmp 2]) Tryz.func293 rfl rfl rfl (by decide +kernel) (Nat.le_of_ble_eq_true rfl) fun base wd => ?_
  refine sq ?_
  apply SW_run
  · simp +decide only [E, reduceIte, Nat.reduceAdd, Nat.reduceMul, L]
    exact Is.mk _
  refine an (sq (sq ?_))
  apply SW_run
  · simp +decide only [E, reduceIte, Nat.reduceAdd, Nat.reduceMul, L]
    exact Is.mk _
  refine an (bk ?_)
  refine SW_loop (fun m s => ∃ v3 : Int, s.t 0 = .v false [.dat (.str p0)] ∧ s.t 3 = .v false [.dat (.int .i64 v3)] ∧ m_spec_l4Text_L1 p0 m v3 = some r) fuel ?_ ?_
  · refine ⟨0, ?_, ?_, h⟩
    all_goals simp +decide only [F, reduceIte, Nat.reduceAdd]
  rintro mL1 s1 ⟨v3, f2, f3, h⟩
  rcases mL1 with _ | mL1
  · exact absurd h (by simp [m_spec_l4Text_L1])
  simp only [m_spec_l4Text_L1] at h
  refine sq (sq ?_)
  apply SW_run
  · simp +decide only [E, reduceIte, Nat.reduceAdd, Nat.reduceMul, L, ti9, f2, f3]
    exact Is.mk _
  refine an ?_
  rcases bcas (decide (v3 < (p0.size : Int))) with b4 | b4
  · replace h := ite_f b4 h
    refine SW_cf (by simp +decide only [F, reduceIte, Nat.reduceAdd, f2, f3, b4]) ?_
    refine xt (aft_cx (aft_ix (aft_x (an (sq ?_)))))
    apply SW_run
    · simp +decide only [E, reduceIte, Nat.reduceAdd, Nat.reduceMul, L, ti9, f2, f3, b4]
      exact Is.mk _
    refine an (rt ?_)
    cases h
    simp [Ret, f2, f3, b4]
  replace h := ite_t b4 h
  refine SW_ct (by simp +decide only [F, reduceIte, Nat.reduceAdd, f2, f3, b4]) ?_
  refine sk (an (sq (bk (sq ?_))))
  obtain ⟨x5, h6, h⟩ := bind_some h
  obtain ⟨q7, q8⟩ := sidx_some h6
  rcases bcase (decide ((x5.toNat : Int) < 97)) with b9 | b9
  · replace h := ite_t b9 h
    rcases bcase (decide ((x5.toNat : Int) < 48)) with b10 | b10
    · replace h := ite_t b10 h
      apply SW_run
      · simp +decide only [E, reduceIte, Nat.reduceAdd, Nat.reduceMul, L, ti9, f2, f3, b4, q7, q8, b9, b10]
        exact Is.mk _
      refine an ?_
      refine SW_ct (by simp +decide only [F, reduceIte, Nat.reduceAdd, f2, f3, b4, q7, q8, b9, b10]) ?_
      refine sq ?_
      apply SW_run
      · simp +decide only [E, reduceIte, Nat.reduceAdd, Nat.reduceMul, L, f2, f3, b4, q7, q8, b9, b10]
        exact Is.mk _
      refine an (rt ?_)
      cases h
      simp [Ret, f2, f3, b4, q7, q8, b9, b10]
    replace h := ite_f b10 h
    apply SW_run
    · simp +decide only [E, reduceIte, Nat.reduceAdd, Nat.reduceMul, L, ti9, f2, f3, b4, q7, q8, b9, b10]
      exact Is.mk _
    refine an ?_
    rcases bcase (decide ((x5.toNat : Int) > 57)) with b11 | b11
    · replace h := ite_t b11 h
      refine SW_ct (by simp +decide only [F, reduceIte, Nat.reduceAdd, f2, f3, b4, q7, q8, b9, b10, b11]) ?_
      refine sq ?_
      apply SW_run
      · simp +decide only [E, reduceIte, Nat.reduceAdd, Nat.reduceMul, L, f2, f3, b4, q7, q8, b9, b10, b11]
        exact Is.mk _
      refine an (rt ?_)
      cases h
      simp [Ret, f2, f3, b4, q7, q8, b9, b10, b11]
    replace h := ite_f b11 h
    refine SW_cf (by simp +decide only [F, reduceIte, Nat.reduceAdd, f2, f3, b4, q7, q8, b9, b10, b11]) ?_
    refine sk (ab (an ?_))
    apply SW_run
    · simp +decide only [E, reduceIte, Nat.reduceAdd, Nat.reduceMul, L, f2, f3, b4, q7, q8, b9, b10, b11]
      exact Is.mk _
    refine aft_i ⟨mL1, by omega, (IntKind.i64.wrap (v3 + 1)), ?_, ?_, h⟩
    all_goals simp +decide only [F, reduceIte, Nat.reduceAdd, f2, f3, b4, q7, q8, b9, b10, b11]
  replace h := ite_f b9 h
  rcases bcas (decide ((x5.toNat : Int) > 122)) with b12 | b12
  · replace h := ite_f b12 h
    apply SW_run
    · simp +decide only [E, reduceIte, Nat.reduceAdd, Nat.reduceMul, L, ti9, f2, f3, b4, q7, q8, b9, b12]
      exact Is.mk _
    refine an ?_
    refine SW_cf (by simp +decide only [F, reduceIte, Nat.reduceAdd, f2, f3, b4, q7, q8, b9, b12]) ?_
    refine sk (ab (an ?_))
    apply SW_run
    · simp +decide only [E, reduceIte, Nat.reduceAdd, Nat.reduceMul, L, f2, f3, b4, q7, q8, b9, b12]
      exact Is.mk _
    refine aft_i ⟨mL1, by omega, (IntKind.i64.wrap (v3 + 1)), ?_, ?_, h⟩
    all_goals simp +decide only [F, reduceIte, Nat.reduceAdd, f2, f3, b4, q7, q8, b9, b12]
  replace h := ite_t b12 h
  rcases bcase (decide ((x5.toNat : Int) < 48)) with b13 | b13
  · replace h := ite_t b13 h
    apply SW_run
    · simp +decide only [E, reduceIte, Nat.reduceAdd, Nat.reduceMul, L, ti9, f2, f3, b4, q7, q8, b9, b12, b13]
      exact Is.mk _
    refine an ?_
    refine SW_ct (by simp +decide only [F, reduceIte, Nat.reduceAdd, f2, f3, b4, q7, q8, b9, b12, b13]) ?_
    refine sq ?_
    apply SW_run
    · simp +decide only [E, reduceIte, Nat.reduceAdd, Nat.reduceMul, L, f2, f3, b4, q7, q8, b9, b12, b13]
      exact Is.mk _
    refine an (rt ?_)
    cases h
    simp [Ret, f2, f3, b4, q7, q8, b9, b12, b13]
  replace h := ite_f b13 h
  apply SW_run
  · simp +decide only [E, reduceIte, Nat.reduceAdd, Nat.reduceMul, L, ti9, f2, f3, b4, q7, q8, b9, b12, b13]
    exact Is.mk _
  refine an ?_
  rcases bcase (decide ((x5.toNat : Int) > 57)) with b14 | b14
  · replace h := ite_t b14 h
    refine SW_ct (by simp +decide only [F, reduceIte, Nat.reduceAdd, f2, f3, b4, q7, q8, b9, b12, b13, b14]) ?_
    refine sq ?_
    apply SW_run
    · simp +decide only [E, reduceIte, Nat.reduceAdd, Nat.reduceMul, L, f2, f3, b4, q7, q8, b9, b12, b13, b14]
      exact Is.mk _
    refine an (rt ?_)
    cases h
    simp [Ret, f2, f3, b4, q7, q8, b9, b12, b13, b14]
  replace h := ite_f b14 h
  refine SW_cf (by simp +decide only [F, reduceIte, Nat.reduceAdd, f2, f3, b4, q7, q8, b9, b12, b13, b14]) ?_
  refine sk (ab (an ?_))
  apply SW_run
  · simp +decide only [E, reduceIte, Nat.reduceAdd, Nat.reduceMul, L, f2, f3, b4, q7, q8, b9, b12, b13, b14]
    exact Is.mk _
  refine aft_i ⟨mL1, by omega, (IntKind.i64.wrap (v3 + 1)), ?_, ?_, h⟩
  all_goals simp +decide only [F, reduceIte, Nat.reduceAdd, f2, f3, b4, q7, q8, b9, b12, b13, b14]

set_option maxHeartbeats 4000000 in
theorem c_spec_IsKey (p0 : M.Key) (r : Bool) (h : m_spec_IsKey p0 = some r) : SCalls Tryz.prog 232 [(true, M.Key.en p0)] [(false, [.ro (.bool r)])] := by
  unfold m_spec_IsKey at h
  simp only [M.Key.en]
  refine scalls_n (N := 36) (vars := [.tmp 2]) Tryz.func232 rfl rfl rfl (by decide +kernel) (Nat.le_of_ble_eq_true rfl) fun base wd => ?_
  refine sq ?_
  apply SW_run
  · simp +decide only [E, reduceIte, Nat.reduceAdd, Nat.reduceMul, L]
    exact Is.mk _
  refine an (sq ?_)
  obtain ⟨x1, h2, h⟩ := bind_some h
  rcases bcas x1 with b3 | b3
  · replace h := ite_f b3 h
    apply SW_run
    · simp +decide only [E, reduceIte, Nat.reduceAdd, Nat.reduceMul, L, ti3, ti203, b3]
      refine ⟨_, c_spec_l1In p0.Kind 1 3 x1 h2, ?_⟩
      try simp +decide only [E, reduceIte, Nat.reduceAdd, Nat.reduceMul, L, ti3, ti203, b3]
      exact Is.mk _
    refine an (rt ?_)
    cases h
    simp [Ret, b3]
  replace h := ite_t b3 h
  obtain ⟨x4, h5, h⟩ := bind_some h
  rcases bcas x4 with b6 | b6
  · replace h := ite_f b6 h
    apply SW_run
    · simp +decide only [E, reduceIte, Nat.reduceAdd, Nat.reduceMul, L, ti3, ti203, b3, b6]
      refine ⟨_, c_spec_l1In p0.Kind 1 3 x1 h2, ?_⟩
      try simp +decide only [E, reduceIte, Nat.reduceAdd, Nat.reduceMul, L, ti3, ti203, b3, b6]
      refine ⟨_, c_spec_l1In p0.N (-1000000000000) 1000000000000 x4 h5, ?_⟩
      try simp +decide only [E, reduceIte, Nat.reduceAdd, Nat.reduceMul, L, ti3, ti203, b3, b6]
      exact Is.mk _
    refine an (rt ?_)
    cases h
    simp [Ret, b3, b6]
  replace h := ite_t b6 h
  rcases bcase (p0.Kind != 2) with b7 | b7
  · replace h := ite_t b7 h
    obtain ⟨x8, h9, h⟩ := bind_some h
    rcases bcas x8 with b10 | b10
    · replace h := ite_f b10 h
      apply SW_run
      · simp +decide only [E, reduceIte, Nat.reduceAdd, Nat.reduceMul, L, ti3, ti9, ti203, b3, b6, b7, b10]
        refine ⟨_, c_spec_l1In p0.Kind 1 3 x1 h2, ?_⟩
        try simp +decide only [E, reduceIte, Nat.reduceAdd, Nat.reduceMul, L, ti3, ti9, ti203, b3, b6, b7, b10]
        refine ⟨_, c_spec_l1In p0.N (-1000000000000) 1000000000000 x4 h5, ?_⟩
        try simp +decide only [E, reduceIte, Nat.reduceAdd, Nat.reduceMul, L, ti3, ti9, ti203, b3, b6, b7, b10]
        refine ⟨_, c_spec_l4Text p0.Text x8 h9, ?_⟩
        try simp +decide only [E, reduceIte, Nat.reduceAdd, Nat.reduceMul, L, ti3, ti9, ti203, b3, b6, b7, b10]
        exact Is.mk _
      refine an (rt ?_)
      cases h
      simp [Ret, b3, b6, b7, b10]
    replace h := ite_t b10 h
    rcases bcase (p0.Kind != 1) with b11 | b11
    · replace h := ite_t b11 h
      apply SW_run
      · simp +decide only [E, reduceIte, Nat.reduceAdd, Nat.reduceMul, L, ti3, ti9, ti203, b3, b6, b7, b10, b11]
        refine ⟨_, c_spec_l1In p0.Kind 1 3 x1 h2, ?_⟩
        try simp +decide only [E, reduceIte, Nat.reduceAdd, Nat.reduceMul, L, ti3, ti9, ti203, b3, b6, b7, b10, b11]
        refine ⟨_, c_spec_l1In p0.N (-1000000000000) 1000000000000 x4 h5, ?_⟩
        try simp +decide only [E, reduceIte, Nat.reduceAdd, Nat.reduceMul, L, ti3, ti9, ti203, b3, b6, b7, b10, b11]
        refine ⟨_, c_spec_l4Text p0.Text x8 h9, ?_⟩
        try simp +decide only [E, reduceIte, Nat.reduceAdd, Nat.reduceMul, L, ti3, ti9, ti203, b3, b6, b7, b10, b11]
        exact Is.mk _
      refine an (rt ?_)
      cases h
      simp [Ret, b3, b6, b7, b10, b11]
    replace h := ite_f b11 h
    apply SW_run
    · simp +decide only [E, reduceIte, Nat.reduceAdd, Nat.reduceMul, L, ti3, ti9, ti203, b3, b6, b7, b10, b11]
      refine ⟨_, c_spec_l1In p0.Kind 1 3 x1 h2, ?_⟩
      try simp +decide only [E, reduceIte, Nat.reduceAdd, Nat.reduceMul, L, ti3, ti9, ti203, b3, b6, b7, b10, b11]
      refine ⟨_, c_spec_l1In p0.N (-1000000000000) 1000000000000 x4 h5, ?_⟩
      try simp +decide only [E, reduceIte, Nat.reduceAdd, Nat.reduceMul, L, ti3, ti9, ti203, b3, b6, b7, b10, b11]
      refine ⟨_, c_spec_l4Text p0.Text x8 h9, ?_⟩
      try simp +decide only [E, reduceIte, Nat.reduceAdd, Nat.reduceMul, L, ti3, ti9, ti203, b3, b6, b7, b10, b11]
      exact Is.mk _
    refine an (rt ?_)
    cases h
    simp [Ret, b3, b6, b7, b10, b11]
  replace h := ite_f b7 h
  rcases bcas (p0.N == 0) with b12 | b12
  · replace h := ite_f b12 h
    apply SW_run
    · simp +decide only [E, reduceIte, Nat.reduceAdd, Nat.reduceMul, L, ti3, ti203, b3, b6, b7, b12]
      refine ⟨_, c_spec_l1In p0.Kind 1 3 x1 h2, ?_⟩
      try simp +decide only [E, reduceIte, Nat.reduceAdd, Nat.reduceMul, L, ti3, ti203, b3, b6, b7, b12]
      refine ⟨_, c_spec_l1In p0.N (-1000000000000) 1000000000000 x4 h5, ?_⟩
      try simp +decide only [E, reduceIte, Nat.reduceAdd, Nat.reduceMul, L, ti3, ti203, b3, b6, b7, b12]
      exact Is.mk _
    refine an (rt ?_)
    cases h
    simp [Ret, b3, b6, b7, b12]
  replace h := ite_t b12 h
  obtain ⟨x13, h14, h⟩ := bind_some h
  rcases bcas x13 with b15 | b15
  · replace h := ite_f b15 h
    apply SW_run
    · simp +decide only [E, reduceIte, Nat.reduceAdd, Nat.reduceMul, L, ti3, ti9, ti203, b3, b6, b7, b12, b15]
      refine ⟨_, c_spec_l1In p0.Kind 1 3 x1 h2, ?_⟩
      try simp +decide only [E, reduceIte, Nat.reduceAdd, Nat.reduceMul, L, ti3, ti9, ti203, b3, b6, b7, b12, b15]
      refine ⟨_, c_spec_l1In p0.N (-1000000000000) 1000000000000 x4 h5, ?_⟩
      try simp +decide only [E, reduceIte, Nat.reduceAdd, Nat.reduceMul, L, ti3, ti9, ti203, b3, b6, b7, b12, b15]
      refine ⟨_, c_spec_l4Text p0.Text x13 h14, ?_⟩
      try simp +decide only [E, reduceIte, Nat.reduceAdd, Nat.reduceMul, L, ti3, ti9, ti203, b3, b6, b7, b12, b15]
      exact Is.mk _
    refine an (rt ?_)
    cases h
    simp [Ret, b3, b6, b7, b12, b15]
  replace h := ite_t b15 h
  rcases bcase (p0.Kind != 1) with b16 | b16
  · replace h := ite_t b16 h
    apply SW_run
    · simp +decide only [E, reduceIte, Nat.reduceAdd, Nat.reduceMul, L, ti3, ti9, ti203, b3, b6, b7, b12, b15, b16]
      refine ⟨_, c_spec_l1In p0.Kind 1 3 x1 h2, ?_⟩
      try simp +decide only [E, reduceIte, Nat.reduceAdd, Nat.reduceMul, L, ti3, ti9, ti203, b3, b6, b7, b12, b15, b16]
      refine ⟨_, c_spec_l1In p0.N (-1000000000000) 1000000000000 x4 h5, ?_⟩
      try simp +decide only [E, reduceIte, Nat.reduceAdd, Nat.reduceMul, L, ti3, ti9, ti203, b3, b6, b7, b12, b15, b16]
      refine ⟨_, c_spec_l4Text p0.Text x13 h14, ?_⟩
      try simp +decide only [E, reduceIte, Nat.reduceAdd, Nat.reduceMul, L, ti3, ti9, ti203, b3, b6, b7, b12, b15, b16]
      exact Is.mk _
    refine an (rt ?_)
    cases h
    simp [Ret, b3, b6, b7, b12, b15, b16]
  replace h := ite_f b16 h
  apply SW_run
  · simp +decide only [E, reduceIte, Nat.reduceAdd, Nat.reduceMul, L, ti3, ti9, ti203, b3, b6, b7, b12, b15, b16]
    refine ⟨_, c_spec_l1In p0.Kind 1 3 x1 h2, ?_⟩
    try simp +decide only [E, reduceIte, Nat.reduceAdd, Nat.reduceMul, L, ti3, ti9, ti203, b3, b6, b7, b12, b15, b16]
    refine ⟨_, c_spec_l1In p0.N (-1000000000000) 1000000000000 x4 h5, ?_⟩
    try simp +decide only [E, reduceIte, Nat.reduceAdd, Nat.reduceMul, L, ti3, ti9, ti203, b3, b6, b7, b12, b15, b16]
    refine ⟨_, c_spec_l4Text p0.Text x13 h14, ?_⟩
    try simp +decide only [E, reduceIte, Nat.reduceAdd, Nat.reduceMul, L, ti3, ti9, ti203, b3, b6, b7, b12, b15, b16]
    exact Is.mk _
  refine an (rt ?_)
  cases h
  simp [Ret, b3, b6, b7, b12, b15, b16]

set_option maxHeartbeats 4000000 in
theorem c_spec_EncodeKey (p0 : M.Key) (r : (List Int)) (h : m_spec_EncodeKey p0 = some r) : SCalls Tryz.prog 155 [(true, M.Key.en p0)] [(false, [.own 5 1 (List.map enB r)])] := by
  unfold m_spec_EncodeKey at h
  simp only [M.Key.en]
  refine scalls_n (N := 38) (vars := [.tmp 2]) Tryz.func155 rfl rfl rfl (by decide +kernel) (Nat.le_of_ble_eq_true rfl) fun base wd => ?_
  refine sq ?_
  apply SW_run
  · simp +decide only [E, reduceIte, Nat.reduceAdd, Nat.reduceMul, L]
    exact Is.mk _
  refine an (sq (sq ?_))
  obtain ⟨x1, h2, h⟩ := bind_some h
  apply SW_run
  · simp +decide only [E, reduceIte, Nat.reduceAdd, Nat.reduceMul, L, ti203]
    refine ⟨_, c_spec_IsKey p0 x1 h2, ?_⟩
    try simp +decide only [E, reduceIte, Nat.reduceAdd, Nat.reduceMul, L, ti203]
    exact Is.mk _
  refine an ?_
  rcases bcase (!x1) with b3 | b3
  · replace h := ite_t b3 h
    refine SW_ct (by simp +decide only [F, reduceIte, Nat.reduceAdd, b3]) ?_
    refine sq ?_
    apply SW_run
    · simp +decide only [E, reduceIte, Nat.reduceAdd, Nat.reduceMul, L, ti5, ti31, enB, b3]
      exact Is.mk _
    refine an (rt ?_)
    cases h
    simp [Ret, enB, b3]
  replace h := ite_f b3 h
  refine SW_cf (by simp +decide only [F, reduceIte, Nat.reduceAdd, b3]) ?_
  refine sk (an (sq ?_))
  apply SW_run
  · simp +decide only [E, reduceIte, Nat.reduceAdd, Nat.reduceMul, L, ti3, ti5, ti31, ti203, enB, b3]
    exact Is.mk _
  refine an (sq (sq ?_))
  refine SW_cut (J := fun s => s.t 1 = .v false [.bp 1 1 0] ∧ s.t 3 = .v false [.row 100012 1] ∧ s.h 1 = (1, .box 203 [.dat (.int .i64 p0.Kind), .dat (.int .i64 p0.N), .dat (.str p0.Text)]) ∧ s.h 100012 = (1, .row 5 1 (List.map enB ([(IntKind.u8.wrap p0.Kind)])) true) ∧ True) ?_ ?_
  · refine ⟨?_, ?_, ?_, ?_, trivial⟩ <;> (try simp +decide only [F, reduceIte, Nat.reduceAdd, enB, b3])
  rintro s4 ⟨f5, f6, f7, f8, _⟩
  apply SW_run
  · simp +decide only [E, reduceIte, Nat.reduceAdd, Nat.reduceMul, L, b3, f5, f6, f7, f8]
    exact Is.mk _
  refine an (bk ?_)
  refine SW_loop (fun m s => ∃ v4 : Int, ∃ r12 : List Int, ∃ u12 : Nat, s.t 1 = .v false [.bp 1 1 0] ∧ s.t 3 = .v false [.row 100012 u12] ∧ s.t 4 = .v false [.dat (.int .i64 v4)] ∧ s.h 1 = (1, .box 203 [.dat (.int .i64 p0.Kind), .dat (.int .i64 p0.N), .dat (.str p0.Text)]) ∧ s.h 100012 = (u12, .row 5 1 (List.map enB r12) true) ∧ m_spec_EncodeKey_L1 p0 m v4 r12 = some r) fuel ?_ ?_
  · refine ⟨5, ([(IntKind.u8.wrap p0.Kind)]), 1, ?_, ?_, ?_, ?_, ?_, h⟩
    all_goals simp +decide only [F, reduceIte, Nat.reduceAdd, enB, b3, f5, f6, f7, f8]
  rintro mL1 s9 ⟨v4, r12, u12, f10, f11, f12, f13, f14, h⟩
  rcases mL1 with _ | mL1
  · exact absurd h (by simp [m_spec_EncodeKey_L1])
  simp only [m_spec_EncodeKey_L1] at h
  refine sq (sq ?_)
  rcases bcas (decide (v4 ≥ 0)) with b15 | b15
  · replace h := ite_f b15 h
    apply SW_run
    · simp +decide only [E, reduceIte, Nat.reduceAdd, Nat.reduceMul, L, b3, f10, f11, f12, f13, f14, b15]
      exact Is.mk _
    refine an ?_
    refine SW_cf (by simp +decide only [F, reduceIte, Nat.reduceAdd, b3, f10, f11, f12, f13, f14, b15]) ?_
    refine xt (aft_cx (aft_ix (aft_x (an (sq ?_)))))
    obtain ⟨x28, h29, h⟩ := bind_some h
    apply SW_run
    · simp +decide only [E, reduceIte, Nat.reduceAdd, Nat.reduceMul, bytesD_en, enB.fl, L, ti5, ti9, ti31, ti203, enB, b3, f10, f11, f12, f13, f14, b15]
      refine ⟨by (have hb := app_some h29); simp [enB, List.length_append] at hb ⊢ <;> omega, ?_⟩
      try simp +decide only [E, reduceIte, Nat.reduceAdd, Nat.reduceMul, bytesD_en, enB.fl, L, ti5, ti9, ti31, ti203, enB, b3, f10, f11, f12, f13, f14, b15]
      exact Is.mk _
    refine an (rt ?_)
    cases h
    simp [Ret, enB, b3, f10, f11, f12, f13, f14, b15]
  replace h := ite_t b15 h
  apply SW_run
  · simp +decide only [E, reduceIte, Nat.reduceAdd, Nat.reduceMul, L, ti3, ti203, b3, f10, f11, f12, f13, f14, b15]
    exact Is.mk _
  refine an ?_
  rcases bcas (p0.Kind != 2) with b16 | b16
  · replace h := ite_f b16 h
    refine SW_cf (by simp +decide only [F, reduceIte, Nat.reduceAdd, b3, f10, f11, f12, f13, f14, b15, b16]) ?_
    refine xt (aft_cx (aft_ix (aft_x (an (sq ?_)))))
    obtain ⟨x26, h27, h⟩ := bind_some h
    apply SW_run
    · simp +decide only [E, reduceIte, Nat.reduceAdd, Nat.reduceMul, bytesD_en, enB.fl, L, ti5, ti9, ti31, ti203, enB, b3, f10, f11, f12, f13, f14, b15, b16]
      refine ⟨by (have hb := app_some h27); simp [enB, List.length_append] at hb ⊢ <;> omega, ?_⟩
      try simp +decide only [E, reduceIte, Nat.reduceAdd, Nat.reduceMul, bytesD_en, enB.fl, L, ti5, ti9, ti31, ti203, enB, b3, f10, f11, f12, f13, f14, b15, b16]
      exact Is.mk _
    refine an (rt ?_)
    cases h
    simp [Ret, enB, b3, f10, f11, f12, f13, f14, b15, b16]
  replace h := ite_t b16 h
  refine SW_ct (by simp +decide only [F, reduceIte, Nat.reduceAdd, b3, f10, f11, f12, f13, f14, b15, b16]) ?_
  refine sk (an (sq (bk ?_)))
  rcases bcas (decide (0 ≤ (IntKind.i64.wrap (8 * v4)))) with b17 | b17
  · replace h := ite_f b17 h
    cases h
  replace h := ite_t b17 h
  obtain ⟨x18, h19, h⟩ := bind_some h
  apply SW_run
  · simp +decide only [E, reduceIte, Nat.reduceAdd, Nat.reduceMul, shr_ok, L, ti3, ti5, ti31, ti203, enB, b3, f10, f11, f12, f13, f14, b15, b16, b17]
    refine ⟨by (have hb := app_some h19); simp [enB, List.length_append] at hb ⊢ <;> omega, ?_⟩
    try simp +decide only [E, reduceIte, Nat.reduceAdd, Nat.reduceMul, shr_ok, L, ti3, ti5, ti31, ti203, enB, b3, f10, f11, f12, f13, f14, b15, b16, b17]
    exact Is.mk _
  refine ab (an ?_)
  refine SW_cut (J := fun s => s.t 1 = .v false [.bp 1 1 0] ∧ s.t 3 = .v false [.row 100012 (u12 + 1)] ∧ s.t 4 = .v false [.dat (.int .i64 v4)] ∧ s.h 1 = (1, .box 203 [.dat (.int .i64 p0.Kind), .dat (.int .i64 p0.N), .dat (.str p0.Text)]) ∧ s.h 100012 = ((u12 + 1), .row 5 1 (List.map enB (r12 ++ [(IntKind.u8.wrap (IntKind.i64.wrap (BitVec.ofInt (IntKind.i64.bits) (Int.fdiv (IntKind.i64.wrap (p0.N + 1000000000000)) (2 ^ (min (IntKind.i64.wrap (8 * v4)).toNat IntKind.i64.bits))) &&& BitVec.ofInt (IntKind.i64.bits) 255).toNat))])) true) ∧ True) ?_ ?_
  · refine ⟨?_, ?_, ?_, ?_, ?_, trivial⟩ <;> (try simp +decide only [F, reduceIte, Nat.reduceAdd, enB, b3, f10, f11, f12, f13, f14, b15, b16, b17])
  rintro s20 ⟨f21, f22, f23, f24, f25, _⟩
  apply SW_run
  · simp +decide only [E, reduceIte, Nat.reduceAdd, Nat.reduceMul, L, b3, b15, b16, b17, f21, f22, f23, f24, f25]
    exact Is.mk _
  refine aft_i ⟨mL1, by omega, (IntKind.i64.wrap (v4 - 1)), (r12 ++ [(IntKind.u8.wrap (IntKind.i64.wrap (BitVec.ofInt (IntKind.i64.bits) (Int.fdiv (IntKind.i64.wrap (p0.N + 1000000000000)) (2 ^ (min (IntKind.i64.wrap (8 * v4)).toNat IntKind.i64.bits))) &&& BitVec.ofInt (IntKind.i64.bits) 255).toNat))]), (u12 + 1), ?_, ?_, ?_, ?_, ?_, h⟩
  all_goals simp +decide only [F, reduceIte, Nat.reduceAdd, enB, b3, b15, b16, b17, f21, f22, f23, f24, f25]

set_option maxHeartbeats 4000000 in
theorem c_spec_IsName (p0 : ByteArray) (r : Bool) (h : m_spec_IsName p0 = some r) : SCalls Tryz.prog 95 [(false, [.str p0])] [(false, [.ro (.bool r)])] := by
  unfold m_spec_IsName at h
  refine scalls_n (N := 23) (vars := [.tmp 2]) Tryz.func95 rfl rfl rfl (by decide +kernel) (Nat.le_of_ble_eq_true rfl) fun base wd => ?_
  refine sq ?_
  apply SW_run
  · simp +decide only [E, reduceIte, Nat.reduceAdd, Nat.reduceMul, L]
    exact Is.mk _
  refine an (sq (sq ?_))
  apply SW_run
  · simp +decide only [E, reduceIte, Nat.reduceAdd, Nat.reduceMul, L]
    exact Is.mk _
  refine an (bk ?_)
  refine SW_loop (fun m s => ∃ v3 : Int, s.t 0 = .v false [.dat (.str p0)] ∧ s.t 3 = .v false [.dat (.int .i64 v3)] ∧ m_spec_IsName_L1 p0 m v3 = some r) fuel ?_ ?_
  · refine ⟨0, ?_, ?_, h⟩
    all_goals simp +decide only [F, reduceIte, Nat.reduceAdd]
  rintro mL1 s1 ⟨v3, f2, f3, h⟩
  rcases mL1 with _ | mL1
  · exact absurd h (by simp [m_spec_IsName_L1])
  simp only [m_spec_IsName_L1] at h
  refine sq (sq ?_)
  apply SW_run
  · simp +decide only [E, reduceIte, Nat.reduceAdd, Nat.reduceMul, L, ti9, f2, f3]
    exact Is.mk _
  refine an ?_
  rcases bcas (decide (v3 < (p0.size : Int))) with b4 | b4
  · replace h := ite_f b4 h
    refine SW_cf (by simp +decide only [F, reduceIte, Nat.reduceAdd, f2, f3, b4]) ?_
    refine xt (aft_cx (aft_ix (aft_x (an (sq ?_)))))
    obtain ⟨x11, h12, h⟩ := bind_some h
    apply SW_run
    · simp +decide only [E, reduceIte, Nat.reduceAdd, Nat.reduceMul, L, ti9, f2, f3, b4]
      refine ⟨_, c_spec_l1In (p0.size : Int) 1 8 x11 h12, ?_⟩
      try simp +decide only [E, reduceIte, Nat.reduceAdd, Nat.reduceMul, L, ti9, f2, f3, b4]
      exact Is.mk _
    refine an (rt ?_)
    cases h
    simp [Ret, f2, f3, b4]
  replace h := ite_t b4 h
  refine SW_ct (by simp +decide only [F, reduceIte, Nat.reduceAdd, f2, f3, b4]) ?_
  refine sk (an (sq (bk (sq ?_))))
  obtain ⟨x5, h6, h⟩ := bind_some h
  obtain ⟨q7, q8⟩ := sidx_some h6
  rcases bcase (decide ((x5.toNat : Int) < 97)) with b9 | b9
  · replace h := ite_t b9 h
    apply SW_run
    · simp +decide only [E, reduceIte, Nat.reduceAdd, Nat.reduceMul, L, ti9, f2, f3, b4, q7, q8, b9]
      exact Is.mk _
    refine an ?_
    refine SW_ct (by simp +decide only [F, reduceIte, Nat.reduceAdd, f2, f3, b4, q7, q8, b9]) ?_
    refine sq ?_
    apply SW_run
    · simp +decide only [E, reduceIte, Nat.reduceAdd, Nat.reduceMul, L, f2, f3, b4, q7, q8, b9]
      exact Is.mk _
    refine an (rt ?_)
    cases h
    simp [Ret, f2, f3, b4, q7, q8, b9]
  replace h := ite_f b9 h
  apply SW_run
  · simp +decide only [E, reduceIte, Nat.reduceAdd, Nat.reduceMul, L, ti9, f2, f3, b4, q7, q8, b9]
    exact Is.mk _
  refine an ?_
  rcases bcase (decide ((x5.toNat : Int) > 122)) with b10 | b10
  · replace h := ite_t b10 h
    refine SW_ct (by simp +decide only [F, reduceIte, Nat.reduceAdd, f2, f3, b4, q7, q8, b9, b10]) ?_
    refine sq ?_
    apply SW_run
    · simp +decide only [E, reduceIte, Nat.reduceAdd, Nat.reduceMul, L, f2, f3, b4, q7, q8, b9, b10]
      exact Is.mk _
    refine an (rt ?_)
    cases h
    simp [Ret, f2, f3, b4, q7, q8, b9, b10]
  replace h := ite_f b10 h
  refine SW_cf (by simp +decide only [F, reduceIte, Nat.reduceAdd, f2, f3, b4, q7, q8, b9, b10]) ?_
  refine sk (ab (an ?_))
  apply SW_run
  · simp +decide only [E, reduceIte, Nat.reduceAdd, Nat.reduceMul, L, f2, f3, b4, q7, q8, b9, b10]
    exact Is.mk _
  refine aft_i ⟨mL1, by omega, (IntKind.i64.wrap (v3 + 1)), ?_, ?_, h⟩
  all_goals simp +decide only [F, reduceIte, Nat.reduceAdd, f2, f3, b4, q7, q8, b9, b10]

set_option maxHeartbeats 4000000 in
theorem c_spec_IsRecord (p0 : M.Record) (r : Bool) (h : m_spec_IsRecord p0 = some r) : SCalls Tryz.prog 233 [(true, M.Record.en p0)] [(false, [.ro (.bool r)])] := by
  unfold m_spec_IsRecord at h
  simp only [M.Record.en]
  refine scalls_n (N := 53) (vars := [.tmp 2]) Tryz.func233 rfl rfl rfl (by decide +kernel) (Nat.le_of_ble_eq_true rfl) fun base wd => ?_
  refine sq ?_
  apply SW_run
  · simp +decide only [E, reduceIte, Nat.reduceAdd, Nat.reduceMul, L]
    exact Is.mk _
  refine an (sq (sq ?_))
  apply SW_run
  · simp +decide only [E, reduceIte, Nat.reduceAdd, Nat.reduceMul, L]
    exact Is.mk _
  refine an (bk ?_)
  refine SW_loop (fun m s => ∃ v3 : Int, s.t 1 = .v false [.bp 1 1 0] ∧ s.t 3 = .v false [.dat (.int .i64 v3)] ∧ s.h 1 = (1, .box 206 [.dat (.sl (List.map M.Field.en p0.Fields))]) ∧ m_spec_IsRecord_L1 p0 m v3 = some r) fuel ?_ ?_
  · refine ⟨0, ?_, ?_, ?_, h⟩
    all_goals simp +decide only [F, reduceIte, Nat.reduceAdd]
  rintro mL1 s1 ⟨v3, f2, f3, f4, h⟩
  rcases mL1 with _ | mL1
  · exact absurd h (by simp [m_spec_IsRecord_L1])
  simp only [m_spec_IsRecord_L1] at h
  refine sq (sq ?_)
  apply SW_run
  · simp +decide only [E, reduceIte, Nat.reduceAdd, Nat.reduceMul, L, ti204, ti206, f2, f3, f4]
    exact Is.mk _
  refine an ?_
  rcases bcas (decide (v3 < (List.length p0.Fields : Int))) with b5 | b5
  · replace h := ite_f b5 h
    refine SW_cf (by simp +decide only [F, reduceIte, Nat.reduceAdd, f2, f3, f4, b5]) ?_
    refine xt (aft_cx (aft_ix (aft_x (an (sq ?_)))))
    apply SW_run
    · simp +decide only [E, reduceIte, Nat.reduceAdd, Nat.reduceMul, L, ti204, ti206, f2, f3, f4, b5]
      exact Is.mk _
    refine an (rt ?_)
    cases h
    simp [Ret, f2, f3, f4, b5]
  replace h := ite_t b5 h
  refine SW_ct (by simp +decide only [F, reduceIte, Nat.reduceAdd, f2, f3, f4, b5]) ?_
  refine sk (an (sq (bk (sq ?_))))
  obtain ⟨x6, h7, h⟩ := bind_some h
  obtain ⟨q8, q9, q10⟩ := idx_some h7
  obtain ⟨x11, h12, h⟩ := bind_some h
  rcases bcase (!x11) with b13 | b13
  · replace h := ite_t b13 h
    apply SW_runD mixed
    · simp +decide only [E, reduceIte, Nat.reduceAdd, Nat.reduceMul, L, ti9, ti204, ti206, ti273, M.Field.en, f2, f3, f4, b5, q8, q9, q10, b13]
      refine ⟨_, c_spec_IsName x6.Name x11 h12, ?_⟩
      try simp +decide only [E, reduceIte, Nat.reduceAdd, Nat.reduceMul, L, ti9, ti204, ti206, ti273, M.Field.en, f2, f3, f4, b5, q8, q9, q10, b13]
      exact ⟨.mk (by decide +kernel), Is.mk _⟩
    refine an ?_
    refine SW_ct (by simp +decide only [F, reduceIte, Nat.reduceAdd, f2, f3, f4, b5, q8, q9, q10, b13]) ?_
    refine sq ?_
    apply SW_run
    · simp +decide only [E, reduceIte, Nat.reduceAdd, Nat.reduceMul, L, f2, f3, f4, b5, q8, q9, q10, b13]
      exact Is.mk _
    refine an (rt ?_)
    cases h
    simp [Ret, f2, f3, f4, b5, q8, q9, q10, b13]
  replace h := ite_f b13 h
  obtain ⟨x14, h15, h⟩ := bind_some h
  rcases bcase (!x14) with b16 | b16
  · replace h := ite_t b16 h
    apply SW_runD mixed
    · simp +decide only [E, reduceIte, Nat.reduceAdd, Nat.reduceMul, L, ti3, ti9, ti204, ti206, ti273, M.Field.en, f2, f3, f4, b5, q8, q9, q10, b13, b16]
      refine ⟨_, c_spec_IsName x6.Name x11 h12, ?_⟩
      try simp +decide only [E, reduceIte, Nat.reduceAdd, Nat.reduceMul, L, ti3, ti9, ti204, ti206, ti273, M.Field.en, f2, f3, f4, b5, q8, q9, q10, b13, b16]
      refine ⟨_, c_spec_l1In x6.N 0 1000000000 x14 h15, ?_⟩
      try simp +decide only [E, reduceIte, Nat.reduceAdd, Nat.reduceMul, L, ti3, ti9, ti204, ti206, ti273, M.Field.en, f2, f3, f4, b5, q8, q9, q10, b13, b16]
      exact ⟨.mk (by decide +kernel), Is.mk _⟩
    refine an ?_
    refine SW_ct (by simp +decide only [F, reduceIte, Nat.reduceAdd, f2, f3, f4, b5, q8, q9, q10, b13, b16]) ?_
    refine sq ?_
    apply SW_run
    · simp +decide only [E, reduceIte, Nat.reduceAdd, Nat.reduceMul, L, f2, f3, f4, b5, q8, q9, q10, b13, b16]
      exact Is.mk _
    refine an (rt ?_)
    cases h
    simp [Ret, f2, f3, f4, b5, q8, q9, q10, b13, b16]
  replace h := ite_f b16 h
  rcases bcas (decide (v3 > 0)) with b17 | b17
  · replace h := ite_f b17 h
    apply SW_runD mixed
    · simp +decide only [E, reduceIte, Nat.reduceAdd, Nat.reduceMul, L, ti3, ti9, ti204, ti206, ti273, M.Field.en, f2, f3, f4, b5, q8, q9, q10, b13, b16, b17]
      refine ⟨_, c_spec_IsName x6.Name x11 h12, ?_⟩
      try simp +decide only [E, reduceIte, Nat.reduceAdd, Nat.reduceMul, L, ti3, ti9, ti204, ti206, ti273, M.Field.en, f2, f3, f4, b5, q8, q9, q10, b13, b16, b17]
      refine ⟨_, c_spec_l1In x6.N 0 1000000000 x14 h15, ?_⟩
      try simp +decide only [E, reduceIte, Nat.reduceAdd, Nat.reduceMul, L, ti3, ti9, ti204, ti206, ti273, M.Field.en, f2, f3, f4, b5, q8, q9, q10, b13, b16, b17]
      exact ⟨.mk (by decide +kernel), Is.mk _⟩
    refine an ?_
    refine SW_cf (by simp +decide only [F, reduceIte, Nat.reduceAdd, f2, f3, f4, b5, q8, q9, q10, b13, b16, b17]) ?_
    refine sk (ab (an ?_))
    apply SW_run
    · simp +decide only [E, reduceIte, Nat.reduceAdd, Nat.reduceMul, L, f2, f3, f4, b5, q8, q9, q10, b13, b16, b17]
      exact Is.mk _
    refine aft_i ⟨mL1, by omega, (IntKind.i64.wrap (v3 + 1)), ?_, ?_, ?_, h⟩
    all_goals simp +decide only [F, reduceIte, Nat.reduceAdd, f2, f3, f4, b5, q8, q9, q10, b13, b16, b17]
  replace h := ite_t b17 h
  obtain ⟨x18, h19, h⟩ := bind_some h
  obtain ⟨q20, q21, q22⟩ := idx_some h19
  apply SW_runD mixed
  · simp +decide only [E, reduceIte, Nat.reduceAdd, Nat.reduceMul, L, ti3, ti9, ti204, ti206, ti273, M.Field.en, f2, f3, f4, b5, q8, q9, q10, b13, b16, b17, q20, q21, q22]
    refine ⟨_, c_spec_IsName x6.Name x11 h12, ?_⟩
    try simp +decide only [E, reduceIte, Nat.reduceAdd, Nat.reduceMul, L, ti3, ti9, ti204, ti206, ti273, M.Field.en, f2, f3, f4, b5, q8, q9, q10, b13, b16, b17, q20, q21, q22]
    refine ⟨_, c_spec_l1In x6.N 0 1000000000 x14 h15, ?_⟩
    try simp +decide only [E, reduceIte, Nat.reduceAdd, Nat.reduceMul, L, ti3, ti9, ti204, ti206, ti273, M.Field.en, f2, f3, f4, b5, q8, q9, q10, b13, b16, b17, q20, q21, q22]
    exact ⟨.mk (by decide +kernel), Is.mk _⟩
  refine an ?_
  rcases bcase (!(Op.bytesLess x18.Name.toList x6.Name.toList)) with b23 | b23
  · replace h := ite_t b23 h
    refine SW_ct (by simp +decide only [F, reduceIte, Nat.reduceAdd, f2, f3, f4, b5, q8, q9, q10, b13, b16, b17, q20, q21, q22, b23]) ?_
    refine sq ?_
    apply SW_run
    · simp +decide only [E, reduceIte, Nat.reduceAdd, Nat.reduceMul, L, f2, f3, f4, b5, q8, q9, q10, b13, b16, b17, q20, q21, q22, b23]
      exact Is.mk _
    refine an (rt ?_)
    cases h
    simp [Ret, f2, f3, f4, b5, q8, q9, q10, b13, b16, b17, q20, q21, q22, b23]
  replace h := ite_f b23 h
  refine SW_cf (by simp +decide only [F, reduceIte, Nat.reduceAdd, f2, f3, f4, b5, q8, q9, q10, b13, b16, b17, q20, q21, q22, b23]) ?_
  refine sk (ab (an ?_))
  apply SW_run
  · simp +decide only [E, reduceIte, Nat.reduceAdd, Nat.reduceMul, L, f2, f3, f4, b5, q8, q9, q10, b13, b16, b17, q20, q21, q22, b23]
    exact Is.mk _
  refine aft_i ⟨mL1, by omega, (IntKind.i64.wrap (v3 + 1)), ?_, ?_, ?_, h⟩
  all_goals simp +decide only [F, reduceIte, Nat.reduceAdd, f2, f3, f4, b5, q8, q9, q10, b13, b16, b17, q20, q21, q22, b23]

set_option maxHeartbeats 4000000 in
theorem c_spec_AppendUvarint (p0 : List Int) (p1 : Int) (r : (List Int)) (h : m_spec_AppendUvarint p0 p1 = some r) : SCalls Tryz.prog 234 [(false, [.sl (List.map enB p0)]), (false, [.int .i64 p1])] [(false, [.own 5 1 (List.map enB r)])] := by
  unfold m_spec_AppendUvarint at h
  refine scalls_n (N := 29) (vars := [.tmp 4]) Tryz.func234 rfl rfl rfl (by decide +kernel) (Nat.le_of_ble_eq_true rfl) fun base wd => ?_
  refine sq ?_
  apply SW_run
  · simp +decide only [E, reduceIte, Nat.reduceAdd, Nat.reduceMul, L]
    exact Is.mk _
  refine an (sq ?_)
  obtain ⟨x1, h2, h⟩ := bind_some h
  apply SW_run
  · simp +decide only [E, reduceIte, Nat.reduceAdd, Nat.reduceMul, enB.fl, L, ti5, ti31, enB]
    refine ⟨by (have hb := app_some h2); simp [enB, List.length_append] at hb ⊢ <;> omega, ?_⟩
    try simp +decide only [E, reduceIte, Nat.reduceAdd, Nat.reduceMul, enB.fl, L, ti5, ti31, enB]
    exact Is.mk _
  refine an (sq (sq ?_))
  refine SW_cut (J := fun s => s.t 1 = .v false [.dat (.int .i64 p1)] ∧ s.t 5 = .v false [.row 100006 2] ∧ s.h 100006 = (2, .row 5 1 (List.map enB p0) true) ∧ True) ?_ ?_
  · refine ⟨?_, ?_, ?_, trivial⟩ <;> (try simp +decide only [F, reduceIte, Nat.reduceAdd, enB])
  rintro s3 ⟨f4, f5, f6, _⟩
  obtain ⟨x7, h8, h⟩ := bind_some h
  apply SW_run
  · simp +decide only [E, reduceIte, Nat.reduceAdd, Nat.reduceMul, L, f4, f5, f6]
    refine ⟨_, c_spec_l1In p1 0 1000000000000 x7 h8, ?_⟩
    try simp +decide only [E, reduceIte, Nat.reduceAdd, Nat.reduceMul, L, f4, f5, f6]
    exact Is.mk _
  refine an ?_
  rcases bcase (!x7) with b9 | b9
  · replace h := ite_t b9 h
    refine SW_ct (by simp +decide only [F, reduceIte, Nat.reduceAdd, f4, f5, f6, b9]) ?_
    refine sq ?_
    apply SW_run
    · simp +decide only [E, reduceIte, Nat.reduceAdd, Nat.reduceMul, L, f4, f5, f6, b9]
      exact Is.mk _
    refine an (rt ?_)
    cases h
    simp [Ret, enB, f4, f5, f6, b9]
  replace h := ite_f b9 h
  refine SW_cf (by simp +decide only [F, reduceIte, Nat.reduceAdd, f4, f5, f6, b9]) ?_
  refine sk (an (sq (bk ?_)))
  refine SW_loop (fun m s => ∃ v1 : Int, ∃ r6 : List Int, ∃ u6 : Nat, s.t 1 = .v false [.dat (.int .i64 v1)] ∧ s.t 5 = .v false [.row 100006 u6] ∧ s.h 100006 = (u6, .row 5 1 (List.map enB r6) true) ∧ m_spec_AppendUvarint_L1 m v1 r6 = some r) fuel ?_ ?_
  · refine ⟨p1, p0, 2, ?_, ?_, ?_, h⟩
    all_goals simp +decide only [F, reduceIte, Nat.reduceAdd, enB, f4, f5, f6, b9]
  rintro mL1 s10 ⟨v1, r6, u6, f11, f12, f13, h⟩
  rcases mL1 with _ | mL1
  · exact absurd h (by simp [m_spec_AppendUvarint_L1])
  simp only [m_spec_AppendUvarint_L1] at h
  refine sq (sq ?_)
  apply SW_run
  · simp +decide only [E, reduceIte, Nat.reduceAdd, Nat.reduceMul, L, b9, f11, f12, f13]
    exact Is.mk _
  refine an ?_
  rcases bcas (decide (v1 > 127)) with b14 | b14
  · replace h := ite_f b14 h
    refine SW_cf (by simp +decide only [F, reduceIte, Nat.reduceAdd, b9, f11, f12, f13, b14]) ?_
    refine xt (aft_cx (aft_ix (aft_x (an (sq ?_)))))
    obtain ⟨x21, h22, h⟩ := bind_some h
    apply SW_run
    · simp +decide only [E, reduceIte, Nat.reduceAdd, Nat.reduceMul, L, ti3, ti5, ti31, enB, b9, f11, f12, f13, b14]
      refine ⟨by (have hb := app_some h22); simp [enB, List.length_append] at hb ⊢ <;> omega, ?_⟩
      try simp +decide only [E, reduceIte, Nat.reduceAdd, Nat.reduceMul, L, ti3, ti5, ti31, enB, b9, f11, f12, f13, b14]
      exact Is.mk _
    refine an (rt ?_)
    cases h
    simp [Ret, enB, b9, f11, f12, f13, b14]
  replace h := ite_t b14 h
  refine SW_ct (by simp +decide only [F, reduceIte, Nat.reduceAdd, b9, f11, f12, f13, b14]) ?_
  refine sk (an (bk (sq ?_)))
  obtain ⟨x15, h16, h⟩ := bind_some h
  apply SW_run
  · simp +decide only [E, reduceIte, Nat.reduceAdd, Nat.reduceMul, L, ti3, ti5, ti31, enB, b9, f11, f12, f13, b14]
    refine ⟨by (have hb := app_some h16); simp [enB, List.length_append] at hb ⊢ <;> omega, ?_⟩
    try simp +decide only [E, reduceIte, Nat.reduceAdd, Nat.reduceMul, L, ti3, ti5, ti31, enB, b9, f11, f12, f13, b14]
    exact Is.mk _
  refine an ?_
  refine SW_cut (J := fun s => s.t 1 = .v false [.dat (.int .i64 v1)] ∧ s.t 5 = .v false [.row 100006 (u6 + 1)] ∧ s.h 100006 = ((u6 + 1), .row 5 1 (List.map enB (r6 ++ [(IntKind.u8.wrap (IntKind.i64.wrap (BitVec.ofInt (IntKind.i64.bits) (IntKind.i64.wrap (BitVec.ofInt (IntKind.i64.bits) v1 &&& BitVec.ofInt (IntKind.i64.bits) 127).toNat) ||| BitVec.ofInt (IntKind.i64.bits) 128).toNat))])) true) ∧ True) ?_ ?_
  · refine ⟨?_, ?_, ?_, trivial⟩ <;> (try simp +decide only [F, reduceIte, Nat.reduceAdd, enB, b9, f11, f12, f13, b14])
  rintro s17 ⟨f18, f19, f20, _⟩
  apply SW_run
  · simp +decide only [E, reduceIte, Nat.reduceAdd, Nat.reduceMul, Int.reduceLT, shr_ok, L, b9, b14, f18, f19, f20]
    exact Is.mk _
  refine ab ?_
  refine aft_i ⟨mL1, by omega, (Int.fdiv v1 (2 ^ (min (7 : Int).toNat IntKind.i64.bits))), (r6 ++ [(IntKind.u8.wrap (IntKind.i64.wrap (BitVec.ofInt (IntKind.i64.bits) (IntKind.i64.wrap (BitVec.ofInt (IntKind.i64.bits) v1 &&& BitVec.ofInt (IntKind.i64.bits) 127).toNat) ||| BitVec.ofInt (IntKind.i64.bits) 128).toNat))]), (u6 + 1), ?_, ?_, ?_, h⟩
  all_goals simp +decide only [F, reduceIte, Nat.reduceAdd, enB, b9, b14, f18, f19, f20]

set_option maxHeartbeats 4000000 in
theorem c_spec_AppendBytes (p0 : List Int) (p1 : List Int) (r : (List Int)) (h : m_spec_AppendBytes p0 p1 = some r) : SCalls Tryz.prog 235 [(false, [.sl (List.map enB p0)]), (false, [.sl (List.map enB p1)])] [(false, [.own 5 1 (List.map enB r)])] := by
  unfold m_spec_AppendBytes at h
  refine scalls_n (N := 11) (vars := [.tmp 4]) Tryz.func235 rfl rfl rfl (by decide +kernel) (Nat.le_of_ble_eq_true rfl) fun base wd => ?_
  refine sq ?_
  apply SW_run
  · simp +decide only [E, reduceIte, Nat.reduceAdd, Nat.reduceMul, L]
    exact Is.mk _
  refine an (sq ?_)
  obtain ⟨x1, h2, h⟩ := bind_some h
  obtain ⟨x3, h4, h⟩ := bind_some h
  apply SW_run
  · simp +decide only [E, reduceIte, Nat.reduceAdd, Nat.reduceMul, enB.fl, L, ti5, ti31, enB]
    refine ⟨_, c_spec_AppendUvarint p0 (List.length p1 : Int) x1 h2, ?_⟩
    try simp +decide only [E, reduceIte, Nat.reduceAdd, Nat.reduceMul, enB.fl, L, ti5, ti31, enB]
    refine ⟨by (have hb := app_some h4); simp [enB, List.length_append] at hb ⊢ <;> omega, ?_⟩
    try simp +decide only [E, reduceIte, Nat.reduceAdd, Nat.reduceMul, enB.fl, L, ti5, ti31, enB]
    exact Is.mk _
  refine an (rt ?_)
  cases h
  simp [Ret, enB]

set_option maxHeartbeats 4000000 in
theorem c_spec_EncodeRecord (p0 : M.Record) (r : (List Int)) (h : m_spec_EncodeRecord p0 = some r) : SCalls Tryz.prog 156 [(true, M.Record.en p0)] [(false, [.own 5 1 (List.map enB r)])] := by
  unfold m_spec_EncodeRecord at h
  simp only [M.Record.en]
  refine scalls_n (N := 38) (vars := [.tmp 2]) Tryz.func156 rfl rfl rfl (by decide +kernel) (Nat.le_of_ble_eq_true rfl) fun base wd => ?_
  refine sq ?_
  apply SW_run
  · simp +decide only [E, reduceIte, Nat.reduceAdd, Nat.reduceMul, L]
    exact Is.mk _
  refine an (sq (sq ?_))
  obtain ⟨x1, h2, h⟩ := bind_some h
  apply SW_run
  · simp +decide only [E, reduceIte, Nat.reduceAdd, Nat.reduceMul, L, ti206]
    refine ⟨_, c_spec_IsRecord p0 x1 h2, ?_⟩
    try simp +decide only [E, reduceIte, Nat.reduceAdd, Nat.reduceMul, L, ti206]
    exact Is.mk _
  refine an ?_
  rcases bcase (!x1) with b3 | b3
  · replace h := ite_t b3 h
    refine SW_ct (by simp +decide only [F, reduceIte, Nat.reduceAdd, b3]) ?_
    refine sq ?_
    apply SW_run
    · simp +decide only [E, reduceIte, Nat.reduceAdd, Nat.reduceMul, L, ti5, ti31, enB, b3]
      exact Is.mk _
    refine an (rt ?_)
    cases h
    simp [Ret, enB, b3]
  replace h := ite_f b3 h
  refine SW_cf (by simp +decide only [F, reduceIte, Nat.reduceAdd, b3]) ?_
  refine sk (an (sq ?_))
  obtain ⟨x4, h5, h⟩ := bind_some h
  apply SW_run
  · simp +decide only [E, reduceIte, Nat.reduceAdd, Nat.reduceMul, L, ti5, ti31, ti204, ti206, enB, b3]
    have hc := c_spec_AppendUvarint ([] : List Int) (List.length p0.Fields : Int) x4 h5
    simp only [List.map_append, List.map_cons, List.map_nil, enB] at hc
    refine ⟨_, hc, ?_⟩
    try simp +decide only [E, reduceIte, Nat.reduceAdd, Nat.reduceMul, L, ti5, ti31, ti204, ti206, enB, b3]
    exact Is.mk _
  refine an (sq (sq ?_))
  refine SW_cut (J := fun s => s.t 1 = .v false [.bp 1 1 0] ∧ s.t 3 = .v false [.row 100013 1] ∧ s.h 1 = (1, .box 206 [.dat (.sl (List.map M.Field.en p0.Fields))]) ∧ s.h 100013 = (1, .row 5 1 (List.map enB x4) true) ∧ True) ?_ ?_
  · refine ⟨?_, ?_, ?_, ?_, trivial⟩ <;> (try simp +decide only [F, reduceIte, Nat.reduceAdd, enB, b3])
  rintro s6 ⟨f7, f8, f9, f10, _⟩
  apply SW_run
  · simp +decide only [E, reduceIte, Nat.reduceAdd, Nat.reduceMul, L, b3, f7, f8, f9, f10]
    exact Is.mk _
  refine an (bk ?_)
  refine SW_gho ((Gho.ren_t (i := 3) (K := 7030000) (j := 100013) (by simp +decide only [F, reduceIte, Nat.reduceAdd, b3, f7, f8, f9, f10]; rfl) (by simp +decide only [F, reduceIte, Nat.reduceAdd, b3, f7, f8, f9, f10]; rfl))) ?_
  refine SW_loopG (fun m s => ∃ v4 : Int, ∃ r30000 : List Int, ∃ u30000 : Nat, s.t 1 = .v false [.bp 1 1 0] ∧ s.t 3 = .v false [.row 7030000 u30000] ∧ s.t 4 = .v false [.dat (.int .i64 v4)] ∧ s.h 1 = (1, .box 206 [.dat (.sl (List.map M.Field.en p0.Fields))]) ∧ s.h 7030000 = (u30000, .row 5 1 (List.map enB r30000) true) ∧ m_spec_EncodeRecord_L1 p0 m v4 r30000 = some r) fuel ?_ ?_
  · refine ⟨0, x4, ((s6.h 7030000).1 + 1), ?_, ?_, ?_, ?_, ?_, h⟩
    all_goals simp +decide only [F, reduceIte, Nat.reduceAdd, enB, b3, f7, f8, f9, f10]
  rintro mL1 s11 ⟨v4, r30000, u30000, f12, f13, f14, f15, f16, h⟩
  rcases mL1 with _ | mL1
  · exact absurd h (by simp [m_spec_EncodeRecord_L1])
  simp only [m_spec_EncodeRecord_L1] at h
  refine sq (sq ?_)
  apply SW_run
  · simp +decide only [E, reduceIte, Nat.reduceAdd, Nat.reduceMul, L, ti204, ti206, b3, f12, f13, f14, f15, f16]
    exact Is.mk _
  refine an ?_
  rcases bcas (decide (v4 < (List.length p0.Fields : Int))) with b17 | b17
  · replace h := ite_f b17 h
    refine SW_cf (by simp +decide only [F, reduceIte, Nat.reduceAdd, b3, f12, f13, f14, f15, f16, b17]) ?_
    refine xt (aft_cx (aft_ix (aft_x (an (sq ?_)))))
    apply SW_run
    · simp +decide only [E, reduceIte, Nat.reduceAdd, Nat.reduceMul, L, b3, f12, f13, f14, f15, f16, b17]
      exact Is.mk _
    refine an (rt ?_)
    cases h
    simp [Ret, enB, b3, f12, f13, f14, f15, f16, b17]
  replace h := ite_t b17 h
  refine SW_ct (by simp +decide only [F, reduceIte, Nat.reduceAdd, b3, f12, f13, f14, f15, f16, b17]) ?_
  refine sk (an (sq (bk ?_)))
  obtain ⟨x18, h19, h⟩ := bind_some h
  obtain ⟨q20, q21, q22⟩ := idx_some h19
  obtain ⟨x23, h24, h⟩ := bind_some h
  obtain ⟨x25, h26, h⟩ := bind_some h
  apply SW_runD mixed
  · simp +decide only [E, reduceIte, Nat.reduceAdd, Nat.reduceMul, bytesD_en, L, ti3, ti5, ti9, ti31, ti204, ti206, ti273, M.Field.en, b3, f12, f13, f14, f15, f16, b17, q20, q21, q22]
    refine ⟨_, c_spec_AppendBytes r30000 (strBytes x18.Name) x23 h24, ?_⟩
    try simp +decide only [E, reduceIte, Nat.reduceAdd, Nat.reduceMul, bytesD_en, L, ti3, ti5, ti9, ti31, ti204, ti206, ti273, M.Field.en, b3, f12, f13, f14, f15, f16, b17, q20, q21, q22]
    refine ⟨_, c_spec_AppendUvarint x23 x18.N x25 h26, ?_⟩
    try simp +decide only [E, reduceIte, Nat.reduceAdd, Nat.reduceMul, bytesD_en, L, ti3, ti5, ti9, ti31, ti204, ti206, ti273, M.Field.en, b3, f12, f13, f14, f15, f16, b17, q20, q21, q22]
    exact ⟨.mk (by decide +kernel), Is.mk _⟩
  refine ab (an ?_)
  apply SW_run
  · simp +decide only [E, reduceIte, Nat.reduceAdd, Nat.reduceMul, L, b3, f12, f13, f14, f15, f16, b17, q20, q21, q22]
    exact Is.mk _
  refine aft_i ⟨_, (Gho.ren_t (i := 3) (K := 7030000) (j := 100036) (by simp +decide only [F, reduceIte, Nat.reduceAdd, b3, f12, f13, f14, f15, f16, b17, q20, q21, q22]; rfl) (by simp +decide only [F, reduceIte, Nat.reduceAdd, b3, f12, f13, f14, f15, f16, b17, q20, q21, q22]; rfl)), mL1, by omega, (IntKind.i64.wrap (v4 + 1)), x25, (u30000 + 1), ?_, ?_, ?_, ?_, ?_, h⟩
  all_goals simp +decide only [F, reduceIte, Nat.reduceAdd, enB, b3, f12, f13, f14, f15, f16, b17, q20, q21, q22]

set_option maxHeartbeats 4000000 in
theorem c_spec_SizeStore (p0 : M.Store) (r : Int) (h : m_spec_SizeStore p0 = some r) : SCalls Tryz.prog 74 [(true, M.Store.en p0)] [(false, [.ro (.int .i64 r)])] := by
  unfold m_spec_SizeStore at h
  simp only [M.Store.en]
  refine scalls_n (N := 32) (vars := [.tmp 2]) Tryz.func74 rfl rfl rfl (by decide +kernel) (Nat.le_of_ble_eq_true rfl) fun base wd => ?_
  refine sq ?_
  apply SW_run
  · simp +decide only [E, reduceIte, Nat.reduceAdd, Nat.reduceMul, L]
    exact Is.mk _
  refine an (sq ?_)
  apply SW_run
  · simp +decide only [E, reduceIte, Nat.reduceAdd, Nat.reduceMul, L]
    exact Is.mk _
  refine an (sq (sq ?_))
  apply SW_run
  · simp +decide only [E, reduceIte, Nat.reduceAdd, Nat.reduceMul, L]
    exact Is.mk _
  refine an (bk ?_)
  refine SW_loop (fun m s => ∃ v3 : Int, ∃ v4 : Int, s.t 1 = .v false [.bp 1 1 0] ∧ s.t 3 = .v false [.dat (.int .i64 v3)] ∧ s.t 4 = .v false [.dat (.int .i64 v4)] ∧ s.h 1 = (1, .box 60 [.dat (.str p0.Name), .dat (.sl (List.map M.Item.en p0.Items)), .dat (.int .i64 p0.Auto)]) ∧ m_spec_SizeStore_L1 p0 m v3 v4 = some r) fuel ?_ ?_
  · refine ⟨0, 0, ?_, ?_, ?_, ?_, h⟩
    all_goals simp +decide only [F, reduceIte, Nat.reduceAdd]
  rintro mL1 s1 ⟨v3, v4, f2, f3, f4, f5, h⟩
  rcases mL1 with _ | mL1
  · exact absurd h (by simp [m_spec_SizeStore_L1])
  simp only [m_spec_SizeStore_L1] at h
  refine sq (sq ?_)
  apply SW_run
  · simp +decide only [E, reduceIte, Nat.reduceAdd, Nat.reduceMul, L, ti58, ti60, f2, f3, f4, f5]
    exact Is.mk _
  refine an ?_
  rcases bcas (decide (v4 < (List.length p0.Items : Int))) with b6 | b6
  · replace h := ite_f b6 h
    refine SW_cf (by simp +decide only [F, reduceIte, Nat.reduceAdd, f2, f3, f4, f5, b6]) ?_
    refine xt (aft_cx (aft_ix (aft_x (an (sq ?_)))))
    apply SW_run
    · simp +decide only [E, reduceIte, Nat.reduceAdd, Nat.reduceMul, L, f2, f3, f4, f5, b6]
      exact Is.mk _
    refine an (rt ?_)
    cases h
    simp [Ret, f2, f3, f4, f5, b6]
  replace h := ite_t b6 h
  refine SW_ct (by simp +decide only [F, reduceIte, Nat.reduceAdd, f2, f3, f4, f5, b6]) ?_
  refine sk (an (sq (bk ?_)))
  obtain ⟨x7, h8, h⟩ := bind_some h
  obtain ⟨q9, q10, q11⟩ := idx_some h8
  obtain ⟨x12, h13, h⟩ := bind_some h
  obtain ⟨x14, h15, h⟩ := bind_some h
  apply SW_runD mixed
  · simp +decide only [E, reduceIte, Nat.reduceAdd, Nat.reduceMul, L, ti31, ti58, ti60, ti203, ti206, ti208, M.Item.en, f2, f3, f4, f5, b6, q9, q10, q11]
    refine ⟨_, c_spec_EncodeKey x7.Key x12 h13, ?_⟩
    try simp +decide only [E, reduceIte, Nat.reduceAdd, Nat.reduceMul, L, ti31, ti58, ti60, ti203, ti206, ti208, M.Item.en, f2, f3, f4, f5, b6, q9, q10, q11]
    refine ⟨_, c_spec_EncodeRecord x7.Record x14 h15, ?_⟩
    try simp +decide only [E, reduceIte, Nat.reduceAdd, Nat.reduceMul, L, ti31, ti58, ti60, ti203, ti206, ti208, M.Item.en, f2, f3, f4, f5, b6, q9, q10, q11]
    exact ⟨.mk (by decide +kernel), Is.mk _⟩
  refine ab (an ?_)
  apply SW_run
  · simp +decide only [E, reduceIte, Nat.reduceAdd, Nat.reduceMul, L, f2, f3, f4, f5, b6, q9, q10, q11]
    exact Is.mk _
  refine aft_i ⟨mL1, by omega, (IntKind.i64.wrap ((IntKind.i64.wrap (v3 + (List.length x12 : Int))) + (List.length x14 : Int))), (IntKind.i64.wrap (v4 + 1)), ?_, ?_, ?_, ?_, h⟩
  all_goals simp +decide only [F, reduceIte, Nat.reduceAdd, f2, f3, f4, f5, b6, q9, q10, q11]

set_option maxHeartbeats 4000000 in
theorem c_spec_SizeDatabase (p0 : M.Database) (r : Int) (h : m_spec_SizeDatabase p0 = some r) : SCalls Tryz.prog 154 [(true, M.Database.en p0)] [(false, [.ro (.int .i64 r)])] := by
  unfold m_spec_SizeDatabase at h
  simp only [M.Database.en]
  refine scalls_n (N := 21) (vars := [.tmp 2]) Tryz.func154 rfl rfl rfl (by decide +kernel) (Nat.le_of_ble_eq_true rfl) fun base wd => ?_
  refine sq ?_
  apply SW_run
  · simp +decide only [E, reduceIte, Nat.reduceAdd, Nat.reduceMul, L]
    exact Is.mk _
  refine an (sq ?_)
  apply SW_run
  · simp +decide only [E, reduceIte, Nat.reduceAdd, Nat.reduceMul, L]
    exact Is.mk _
  refine an (sq (sq ?_))
  apply SW_run
  · simp +decide only [E, reduceIte, Nat.reduceAdd, Nat.reduceMul, L]
    exact Is.mk _
  refine an (bk ?_)
  refine SW_loop (fun m s => ∃ v3 : Int, ∃ v4 : Int, s.t 1 = .v false [.bp 1 1 0] ∧ s.t 3 = .v false [.dat (.int .i64 v3)] ∧ s.t 4 = .v false [.dat (.int .i64 v4)] ∧ s.h 1 = (1, .box 55 [.dat (.str p0.Name), .dat (.int .i64 p0.Version), .dat (.sl (List.map M.Store.en p0.Stores)), .dat (.sl (List.map M.IndexDef.en p0.Unique))]) ∧ m_spec_SizeDatabase_L1 p0 m v3 v4 = some r) fuel ?_ ?_
  · refine ⟨0, 0, ?_, ?_, ?_, ?_, h⟩
    all_goals simp +decide only [F, reduceIte, Nat.reduceAdd]
  rintro mL1 s1 ⟨v3, v4, f2, f3, f4, f5, h⟩
  rcases mL1 with _ | mL1
  · exact absurd h (by simp [m_spec_SizeDatabase_L1])
  simp only [m_spec_SizeDatabase_L1] at h
  refine sq (sq ?_)
  apply SW_run
  · simp +decide only [E, reduceIte, Nat.reduceAdd, Nat.reduceMul, L, ti52, ti55, f2, f3, f4, f5]
    exact Is.mk _
  refine an ?_
  rcases bcas (decide (v4 < (List.length p0.Stores : Int))) with b6 | b6
  · replace h := ite_f b6 h
    refine SW_cf (by simp +decide only [F, reduceIte, Nat.reduceAdd, f2, f3, f4, f5, b6]) ?_
    refine xt (aft_cx (aft_ix (aft_x (an (sq ?_)))))
    apply SW_run
    · simp +decide only [E, reduceIte, Nat.reduceAdd, Nat.reduceMul, L, f2, f3, f4, f5, b6]
      exact Is.mk _
    refine an (rt ?_)
    cases h
    simp [Ret, f2, f3, f4, f5, b6]
  replace h := ite_t b6 h
  refine SW_ct (by simp +decide only [F, reduceIte, Nat.reduceAdd, f2, f3, f4, f5, b6]) ?_
  refine sk (an (sq (bk ?_)))
  obtain ⟨x7, h8, h⟩ := bind_some h
  obtain ⟨q9, q10, q11⟩ := idx_some h8
  obtain ⟨x12, h13, h⟩ := bind_some h
  apply SW_run
  · simp +decide only [E, reduceIte, Nat.reduceAdd, Nat.reduceMul, L, ti52, ti55, ti60, M.Store.en, f2, f3, f4, f5, b6, q9, q10, q11]
    refine ⟨_, c_spec_SizeStore x7 x12 h13, ?_⟩
    try simp +decide only [E, reduceIte, Nat.reduceAdd, Nat.reduceMul, L, ti52, ti55, ti60, M.Store.en, f2, f3, f4, f5, b6, q9, q10, q11]
    exact Is.mk _
  refine ab (an ?_)
  apply SW_run
  · simp +decide only [E, reduceIte, Nat.reduceAdd, Nat.reduceMul, L, f2, f3, f4, f5, b6, q9, q10, q11]
    exact Is.mk _
  refine aft_i ⟨mL1, by omega, (IntKind.i64.wrap (v3 + x12)), (IntKind.i64.wrap (v4 + 1)), ?_, ?_, ?_, ?_, h⟩
  all_goals simp +decide only [F, reduceIte, Nat.reduceAdd, f2, f3, f4, f5, b6, q9, q10, q11]

set_option maxHeartbeats 4000000 in
theorem c_spec_SizeDisk (p0 : M.Disk) (r : Int) (h : m_spec_SizeDisk p0 = some r) : SCalls Tryz.prog 73 [(true, M.Disk.en p0)] [(false, [.ro (.int .i64 r)])] := by
  unfold m_spec_SizeDisk at h
  simp only [M.Disk.en]
  refine scalls_n (N := 10) (vars := [.tmp 2]) Tryz.func73 rfl rfl rfl (by decide +kernel) (Nat.le_of_ble_eq_true rfl) fun base wd => ?_
  refine sq ?_
  apply SW_run
  · simp +decide only [E, reduceIte, Nat.reduceAdd, Nat.reduceMul, L]
    exact Is.mk _
  refine an (sq ?_)
  obtain ⟨x1, h2, h⟩ := bind_some h
  apply SW_runD mixed
  · simp +decide only [E, reduceIte, Nat.reduceAdd, Nat.reduceMul, L, ti31, ti55, ti57]
    refine ⟨_, c_spec_SizeDatabase p0.Base x1 h2, ?_⟩
    try simp +decide only [E, reduceIte, Nat.reduceAdd, Nat.reduceMul, L, ti31, ti55, ti57]
    exact ⟨.mk (by decide +kernel), Is.mk _⟩
  refine an (rt ?_)
  cases h
  simp [Ret, ]

set_option maxHeartbeats 4000000 in
theorem c_spec_UsageOf (p0 : M.Bucket) (r : Int) (h : m_spec_UsageOf p0 = some r) : SCalls Tryz.prog 19 [(true, M.Bucket.en p0)] [(false, [.ro (.int .i64 r)])] := by
  unfold m_spec_UsageOf at h
  simp only [M.Bucket.en]
  refine scalls_n (N := 23) (vars := [.tmp 2]) Tryz.func19 rfl rfl rfl (by decide +kernel) (Nat.le_of_ble_eq_true rfl) fun base wd => ?_
  refine sq ?_
  apply SW_run
  · simp +decide only [E, reduceIte, Nat.reduceAdd, Nat.reduceMul, L]
    exact Is.mk _
  refine an (sq ?_)
  obtain ⟨x1, h2, h⟩ := bind_some h
  obtain ⟨x3, h4, h⟩ := bind_some h
  obtain ⟨x5, h6, h⟩ := bind_some h
  apply SW_runD mixed
  · simp +decide only [E, reduceIte, Nat.reduceAdd, Nat.reduceMul, L, ti51, ti57, ti60, ti61, ti63, ti65, ti67, ti69]
    refine ⟨_, c_spec_SizeCaches p0.Caches x1 h2, ?_⟩
    try simp +decide only [E, reduceIte, Nat.reduceAdd, Nat.reduceMul, L, ti51, ti57, ti60, ti61, ti63, ti65, ti67, ti69]
    refine ⟨_, c_spec_SizeDisk p0.Disk x3 h4, ?_⟩
    try simp +decide only [E, reduceIte, Nat.reduceAdd, Nat.reduceMul, L, ti51, ti57, ti60, ti61, ti63, ti65, ti67, ti69]
    refine ⟨_, c_spec_SizeStore p0.Replica.Base x5 h6, ?_⟩
    try simp +decide only [E, reduceIte, Nat.reduceAdd, Nat.reduceMul, L, ti51, ti57, ti60, ti61, ti63, ti65, ti67, ti69]
    exact ⟨.mk (by decide +kernel), Is.mk _⟩
  refine an (rt ?_)
  cases h
  simp [Ret, ]

end Go.Proofs.YtgpiencmneiblaaGreat.gen
