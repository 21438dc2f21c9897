/-
  Helper text: walks: each function's contract out of its model. No conditions beyond those of each contract.
-/
import Derived.Test.YtgpiencmneiblaaGreatEqualBucketsTi
namespace Go.Proofs.YtgpiencmneiblaaGreat.gen
open Go Go.Sh
set_option linter.unusedVariables false
set_option linter.unusedSimpArgs false
set_option maxHeartbeats 4000000 in
theorem c_slices_EqualFunc_Cache (p0 : List M.Cache) (p1 : List M.Cache) (p2 : M.Cache → M.Cache → Option Bool) (f2_ : FuncId) (k2_ : List D) (hp2 : ∀ z0 z1 r, p2 z0 z1 = some r → SCalls Tryz.prog f2_ ((true, M.Cache.en z0) :: (true, M.Cache.en z1) ::  k2_.map fun c => (false, [c])) [(false, [.ro (.bool r)])]) (r : Bool) (h : m_slices_EqualFunc_Cache p0 p1 p2 = some r) : SCalls Tryz.prog 144 [(false, [.sl (List.map M.Cache.en p0)]), (false, [.sl (List.map M.Cache.en p1)]), (false, [.fn f2_ k2_])] [(false, [.ro (.bool r)])] := by
  unfold m_slices_EqualFunc_Cache at h
  refine scalls_n (N := 32) (vars := [.tmp 6]) Tryz.func144 rfl rfl rfl (by decide +kernel) (Nat.le_of_ble_eq_true rfl) fun base wd => ?_
  refine sq ?_
  apply SW_run
  · simp +decide only [E, reduceIte, Nat.reduceAdd, Nat.reduceMul, L]
    exact Is.mk _
  refine an (sq (sq ?_))
  apply SW_run
  · simp +decide only [E, reduceIte, Nat.reduceAdd, Nat.reduceMul, L, ti49]
    exact Is.mk _
  refine an ?_
  rcases bcase ((List.length p0 : Int) != (List.length p1 : Int)) with b1 | b1
  · replace h := ite_t b1 h
    refine SW_ct (by simp +decide only [F, reduceIte, Nat.reduceAdd, b1]) ?_
    refine sq ?_
    apply SW_run
    · simp +decide only [E, reduceIte, Nat.reduceAdd, Nat.reduceMul, L, b1]
      exact Is.mk _
    refine an (rt ?_)
    cases h
    simp [Ret, b1]
  replace h := ite_f b1 h
  refine SW_cf (by simp +decide only [F, reduceIte, Nat.reduceAdd, b1]) ?_
  refine sk (an (sq (sq ?_)))
  apply SW_run
  · simp +decide only [E, reduceIte, Nat.reduceAdd, Nat.reduceMul, L, ti49, b1]
    exact Is.mk _
  refine an (bk ?_)
  refine SW_loop (fun m s => ∃ v17 : Int, s.t 1 = .v false [.dat (.sl (List.map M.Cache.en p1))] ∧ s.t 2 = .v false [.dat (.fn f2_ k2_)] ∧ s.t 15 = .v false [.dat (.sl (List.map M.Cache.en p0))] ∧ s.t 16 = .v false [.dat (.int .i64 (List.length p0 : Int))] ∧ s.t 17 = .v false [.dat (.int .i64 v17)] ∧ m_slices_EqualFunc_Cache_L1 p0 p1 p2 m v17 = some r) fuel ?_ ?_
  · refine ⟨0, ?_, ?_, ?_, ?_, ?_, h⟩
    all_goals simp +decide only [F, reduceIte, Nat.reduceAdd, b1]
  rintro mL1 s2 ⟨v17, f3, f4, f5, f6, f7, h⟩
  rcases mL1 with _ | mL1
  · exact absurd h (by simp [m_slices_EqualFunc_Cache_L1])
  simp only [m_slices_EqualFunc_Cache_L1] at h
  refine sq ?_
  apply SW_run
  · simp +decide only [E, reduceIte, Nat.reduceAdd, Nat.reduceMul, L, b1, f3, f4, f5, f6, f7]
    exact Is.mk _
  refine an (sq ?_)
  rcases bcas (decide (v17 < (List.length p0 : Int))) with b8 | b8
  · replace h := ite_f b8 h
    refine SW_cf (by simp +decide only [F, reduceIte, Nat.reduceAdd, b1, f3, f4, f5, f6, f7, b8]) ?_
    refine xt (aft_cx (aft_ix (aft_x (an (sq ?_)))))
    apply SW_run
    · simp +decide only [E, reduceIte, Nat.reduceAdd, Nat.reduceMul, L, b1, f3, f4, f5, f6, f7, b8]
      exact Is.mk _
    refine an (rt ?_)
    cases h
    simp [Ret, b1, f3, f4, f5, f6, f7, b8]
  replace h := ite_t b8 h
  refine SW_ct (by simp +decide only [F, reduceIte, Nat.reduceAdd, b1, f3, f4, f5, f6, f7, b8]) ?_
  refine sk (an (sq (bk (sq ?_))))
  obtain ⟨x9, h10, h⟩ := bind_some h
  obtain ⟨q11, q12, q13⟩ := idx_some h10
  apply SW_run
  · simp +decide only [E, reduceIte, Nat.reduceAdd, Nat.reduceMul, L, ti49, ti185, M.Cache.en, b1, f3, f4, f5, f6, f7, b8, q11, q12, q13]
    exact Is.mk _
  refine an (sq ?_)
  obtain ⟨x14, h15, h⟩ := bind_some h
  obtain ⟨q16, q17, q18⟩ := idx_some h15
  apply SW_run
  · simp +decide only [E, reduceIte, Nat.reduceAdd, Nat.reduceMul, L, ti49, ti185, M.Cache.en, b1, f3, f4, f5, f6, f7, b8, q11, q12, q13, q16, q17, q18]
    exact Is.mk _
  refine an (sq ?_)
  obtain ⟨x19, h20, h⟩ := bind_some h
  apply SW_run
  · simp +decide only [E, reduceIte, Nat.reduceAdd, Nat.reduceMul, L, ti185, b1, f3, f4, f5, f6, f7, b8, q11, q12, q13, q16, q17, q18]
    refine ⟨_, hp2 x9 x14 x19 h20, ?_⟩
    try simp +decide only [E, reduceIte, Nat.reduceAdd, Nat.reduceMul, L, ti185, b1, f3, f4, f5, f6, f7, b8, q11, q12, q13, q16, q17, q18]
    exact Is.mk _
  refine an ?_
  rcases bcase (!x19) with b21 | b21
  · replace h := ite_t b21 h
    refine SW_ct (by simp +decide only [F, reduceIte, Nat.reduceAdd, b1, f3, f4, f5, f6, f7, b8, q11, q12, q13, q16, q17, q18, b21]) ?_
    refine sq ?_
    apply SW_run
    · simp +decide only [E, reduceIte, Nat.reduceAdd, Nat.reduceMul, L, b1, f3, f4, f5, f6, f7, b8, q11, q12, q13, q16, q17, q18, b21]
      exact Is.mk _
    refine an (rt ?_)
    cases h
    simp [Ret, b1, f3, f4, f5, f6, f7, b8, q11, q12, q13, q16, q17, q18, b21]
  replace h := ite_f b21 h
  refine SW_cf (by simp +decide only [F, reduceIte, Nat.reduceAdd, b1, f3, f4, f5, f6, f7, b8, q11, q12, q13, q16, q17, q18, b21]) ?_
  refine sk (ab (an ?_))
  apply SW_run
  · simp +decide only [E, reduceIte, Nat.reduceAdd, Nat.reduceMul, L, b1, f3, f4, f5, f6, f7, b8, q11, q12, q13, q16, q17, q18, b21]
    exact Is.mk _
  refine aft_i ⟨mL1, by omega, (IntKind.i64.wrap (v17 + 1)), ?_, ?_, ?_, ?_, ?_, h⟩
  all_goals simp +decide only [F, reduceIte, Nat.reduceAdd, b1, f3, f4, f5, f6, f7, b8, q11, q12, q13, q16, q17, q18, b21]

set_option maxHeartbeats 4000000 in
theorem c_slices_EqualFunc_Cached (p0 : List M.Cached) (p1 : List M.Cached) (p2 : M.Cached → M.Cached → Option Bool) (f2_ : FuncId) (k2_ : List D) (hp2 : ∀ z0 z1 r, p2 z0 z1 = some r → SCalls Tryz.prog f2_ ((true, M.Cached.en z0) :: (true, M.Cached.en z1) ::  k2_.map fun c => (false, [c])) [(false, [.ro (.bool r)])]) (r : Bool) (h : m_slices_EqualFunc_Cached p0 p1 p2 = some r) : SCalls Tryz.prog 221 [(false, [.sl (List.map M.Cached.en p0)]), (false, [.sl (List.map M.Cached.en p1)]), (false, [.fn f2_ k2_])] [(false, [.ro (.bool r)])] := by
  unfold m_slices_EqualFunc_Cached at h
  refine scalls_n (N := 32) (vars := [.tmp 6]) Tryz.func221 rfl rfl rfl (by decide +kernel) (Nat.le_of_ble_eq_true rfl) fun base wd => ?_
  refine sq ?_
  apply SW_run
  · simp +decide only [E, reduceIte, Nat.reduceAdd, Nat.reduceMul, L]
    exact Is.mk _
  refine an (sq (sq ?_))
  apply SW_run
  · simp +decide only [E, reduceIte, Nat.reduceAdd, Nat.reduceMul, L, ti183]
    exact Is.mk _
  refine an ?_
  rcases bcase ((List.length p0 : Int) != (List.length p1 : Int)) with b1 | b1
  · replace h := ite_t b1 h
    refine SW_ct (by simp +decide only [F, reduceIte, Nat.reduceAdd, b1]) ?_
    refine sq ?_
    apply SW_run
    · simp +decide only [E, reduceIte, Nat.reduceAdd, Nat.reduceMul, L, b1]
      exact Is.mk _
    refine an (rt ?_)
    cases h
    simp [Ret, b1]
  replace h := ite_f b1 h
  refine SW_cf (by simp +decide only [F, reduceIte, Nat.reduceAdd, b1]) ?_
  refine sk (an (sq (sq ?_)))
  apply SW_run
  · simp +decide only [E, reduceIte, Nat.reduceAdd, Nat.reduceMul, L, ti183, b1]
    exact Is.mk _
  refine an (bk ?_)
  refine SW_loop (fun m s => ∃ v17 : Int, s.t 1 = .v false [.dat (.sl (List.map M.Cached.en p1))] ∧ s.t 2 = .v false [.dat (.fn f2_ k2_)] ∧ s.t 15 = .v false [.dat (.sl (List.map M.Cached.en p0))] ∧ s.t 16 = .v false [.dat (.int .i64 (List.length p0 : Int))] ∧ s.t 17 = .v false [.dat (.int .i64 v17)] ∧ m_slices_EqualFunc_Cached_L1 p0 p1 p2 m v17 = some r) fuel ?_ ?_
  · refine ⟨0, ?_, ?_, ?_, ?_, ?_, h⟩
    all_goals simp +decide only [F, reduceIte, Nat.reduceAdd, b1]
  rintro mL1 s2 ⟨v17, f3, f4, f5, f6, f7, h⟩
  rcases mL1 with _ | mL1
  · exact absurd h (by simp [m_slices_EqualFunc_Cached_L1])
  simp only [m_slices_EqualFunc_Cached_L1] at h
  refine sq ?_
  apply SW_run
  · simp +decide only [E, reduceIte, Nat.reduceAdd, Nat.reduceMul, L, b1, f3, f4, f5, f6, f7]
    exact Is.mk _
  refine an (sq ?_)
  rcases bcas (decide (v17 < (List.length p0 : Int))) with b8 | b8
  · replace h := ite_f b8 h
    refine SW_cf (by simp +decide only [F, reduceIte, Nat.reduceAdd, b1, f3, f4, f5, f6, f7, b8]) ?_
    refine xt (aft_cx (aft_ix (aft_x (an (sq ?_)))))
    apply SW_run
    · simp +decide only [E, reduceIte, Nat.reduceAdd, Nat.reduceMul, L, b1, f3, f4, f5, f6, f7, b8]
      exact Is.mk _
    refine an (rt ?_)
    cases h
    simp [Ret, b1, f3, f4, f5, f6, f7, b8]
  replace h := ite_t b8 h
  refine SW_ct (by simp +decide only [F, reduceIte, Nat.reduceAdd, b1, f3, f4, f5, f6, f7, b8]) ?_
  refine sk (an (sq (bk (sq ?_))))
  obtain ⟨x9, h10, h⟩ := bind_some h
  obtain ⟨q11, q12, q13⟩ := idx_some h10
  apply SW_run
  · simp +decide only [E, reduceIte, Nat.reduceAdd, Nat.reduceMul, L, ti183, ti189, M.Cached.en, b1, f3, f4, f5, f6, f7, b8, q11, q12, q13]
    exact Is.mk _
  refine an (sq ?_)
  obtain ⟨x14, h15, h⟩ := bind_some h
  obtain ⟨q16, q17, q18⟩ := idx_some h15
  apply SW_run
  · simp +decide only [E, reduceIte, Nat.reduceAdd, Nat.reduceMul, L, ti183, ti189, M.Cached.en, b1, f3, f4, f5, f6, f7, b8, q11, q12, q13, q16, q17, q18]
    exact Is.mk _
  refine an (sq ?_)
  obtain ⟨x19, h20, h⟩ := bind_some h
  apply SW_run
  · simp +decide only [E, reduceIte, Nat.reduceAdd, Nat.reduceMul, L, ti189, b1, f3, f4, f5, f6, f7, b8, q11, q12, q13, q16, q17, q18]
    refine ⟨_, hp2 x9 x14 x19 h20, ?_⟩
    try simp +decide only [E, reduceIte, Nat.reduceAdd, Nat.reduceMul, L, ti189, b1, f3, f4, f5, f6, f7, b8, q11, q12, q13, q16, q17, q18]
    exact Is.mk _
  refine an ?_
  rcases bcase (!x19) with b21 | b21
  · replace h := ite_t b21 h
    refine SW_ct (by simp +decide only [F, reduceIte, Nat.reduceAdd, b1, f3, f4, f5, f6, f7, b8, q11, q12, q13, q16, q17, q18, b21]) ?_
    refine sq ?_
    apply SW_run
    · simp +decide only [E, reduceIte, Nat.reduceAdd, Nat.reduceMul, L, b1, f3, f4, f5, f6, f7, b8, q11, q12, q13, q16, q17, q18, b21]
      exact Is.mk _
    refine an (rt ?_)
    cases h
    simp [Ret, b1, f3, f4, f5, f6, f7, b8, q11, q12, q13, q16, q17, q18, b21]
  replace h := ite_f b21 h
  refine SW_cf (by simp +decide only [F, reduceIte, Nat.reduceAdd, b1, f3, f4, f5, f6, f7, b8, q11, q12, q13, q16, q17, q18, b21]) ?_
  refine sk (ab (an ?_))
  apply SW_run
  · simp +decide only [E, reduceIte, Nat.reduceAdd, Nat.reduceMul, L, b1, f3, f4, f5, f6, f7, b8, q11, q12, q13, q16, q17, q18, b21]
    exact Is.mk _
  refine aft_i ⟨mL1, by omega, (IntKind.i64.wrap (v17 + 1)), ?_, ?_, ?_, ?_, ?_, h⟩
  all_goals simp +decide only [F, reduceIte, Nat.reduceAdd, b1, f3, f4, f5, f6, f7, b8, q11, q12, q13, q16, q17, q18, b21]

set_option maxHeartbeats 4000000 in
theorem c_slices_Equal_byte (p0 : List Int) (p1 : List Int) (r : Bool) (h : m_slices_Equal_byte p0 p1 = some r) : SCalls Tryz.prog 225 [(false, [.sl (List.map enB p0)]), (false, [.sl (List.map enB p1)])] [(false, [.ro (.bool r)])] := by
  unfold m_slices_Equal_byte at h
  refine scalls_n (N := 26) (vars := [.tmp 4]) Tryz.func225 rfl rfl rfl (by decide +kernel) (Nat.le_of_ble_eq_true rfl) fun base wd => ?_
  refine sq ?_
  apply SW_run
  · simp +decide only [E, reduceIte, Nat.reduceAdd, Nat.reduceMul, L]
    exact Is.mk _
  refine an (sq (sq ?_))
  apply SW_run
  · simp +decide only [E, reduceIte, Nat.reduceAdd, Nat.reduceMul, L, ti31]
    exact Is.mk _
  refine an ?_
  rcases bcase ((List.length p0 : Int) != (List.length p1 : Int)) with b1 | b1
  · replace h := ite_t b1 h
    refine SW_ct (by simp +decide only [F, reduceIte, Nat.reduceAdd, b1]) ?_
    refine sq ?_
    apply SW_run
    · simp +decide only [E, reduceIte, Nat.reduceAdd, Nat.reduceMul, L, b1]
      exact Is.mk _
    refine an (rt ?_)
    cases h
    simp [Ret, b1]
  replace h := ite_f b1 h
  refine SW_cf (by simp +decide only [F, reduceIte, Nat.reduceAdd, b1]) ?_
  refine sk (an (sq (sq ?_)))
  apply SW_run
  · simp +decide only [E, reduceIte, Nat.reduceAdd, Nat.reduceMul, L, ti31, b1]
    exact Is.mk _
  refine an (bk ?_)
  refine SW_loop (fun m s => ∃ v13 : Int, s.t 0 = .v false [.dat (.sl (List.map enB p0))] ∧ s.t 1 = .v false [.dat (.sl (List.map enB p1))] ∧ s.t 12 = .v false [.dat (.int .i64 (List.length p0 : Int))] ∧ s.t 13 = .v false [.dat (.int .i64 v13)] ∧ m_slices_Equal_byte_L1 p0 p1 m v13 = some r) fuel ?_ ?_
  · refine ⟨0, ?_, ?_, ?_, ?_, h⟩
    all_goals simp +decide only [F, reduceIte, Nat.reduceAdd, b1]
  rintro mL1 s2 ⟨v13, f3, f4, f5, f6, h⟩
  rcases mL1 with _ | mL1
  · exact absurd h (by simp [m_slices_Equal_byte_L1])
  simp only [m_slices_Equal_byte_L1] at h
  refine sq ?_
  apply SW_run
  · simp +decide only [E, reduceIte, Nat.reduceAdd, Nat.reduceMul, L, b1, f3, f4, f5, f6]
    exact Is.mk _
  refine an (sq ?_)
  rcases bcas (decide (v13 < (List.length p0 : Int))) with b7 | b7
  · replace h := ite_f b7 h
    refine SW_cf (by simp +decide only [F, reduceIte, Nat.reduceAdd, b1, f3, f4, f5, f6, b7]) ?_
    refine xt (aft_cx (aft_ix (aft_x (an (sq ?_)))))
    apply SW_run
    · simp +decide only [E, reduceIte, Nat.reduceAdd, Nat.reduceMul, L, b1, f3, f4, f5, f6, b7]
      exact Is.mk _
    refine an (rt ?_)
    cases h
    simp [Ret, b1, f3, f4, f5, f6, b7]
  replace h := ite_t b7 h
  refine SW_ct (by simp +decide only [F, reduceIte, Nat.reduceAdd, b1, f3, f4, f5, f6, b7]) ?_
  refine sk (an (sq (bk (sq ?_))))
  apply SW_run
  · simp +decide only [E, reduceIte, Nat.reduceAdd, Nat.reduceMul, L, b1, f3, f4, f5, f6, b7]
    exact Is.mk _
  refine an (sq ?_)
  obtain ⟨x8, h9, h⟩ := bind_some h
  obtain ⟨q10, q11, q12⟩ := idx_some h9
  obtain ⟨x13, h14, h⟩ := bind_some h
  obtain ⟨q15, q16, q17⟩ := idx_some h14
  apply SW_runD mixed
  · simp +decide only [E, reduceIte, Nat.reduceAdd, Nat.reduceMul, L, ti5, ti31, enB, b1, f3, f4, f5, f6, b7, q10, q11, q12, q15, q16, q17]
    exact ⟨.mk (by decide +kernel), Is.mk _⟩
  refine an ?_
  rcases bcase (x8 != x13) with b18 | b18
  · replace h := ite_t b18 h
    refine SW_ct (by simp +decide only [F, reduceIte, Nat.reduceAdd, b1, f3, f4, f5, f6, b7, q10, q11, q12, q15, q16, q17, b18]) ?_
    refine sq ?_
    apply SW_run
    · simp +decide only [E, reduceIte, Nat.reduceAdd, Nat.reduceMul, L, b1, f3, f4, f5, f6, b7, q10, q11, q12, q15, q16, q17, b18]
      exact Is.mk _
    refine an (rt ?_)
    cases h
    simp [Ret, b1, f3, f4, f5, f6, b7, q10, q11, q12, q15, q16, q17, b18]
  replace h := ite_f b18 h
  refine SW_cf (by simp +decide only [F, reduceIte, Nat.reduceAdd, b1, f3, f4, f5, f6, b7, q10, q11, q12, q15, q16, q17, b18]) ?_
  refine sk (ab (an ?_))
  apply SW_run
  · simp +decide only [E, reduceIte, Nat.reduceAdd, Nat.reduceMul, L, b1, f3, f4, f5, f6, b7, q10, q11, q12, q15, q16, q17, b18]
    exact Is.mk _
  refine aft_i ⟨mL1, by omega, (IntKind.i64.wrap (v13 + 1)), ?_, ?_, ?_, ?_, h⟩
  all_goals simp +decide only [F, reduceIte, Nat.reduceAdd, b1, f3, f4, f5, f6, b7, q10, q11, q12, q15, q16, q17, b18]

set_option maxHeartbeats 4000000 in
theorem c_impl_EqualBytes (p0 : List Int) (p1 : List Int) (r : Bool) (h : m_impl_EqualBytes p0 p1 = some r) : SCalls Tryz.prog 147 [(false, [.sl (List.map enB p0)]), (false, [.sl (List.map enB p1)])] [(false, [.ro (.bool r)])] := by
  unfold m_impl_EqualBytes at h
  refine scalls_n (N := 8) (vars := [.tmp 4]) Tryz.func147 rfl rfl rfl (by decide +kernel) (Nat.le_of_ble_eq_true rfl) fun base wd => ?_
  refine sq ?_
  apply SW_run
  · simp +decide only [E, reduceIte, Nat.reduceAdd, Nat.reduceMul, L]
    exact Is.mk _
  refine an (sq ?_)
  obtain ⟨x1, h2, h⟩ := bind_some h
  apply SW_run
  · simp +decide only [E, reduceIte, Nat.reduceAdd, Nat.reduceMul, L]
    refine ⟨_, c_slices_Equal_byte p0 p1 x1 h2, ?_⟩
    try simp +decide only [E, reduceIte, Nat.reduceAdd, Nat.reduceMul, L]
    exact Is.mk _
  refine an (rt ?_)
  cases h
  simp [Ret, ]

set_option maxHeartbeats 4000000 in
theorem c_impl_EqualResponses (p0 : M.Response) (p1 : M.Response) (r : Bool) (h : m_impl_EqualResponses p0 p1 = some r) : SCalls Tryz.prog 287 [(true, M.Response.en p0), (true, M.Response.en p1)] [(false, [.ro (.bool r)])] := by
  unfold m_impl_EqualResponses at h
  simp only [M.Response.en]
  refine scalls_n (N := 38) (vars := [.tmp 4]) Tryz.func287 rfl rfl rfl (by decide +kernel) (Nat.le_of_ble_eq_true rfl) fun base wd => ?_
  refine sq ?_
  apply SW_run
  · simp +decide only [E, reduceIte, Nat.reduceAdd, Nat.reduceMul, L]
    exact Is.mk _
  refine an (sq ?_)
  rcases bcas (p0.Type_ == p1.Type_) with b1 | b1
  · replace h := ite_f b1 h
    apply SW_run
    · simp +decide only [E, reduceIte, Nat.reduceAdd, Nat.reduceMul, L, ti3, ti187, b1]
      exact Is.mk _
    refine an (rt ?_)
    cases h
    simp [Ret, b1]
  replace h := ite_t b1 h
  rcases bcas (p0.Status == p1.Status) with b2 | b2
  · replace h := ite_f b2 h
    apply SW_run
    · simp +decide only [E, reduceIte, Nat.reduceAdd, Nat.reduceMul, L, ti3, ti187, b1, b2]
      exact Is.mk _
    refine an (rt ?_)
    cases h
    simp [Ret, b1, b2]
  replace h := ite_t b2 h
  rcases bcas (p0.Version == p1.Version) with b3 | b3
  · replace h := ite_f b3 h
    apply SW_run
    · simp +decide only [E, reduceIte, Nat.reduceAdd, Nat.reduceMul, L, ti3, ti187, b1, b2, b3]
      exact Is.mk _
    refine an (rt ?_)
    cases h
    simp [Ret, b1, b2, b3]
  replace h := ite_t b3 h
  obtain ⟨x4, h5, h⟩ := bind_some h
  rcases bcas x4 with b6 | b6
  · replace h := ite_f b6 h
    apply SW_run
    · simp +decide only [E, reduceIte, Nat.reduceAdd, Nat.reduceMul, L, ti3, ti31, ti187, b1, b2, b3, b6]
      refine ⟨_, c_impl_EqualBytes p0.Body p1.Body x4 h5, ?_⟩
      try simp +decide only [E, reduceIte, Nat.reduceAdd, Nat.reduceMul, L, ti3, ti31, ti187, b1, b2, b3, b6]
      exact Is.mk _
    refine an (rt ?_)
    cases h
    simp [Ret, b1, b2, b3, b6]
  replace h := ite_t b6 h
  apply SW_run
  · simp +decide only [E, reduceIte, Nat.reduceAdd, Nat.reduceMul, L, ti3, ti4, ti31, ti187, b1, b2, b3, b6]
    refine ⟨_, c_impl_EqualBytes p0.Body p1.Body x4 h5, ?_⟩
    try simp +decide only [E, reduceIte, Nat.reduceAdd, Nat.reduceMul, L, ti3, ti4, ti31, ti187, b1, b2, b3, b6]
    exact Is.mk _
  refine an (rt ?_)
  cases h
  simp [Ret, b1, b2, b3, b6]

set_option maxHeartbeats 4000000 in
theorem c_impl_equalCached (p0 : M.Cached) (p1 : M.Cached) (r : Bool) (h : m_impl_equalCached p0 p1 = some r) : SCalls Tryz.prog 222 [(true, M.Cached.en p0), (true, M.Cached.en p1)] [(false, [.ro (.bool r)])] := by
  unfold m_impl_equalCached at h
  simp only [M.Cached.en]
  refine scalls_n (N := 24) (vars := [.tmp 4]) Tryz.func222 rfl rfl rfl (by decide +kernel) (Nat.le_of_ble_eq_true rfl) fun base wd => ?_
  refine sq ?_
  apply SW_run
  · simp +decide only [E, reduceIte, Nat.reduceAdd, Nat.reduceMul, L]
    exact Is.mk _
  refine an (sq ?_)
  rcases bcas (p0.Site.toList == p1.Site.toList) with b1 | b1
  · replace h := ite_f b1 h
    apply SW_run
    · simp +decide only [E, reduceIte, Nat.reduceAdd, Nat.reduceMul, L, ti9, ti189, b1]
      exact Is.mk _
    refine an (rt ?_)
    cases h
    simp [Ret, b1]
  replace h := ite_t b1 h
  rcases bcas (p0.Path.toList == p1.Path.toList) with b2 | b2
  · replace h := ite_f b2 h
    apply SW_run
    · simp +decide only [E, reduceIte, Nat.reduceAdd, Nat.reduceMul, L, ti9, ti189, b1, b2]
      exact Is.mk _
    refine an (rt ?_)
    cases h
    simp [Ret, b1, b2]
  replace h := ite_t b2 h
  obtain ⟨x3, h4, h⟩ := bind_some h
  apply SW_run
  · simp +decide only [E, reduceIte, Nat.reduceAdd, Nat.reduceMul, L, ti9, ti187, ti189, b1, b2]
    refine ⟨_, c_impl_EqualResponses p0.Response p1.Response x3 h4, ?_⟩
    try simp +decide only [E, reduceIte, Nat.reduceAdd, Nat.reduceMul, L, ti9, ti187, ti189, b1, b2]
    exact Is.mk _
  refine an (rt ?_)
  cases h
  simp [Ret, b1, b2]

set_option maxHeartbeats 4000000 in
theorem c_impl_equalCaches (p0 : M.Cache) (p1 : M.Cache) (r : Bool) (h : m_impl_equalCaches p0 p1 = some r) : SCalls Tryz.prog 145 [(true, M.Cache.en p0), (true, M.Cache.en p1)] [(false, [.ro (.bool r)])] := by
  unfold m_impl_equalCaches at h
  simp only [M.Cache.en]
  refine scalls_n (N := 17) (vars := [.tmp 4]) Tryz.func145 rfl rfl rfl (by decide +kernel) (Nat.le_of_ble_eq_true rfl) fun base wd => ?_
  refine sq ?_
  apply SW_run
  · simp +decide only [E, reduceIte, Nat.reduceAdd, Nat.reduceMul, L]
    exact Is.mk _
  refine an (sq ?_)
  rcases bcas (p0.Version == p1.Version) with b1 | b1
  · replace h := ite_f b1 h
    apply SW_run
    · simp +decide only [E, reduceIte, Nat.reduceAdd, Nat.reduceMul, L, ti3, ti185, b1]
      exact Is.mk _
    refine an (rt ?_)
    cases h
    simp [Ret, b1]
  replace h := ite_t b1 h
  obtain ⟨x2, h3, h⟩ := bind_some h
  apply SW_run
  · simp +decide only [E, reduceIte, Nat.reduceAdd, Nat.reduceMul, L, ti3, ti183, ti185, b1]
    refine ⟨_, c_slices_EqualFunc_Cached p0.Entries p1.Entries (fun z0 z1 => m_impl_equalCached z0 z1) 222 [] (fun z0 z1 r hr => c_impl_equalCached z0 z1 r hr) x2 h3, ?_⟩
    try simp +decide only [E, reduceIte, Nat.reduceAdd, Nat.reduceMul, L, ti3, ti183, ti185, b1]
    exact Is.mk _
  refine an (rt ?_)
  cases h
  simp [Ret, b1]

set_option maxHeartbeats 4000000 in
theorem c_impl_EqualCacheSets (p0 : M.CacheSet) (p1 : M.CacheSet) (r : Bool) (h : m_impl_EqualCacheSets p0 p1 = some r) : SCalls Tryz.prog 66 [(true, M.CacheSet.en p0), (true, M.CacheSet.en p1)] [(false, [.ro (.bool r)])] := by
  unfold m_impl_EqualCacheSets at h
  simp only [M.CacheSet.en]
  refine scalls_n (N := 10) (vars := [.tmp 4]) Tryz.func66 rfl rfl rfl (by decide +kernel) (Nat.le_of_ble_eq_true rfl) fun base wd => ?_
  refine sq ?_
  apply SW_run
  · simp +decide only [E, reduceIte, Nat.reduceAdd, Nat.reduceMul, L]
    exact Is.mk _
  refine an (sq ?_)
  obtain ⟨x1, h2, h⟩ := bind_some h
  apply SW_run
  · simp +decide only [E, reduceIte, Nat.reduceAdd, Nat.reduceMul, L, ti49, ti51]
    refine ⟨_, c_slices_EqualFunc_Cache p0.Caches p1.Caches (fun z0 z1 => m_impl_equalCaches z0 z1) 145 [] (fun z0 z1 r hr => c_impl_equalCaches z0 z1 r hr) x1 h2, ?_⟩
    try simp +decide only [E, reduceIte, Nat.reduceAdd, Nat.reduceMul, L, ti49, ti51]
    exact Is.mk _
  refine an (rt ?_)
  cases h
  simp [Ret, ]

set_option maxHeartbeats 4000000 in
theorem c_slices_EqualFunc_Store (p0 : List M.Store) (p1 : List M.Store) (p2 : M.Store → M.Store → Option Bool) (f2_ : FuncId) (k2_ : List D) (hp2 : ∀ z0 z1 r, p2 z0 z1 = some r → SCalls Tryz.prog f2_ ((true, M.Store.en z0) :: (true, M.Store.en z1) ::  k2_.map fun c => (false, [c])) [(false, [.ro (.bool r)])]) (r : Bool) (h : m_slices_EqualFunc_Store p0 p1 p2 = some r) : SCalls Tryz.prog 223 [(false, [.sl (List.map M.Store.en p0)]), (false, [.sl (List.map M.Store.en p1)]), (false, [.fn f2_ k2_])] [(false, [.ro (.bool r)])] := by
  unfold m_slices_EqualFunc_Store at h
  refine scalls_n (N := 32) (vars := [.tmp 6]) Tryz.func223 rfl rfl rfl (by decide +kernel) (Nat.le_of_ble_eq_true rfl) fun base wd => ?_
  refine sq ?_
  apply SW_run
  · simp +decide only [E, reduceIte, Nat.reduceAdd, Nat.reduceMul, L]
    exact Is.mk _
  refine an (sq (sq ?_))
  apply SW_run
  · simp +decide only [E, reduceIte, Nat.reduceAdd, Nat.reduceMul, L, ti52]
    exact Is.mk _
  refine an ?_
  rcases bcase ((List.length p0 : Int) != (List.length p1 : Int)) with b1 | b1
  · replace h := ite_t b1 h
    refine SW_ct (by simp +decide only [F, reduceIte, Nat.reduceAdd, b1]) ?_
    refine sq ?_
    apply SW_run
    · simp +decide only [E, reduceIte, Nat.reduceAdd, Nat.reduceMul, L, b1]
      exact Is.mk _
    refine an (rt ?_)
    cases h
    simp [Ret, b1]
  replace h := ite_f b1 h
  refine SW_cf (by simp +decide only [F, reduceIte, Nat.reduceAdd, b1]) ?_
  refine sk (an (sq (sq ?_)))
  apply SW_run
  · simp +decide only [E, reduceIte, Nat.reduceAdd, Nat.reduceMul, L, ti52, b1]
    exact Is.mk _
  refine an (bk ?_)
  refine SW_loop (fun m s => ∃ v17 : Int, s.t 1 = .v false [.dat (.sl (List.map M.Store.en p1))] ∧ s.t 2 = .v false [.dat (.fn f2_ k2_)] ∧ s.t 15 = .v false [.dat (.sl (List.map M.Store.en p0))] ∧ s.t 16 = .v false [.dat (.int .i64 (List.length p0 : Int))] ∧ s.t 17 = .v false [.dat (.int .i64 v17)] ∧ m_slices_EqualFunc_Store_L1 p0 p1 p2 m v17 = some r) fuel ?_ ?_
  · refine ⟨0, ?_, ?_, ?_, ?_, ?_, h⟩
    all_goals simp +decide only [F, reduceIte, Nat.reduceAdd, b1]
  rintro mL1 s2 ⟨v17, f3, f4, f5, f6, f7, h⟩
  rcases mL1 with _ | mL1
  · exact absurd h (by simp [m_slices_EqualFunc_Store_L1])
  simp only [m_slices_EqualFunc_Store_L1] at h
  refine sq ?_
  apply SW_run
  · simp +decide only [E, reduceIte, Nat.reduceAdd, Nat.reduceMul, L, b1, f3, f4, f5, f6, f7]
    exact Is.mk _
  refine an (sq ?_)
  rcases bcas (decide (v17 < (List.length p0 : Int))) with b8 | b8
  · replace h := ite_f b8 h
    refine SW_cf (by simp +decide only [F, reduceIte, Nat.reduceAdd, b1, f3, f4, f5, f6, f7, b8]) ?_
    refine xt (aft_cx (aft_ix (aft_x (an (sq ?_)))))
    apply SW_run
    · simp +decide only [E, reduceIte, Nat.reduceAdd, Nat.reduceMul, L, b1, f3, f4, f5, f6, f7, b8]
      exact Is.mk _
    refine an (rt ?_)
    cases h
    simp [Ret, b1, f3, f4, f5, f6, f7, b8]
  replace h := ite_t b8 h
  refine SW_ct (by simp +decide only [F, reduceIte, Nat.reduceAdd, b1, f3, f4, f5, f6, f7, b8]) ?_
  refine sk (an (sq (bk (sq ?_))))
  obtain ⟨x9, h10, h⟩ := bind_some h
  obtain ⟨q11, q12, q13⟩ := idx_some h10
  apply SW_run
  · simp +decide only [E, reduceIte, Nat.reduceAdd, Nat.reduceMul, L, ti52, ti60, M.Store.en, b1, f3, f4, f5, f6, f7, b8, q11, q12, q13]
    exact Is.mk _
  refine an (sq ?_)
  obtain ⟨x14, h15, h⟩ := bind_some h
  obtain ⟨q16, q17, q18⟩ := idx_some h15
  apply SW_run
  · simp +decide only [E, reduceIte, Nat.reduceAdd, Nat.reduceMul, L, ti52, ti60, M.Store.en, b1, f3, f4, f5, f6, f7, b8, q11, q12, q13, q16, q17, q18]
    exact Is.mk _
  refine an (sq ?_)
  obtain ⟨x19, h20, h⟩ := bind_some h
  apply SW_run
  · simp +decide only [E, reduceIte, Nat.reduceAdd, Nat.reduceMul, L, ti60, b1, f3, f4, f5, f6, f7, b8, q11, q12, q13, q16, q17, q18]
    refine ⟨_, hp2 x9 x14 x19 h20, ?_⟩
    try simp +decide only [E, reduceIte, Nat.reduceAdd, Nat.reduceMul, L, ti60, b1, f3, f4, f5, f6, f7, b8, q11, q12, q13, q16, q17, q18]
    exact Is.mk _
  refine an ?_
  rcases bcase (!x19) with b21 | b21
  · replace h := ite_t b21 h
    refine SW_ct (by simp +decide only [F, reduceIte, Nat.reduceAdd, b1, f3, f4, f5, f6, f7, b8, q11, q12, q13, q16, q17, q18, b21]) ?_
    refine sq ?_
    apply SW_run
    · simp +decide only [E, reduceIte, Nat.reduceAdd, Nat.reduceMul, L, b1, f3, f4, f5, f6, f7, b8, q11, q12, q13, q16, q17, q18, b21]
      exact Is.mk _
    refine an (rt ?_)
    cases h
    simp [Ret, b1, f3, f4, f5, f6, f7, b8, q11, q12, q13, q16, q17, q18, b21]
  replace h := ite_f b21 h
  refine SW_cf (by simp +decide only [F, reduceIte, Nat.reduceAdd, b1, f3, f4, f5, f6, f7, b8, q11, q12, q13, q16, q17, q18, b21]) ?_
  refine sk (ab (an ?_))
  apply SW_run
  · simp +decide only [E, reduceIte, Nat.reduceAdd, Nat.reduceMul, L, b1, f3, f4, f5, f6, f7, b8, q11, q12, q13, q16, q17, q18, b21]
    exact Is.mk _
  refine aft_i ⟨mL1, by omega, (IntKind.i64.wrap (v17 + 1)), ?_, ?_, ?_, ?_, ?_, h⟩
  all_goals simp +decide only [F, reduceIte, Nat.reduceAdd, b1, f3, f4, f5, f6, f7, b8, q11, q12, q13, q16, q17, q18, b21]

set_option maxHeartbeats 4000000 in
theorem c_slices_EqualFunc_Item (p0 : List M.Item) (p1 : List M.Item) (p2 : M.Item → M.Item → Option Bool) (f2_ : FuncId) (k2_ : List D) (hp2 : ∀ z0 z1 r, p2 z0 z1 = some r → SCalls Tryz.prog f2_ ((true, M.Item.en z0) :: (true, M.Item.en z1) ::  k2_.map fun c => (false, [c])) [(false, [.ro (.bool r)])]) (r : Bool) (h : m_slices_EqualFunc_Item p0 p1 p2 = some r) : SCalls Tryz.prog 226 [(false, [.sl (List.map M.Item.en p0)]), (false, [.sl (List.map M.Item.en p1)]), (false, [.fn f2_ k2_])] [(false, [.ro (.bool r)])] := by
  unfold m_slices_EqualFunc_Item at h
  refine scalls_n (N := 32) (vars := [.tmp 6]) Tryz.func226 rfl rfl rfl (by decide +kernel) (Nat.le_of_ble_eq_true rfl) fun base wd => ?_
  refine sq ?_
  apply SW_run
  · simp +decide only [E, reduceIte, Nat.reduceAdd, Nat.reduceMul, L]
    exact Is.mk _
  refine an (sq (sq ?_))
  apply SW_run
  · simp +decide only [E, reduceIte, Nat.reduceAdd, Nat.reduceMul, L, ti58]
    exact Is.mk _
  refine an ?_
  rcases bcase ((List.length p0 : Int) != (List.length p1 : Int)) with b1 | b1
  · replace h := ite_t b1 h
    refine SW_ct (by simp +decide only [F, reduceIte, Nat.reduceAdd, b1]) ?_
    refine sq ?_
    apply SW_run
    · simp +decide only [E, reduceIte, Nat.reduceAdd, Nat.reduceMul, L, b1]
      exact Is.mk _
    refine an (rt ?_)
    cases h
    simp [Ret, b1]
  replace h := ite_f b1 h
  refine SW_cf (by simp +decide only [F, reduceIte, Nat.reduceAdd, b1]) ?_
  refine sk (an (sq (sq ?_)))
  apply SW_run
  · simp +decide only [E, reduceIte, Nat.reduceAdd, Nat.reduceMul, L, ti58, b1]
    exact Is.mk _
  refine an (bk ?_)
  refine SW_loop (fun m s => ∃ v17 : Int, s.t 1 = .v false [.dat (.sl (List.map M.Item.en p1))] ∧ s.t 2 = .v false [.dat (.fn f2_ k2_)] ∧ s.t 15 = .v false [.dat (.sl (List.map M.Item.en p0))] ∧ s.t 16 = .v false [.dat (.int .i64 (List.length p0 : Int))] ∧ s.t 17 = .v false [.dat (.int .i64 v17)] ∧ m_slices_EqualFunc_Item_L1 p0 p1 p2 m v17 = some r) fuel ?_ ?_
  · refine ⟨0, ?_, ?_, ?_, ?_, ?_, h⟩
    all_goals simp +decide only [F, reduceIte, Nat.reduceAdd, b1]
  rintro mL1 s2 ⟨v17, f3, f4, f5, f6, f7, h⟩
  rcases mL1 with _ | mL1
  · exact absurd h (by simp [m_slices_EqualFunc_Item_L1])
  simp only [m_slices_EqualFunc_Item_L1] at h
  refine sq ?_
  apply SW_run
  · simp +decide only [E, reduceIte, Nat.reduceAdd, Nat.reduceMul, L, b1, f3, f4, f5, f6, f7]
    exact Is.mk _
  refine an (sq ?_)
  rcases bcas (decide (v17 < (List.length p0 : Int))) with b8 | b8
  · replace h := ite_f b8 h
    refine SW_cf (by simp +decide only [F, reduceIte, Nat.reduceAdd, b1, f3, f4, f5, f6, f7, b8]) ?_
    refine xt (aft_cx (aft_ix (aft_x (an (sq ?_)))))
    apply SW_run
    · simp +decide only [E, reduceIte, Nat.reduceAdd, Nat.reduceMul, L, b1, f3, f4, f5, f6, f7, b8]
      exact Is.mk _
    refine an (rt ?_)
    cases h
    simp [Ret, b1, f3, f4, f5, f6, f7, b8]
  replace h := ite_t b8 h
  refine SW_ct (by simp +decide only [F, reduceIte, Nat.reduceAdd, b1, f3, f4, f5, f6, f7, b8]) ?_
  refine sk (an (sq (bk (sq ?_))))
  obtain ⟨x9, h10, h⟩ := bind_some h
  obtain ⟨q11, q12, q13⟩ := idx_some h10
  apply SW_run
  · simp +decide only [E, reduceIte, Nat.reduceAdd, Nat.reduceMul, L, ti58, ti208, M.Item.en, b1, f3, f4, f5, f6, f7, b8, q11, q12, q13]
    exact Is.mk _
  refine an (sq ?_)
  obtain ⟨x14, h15, h⟩ := bind_some h
  obtain ⟨q16, q17, q18⟩ := idx_some h15
  apply SW_run
  · simp +decide only [E, reduceIte, Nat.reduceAdd, Nat.reduceMul, L, ti58, ti208, M.Item.en, b1, f3, f4, f5, f6, f7, b8, q11, q12, q13, q16, q17, q18]
    exact Is.mk _
  refine an (sq ?_)
  obtain ⟨x19, h20, h⟩ := bind_some h
  apply SW_run
  · simp +decide only [E, reduceIte, Nat.reduceAdd, Nat.reduceMul, L, ti208, b1, f3, f4, f5, f6, f7, b8, q11, q12, q13, q16, q17, q18]
    refine ⟨_, hp2 x9 x14 x19 h20, ?_⟩
    try simp +decide only [E, reduceIte, Nat.reduceAdd, Nat.reduceMul, L, ti208, b1, f3, f4, f5, f6, f7, b8, q11, q12, q13, q16, q17, q18]
    exact Is.mk _
  refine an ?_
  rcases bcase (!x19) with b21 | b21
  · replace h := ite_t b21 h
    refine SW_ct (by simp +decide only [F, reduceIte, Nat.reduceAdd, b1, f3, f4, f5, f6, f7, b8, q11, q12, q13, q16, q17, q18, b21]) ?_
    refine sq ?_
    apply SW_run
    · simp +decide only [E, reduceIte, Nat.reduceAdd, Nat.reduceMul, L, b1, f3, f4, f5, f6, f7, b8, q11, q12, q13, q16, q17, q18, b21]
      exact Is.mk _
    refine an (rt ?_)
    cases h
    simp [Ret, b1, f3, f4, f5, f6, f7, b8, q11, q12, q13, q16, q17, q18, b21]
  replace h := ite_f b21 h
  refine SW_cf (by simp +decide only [F, reduceIte, Nat.reduceAdd, b1, f3, f4, f5, f6, f7, b8, q11, q12, q13, q16, q17, q18, b21]) ?_
  refine sk (ab (an ?_))
  apply SW_run
  · simp +decide only [E, reduceIte, Nat.reduceAdd, Nat.reduceMul, L, b1, f3, f4, f5, f6, f7, b8, q11, q12, q13, q16, q17, q18, b21]
    exact Is.mk _
  refine aft_i ⟨mL1, by omega, (IntKind.i64.wrap (v17 + 1)), ?_, ?_, ?_, ?_, ?_, h⟩
  all_goals simp +decide only [F, reduceIte, Nat.reduceAdd, b1, f3, f4, f5, f6, f7, b8, q11, q12, q13, q16, q17, q18, b21]

set_option maxHeartbeats 4000000 in
theorem c_slices_Equal_Field (p0 : List M.Field) (p1 : List M.Field) (r : Bool) (h : m_slices_Equal_Field p0 p1 = some r) : SCalls Tryz.prog 319 [(false, [.sl (List.map M.Field.en p0)]), (false, [.sl (List.map M.Field.en p1)])] [(false, [.ro (.bool r)])] := by
  unfold m_slices_Equal_Field at h
  refine scalls_n (N := 26) (vars := [.tmp 4]) Tryz.func319 rfl rfl rfl (by decide +kernel) (Nat.le_of_ble_eq_true rfl) fun base wd => ?_
  refine sq ?_
  apply SW_run
  · simp +decide only [E, reduceIte, Nat.reduceAdd, Nat.reduceMul, L]
    exact Is.mk _
  refine an (sq (sq ?_))
  apply SW_run
  · simp +decide only [E, reduceIte, Nat.reduceAdd, Nat.reduceMul, L, ti204]
    exact Is.mk _
  refine an ?_
  rcases bcase ((List.length p0 : Int) != (List.length p1 : Int)) with b1 | b1
  · replace h := ite_t b1 h
    refine SW_ct (by simp +decide only [F, reduceIte, Nat.reduceAdd, b1]) ?_
    refine sq ?_
    apply SW_run
    · simp +decide only [E, reduceIte, Nat.reduceAdd, Nat.reduceMul, L, b1]
      exact Is.mk _
    refine an (rt ?_)
    cases h
    simp [Ret, b1]
  replace h := ite_f b1 h
  refine SW_cf (by simp +decide only [F, reduceIte, Nat.reduceAdd, b1]) ?_
  refine sk (an (sq (sq ?_)))
  apply SW_run
  · simp +decide only [E, reduceIte, Nat.reduceAdd, Nat.reduceMul, L, ti204, b1]
    exact Is.mk _
  refine an (bk ?_)
  refine SW_loop (fun m s => ∃ v13 : Int, s.t 0 = .v false [.dat (.sl (List.map M.Field.en p0))] ∧ s.t 1 = .v false [.dat (.sl (List.map M.Field.en p1))] ∧ s.t 12 = .v false [.dat (.int .i64 (List.length p0 : Int))] ∧ s.t 13 = .v false [.dat (.int .i64 v13)] ∧ m_slices_Equal_Field_L1 p0 p1 m v13 = some r) fuel ?_ ?_
  · refine ⟨0, ?_, ?_, ?_, ?_, h⟩
    all_goals simp +decide only [F, reduceIte, Nat.reduceAdd, b1]
  rintro mL1 s2 ⟨v13, f3, f4, f5, f6, h⟩
  rcases mL1 with _ | mL1
  · exact absurd h (by simp [m_slices_Equal_Field_L1])
  simp only [m_slices_Equal_Field_L1] at h
  refine sq ?_
  apply SW_run
  · simp +decide only [E, reduceIte, Nat.reduceAdd, Nat.reduceMul, L, b1, f3, f4, f5, f6]
    exact Is.mk _
  refine an (sq ?_)
  rcases bcas (decide (v13 < (List.length p0 : Int))) with b7 | b7
  · replace h := ite_f b7 h
    refine SW_cf (by simp +decide only [F, reduceIte, Nat.reduceAdd, b1, f3, f4, f5, f6, b7]) ?_
    refine xt (aft_cx (aft_ix (aft_x (an (sq ?_)))))
    apply SW_run
    · simp +decide only [E, reduceIte, Nat.reduceAdd, Nat.reduceMul, L, b1, f3, f4, f5, f6, b7]
      exact Is.mk _
    refine an (rt ?_)
    cases h
    simp [Ret, b1, f3, f4, f5, f6, b7]
  replace h := ite_t b7 h
  refine SW_ct (by simp +decide only [F, reduceIte, Nat.reduceAdd, b1, f3, f4, f5, f6, b7]) ?_
  refine sk (an (sq (bk (sq ?_))))
  apply SW_run
  · simp +decide only [E, reduceIte, Nat.reduceAdd, Nat.reduceMul, L, b1, f3, f4, f5, f6, b7]
    exact Is.mk _
  refine an (sq ?_)
  obtain ⟨x8, h9, h⟩ := bind_some h
  obtain ⟨q10, q11, q12⟩ := idx_some h9
  obtain ⟨x13, h14, h⟩ := bind_some h
  obtain ⟨q15, q16, q17⟩ := idx_some h14
  apply SW_runD mixed
  · simp +decide only [E, reduceIte, Nat.reduceAdd, Nat.reduceMul, L, ti204, ti273, M.Field.en, b1, f3, f4, f5, f6, b7, q10, q11, q12, q15, q16, q17]
    exact ⟨.mk (by decide +kernel), Is.mk _⟩
  refine an ?_
  rcases bcase (!((x8.Name.toList == x13.Name.toList) && (x8.N == x13.N))) with b18 | b18
  · replace h := ite_t b18 h
    refine SW_ct (by simp +decide only [F, reduceIte, Nat.reduceAdd, b1, f3, f4, f5, f6, b7, q10, q11, q12, q15, q16, q17, b18]) ?_
    refine sq ?_
    apply SW_run
    · simp +decide only [E, reduceIte, Nat.reduceAdd, Nat.reduceMul, L, b1, f3, f4, f5, f6, b7, q10, q11, q12, q15, q16, q17, b18]
      exact Is.mk _
    refine an (rt ?_)
    cases h
    simp [Ret, b1, f3, f4, f5, f6, b7, q10, q11, q12, q15, q16, q17, b18]
  replace h := ite_f b18 h
  refine SW_cf (by simp +decide only [F, reduceIte, Nat.reduceAdd, b1, f3, f4, f5, f6, b7, q10, q11, q12, q15, q16, q17, b18]) ?_
  refine sk (ab (an ?_))
  apply SW_run
  · simp +decide only [E, reduceIte, Nat.reduceAdd, Nat.reduceMul, L, b1, f3, f4, f5, f6, b7, q10, q11, q12, q15, q16, q17, b18]
    exact Is.mk _
  refine aft_i ⟨mL1, by omega, (IntKind.i64.wrap (v13 + 1)), ?_, ?_, ?_, ?_, h⟩
  all_goals simp +decide only [F, reduceIte, Nat.reduceAdd, b1, f3, f4, f5, f6, b7, q10, q11, q12, q15, q16, q17, b18]

set_option maxHeartbeats 4000000 in
theorem c_impl_EqualRecords (p0 : M.Record) (p1 : M.Record) (r : Bool) (h : m_impl_EqualRecords p0 p1 = some r) : SCalls Tryz.prog 288 [(true, M.Record.en p0), (true, M.Record.en p1)] [(false, [.ro (.bool r)])] := by
  unfold m_impl_EqualRecords at h
  simp only [M.Record.en]
  refine scalls_n (N := 10) (vars := [.tmp 4]) Tryz.func288 rfl rfl rfl (by decide +kernel) (Nat.le_of_ble_eq_true rfl) fun base wd => ?_
  refine sq ?_
  apply SW_run
  · simp +decide only [E, reduceIte, Nat.reduceAdd, Nat.reduceMul, L]
    exact Is.mk _
  refine an (sq ?_)
  obtain ⟨x1, h2, h⟩ := bind_some h
  apply SW_run
  · simp +decide only [E, reduceIte, Nat.reduceAdd, Nat.reduceMul, L, ti204, ti206]
    refine ⟨_, c_slices_Equal_Field p0.Fields p1.Fields x1 h2, ?_⟩
    try simp +decide only [E, reduceIte, Nat.reduceAdd, Nat.reduceMul, L, ti204, ti206]
    exact Is.mk _
  refine an (rt ?_)
  cases h
  simp [Ret, ]

set_option maxHeartbeats 4000000 in
theorem c_impl_equalItems (p0 : M.Item) (p1 : M.Item) (r : Bool) (h : m_impl_equalItems p0 p1 = some r) : SCalls Tryz.prog 227 [(true, M.Item.en p0), (true, M.Item.en p1)] [(false, [.ro (.bool r)])] := by
  unfold m_impl_equalItems at h
  simp only [M.Item.en]
  refine scalls_n (N := 17) (vars := [.tmp 4]) Tryz.func227 rfl rfl rfl (by decide +kernel) (Nat.le_of_ble_eq_true rfl) fun base wd => ?_
  refine sq ?_
  apply SW_run
  · simp +decide only [E, reduceIte, Nat.reduceAdd, Nat.reduceMul, L]
    exact Is.mk _
  refine an (sq ?_)
  rcases bcas ((p0.Key.Kind == p1.Key.Kind) && ((p0.Key.N == p1.Key.N) && (p0.Key.Text.toList == p1.Key.Text.toList))) with b1 | b1
  · replace h := ite_f b1 h
    apply SW_run
    · simp +decide only [E, reduceIte, Nat.reduceAdd, Nat.reduceMul, L, ti203, ti208, b1]
      exact Is.mk _
    refine an (rt ?_)
    cases h
    simp [Ret, b1]
  replace h := ite_t b1 h
  obtain ⟨x2, h3, h⟩ := bind_some h
  apply SW_run
  · simp +decide only [E, reduceIte, Nat.reduceAdd, Nat.reduceMul, L, ti203, ti206, ti208, b1]
    refine ⟨_, c_impl_EqualRecords p0.Record p1.Record x2 h3, ?_⟩
    try simp +decide only [E, reduceIte, Nat.reduceAdd, Nat.reduceMul, L, ti203, ti206, ti208, b1]
    exact Is.mk _
  refine an (rt ?_)
  cases h
  simp [Ret, b1]

set_option maxHeartbeats 4000000 in
theorem c_impl_EqualStores (p0 : M.Store) (p1 : M.Store) (r : Bool) (h : m_impl_EqualStores p0 p1 = some r) : SCalls Tryz.prog 148 [(true, M.Store.en p0), (true, M.Store.en p1)] [(false, [.ro (.bool r)])] := by
  unfold m_impl_EqualStores at h
  simp only [M.Store.en]
  refine scalls_n (N := 24) (vars := [.tmp 4]) Tryz.func148 rfl rfl rfl (by decide +kernel) (Nat.le_of_ble_eq_true rfl) fun base wd => ?_
  refine sq ?_
  apply SW_run
  · simp +decide only [E, reduceIte, Nat.reduceAdd, Nat.reduceMul, L]
    exact Is.mk _
  refine an (sq ?_)
  rcases bcas (p0.Name.toList == p1.Name.toList) with b1 | b1
  · replace h := ite_f b1 h
    apply SW_run
    · simp +decide only [E, reduceIte, Nat.reduceAdd, Nat.reduceMul, L, ti9, ti60, b1]
      exact Is.mk _
    refine an (rt ?_)
    cases h
    simp [Ret, b1]
  replace h := ite_t b1 h
  rcases bcas (p0.Auto == p1.Auto) with b2 | b2
  · replace h := ite_f b2 h
    apply SW_run
    · simp +decide only [E, reduceIte, Nat.reduceAdd, Nat.reduceMul, L, ti3, ti9, ti60, b1, b2]
      exact Is.mk _
    refine an (rt ?_)
    cases h
    simp [Ret, b1, b2]
  replace h := ite_t b2 h
  obtain ⟨x3, h4, h⟩ := bind_some h
  apply SW_run
  · simp +decide only [E, reduceIte, Nat.reduceAdd, Nat.reduceMul, L, ti3, ti9, ti58, ti60, b1, b2]
    refine ⟨_, c_slices_EqualFunc_Item p0.Items p1.Items (fun z0 z1 => m_impl_equalItems z0 z1) 227 [] (fun z0 z1 r hr => c_impl_equalItems z0 z1 r hr) x3 h4, ?_⟩
    try simp +decide only [E, reduceIte, Nat.reduceAdd, Nat.reduceMul, L, ti3, ti9, ti58, ti60, b1, b2]
    exact Is.mk _
  refine an (rt ?_)
  cases h
  simp [Ret, b1, b2]

set_option maxHeartbeats 4000000 in
theorem c_slices_Equal_IndexDef (p0 : List M.IndexDef) (p1 : List M.IndexDef) (r : Bool) (h : m_slices_Equal_IndexDef p0 p1 = some r) : SCalls Tryz.prog 224 [(false, [.sl (List.map M.IndexDef.en p0)]), (false, [.sl (List.map M.IndexDef.en p1)])] [(false, [.ro (.bool r)])] := by
  unfold m_slices_Equal_IndexDef at h
  refine scalls_n (N := 26) (vars := [.tmp 4]) Tryz.func224 rfl rfl rfl (by decide +kernel) (Nat.le_of_ble_eq_true rfl) fun base wd => ?_
  refine sq ?_
  apply SW_run
  · simp +decide only [E, reduceIte, Nat.reduceAdd, Nat.reduceMul, L]
    exact Is.mk _
  refine an (sq (sq ?_))
  apply SW_run
  · simp +decide only [E, reduceIte, Nat.reduceAdd, Nat.reduceMul, L, ti53]
    exact Is.mk _
  refine an ?_
  rcases bcase ((List.length p0 : Int) != (List.length p1 : Int)) with b1 | b1
  · replace h := ite_t b1 h
    refine SW_ct (by simp +decide only [F, reduceIte, Nat.reduceAdd, b1]) ?_
    refine sq ?_
    apply SW_run
    · simp +decide only [E, reduceIte, Nat.reduceAdd, Nat.reduceMul, L, b1]
      exact Is.mk _
    refine an (rt ?_)
    cases h
    simp [Ret, b1]
  replace h := ite_f b1 h
  refine SW_cf (by simp +decide only [F, reduceIte, Nat.reduceAdd, b1]) ?_
  refine sk (an (sq (sq ?_)))
  apply SW_run
  · simp +decide only [E, reduceIte, Nat.reduceAdd, Nat.reduceMul, L, ti53, b1]
    exact Is.mk _
  refine an (bk ?_)
  refine SW_loop (fun m s => ∃ v13 : Int, s.t 0 = .v false [.dat (.sl (List.map M.IndexDef.en p0))] ∧ s.t 1 = .v false [.dat (.sl (List.map M.IndexDef.en p1))] ∧ s.t 12 = .v false [.dat (.int .i64 (List.length p0 : Int))] ∧ s.t 13 = .v false [.dat (.int .i64 v13)] ∧ m_slices_Equal_IndexDef_L1 p0 p1 m v13 = some r) fuel ?_ ?_
  · refine ⟨0, ?_, ?_, ?_, ?_, h⟩
    all_goals simp +decide only [F, reduceIte, Nat.reduceAdd, b1]
  rintro mL1 s2 ⟨v13, f3, f4, f5, f6, h⟩
  rcases mL1 with _ | mL1
  · exact absurd h (by simp [m_slices_Equal_IndexDef_L1])
  simp only [m_slices_Equal_IndexDef_L1] at h
  refine sq ?_
  apply SW_run
  · simp +decide only [E, reduceIte, Nat.reduceAdd, Nat.reduceMul, L, b1, f3, f4, f5, f6]
    exact Is.mk _
  refine an (sq ?_)
  rcases bcas (decide (v13 < (List.length p0 : Int))) with b7 | b7
  · replace h := ite_f b7 h
    refine SW_cf (by simp +decide only [F, reduceIte, Nat.reduceAdd, b1, f3, f4, f5, f6, b7]) ?_
    refine xt (aft_cx (aft_ix (aft_x (an (sq ?_)))))
    apply SW_run
    · simp +decide only [E, reduceIte, Nat.reduceAdd, Nat.reduceMul, L, b1, f3, f4, f5, f6, b7]
      exact Is.mk _
    refine an (rt ?_)
    cases h
    simp [Ret, b1, f3, f4, f5, f6, b7]
  replace h := ite_t b7 h
  refine SW_ct (by simp +decide only [F, reduceIte, Nat.reduceAdd, b1, f3, f4, f5, f6, b7]) ?_
  refine sk (an (sq (bk (sq ?_))))
  apply SW_run
  · simp +decide only [E, reduceIte, Nat.reduceAdd, Nat.reduceMul, L, b1, f3, f4, f5, f6, b7]
    exact Is.mk _
  refine an (sq ?_)
  obtain ⟨x8, h9, h⟩ := bind_some h
  obtain ⟨q10, q11, q12⟩ := idx_some h9
  obtain ⟨x13, h14, h⟩ := bind_some h
  obtain ⟨q15, q16, q17⟩ := idx_some h14
  apply SW_runD mixed
  · simp +decide only [E, reduceIte, Nat.reduceAdd, Nat.reduceMul, L, ti53, ti225, M.IndexDef.en, b1, f3, f4, f5, f6, b7, q10, q11, q12, q15, q16, q17]
    exact ⟨.mk (by decide +kernel), Is.mk _⟩
  refine an ?_
  rcases bcase (!((x8.Store.toList == x13.Store.toList) && (x8.Field.toList == x13.Field.toList))) with b18 | b18
  · replace h := ite_t b18 h
    refine SW_ct (by simp +decide only [F, reduceIte, Nat.reduceAdd, b1, f3, f4, f5, f6, b7, q10, q11, q12, q15, q16, q17, b18]) ?_
    refine sq ?_
    apply SW_run
    · simp +decide only [E, reduceIte, Nat.reduceAdd, Nat.reduceMul, L, b1, f3, f4, f5, f6, b7, q10, q11, q12, q15, q16, q17, b18]
      exact Is.mk _
    refine an (rt ?_)
    cases h
    simp [Ret, b1, f3, f4, f5, f6, b7, q10, q11, q12, q15, q16, q17, b18]
  replace h := ite_f b18 h
  refine SW_cf (by simp +decide only [F, reduceIte, Nat.reduceAdd, b1, f3, f4, f5, f6, b7, q10, q11, q12, q15, q16, q17, b18]) ?_
  refine sk (ab (an ?_))
  apply SW_run
  · simp +decide only [E, reduceIte, Nat.reduceAdd, Nat.reduceMul, L, b1, f3, f4, f5, f6, b7, q10, q11, q12, q15, q16, q17, b18]
    exact Is.mk _
  refine aft_i ⟨mL1, by omega, (IntKind.i64.wrap (v13 + 1)), ?_, ?_, ?_, ?_, h⟩
  all_goals simp +decide only [F, reduceIte, Nat.reduceAdd, b1, f3, f4, f5, f6, b7, q10, q11, q12, q15, q16, q17, b18]

set_option maxHeartbeats 4000000 in
theorem c_impl_EqualDatabases (p0 : M.Database) (p1 : M.Database) (r : Bool) (h : m_impl_EqualDatabases p0 p1 = some r) : SCalls Tryz.prog 146 [(true, M.Database.en p0), (true, M.Database.en p1)] [(false, [.ro (.bool r)])] := by
  unfold m_impl_EqualDatabases at h
  simp only [M.Database.en]
  refine scalls_n (N := 31) (vars := [.tmp 4]) Tryz.func146 rfl rfl rfl (by decide +kernel) (Nat.le_of_ble_eq_true rfl) fun base wd => ?_
  refine sq ?_
  apply SW_run
  · simp +decide only [E, reduceIte, Nat.reduceAdd, Nat.reduceMul, L]
    exact Is.mk _
  refine an (sq ?_)
  rcases bcas (p0.Name.toList == p1.Name.toList) with b1 | b1
  · replace h := ite_f b1 h
    apply SW_run
    · simp +decide only [E, reduceIte, Nat.reduceAdd, Nat.reduceMul, L, ti9, ti55, b1]
      exact Is.mk _
    refine an (rt ?_)
    cases h
    simp [Ret, b1]
  replace h := ite_t b1 h
  rcases bcas (p0.Version == p1.Version) with b2 | b2
  · replace h := ite_f b2 h
    apply SW_run
    · simp +decide only [E, reduceIte, Nat.reduceAdd, Nat.reduceMul, L, ti3, ti9, ti55, b1, b2]
      exact Is.mk _
    refine an (rt ?_)
    cases h
    simp [Ret, b1, b2]
  replace h := ite_t b2 h
  obtain ⟨x3, h4, h⟩ := bind_some h
  rcases bcas x3 with b5 | b5
  · replace h := ite_f b5 h
    apply SW_run
    · simp +decide only [E, reduceIte, Nat.reduceAdd, Nat.reduceMul, L, ti3, ti9, ti52, ti55, b1, b2, b5]
      refine ⟨_, c_slices_EqualFunc_Store p0.Stores p1.Stores (fun z0 z1 => m_impl_EqualStores z0 z1) 148 [] (fun z0 z1 r hr => c_impl_EqualStores z0 z1 r hr) x3 h4, ?_⟩
      try simp +decide only [E, reduceIte, Nat.reduceAdd, Nat.reduceMul, L, ti3, ti9, ti52, ti55, b1, b2, b5]
      exact Is.mk _
    refine an (rt ?_)
    cases h
    simp [Ret, b1, b2, b5]
  replace h := ite_t b5 h
  obtain ⟨x6, h7, h⟩ := bind_some h
  apply SW_run
  · simp +decide only [E, reduceIte, Nat.reduceAdd, Nat.reduceMul, L, ti3, ti9, ti52, ti53, ti55, b1, b2, b5]
    refine ⟨_, c_slices_EqualFunc_Store p0.Stores p1.Stores (fun z0 z1 => m_impl_EqualStores z0 z1) 148 [] (fun z0 z1 r hr => c_impl_EqualStores z0 z1 r hr) x3 h4, ?_⟩
    try simp +decide only [E, reduceIte, Nat.reduceAdd, Nat.reduceMul, L, ti3, ti9, ti52, ti53, ti55, b1, b2, b5]
    refine ⟨_, c_slices_Equal_IndexDef p0.Unique p1.Unique x6 h7, ?_⟩
    try simp +decide only [E, reduceIte, Nat.reduceAdd, Nat.reduceMul, L, ti3, ti9, ti52, ti53, ti55, b1, b2, b5]
    exact Is.mk _
  refine an (rt ?_)
  cases h
  simp [Ret, b1, b2, b5]

set_option maxHeartbeats 4000000 in
theorem c_impl_EqualDisks (p0 : M.Disk) (p1 : M.Disk) (r : Bool) (h : m_impl_EqualDisks p0 p1 = some r) : SCalls Tryz.prog 67 [(true, M.Disk.en p0), (true, M.Disk.en p1)] [(false, [.ro (.bool r)])] := by
  unfold m_impl_EqualDisks at h
  simp only [M.Disk.en]
  refine scalls_n (N := 24) (vars := [.tmp 4]) Tryz.func67 rfl rfl rfl (by decide +kernel) (Nat.le_of_ble_eq_true rfl) fun base wd => ?_
  refine sq ?_
  apply SW_run
  · simp +decide only [E, reduceIte, Nat.reduceAdd, Nat.reduceMul, L]
    exact Is.mk _
  refine an (sq ?_)
  obtain ⟨x1, h2, h⟩ := bind_some h
  rcases bcas x1 with b3 | b3
  · replace h := ite_f b3 h
    apply SW_run
    · simp +decide only [E, reduceIte, Nat.reduceAdd, Nat.reduceMul, L, ti55, ti57, b3]
      refine ⟨_, c_impl_EqualDatabases p0.Base p1.Base x1 h2, ?_⟩
      try simp +decide only [E, reduceIte, Nat.reduceAdd, Nat.reduceMul, L, ti55, ti57, b3]
      exact Is.mk _
    refine an (rt ?_)
    cases h
    simp [Ret, b3]
  replace h := ite_t b3 h
  obtain ⟨x4, h5, h⟩ := bind_some h
  rcases bcas x4 with b6 | b6
  · replace h := ite_f b6 h
    apply SW_run
    · simp +decide only [E, reduceIte, Nat.reduceAdd, Nat.reduceMul, L, ti31, ti55, ti57, b3, b6]
      refine ⟨_, c_impl_EqualDatabases p0.Base p1.Base x1 h2, ?_⟩
      try simp +decide only [E, reduceIte, Nat.reduceAdd, Nat.reduceMul, L, ti31, ti55, ti57, b3, b6]
      refine ⟨_, c_impl_EqualBytes p0.Log p1.Log x4 h5, ?_⟩
      try simp +decide only [E, reduceIte, Nat.reduceAdd, Nat.reduceMul, L, ti31, ti55, ti57, b3, b6]
      exact Is.mk _
    refine an (rt ?_)
    cases h
    simp [Ret, b3, b6]
  replace h := ite_t b6 h
  apply SW_run
  · simp +decide only [E, reduceIte, Nat.reduceAdd, Nat.reduceMul, L, ti3, ti31, ti55, ti57, b3, b6]
    refine ⟨_, c_impl_EqualDatabases p0.Base p1.Base x1 h2, ?_⟩
    try simp +decide only [E, reduceIte, Nat.reduceAdd, Nat.reduceMul, L, ti3, ti31, ti55, ti57, b3, b6]
    refine ⟨_, c_impl_EqualBytes p0.Log p1.Log x4 h5, ?_⟩
    try simp +decide only [E, reduceIte, Nat.reduceAdd, Nat.reduceMul, L, ti3, ti31, ti55, ti57, b3, b6]
    exact Is.mk _
  refine an (rt ?_)
  cases h
  simp [Ret, b3, b6]

set_option maxHeartbeats 4000000 in
theorem c_slices_Equal_Write (p0 : List M.Write) (p1 : List M.Write) (r : Bool) (h : m_slices_Equal_Write p0 p1 = some r) : SCalls Tryz.prog 289 [(false, [.sl (List.map M.Write.en p0)]), (false, [.sl (List.map M.Write.en p1)])] [(false, [.ro (.bool r)])] := by
  unfold m_slices_Equal_Write at h
  refine scalls_n (N := 26) (vars := [.tmp 4]) Tryz.func289 rfl rfl rfl (by decide +kernel) (Nat.le_of_ble_eq_true rfl) fun base wd => ?_
  refine sq ?_
  apply SW_run
  · simp +decide only [E, reduceIte, Nat.reduceAdd, Nat.reduceMul, L]
    exact Is.mk _
  refine an (sq (sq ?_))
  apply SW_run
  · simp +decide only [E, reduceIte, Nat.reduceAdd, Nat.reduceMul, L, ti61]
    exact Is.mk _
  refine an ?_
  rcases bcase ((List.length p0 : Int) != (List.length p1 : Int)) with b1 | b1
  · replace h := ite_t b1 h
    refine SW_ct (by simp +decide only [F, reduceIte, Nat.reduceAdd, b1]) ?_
    refine sq ?_
    apply SW_run
    · simp +decide only [E, reduceIte, Nat.reduceAdd, Nat.reduceMul, L, b1]
      exact Is.mk _
    refine an (rt ?_)
    cases h
    simp [Ret, b1]
  replace h := ite_f b1 h
  refine SW_cf (by simp +decide only [F, reduceIte, Nat.reduceAdd, b1]) ?_
  refine sk (an (sq (sq ?_)))
  apply SW_run
  · simp +decide only [E, reduceIte, Nat.reduceAdd, Nat.reduceMul, L, ti61, b1]
    exact Is.mk _
  refine an (bk ?_)
  refine SW_loop (fun m s => ∃ v13 : Int, s.t 0 = .v false [.dat (.sl (List.map M.Write.en p0))] ∧ s.t 1 = .v false [.dat (.sl (List.map M.Write.en p1))] ∧ s.t 12 = .v false [.dat (.int .i64 (List.length p0 : Int))] ∧ s.t 13 = .v false [.dat (.int .i64 v13)] ∧ m_slices_Equal_Write_L1 p0 p1 m v13 = some r) fuel ?_ ?_
  · refine ⟨0, ?_, ?_, ?_, ?_, h⟩
    all_goals simp +decide only [F, reduceIte, Nat.reduceAdd, b1]
  rintro mL1 s2 ⟨v13, f3, f4, f5, f6, h⟩
  rcases mL1 with _ | mL1
  · exact absurd h (by simp [m_slices_Equal_Write_L1])
  simp only [m_slices_Equal_Write_L1] at h
  refine sq ?_
  apply SW_run
  · simp +decide only [E, reduceIte, Nat.reduceAdd, Nat.reduceMul, L, b1, f3, f4, f5, f6]
    exact Is.mk _
  refine an (sq ?_)
  rcases bcas (decide (v13 < (List.length p0 : Int))) with b7 | b7
  · replace h := ite_f b7 h
    refine SW_cf (by simp +decide only [F, reduceIte, Nat.reduceAdd, b1, f3, f4, f5, f6, b7]) ?_
    refine xt (aft_cx (aft_ix (aft_x (an (sq ?_)))))
    apply SW_run
    · simp +decide only [E, reduceIte, Nat.reduceAdd, Nat.reduceMul, L, b1, f3, f4, f5, f6, b7]
      exact Is.mk _
    refine an (rt ?_)
    cases h
    simp [Ret, b1, f3, f4, f5, f6, b7]
  replace h := ite_t b7 h
  refine SW_ct (by simp +decide only [F, reduceIte, Nat.reduceAdd, b1, f3, f4, f5, f6, b7]) ?_
  refine sk (an (sq (bk (sq ?_))))
  apply SW_run
  · simp +decide only [E, reduceIte, Nat.reduceAdd, Nat.reduceMul, L, b1, f3, f4, f5, f6, b7]
    exact Is.mk _
  refine an (sq ?_)
  obtain ⟨x8, h9, h⟩ := bind_some h
  obtain ⟨q10, q11, q12⟩ := idx_some h9
  obtain ⟨x13, h14, h⟩ := bind_some h
  obtain ⟨q15, q16, q17⟩ := idx_some h14
  apply SW_runD mixed
  · simp +decide only [E, reduceIte, Nat.reduceAdd, Nat.reduceMul, L, ti61, ti285, M.Write.en, b1, f3, f4, f5, f6, b7, q10, q11, q12, q15, q16, q17]
    exact ⟨.mk (by decide +kernel), Is.mk _⟩
  refine an ?_
  rcases bcase (!((x8.Device == x13.Device) && ((x8.Seq == x13.Seq) && ((x8.Key.Kind == x13.Key.Kind) && ((x8.Key.N == x13.Key.N) && ((x8.Key.Text.toList == x13.Key.Text.toList) && ((x8.Field.toList == x13.Field.toList) && (x8.N == x13.N)))))))) with b18 | b18
  · replace h := ite_t b18 h
    refine SW_ct (by simp +decide only [F, reduceIte, Nat.reduceAdd, b1, f3, f4, f5, f6, b7, q10, q11, q12, q15, q16, q17, b18]) ?_
    refine sq ?_
    apply SW_run
    · simp +decide only [E, reduceIte, Nat.reduceAdd, Nat.reduceMul, L, b1, f3, f4, f5, f6, b7, q10, q11, q12, q15, q16, q17, b18]
      exact Is.mk _
    refine an (rt ?_)
    cases h
    simp [Ret, b1, f3, f4, f5, f6, b7, q10, q11, q12, q15, q16, q17, b18]
  replace h := ite_f b18 h
  refine SW_cf (by simp +decide only [F, reduceIte, Nat.reduceAdd, b1, f3, f4, f5, f6, b7, q10, q11, q12, q15, q16, q17, b18]) ?_
  refine sk (ab (an ?_))
  apply SW_run
  · simp +decide only [E, reduceIte, Nat.reduceAdd, Nat.reduceMul, L, b1, f3, f4, f5, f6, b7, q10, q11, q12, q15, q16, q17, b18]
    exact Is.mk _
  refine aft_i ⟨mL1, by omega, (IntKind.i64.wrap (v13 + 1)), ?_, ?_, ?_, ?_, h⟩
  all_goals simp +decide only [F, reduceIte, Nat.reduceAdd, b1, f3, f4, f5, f6, b7, q10, q11, q12, q15, q16, q17, b18]

set_option maxHeartbeats 4000000 in
theorem c_impl_EqualOutboxes (p0 : M.Outbox) (p1 : M.Outbox) (r : Bool) (h : m_impl_EqualOutboxes p0 p1 = some r) : SCalls Tryz.prog 228 [(true, M.Outbox.en p0), (true, M.Outbox.en p1)] [(false, [.ro (.bool r)])] := by
  unfold m_impl_EqualOutboxes at h
  simp only [M.Outbox.en]
  refine scalls_n (N := 24) (vars := [.tmp 4]) Tryz.func228 rfl rfl rfl (by decide +kernel) (Nat.le_of_ble_eq_true rfl) fun base wd => ?_
  refine sq ?_
  apply SW_run
  · simp +decide only [E, reduceIte, Nat.reduceAdd, Nat.reduceMul, L]
    exact Is.mk _
  refine an (sq ?_)
  rcases bcas (p0.Device == p1.Device) with b1 | b1
  · replace h := ite_f b1 h
    apply SW_run
    · simp +decide only [E, reduceIte, Nat.reduceAdd, Nat.reduceMul, L, ti3, ti63, b1]
      exact Is.mk _
    refine an (rt ?_)
    cases h
    simp [Ret, b1]
  replace h := ite_t b1 h
  rcases bcas (p0.Next == p1.Next) with b2 | b2
  · replace h := ite_f b2 h
    apply SW_run
    · simp +decide only [E, reduceIte, Nat.reduceAdd, Nat.reduceMul, L, ti3, ti63, b1, b2]
      exact Is.mk _
    refine an (rt ?_)
    cases h
    simp [Ret, b1, b2]
  replace h := ite_t b2 h
  obtain ⟨x3, h4, h⟩ := bind_some h
  apply SW_run
  · simp +decide only [E, reduceIte, Nat.reduceAdd, Nat.reduceMul, L, ti3, ti61, ti63, b1, b2]
    refine ⟨_, c_slices_Equal_Write p0.Writes p1.Writes x3 h4, ?_⟩
    try simp +decide only [E, reduceIte, Nat.reduceAdd, Nat.reduceMul, L, ti3, ti61, ti63, b1, b2]
    exact Is.mk _
  refine an (rt ?_)
  cases h
  simp [Ret, b1, b2]

set_option maxHeartbeats 4000000 in
theorem c_impl_EqualSyncs (p0 : M.Sync) (p1 : M.Sync) (r : Bool) (h : m_impl_EqualSyncs p0 p1 = some r) : SCalls Tryz.prog 149 [(true, M.Sync.en p0), (true, M.Sync.en p1)] [(false, [.ro (.bool r)])] := by
  unfold m_impl_EqualSyncs at h
  simp only [M.Sync.en]
  refine scalls_n (N := 24) (vars := [.tmp 4]) Tryz.func149 rfl rfl rfl (by decide +kernel) (Nat.le_of_ble_eq_true rfl) fun base wd => ?_
  refine sq ?_
  apply SW_run
  · simp +decide only [E, reduceIte, Nat.reduceAdd, Nat.reduceMul, L]
    exact Is.mk _
  refine an (sq ?_)
  obtain ⟨x1, h2, h⟩ := bind_some h
  rcases bcas x1 with b3 | b3
  · replace h := ite_f b3 h
    apply SW_run
    · simp +decide only [E, reduceIte, Nat.reduceAdd, Nat.reduceMul, L, ti63, ti65, b3]
      refine ⟨_, c_impl_EqualOutboxes p0.Outbox p1.Outbox x1 h2, ?_⟩
      try simp +decide only [E, reduceIte, Nat.reduceAdd, Nat.reduceMul, L, ti63, ti65, b3]
      exact Is.mk _
    refine an (rt ?_)
    cases h
    simp [Ret, b3]
  replace h := ite_t b3 h
  rcases bcase (p0.Tries == p1.Tries) with b4 | b4
  · replace h := ite_t b4 h
    apply SW_run
    · simp +decide only [E, reduceIte, Nat.reduceAdd, Nat.reduceMul, L, ti3, ti63, ti65, b3, b4]
      refine ⟨_, c_impl_EqualOutboxes p0.Outbox p1.Outbox x1 h2, ?_⟩
      try simp +decide only [E, reduceIte, Nat.reduceAdd, Nat.reduceMul, L, ti3, ti63, ti65, b3, b4]
      exact Is.mk _
    refine an (rt ?_)
    cases h
    simp [Ret, b3, b4]
  replace h := ite_f b4 h
  apply SW_run
  · simp +decide only [E, reduceIte, Nat.reduceAdd, Nat.reduceMul, L, ti3, ti63, ti65, b3, b4]
    refine ⟨_, c_impl_EqualOutboxes p0.Outbox p1.Outbox x1 h2, ?_⟩
    try simp +decide only [E, reduceIte, Nat.reduceAdd, Nat.reduceMul, L, ti3, ti63, ti65, b3, b4]
    exact Is.mk _
  refine an (rt ?_)
  cases h
  simp [Ret, b3, b4]

set_option maxHeartbeats 4000000 in
theorem c_impl_EqualReplicas (p0 : M.Replica) (p1 : M.Replica) (r : Bool) (h : m_impl_EqualReplicas p0 p1 = some r) : SCalls Tryz.prog 68 [(true, M.Replica.en p0), (true, M.Replica.en p1)] [(false, [.ro (.bool r)])] := by
  unfold m_impl_EqualReplicas at h
  simp only [M.Replica.en]
  refine scalls_n (N := 24) (vars := [.tmp 4]) Tryz.func68 rfl rfl rfl (by decide +kernel) (Nat.le_of_ble_eq_true rfl) fun base wd => ?_
  refine sq ?_
  apply SW_run
  · simp +decide only [E, reduceIte, Nat.reduceAdd, Nat.reduceMul, L]
    exact Is.mk _
  refine an (sq ?_)
  obtain ⟨x1, h2, h⟩ := bind_some h
  rcases bcas x1 with b3 | b3
  · replace h := ite_f b3 h
    apply SW_run
    · simp +decide only [E, reduceIte, Nat.reduceAdd, Nat.reduceMul, L, ti60, ti67, b3]
      refine ⟨_, c_impl_EqualStores p0.Base p1.Base x1 h2, ?_⟩
      try simp +decide only [E, reduceIte, Nat.reduceAdd, Nat.reduceMul, L, ti60, ti67, b3]
      exact Is.mk _
    refine an (rt ?_)
    cases h
    simp [Ret, b3]
  replace h := ite_t b3 h
  rcases bcas (p0.Seen == p1.Seen) with b4 | b4
  · replace h := ite_f b4 h
    apply SW_run
    · simp +decide only [E, reduceIte, Nat.reduceAdd, Nat.reduceMul, L, ti3, ti60, ti67, b3, b4]
      refine ⟨_, c_impl_EqualStores p0.Base p1.Base x1 h2, ?_⟩
      try simp +decide only [E, reduceIte, Nat.reduceAdd, Nat.reduceMul, L, ti3, ti60, ti67, b3, b4]
      exact Is.mk _
    refine an (rt ?_)
    cases h
    simp [Ret, b3, b4]
  replace h := ite_t b4 h
  obtain ⟨x5, h6, h⟩ := bind_some h
  apply SW_run
  · simp +decide only [E, reduceIte, Nat.reduceAdd, Nat.reduceMul, L, ti3, ti60, ti65, ti67, b3, b4]
    refine ⟨_, c_impl_EqualStores p0.Base p1.Base x1 h2, ?_⟩
    try simp +decide only [E, reduceIte, Nat.reduceAdd, Nat.reduceMul, L, ti3, ti60, ti65, ti67, b3, b4]
    refine ⟨_, c_impl_EqualSyncs p0.Sync p1.Sync x5 h6, ?_⟩
    try simp +decide only [E, reduceIte, Nat.reduceAdd, Nat.reduceMul, L, ti3, ti60, ti65, ti67, b3, b4]
    exact Is.mk _
  refine an (rt ?_)
  cases h
  simp [Ret, b3, b4]

set_option maxHeartbeats 4000000 in
theorem c_impl_EqualBuckets (p0 : M.Bucket) (p1 : M.Bucket) (r : Bool) (h : m_impl_EqualBuckets p0 p1 = some r) : SCalls Tryz.prog 17 [(true, M.Bucket.en p0), (true, M.Bucket.en p1)] [(false, [.ro (.bool r)])] := by
  unfold m_impl_EqualBuckets at h
  simp only [M.Bucket.en]
  refine scalls_n (N := 59) (vars := [.tmp 4]) Tryz.func17 rfl rfl rfl (by decide +kernel) (Nat.le_of_ble_eq_true rfl) fun base wd => ?_
  refine sq ?_
  apply SW_run
  · simp +decide only [E, reduceIte, Nat.reduceAdd, Nat.reduceMul, L]
    exact Is.mk _
  refine an (sq ?_)
  rcases bcas (p0.Site.toList == p1.Site.toList) with b1 | b1
  · replace h := ite_f b1 h
    apply SW_run
    · simp +decide only [E, reduceIte, Nat.reduceAdd, Nat.reduceMul, L, ti9, ti69, b1]
      exact Is.mk _
    refine an (rt ?_)
    cases h
    simp [Ret, b1]
  replace h := ite_t b1 h
  rcases bcas (p0.Top.toList == p1.Top.toList) with b2 | b2
  · replace h := ite_f b2 h
    apply SW_run
    · simp +decide only [E, reduceIte, Nat.reduceAdd, Nat.reduceMul, L, ti9, ti69, b1, b2]
      exact Is.mk _
    refine an (rt ?_)
    cases h
    simp [Ret, b1, b2]
  replace h := ite_t b2 h
  rcases bcas ((p0.Registration.Site.toList == p1.Registration.Site.toList) && ((p0.Registration.Installing == p1.Registration.Installing) && ((p0.Registration.Waiting == p1.Registration.Waiting) && (p0.Registration.Active == p1.Registration.Active)))) with b3 | b3
  · replace h := ite_f b3 h
    apply SW_run
    · simp +decide only [E, reduceIte, Nat.reduceAdd, Nat.reduceMul, L, ti9, ti48, ti69, b1, b2, b3]
      exact Is.mk _
    refine an (rt ?_)
    cases h
    simp [Ret, b1, b2, b3]
  replace h := ite_t b3 h
  obtain ⟨x4, h5, h⟩ := bind_some h
  rcases bcas x4 with b6 | b6
  · replace h := ite_f b6 h
    apply SW_run
    · simp +decide only [E, reduceIte, Nat.reduceAdd, Nat.reduceMul, L, ti9, ti48, ti51, ti69, b1, b2, b3, b6]
      refine ⟨_, c_impl_EqualCacheSets p0.Caches p1.Caches x4 h5, ?_⟩
      try simp +decide only [E, reduceIte, Nat.reduceAdd, Nat.reduceMul, L, ti9, ti48, ti51, ti69, b1, b2, b3, b6]
      exact Is.mk _
    refine an (rt ?_)
    cases h
    simp [Ret, b1, b2, b3, b6]
  replace h := ite_t b6 h
  obtain ⟨x7, h8, h⟩ := bind_some h
  rcases bcas x7 with b9 | b9
  · replace h := ite_f b9 h
    apply SW_run
    · simp +decide only [E, reduceIte, Nat.reduceAdd, Nat.reduceMul, L, ti9, ti48, ti51, ti57, ti69, b1, b2, b3, b6, b9]
      refine ⟨_, c_impl_EqualCacheSets p0.Caches p1.Caches x4 h5, ?_⟩
      try simp +decide only [E, reduceIte, Nat.reduceAdd, Nat.reduceMul, L, ti9, ti48, ti51, ti57, ti69, b1, b2, b3, b6, b9]
      refine ⟨_, c_impl_EqualDisks p0.Disk p1.Disk x7 h8, ?_⟩
      try simp +decide only [E, reduceIte, Nat.reduceAdd, Nat.reduceMul, L, ti9, ti48, ti51, ti57, ti69, b1, b2, b3, b6, b9]
      exact Is.mk _
    refine an (rt ?_)
    cases h
    simp [Ret, b1, b2, b3, b6, b9]
  replace h := ite_t b9 h
  obtain ⟨x10, h11, h⟩ := bind_some h
  rcases bcas x10 with b12 | b12
  · replace h := ite_f b12 h
    apply SW_run
    · simp +decide only [E, reduceIte, Nat.reduceAdd, Nat.reduceMul, L, ti9, ti48, ti51, ti57, ti67, ti69, b1, b2, b3, b6, b9, b12]
      refine ⟨_, c_impl_EqualCacheSets p0.Caches p1.Caches x4 h5, ?_⟩
      try simp +decide only [E, reduceIte, Nat.reduceAdd, Nat.reduceMul, L, ti9, ti48, ti51, ti57, ti67, ti69, b1, b2, b3, b6, b9, b12]
      refine ⟨_, c_impl_EqualDisks p0.Disk p1.Disk x7 h8, ?_⟩
      try simp +decide only [E, reduceIte, Nat.reduceAdd, Nat.reduceMul, L, ti9, ti48, ti51, ti57, ti67, ti69, b1, b2, b3, b6, b9, b12]
      refine ⟨_, c_impl_EqualReplicas p0.Replica p1.Replica x10 h11, ?_⟩
      try simp +decide only [E, reduceIte, Nat.reduceAdd, Nat.reduceMul, L, ti9, ti48, ti51, ti57, ti67, ti69, b1, b2, b3, b6, b9, b12]
      exact Is.mk _
    refine an (rt ?_)
    cases h
    simp [Ret, b1, b2, b3, b6, b9, b12]
  replace h := ite_t b12 h
  rcases bcas (p0.LastUsed == p1.LastUsed) with b13 | b13
  · replace h := ite_f b13 h
    apply SW_run
    · simp +decide only [E, reduceIte, Nat.reduceAdd, Nat.reduceMul, L, ti3, ti9, ti48, ti51, ti57, ti67, ti69, b1, b2, b3, b6, b9, b12, b13]
      refine ⟨_, c_impl_EqualCacheSets p0.Caches p1.Caches x4 h5, ?_⟩
      try simp +decide only [E, reduceIte, Nat.reduceAdd, Nat.reduceMul, L, ti3, ti9, ti48, ti51, ti57, ti67, ti69, b1, b2, b3, b6, b9, b12, b13]
      refine ⟨_, c_impl_EqualDisks p0.Disk p1.Disk x7 h8, ?_⟩
      try simp +decide only [E, reduceIte, Nat.reduceAdd, Nat.reduceMul, L, ti3, ti9, ti48, ti51, ti57, ti67, ti69, b1, b2, b3, b6, b9, b12, b13]
      refine ⟨_, c_impl_EqualReplicas p0.Replica p1.Replica x10 h11, ?_⟩
      try simp +decide only [E, reduceIte, Nat.reduceAdd, Nat.reduceMul, L, ti3, ti9, ti48, ti51, ti57, ti67, ti69, b1, b2, b3, b6, b9, b12, b13]
      exact Is.mk _
    refine an (rt ?_)
    cases h
    simp [Ret, b1, b2, b3, b6, b9, b12, b13]
  replace h := ite_t b13 h
  apply SW_run
  · simp +decide only [E, reduceIte, Nat.reduceAdd, Nat.reduceMul, L, ti3, ti4, ti9, ti48, ti51, ti57, ti67, ti69, b1, b2, b3, b6, b9, b12, b13]
    refine ⟨_, c_impl_EqualCacheSets p0.Caches p1.Caches x4 h5, ?_⟩
    try simp +decide only [E, reduceIte, Nat.reduceAdd, Nat.reduceMul, L, ti3, ti4, ti9, ti48, ti51, ti57, ti67, ti69, b1, b2, b3, b6, b9, b12, b13]
    refine ⟨_, c_impl_EqualDisks p0.Disk p1.Disk x7 h8, ?_⟩
    try simp +decide only [E, reduceIte, Nat.reduceAdd, Nat.reduceMul, L, ti3, ti4, ti9, ti48, ti51, ti57, ti67, ti69, b1, b2, b3, b6, b9, b12, b13]
    refine ⟨_, c_impl_EqualReplicas p0.Replica p1.Replica x10 h11, ?_⟩
    try simp +decide only [E, reduceIte, Nat.reduceAdd, Nat.reduceMul, L, ti3, ti4, ti9, ti48, ti51, ti57, ti67, ti69, b1, b2, b3, b6, b9, b12, b13]
    exact Is.mk _
  refine an (rt ?_)
  cases h
  simp [Ret, b1, b2, b3, b6, b9, b12, b13]

end Go.Proofs.YtgpiencmneiblaaGreat.gen
