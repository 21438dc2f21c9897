/-
  Helper text: walks: each function's contract out of its model. No conditions beyond those of each contract.
-/
import Derived.Test.YtgpiencmneiblaaGreatUsageOfTi
namespace Go.Proofs.YtgpiencmneiblaaGreat.gen
open Go Go.Sh
set_option linter.unusedVariables false
set_option linter.unusedSimpArgs false
set_option maxHeartbeats 4000000 in
theorem c_laws_eqRegistration (p0 : M.Registration) (p1 : M.Registration) (r : Bool) (h : m_laws_eqRegistration p0 p1 = some r) : SCalls Tryz.prog 69 [(true, M.Registration.en p0), (true, M.Registration.en p1)] [(false, [.ro (.bool r)])] := by
  unfold m_laws_eqRegistration at h
  simp only [M.Registration.en]
  refine scalls_n (N := 25) (vars := [.tmp 4]) Tryz.func69 rfl rfl rfl (by decide +kernel) (Nat.le_of_ble_eq_true rfl) fun base wd => ?_
  refine sq ?_
  apply SW_run
  · simp +decide only [E, reduceIte, Nat.reduceAdd, Nat.reduceMul, L]
    exact Is.mk _
  refine an (sq (sq ?_))
  apply SW_run
  · simp +decide only [E, reduceIte, Nat.reduceAdd, Nat.reduceMul, L, ti9, ti48]
    exact Is.mk _
  refine an ?_
  rcases bcase (!(p0.Site.toList == p1.Site.toList)) with b1 | b1
  · replace h := ite_t b1 h
    refine SW_ct (by simp +decide only [F, reduceIte, Nat.reduceAdd, b1]) ?_
    refine sq ?_
    apply SW_run
    · simp +decide only [E, reduceIte, Nat.reduceAdd, Nat.reduceMul, L, b1]
      exact Is.mk _
    refine an (rt ?_)
    cases h
    simp [Ret, b1]
  replace h := ite_f b1 h
  refine SW_cf (by simp +decide only [F, reduceIte, Nat.reduceAdd, b1]) ?_
  refine sk (an (sq (sq ?_)))
  apply SW_run
  · simp +decide only [E, reduceIte, Nat.reduceAdd, Nat.reduceMul, L, ti3, ti48, b1]
    exact Is.mk _
  refine an ?_
  rcases bcase (p0.Installing != p1.Installing) with b2 | b2
  · replace h := ite_t b2 h
    refine SW_ct (by simp +decide only [F, reduceIte, Nat.reduceAdd, b1, b2]) ?_
    refine sq ?_
    apply SW_run
    · simp +decide only [E, reduceIte, Nat.reduceAdd, Nat.reduceMul, L, b1, b2]
      exact Is.mk _
    refine an (rt ?_)
    cases h
    simp [Ret, b1, b2]
  replace h := ite_f b2 h
  refine SW_cf (by simp +decide only [F, reduceIte, Nat.reduceAdd, b1, b2]) ?_
  refine sk (an (sq (sq ?_)))
  apply SW_run
  · simp +decide only [E, reduceIte, Nat.reduceAdd, Nat.reduceMul, L, ti3, ti48, b1, b2]
    exact Is.mk _
  refine an ?_
  rcases bcase (p0.Waiting != p1.Waiting) with b3 | b3
  · replace h := ite_t b3 h
    refine SW_ct (by simp +decide only [F, reduceIte, Nat.reduceAdd, b1, b2, b3]) ?_
    refine sq ?_
    apply SW_run
    · simp +decide only [E, reduceIte, Nat.reduceAdd, Nat.reduceMul, L, b1, b2, b3]
      exact Is.mk _
    refine an (rt ?_)
    cases h
    simp [Ret, b1, b2, b3]
  replace h := ite_f b3 h
  refine SW_cf (by simp +decide only [F, reduceIte, Nat.reduceAdd, b1, b2, b3]) ?_
  refine sk (an (sq (sq ?_)))
  apply SW_run
  · simp +decide only [E, reduceIte, Nat.reduceAdd, Nat.reduceMul, L, ti3, ti48, b1, b2, b3]
    exact Is.mk _
  refine an ?_
  rcases bcase (p0.Active != p1.Active) with b4 | b4
  · replace h := ite_t b4 h
    refine SW_ct (by simp +decide only [F, reduceIte, Nat.reduceAdd, b1, b2, b3, b4]) ?_
    refine sq ?_
    apply SW_run
    · simp +decide only [E, reduceIte, Nat.reduceAdd, Nat.reduceMul, L, b1, b2, b3, b4]
      exact Is.mk _
    refine an (rt ?_)
    cases h
    simp [Ret, b1, b2, b3, b4]
  replace h := ite_f b4 h
  refine SW_cf (by simp +decide only [F, reduceIte, Nat.reduceAdd, b1, b2, b3, b4]) ?_
  refine sk (an (sq ?_))
  apply SW_run
  · simp +decide only [E, reduceIte, Nat.reduceAdd, Nat.reduceMul, L, b1, b2, b3, b4]
    exact Is.mk _
  refine an (rt ?_)
  cases h
  simp [Ret, b1, b2, b3, b4]

set_option maxHeartbeats 4000000 in
theorem c_laws_eqByteS (p0 : List Int) (p1 : List Int) (r : Bool) (h : m_laws_eqByteS p0 p1 = some r) : SCalls Tryz.prog 125 [(false, [.sl (List.map enB p0)]), (false, [.sl (List.map enB p1)])] [(false, [.ro (.bool r)])] := by
  unfold m_laws_eqByteS at h
  refine scalls_n (N := 26) (vars := [.tmp 4]) Tryz.func125 rfl rfl rfl (by decide +kernel) (Nat.le_of_ble_eq_true rfl) fun base wd => ?_
  refine sq ?_
  apply SW_run
  · simp +decide only [E, reduceIte, Nat.reduceAdd, Nat.reduceMul, L]
    exact Is.mk _
  refine an (sq (sq ?_))
  apply SW_run
  · simp +decide only [E, reduceIte, Nat.reduceAdd, Nat.reduceMul, L, ti31]
    exact Is.mk _
  refine an ?_
  rcases bcase ((List.length p0 : Int) != (List.length p1 : Int)) with b1 | b1
  · replace h := ite_t b1 h
    refine SW_ct (by simp +decide only [F, reduceIte, Nat.reduceAdd, b1]) ?_
    refine sq ?_
    apply SW_run
    · simp +decide only [E, reduceIte, Nat.reduceAdd, Nat.reduceMul, L, b1]
      exact Is.mk _
    refine an (rt ?_)
    cases h
    simp [Ret, b1]
  replace h := ite_f b1 h
  refine SW_cf (by simp +decide only [F, reduceIte, Nat.reduceAdd, b1]) ?_
  refine sk (an (sq (sq ?_)))
  apply SW_run
  · simp +decide only [E, reduceIte, Nat.reduceAdd, Nat.reduceMul, L, b1]
    exact Is.mk _
  refine an (bk ?_)
  refine SW_loop (fun m s => ∃ v5 : Int, s.t 0 = .v false [.dat (.sl (List.map enB p0))] ∧ s.t 1 = .v false [.dat (.sl (List.map enB p1))] ∧ s.t 5 = .v false [.dat (.int .i64 v5)] ∧ m_laws_eqByteS_L1 p0 p1 m v5 = some r) fuel ?_ ?_
  · refine ⟨0, ?_, ?_, ?_, h⟩
    all_goals simp +decide only [F, reduceIte, Nat.reduceAdd, b1]
  rintro mL1 s2 ⟨v5, f3, f4, f5, h⟩
  rcases mL1 with _ | mL1
  · exact absurd h (by simp [m_laws_eqByteS_L1])
  simp only [m_laws_eqByteS_L1] at h
  refine sq (sq ?_)
  apply SW_run
  · simp +decide only [E, reduceIte, Nat.reduceAdd, Nat.reduceMul, L, ti31, b1, f3, f4, f5]
    exact Is.mk _
  refine an ?_
  rcases bcas (decide (v5 < (List.length p0 : Int))) with b6 | b6
  · replace h := ite_f b6 h
    refine SW_cf (by simp +decide only [F, reduceIte, Nat.reduceAdd, b1, f3, f4, f5, b6]) ?_
    refine xt (aft_cx (aft_ix (aft_x (an (sq ?_)))))
    apply SW_run
    · simp +decide only [E, reduceIte, Nat.reduceAdd, Nat.reduceMul, L, b1, f3, f4, f5, b6]
      exact Is.mk _
    refine an (rt ?_)
    cases h
    simp [Ret, b1, f3, f4, f5, b6]
  replace h := ite_t b6 h
  refine SW_ct (by simp +decide only [F, reduceIte, Nat.reduceAdd, b1, f3, f4, f5, b6]) ?_
  refine sk (an (sq (bk (sq ?_))))
  obtain ⟨x7, h8, h⟩ := bind_some h
  obtain ⟨q9, q10, q11⟩ := idx_some h8
  obtain ⟨x12, h13, h⟩ := bind_some h
  obtain ⟨q14, q15, q16⟩ := idx_some h13
  apply SW_runD mixed
  · simp +decide only [E, reduceIte, Nat.reduceAdd, Nat.reduceMul, L, ti5, ti31, enB, b1, f3, f4, f5, b6, q9, q10, q11, q14, q15, q16]
    exact ⟨.mk (by decide +kernel), Is.mk _⟩
  refine an ?_
  rcases bcase (x7 != x12) with b17 | b17
  · replace h := ite_t b17 h
    refine SW_ct (by simp +decide only [F, reduceIte, Nat.reduceAdd, b1, f3, f4, f5, b6, q9, q10, q11, q14, q15, q16, b17]) ?_
    refine sq ?_
    apply SW_run
    · simp +decide only [E, reduceIte, Nat.reduceAdd, Nat.reduceMul, L, b1, f3, f4, f5, b6, q9, q10, q11, q14, q15, q16, b17]
      exact Is.mk _
    refine an (rt ?_)
    cases h
    simp [Ret, b1, f3, f4, f5, b6, q9, q10, q11, q14, q15, q16, b17]
  replace h := ite_f b17 h
  refine SW_cf (by simp +decide only [F, reduceIte, Nat.reduceAdd, b1, f3, f4, f5, b6, q9, q10, q11, q14, q15, q16, b17]) ?_
  refine sk (ab (an ?_))
  apply SW_run
  · simp +decide only [E, reduceIte, Nat.reduceAdd, Nat.reduceMul, L, b1, f3, f4, f5, b6, q9, q10, q11, q14, q15, q16, b17]
    exact Is.mk _
  refine aft_i ⟨mL1, by omega, (IntKind.i64.wrap (v5 + 1)), ?_, ?_, ?_, h⟩
  all_goals simp +decide only [F, reduceIte, Nat.reduceAdd, b1, f3, f4, f5, b6, q9, q10, q11, q14, q15, q16, b17]

set_option maxHeartbeats 4000000 in
theorem c_laws_eqResponse (p0 : M.Response) (p1 : M.Response) (r : Bool) (h : m_laws_eqResponse p0 p1 = some r) : SCalls Tryz.prog 335 [(true, M.Response.en p0), (true, M.Response.en p1)] [(false, [.ro (.bool r)])] := by
  unfold m_laws_eqResponse at h
  simp only [M.Response.en]
  refine scalls_n (N := 31) (vars := [.tmp 4]) Tryz.func335 rfl rfl rfl (by decide +kernel) (Nat.le_of_ble_eq_true rfl) fun base wd => ?_
  refine sq ?_
  apply SW_run
  · simp +decide only [E, reduceIte, Nat.reduceAdd, Nat.reduceMul, L]
    exact Is.mk _
  refine an (sq (sq ?_))
  apply SW_run
  · simp +decide only [E, reduceIte, Nat.reduceAdd, Nat.reduceMul, L, ti3, ti187]
    exact Is.mk _
  refine an ?_
  rcases bcase (p0.Type_ != p1.Type_) with b1 | b1
  · replace h := ite_t b1 h
    refine SW_ct (by simp +decide only [F, reduceIte, Nat.reduceAdd, b1]) ?_
    refine sq ?_
    apply SW_run
    · simp +decide only [E, reduceIte, Nat.reduceAdd, Nat.reduceMul, L, b1]
      exact Is.mk _
    refine an (rt ?_)
    cases h
    simp [Ret, b1]
  replace h := ite_f b1 h
  refine SW_cf (by simp +decide only [F, reduceIte, Nat.reduceAdd, b1]) ?_
  refine sk (an (sq (sq ?_)))
  apply SW_run
  · simp +decide only [E, reduceIte, Nat.reduceAdd, Nat.reduceMul, L, ti3, ti187, b1]
    exact Is.mk _
  refine an ?_
  rcases bcase (p0.Status != p1.Status) with b2 | b2
  · replace h := ite_t b2 h
    refine SW_ct (by simp +decide only [F, reduceIte, Nat.reduceAdd, b1, b2]) ?_
    refine sq ?_
    apply SW_run
    · simp +decide only [E, reduceIte, Nat.reduceAdd, Nat.reduceMul, L, b1, b2]
      exact Is.mk _
    refine an (rt ?_)
    cases h
    simp [Ret, b1, b2]
  replace h := ite_f b2 h
  refine SW_cf (by simp +decide only [F, reduceIte, Nat.reduceAdd, b1, b2]) ?_
  refine sk (an (sq (sq ?_)))
  apply SW_run
  · simp +decide only [E, reduceIte, Nat.reduceAdd, Nat.reduceMul, L, ti3, ti187, b1, b2]
    exact Is.mk _
  refine an ?_
  rcases bcase (p0.Version != p1.Version) with b3 | b3
  · replace h := ite_t b3 h
    refine SW_ct (by simp +decide only [F, reduceIte, Nat.reduceAdd, b1, b2, b3]) ?_
    refine sq ?_
    apply SW_run
    · simp +decide only [E, reduceIte, Nat.reduceAdd, Nat.reduceMul, L, b1, b2, b3]
      exact Is.mk _
    refine an (rt ?_)
    cases h
    simp [Ret, b1, b2, b3]
  replace h := ite_f b3 h
  refine SW_cf (by simp +decide only [F, reduceIte, Nat.reduceAdd, b1, b2, b3]) ?_
  refine sk (an (sq (sq ?_)))
  obtain ⟨x4, h5, h⟩ := bind_some h
  apply SW_run
  · simp +decide only [E, reduceIte, Nat.reduceAdd, Nat.reduceMul, L, ti31, ti187, b1, b2, b3]
    refine ⟨_, c_laws_eqByteS p0.Body p1.Body x4 h5, ?_⟩
    try simp +decide only [E, reduceIte, Nat.reduceAdd, Nat.reduceMul, L, ti31, ti187, b1, b2, b3]
    exact Is.mk _
  refine an ?_
  rcases bcase (!x4) with b6 | b6
  · replace h := ite_t b6 h
    refine SW_ct (by simp +decide only [F, reduceIte, Nat.reduceAdd, b1, b2, b3, b6]) ?_
    refine sq ?_
    apply SW_run
    · simp +decide only [E, reduceIte, Nat.reduceAdd, Nat.reduceMul, L, b1, b2, b3, b6]
      exact Is.mk _
    refine an (rt ?_)
    cases h
    simp [Ret, b1, b2, b3, b6]
  replace h := ite_f b6 h
  refine SW_cf (by simp +decide only [F, reduceIte, Nat.reduceAdd, b1, b2, b3, b6]) ?_
  refine sk (an (sq (sq ?_)))
  apply SW_run
  · simp +decide only [E, reduceIte, Nat.reduceAdd, Nat.reduceMul, L, ti4, ti187, b1, b2, b3, b6]
    exact Is.mk _
  refine an ?_
  rcases bcase (!(p0.Shares == p1.Shares)) with b7 | b7
  · replace h := ite_t b7 h
    refine SW_ct (by simp +decide only [F, reduceIte, Nat.reduceAdd, b1, b2, b3, b6, b7]) ?_
    refine sq ?_
    apply SW_run
    · simp +decide only [E, reduceIte, Nat.reduceAdd, Nat.reduceMul, L, b1, b2, b3, b6, b7]
      exact Is.mk _
    refine an (rt ?_)
    cases h
    simp [Ret, b1, b2, b3, b6, b7]
  replace h := ite_f b7 h
  refine SW_cf (by simp +decide only [F, reduceIte, Nat.reduceAdd, b1, b2, b3, b6, b7]) ?_
  refine sk (an (sq ?_))
  apply SW_run
  · simp +decide only [E, reduceIte, Nat.reduceAdd, Nat.reduceMul, L, b1, b2, b3, b6, b7]
    exact Is.mk _
  refine an (rt ?_)
  cases h
  simp [Ret, b1, b2, b3, b6, b7]

set_option maxHeartbeats 4000000 in
theorem c_laws_eqCached (p0 : M.Cached) (p1 : M.Cached) (r : Bool) (h : m_laws_eqCached p0 p1 = some r) : SCalls Tryz.prog 320 [(true, M.Cached.en p0), (true, M.Cached.en p1)] [(false, [.ro (.bool r)])] := by
  unfold m_laws_eqCached at h
  simp only [M.Cached.en]
  refine scalls_n (N := 21) (vars := [.tmp 4]) Tryz.func320 rfl rfl rfl (by decide +kernel) (Nat.le_of_ble_eq_true rfl) fun base wd => ?_
  refine sq ?_
  apply SW_run
  · simp +decide only [E, reduceIte, Nat.reduceAdd, Nat.reduceMul, L]
    exact Is.mk _
  refine an (sq (sq ?_))
  apply SW_run
  · simp +decide only [E, reduceIte, Nat.reduceAdd, Nat.reduceMul, L, ti9, ti189]
    exact Is.mk _
  refine an ?_
  rcases bcase (!(p0.Site.toList == p1.Site.toList)) with b1 | b1
  · replace h := ite_t b1 h
    refine SW_ct (by simp +decide only [F, reduceIte, Nat.reduceAdd, b1]) ?_
    refine sq ?_
    apply SW_run
    · simp +decide only [E, reduceIte, Nat.reduceAdd, Nat.reduceMul, L, b1]
      exact Is.mk _
    refine an (rt ?_)
    cases h
    simp [Ret, b1]
  replace h := ite_f b1 h
  refine SW_cf (by simp +decide only [F, reduceIte, Nat.reduceAdd, b1]) ?_
  refine sk (an (sq (sq ?_)))
  apply SW_run
  · simp +decide only [E, reduceIte, Nat.reduceAdd, Nat.reduceMul, L, ti9, ti189, b1]
    exact Is.mk _
  refine an ?_
  rcases bcase (!(p0.Path.toList == p1.Path.toList)) with b2 | b2
  · replace h := ite_t b2 h
    refine SW_ct (by simp +decide only [F, reduceIte, Nat.reduceAdd, b1, b2]) ?_
    refine sq ?_
    apply SW_run
    · simp +decide only [E, reduceIte, Nat.reduceAdd, Nat.reduceMul, L, b1, b2]
      exact Is.mk _
    refine an (rt ?_)
    cases h
    simp [Ret, b1, b2]
  replace h := ite_f b2 h
  refine SW_cf (by simp +decide only [F, reduceIte, Nat.reduceAdd, b1, b2]) ?_
  refine sk (an (sq (sq ?_)))
  obtain ⟨x3, h4, h⟩ := bind_some h
  apply SW_run
  · simp +decide only [E, reduceIte, Nat.reduceAdd, Nat.reduceMul, L, ti187, ti189, b1, b2]
    refine ⟨_, c_laws_eqResponse p0.Response p1.Response x3 h4, ?_⟩
    try simp +decide only [E, reduceIte, Nat.reduceAdd, Nat.reduceMul, L, ti187, ti189, b1, b2]
    exact Is.mk _
  refine an ?_
  rcases bcase (!x3) with b5 | b5
  · replace h := ite_t b5 h
    refine SW_ct (by simp +decide only [F, reduceIte, Nat.reduceAdd, b1, b2, b5]) ?_
    refine sq ?_
    apply SW_run
    · simp +decide only [E, reduceIte, Nat.reduceAdd, Nat.reduceMul, L, b1, b2, b5]
      exact Is.mk _
    refine an (rt ?_)
    cases h
    simp [Ret, b1, b2, b5]
  replace h := ite_f b5 h
  refine SW_cf (by simp +decide only [F, reduceIte, Nat.reduceAdd, b1, b2, b5]) ?_
  refine sk (an (sq ?_))
  apply SW_run
  · simp +decide only [E, reduceIte, Nat.reduceAdd, Nat.reduceMul, L, b1, b2, b5]
    exact Is.mk _
  refine an (rt ?_)
  cases h
  simp [Ret, b1, b2, b5]

set_option maxHeartbeats 4000000 in
theorem c_laws_eqCachedS (p0 : List M.Cached) (p1 : List M.Cached) (r : Bool) (h : m_laws_eqCachedS p0 p1 = some r) : SCalls Tryz.prog 290 [(false, [.sl (List.map M.Cached.en p0)]), (false, [.sl (List.map M.Cached.en p1)])] [(false, [.ro (.bool r)])] := by
  unfold m_laws_eqCachedS at h
  refine scalls_n (N := 27) (vars := [.tmp 4]) Tryz.func290 rfl rfl rfl (by decide +kernel) (Nat.le_of_ble_eq_true rfl) fun base wd => ?_
  refine sq ?_
  apply SW_run
  · simp +decide only [E, reduceIte, Nat.reduceAdd, Nat.reduceMul, L]
    exact Is.mk _
  refine an (sq (sq ?_))
  apply SW_run
  · simp +decide only [E, reduceIte, Nat.reduceAdd, Nat.reduceMul, L, ti183]
    exact Is.mk _
  refine an ?_
  rcases bcase ((List.length p0 : Int) != (List.length p1 : Int)) with b1 | b1
  · replace h := ite_t b1 h
    refine SW_ct (by simp +decide only [F, reduceIte, Nat.reduceAdd, b1]) ?_
    refine sq ?_
    apply SW_run
    · simp +decide only [E, reduceIte, Nat.reduceAdd, Nat.reduceMul, L, b1]
      exact Is.mk _
    refine an (rt ?_)
    cases h
    simp [Ret, b1]
  replace h := ite_f b1 h
  refine SW_cf (by simp +decide only [F, reduceIte, Nat.reduceAdd, b1]) ?_
  refine sk (an (sq (sq ?_)))
  apply SW_run
  · simp +decide only [E, reduceIte, Nat.reduceAdd, Nat.reduceMul, L, b1]
    exact Is.mk _
  refine an (bk ?_)
  refine SW_loop (fun m s => ∃ v5 : Int, s.t 0 = .v false [.dat (.sl (List.map M.Cached.en p0))] ∧ s.t 1 = .v false [.dat (.sl (List.map M.Cached.en p1))] ∧ s.t 5 = .v false [.dat (.int .i64 v5)] ∧ m_laws_eqCachedS_L1 p0 p1 m v5 = some r) fuel ?_ ?_
  · refine ⟨0, ?_, ?_, ?_, h⟩
    all_goals simp +decide only [F, reduceIte, Nat.reduceAdd, b1]
  rintro mL1 s2 ⟨v5, f3, f4, f5, h⟩
  rcases mL1 with _ | mL1
  · exact absurd h (by simp [m_laws_eqCachedS_L1])
  simp only [m_laws_eqCachedS_L1] at h
  refine sq (sq ?_)
  apply SW_run
  · simp +decide only [E, reduceIte, Nat.reduceAdd, Nat.reduceMul, L, ti183, b1, f3, f4, f5]
    exact Is.mk _
  refine an ?_
  rcases bcas (decide (v5 < (List.length p0 : Int))) with b6 | b6
  · replace h := ite_f b6 h
    refine SW_cf (by simp +decide only [F, reduceIte, Nat.reduceAdd, b1, f3, f4, f5, b6]) ?_
    refine xt (aft_cx (aft_ix (aft_x (an (sq ?_)))))
    apply SW_run
    · simp +decide only [E, reduceIte, Nat.reduceAdd, Nat.reduceMul, L, b1, f3, f4, f5, b6]
      exact Is.mk _
    refine an (rt ?_)
    cases h
    simp [Ret, b1, f3, f4, f5, b6]
  replace h := ite_t b6 h
  refine SW_ct (by simp +decide only [F, reduceIte, Nat.reduceAdd, b1, f3, f4, f5, b6]) ?_
  refine sk (an (sq (bk (sq ?_))))
  obtain ⟨x7, h8, h⟩ := bind_some h
  obtain ⟨q9, q10, q11⟩ := idx_some h8
  obtain ⟨x12, h13, h⟩ := bind_some h
  obtain ⟨q14, q15, q16⟩ := idx_some h13
  obtain ⟨x17, h18, h⟩ := bind_some h
  apply SW_runD mixed
  · simp +decide only [E, reduceIte, Nat.reduceAdd, Nat.reduceMul, L, ti183, ti189, M.Cached.en, b1, f3, f4, f5, b6, q9, q10, q11, q14, q15, q16]
    refine ⟨_, c_laws_eqCached x7 x12 x17 h18, ?_⟩
    try simp +decide only [E, reduceIte, Nat.reduceAdd, Nat.reduceMul, L, ti183, ti189, M.Cached.en, b1, f3, f4, f5, b6, q9, q10, q11, q14, q15, q16]
    exact ⟨.mk (by decide +kernel), Is.mk _⟩
  refine an ?_
  rcases bcase (!x17) with b19 | b19
  · replace h := ite_t b19 h
    refine SW_ct (by simp +decide only [F, reduceIte, Nat.reduceAdd, b1, f3, f4, f5, b6, q9, q10, q11, q14, q15, q16, b19]) ?_
    refine sq ?_
    apply SW_run
    · simp +decide only [E, reduceIte, Nat.reduceAdd, Nat.reduceMul, L, b1, f3, f4, f5, b6, q9, q10, q11, q14, q15, q16, b19]
      exact Is.mk _
    refine an (rt ?_)
    cases h
    simp [Ret, b1, f3, f4, f5, b6, q9, q10, q11, q14, q15, q16, b19]
  replace h := ite_f b19 h
  refine SW_cf (by simp +decide only [F, reduceIte, Nat.reduceAdd, b1, f3, f4, f5, b6, q9, q10, q11, q14, q15, q16, b19]) ?_
  refine sk (ab (an ?_))
  apply SW_run
  · simp +decide only [E, reduceIte, Nat.reduceAdd, Nat.reduceMul, L, b1, f3, f4, f5, b6, q9, q10, q11, q14, q15, q16, b19]
    exact Is.mk _
  refine aft_i ⟨mL1, by omega, (IntKind.i64.wrap (v5 + 1)), ?_, ?_, ?_, h⟩
  all_goals simp +decide only [F, reduceIte, Nat.reduceAdd, b1, f3, f4, f5, b6, q9, q10, q11, q14, q15, q16, b19]

set_option maxHeartbeats 4000000 in
theorem c_laws_eqCache (p0 : M.Cache) (p1 : M.Cache) (r : Bool) (h : m_laws_eqCache p0 p1 = some r) : SCalls Tryz.prog 229 [(true, M.Cache.en p0), (true, M.Cache.en p1)] [(false, [.ro (.bool r)])] := by
  unfold m_laws_eqCache at h
  simp only [M.Cache.en]
  refine scalls_n (N := 16) (vars := [.tmp 4]) Tryz.func229 rfl rfl rfl (by decide +kernel) (Nat.le_of_ble_eq_true rfl) fun base wd => ?_
  refine sq ?_
  apply SW_run
  · simp +decide only [E, reduceIte, Nat.reduceAdd, Nat.reduceMul, L]
    exact Is.mk _
  refine an (sq (sq ?_))
  apply SW_run
  · simp +decide only [E, reduceIte, Nat.reduceAdd, Nat.reduceMul, L, ti3, ti185]
    exact Is.mk _
  refine an ?_
  rcases bcase (p0.Version != p1.Version) with b1 | b1
  · replace h := ite_t b1 h
    refine SW_ct (by simp +decide only [F, reduceIte, Nat.reduceAdd, b1]) ?_
    refine sq ?_
    apply SW_run
    · simp +decide only [E, reduceIte, Nat.reduceAdd, Nat.reduceMul, L, b1]
      exact Is.mk _
    refine an (rt ?_)
    cases h
    simp [Ret, b1]
  replace h := ite_f b1 h
  refine SW_cf (by simp +decide only [F, reduceIte, Nat.reduceAdd, b1]) ?_
  refine sk (an (sq (sq ?_)))
  obtain ⟨x2, h3, h⟩ := bind_some h
  apply SW_run
  · simp +decide only [E, reduceIte, Nat.reduceAdd, Nat.reduceMul, L, ti183, ti185, b1]
    refine ⟨_, c_laws_eqCachedS p0.Entries p1.Entries x2 h3, ?_⟩
    try simp +decide only [E, reduceIte, Nat.reduceAdd, Nat.reduceMul, L, ti183, ti185, b1]
    exact Is.mk _
  refine an ?_
  rcases bcase (!x2) with b4 | b4
  · replace h := ite_t b4 h
    refine SW_ct (by simp +decide only [F, reduceIte, Nat.reduceAdd, b1, b4]) ?_
    refine sq ?_
    apply SW_run
    · simp +decide only [E, reduceIte, Nat.reduceAdd, Nat.reduceMul, L, b1, b4]
      exact Is.mk _
    refine an (rt ?_)
    cases h
    simp [Ret, b1, b4]
  replace h := ite_f b4 h
  refine SW_cf (by simp +decide only [F, reduceIte, Nat.reduceAdd, b1, b4]) ?_
  refine sk (an (sq ?_))
  apply SW_run
  · simp +decide only [E, reduceIte, Nat.reduceAdd, Nat.reduceMul, L, b1, b4]
    exact Is.mk _
  refine an (rt ?_)
  cases h
  simp [Ret, b1, b4]

set_option maxHeartbeats 4000000 in
theorem c_laws_eqCacheS (p0 : List M.Cache) (p1 : List M.Cache) (r : Bool) (h : m_laws_eqCacheS p0 p1 = some r) : SCalls Tryz.prog 150 [(false, [.sl (List.map M.Cache.en p0)]), (false, [.sl (List.map M.Cache.en p1)])] [(false, [.ro (.bool r)])] := by
  unfold m_laws_eqCacheS at h
  refine scalls_n (N := 27) (vars := [.tmp 4]) Tryz.func150 rfl rfl rfl (by decide +kernel) (Nat.le_of_ble_eq_true rfl) fun base wd => ?_
  refine sq ?_
  apply SW_run
  · simp +decide only [E, reduceIte, Nat.reduceAdd, Nat.reduceMul, L]
    exact Is.mk _
  refine an (sq (sq ?_))
  apply SW_run
  · simp +decide only [E, reduceIte, Nat.reduceAdd, Nat.reduceMul, L, ti49]
    exact Is.mk _
  refine an ?_
  rcases bcase ((List.length p0 : Int) != (List.length p1 : Int)) with b1 | b1
  · replace h := ite_t b1 h
    refine SW_ct (by simp +decide only [F, reduceIte, Nat.reduceAdd, b1]) ?_
    refine sq ?_
    apply SW_run
    · simp +decide only [E, reduceIte, Nat.reduceAdd, Nat.reduceMul, L, b1]
      exact Is.mk _
    refine an (rt ?_)
    cases h
    simp [Ret, b1]
  replace h := ite_f b1 h
  refine SW_cf (by simp +decide only [F, reduceIte, Nat.reduceAdd, b1]) ?_
  refine sk (an (sq (sq ?_)))
  apply SW_run
  · simp +decide only [E, reduceIte, Nat.reduceAdd, Nat.reduceMul, L, b1]
    exact Is.mk _
  refine an (bk ?_)
  refine SW_loop (fun m s => ∃ v5 : Int, s.t 0 = .v false [.dat (.sl (List.map M.Cache.en p0))] ∧ s.t 1 = .v false [.dat (.sl (List.map M.Cache.en p1))] ∧ s.t 5 = .v false [.dat (.int .i64 v5)] ∧ m_laws_eqCacheS_L1 p0 p1 m v5 = some r) fuel ?_ ?_
  · refine ⟨0, ?_, ?_, ?_, h⟩
    all_goals simp +decide only [F, reduceIte, Nat.reduceAdd, b1]
  rintro mL1 s2 ⟨v5, f3, f4, f5, h⟩
  rcases mL1 with _ | mL1
  · exact absurd h (by simp [m_laws_eqCacheS_L1])
  simp only [m_laws_eqCacheS_L1] at h
  refine sq (sq ?_)
  apply SW_run
  · simp +decide only [E, reduceIte, Nat.reduceAdd, Nat.reduceMul, L, ti49, b1, f3, f4, f5]
    exact Is.mk _
  refine an ?_
  rcases bcas (decide (v5 < (List.length p0 : Int))) with b6 | b6
  · replace h := ite_f b6 h
    refine SW_cf (by simp +decide only [F, reduceIte, Nat.reduceAdd, b1, f3, f4, f5, b6]) ?_
    refine xt (aft_cx (aft_ix (aft_x (an (sq ?_)))))
    apply SW_run
    · simp +decide only [E, reduceIte, Nat.reduceAdd, Nat.reduceMul, L, b1, f3, f4, f5, b6]
      exact Is.mk _
    refine an (rt ?_)
    cases h
    simp [Ret, b1, f3, f4, f5, b6]
  replace h := ite_t b6 h
  refine SW_ct (by simp +decide only [F, reduceIte, Nat.reduceAdd, b1, f3, f4, f5, b6]) ?_
  refine sk (an (sq (bk (sq ?_))))
  obtain ⟨x7, h8, h⟩ := bind_some h
  obtain ⟨q9, q10, q11⟩ := idx_some h8
  obtain ⟨x12, h13, h⟩ := bind_some h
  obtain ⟨q14, q15, q16⟩ := idx_some h13
  obtain ⟨x17, h18, h⟩ := bind_some h
  apply SW_runD mixed
  · simp +decide only [E, reduceIte, Nat.reduceAdd, Nat.reduceMul, L, ti49, ti185, M.Cache.en, b1, f3, f4, f5, b6, q9, q10, q11, q14, q15, q16]
    refine ⟨_, c_laws_eqCache x7 x12 x17 h18, ?_⟩
    try simp +decide only [E, reduceIte, Nat.reduceAdd, Nat.reduceMul, L, ti49, ti185, M.Cache.en, b1, f3, f4, f5, b6, q9, q10, q11, q14, q15, q16]
    exact ⟨.mk (by decide +kernel), Is.mk _⟩
  refine an ?_
  rcases bcase (!x17) with b19 | b19
  · replace h := ite_t b19 h
    refine SW_ct (by simp +decide only [F, reduceIte, Nat.reduceAdd, b1, f3, f4, f5, b6, q9, q10, q11, q14, q15, q16, b19]) ?_
    refine sq ?_
    apply SW_run
    · simp +decide only [E, reduceIte, Nat.reduceAdd, Nat.reduceMul, L, b1, f3, f4, f5, b6, q9, q10, q11, q14, q15, q16, b19]
      exact Is.mk _
    refine an (rt ?_)
    cases h
    simp [Ret, b1, f3, f4, f5, b6, q9, q10, q11, q14, q15, q16, b19]
  replace h := ite_f b19 h
  refine SW_cf (by simp +decide only [F, reduceIte, Nat.reduceAdd, b1, f3, f4, f5, b6, q9, q10, q11, q14, q15, q16, b19]) ?_
  refine sk (ab (an ?_))
  apply SW_run
  · simp +decide only [E, reduceIte, Nat.reduceAdd, Nat.reduceMul, L, b1, f3, f4, f5, b6, q9, q10, q11, q14, q15, q16, b19]
    exact Is.mk _
  refine aft_i ⟨mL1, by omega, (IntKind.i64.wrap (v5 + 1)), ?_, ?_, ?_, h⟩
  all_goals simp +decide only [F, reduceIte, Nat.reduceAdd, b1, f3, f4, f5, b6, q9, q10, q11, q14, q15, q16, b19]

set_option maxHeartbeats 4000000 in
theorem c_laws_eqCacheSet (p0 : M.CacheSet) (p1 : M.CacheSet) (r : Bool) (h : m_laws_eqCacheSet p0 p1 = some r) : SCalls Tryz.prog 70 [(true, M.CacheSet.en p0), (true, M.CacheSet.en p1)] [(false, [.ro (.bool r)])] := by
  unfold m_laws_eqCacheSet at h
  simp only [M.CacheSet.en]
  refine scalls_n (N := 11) (vars := [.tmp 4]) Tryz.func70 rfl rfl rfl (by decide +kernel) (Nat.le_of_ble_eq_true rfl) fun base wd => ?_
  refine sq ?_
  apply SW_run
  · simp +decide only [E, reduceIte, Nat.reduceAdd, Nat.reduceMul, L]
    exact Is.mk _
  refine an (sq (sq ?_))
  obtain ⟨x1, h2, h⟩ := bind_some h
  apply SW_run
  · simp +decide only [E, reduceIte, Nat.reduceAdd, Nat.reduceMul, L, ti49, ti51]
    refine ⟨_, c_laws_eqCacheS p0.Caches p1.Caches x1 h2, ?_⟩
    try simp +decide only [E, reduceIte, Nat.reduceAdd, Nat.reduceMul, L, ti49, ti51]
    exact Is.mk _
  refine an ?_
  rcases bcase (!x1) with b3 | b3
  · replace h := ite_t b3 h
    refine SW_ct (by simp +decide only [F, reduceIte, Nat.reduceAdd, b3]) ?_
    refine sq ?_
    apply SW_run
    · simp +decide only [E, reduceIte, Nat.reduceAdd, Nat.reduceMul, L, b3]
      exact Is.mk _
    refine an (rt ?_)
    cases h
    simp [Ret, b3]
  replace h := ite_f b3 h
  refine SW_cf (by simp +decide only [F, reduceIte, Nat.reduceAdd, b3]) ?_
  refine sk (an (sq ?_))
  apply SW_run
  · simp +decide only [E, reduceIte, Nat.reduceAdd, Nat.reduceMul, L, b3]
    exact Is.mk _
  refine an (rt ?_)
  cases h
  simp [Ret, b3]

set_option maxHeartbeats 4000000 in
theorem c_laws_eqKey (p0 : M.Key) (p1 : M.Key) (r : Bool) (h : m_laws_eqKey p0 p1 = some r) : SCalls Tryz.prog 321 [(true, M.Key.en p0), (true, M.Key.en p1)] [(false, [.ro (.bool r)])] := by
  unfold m_laws_eqKey at h
  simp only [M.Key.en]
  refine scalls_n (N := 20) (vars := [.tmp 4]) Tryz.func321 rfl rfl rfl (by decide +kernel) (Nat.le_of_ble_eq_true rfl) fun base wd => ?_
  refine sq ?_
  apply SW_run
  · simp +decide only [E, reduceIte, Nat.reduceAdd, Nat.reduceMul, L]
    exact Is.mk _
  refine an (sq (sq ?_))
  apply SW_run
  · simp +decide only [E, reduceIte, Nat.reduceAdd, Nat.reduceMul, L, ti3, ti203]
    exact Is.mk _
  refine an ?_
  rcases bcase (p0.Kind != p1.Kind) with b1 | b1
  · replace h := ite_t b1 h
    refine SW_ct (by simp +decide only [F, reduceIte, Nat.reduceAdd, b1]) ?_
    refine sq ?_
    apply SW_run
    · simp +decide only [E, reduceIte, Nat.reduceAdd, Nat.reduceMul, L, b1]
      exact Is.mk _
    refine an (rt ?_)
    cases h
    simp [Ret, b1]
  replace h := ite_f b1 h
  refine SW_cf (by simp +decide only [F, reduceIte, Nat.reduceAdd, b1]) ?_
  refine sk (an (sq (sq ?_)))
  apply SW_run
  · simp +decide only [E, reduceIte, Nat.reduceAdd, Nat.reduceMul, L, ti3, ti203, b1]
    exact Is.mk _
  refine an ?_
  rcases bcase (p0.N != p1.N) with b2 | b2
  · replace h := ite_t b2 h
    refine SW_ct (by simp +decide only [F, reduceIte, Nat.reduceAdd, b1, b2]) ?_
    refine sq ?_
    apply SW_run
    · simp +decide only [E, reduceIte, Nat.reduceAdd, Nat.reduceMul, L, b1, b2]
      exact Is.mk _
    refine an (rt ?_)
    cases h
    simp [Ret, b1, b2]
  replace h := ite_f b2 h
  refine SW_cf (by simp +decide only [F, reduceIte, Nat.reduceAdd, b1, b2]) ?_
  refine sk (an (sq (sq ?_)))
  apply SW_run
  · simp +decide only [E, reduceIte, Nat.reduceAdd, Nat.reduceMul, L, ti9, ti203, b1, b2]
    exact Is.mk _
  refine an ?_
  rcases bcase (!(p0.Text.toList == p1.Text.toList)) with b3 | b3
  · replace h := ite_t b3 h
    refine SW_ct (by simp +decide only [F, reduceIte, Nat.reduceAdd, b1, b2, b3]) ?_
    refine sq ?_
    apply SW_run
    · simp +decide only [E, reduceIte, Nat.reduceAdd, Nat.reduceMul, L, b1, b2, b3]
      exact Is.mk _
    refine an (rt ?_)
    cases h
    simp [Ret, b1, b2, b3]
  replace h := ite_f b3 h
  refine SW_cf (by simp +decide only [F, reduceIte, Nat.reduceAdd, b1, b2, b3]) ?_
  refine sk (an (sq ?_))
  apply SW_run
  · simp +decide only [E, reduceIte, Nat.reduceAdd, Nat.reduceMul, L, b1, b2, b3]
    exact Is.mk _
  refine an (rt ?_)
  cases h
  simp [Ret, b1, b2, b3]

set_option maxHeartbeats 4000000 in
theorem c_laws_eqField (p0 : M.Field) (p1 : M.Field) (r : Bool) (h : m_laws_eqField p0 p1 = some r) : SCalls Tryz.prog 341 [(true, M.Field.en p0), (true, M.Field.en p1)] [(false, [.ro (.bool r)])] := by
  unfold m_laws_eqField at h
  simp only [M.Field.en]
  refine scalls_n (N := 15) (vars := [.tmp 4]) Tryz.func341 rfl rfl rfl (by decide +kernel) (Nat.le_of_ble_eq_true rfl) fun base wd => ?_
  refine sq ?_
  apply SW_run
  · simp +decide only [E, reduceIte, Nat.reduceAdd, Nat.reduceMul, L]
    exact Is.mk _
  refine an (sq (sq ?_))
  apply SW_run
  · simp +decide only [E, reduceIte, Nat.reduceAdd, Nat.reduceMul, L, ti9, ti273]
    exact Is.mk _
  refine an ?_
  rcases bcase (!(p0.Name.toList == p1.Name.toList)) with b1 | b1
  · replace h := ite_t b1 h
    refine SW_ct (by simp +decide only [F, reduceIte, Nat.reduceAdd, b1]) ?_
    refine sq ?_
    apply SW_run
    · simp +decide only [E, reduceIte, Nat.reduceAdd, Nat.reduceMul, L, b1]
      exact Is.mk _
    refine an (rt ?_)
    cases h
    simp [Ret, b1]
  replace h := ite_f b1 h
  refine SW_cf (by simp +decide only [F, reduceIte, Nat.reduceAdd, b1]) ?_
  refine sk (an (sq (sq ?_)))
  apply SW_run
  · simp +decide only [E, reduceIte, Nat.reduceAdd, Nat.reduceMul, L, ti3, ti273, b1]
    exact Is.mk _
  refine an ?_
  rcases bcase (p0.N != p1.N) with b2 | b2
  · replace h := ite_t b2 h
    refine SW_ct (by simp +decide only [F, reduceIte, Nat.reduceAdd, b1, b2]) ?_
    refine sq ?_
    apply SW_run
    · simp +decide only [E, reduceIte, Nat.reduceAdd, Nat.reduceMul, L, b1, b2]
      exact Is.mk _
    refine an (rt ?_)
    cases h
    simp [Ret, b1, b2]
  replace h := ite_f b2 h
  refine SW_cf (by simp +decide only [F, reduceIte, Nat.reduceAdd, b1, b2]) ?_
  refine sk (an (sq ?_))
  apply SW_run
  · simp +decide only [E, reduceIte, Nat.reduceAdd, Nat.reduceMul, L, b1, b2]
    exact Is.mk _
  refine an (rt ?_)
  cases h
  simp [Ret, b1, b2]

set_option maxHeartbeats 4000000 in
theorem c_laws_eqFieldS (p0 : List M.Field) (p1 : List M.Field) (r : Bool) (h : m_laws_eqFieldS p0 p1 = some r) : SCalls Tryz.prog 336 [(false, [.sl (List.map M.Field.en p0)]), (false, [.sl (List.map M.Field.en p1)])] [(false, [.ro (.bool r)])] := by
  unfold m_laws_eqFieldS at h
  refine scalls_n (N := 27) (vars := [.tmp 4]) Tryz.func336 rfl rfl rfl (by decide +kernel) (Nat.le_of_ble_eq_true rfl) fun base wd => ?_
  refine sq ?_
  apply SW_run
  · simp +decide only [E, reduceIte, Nat.reduceAdd, Nat.reduceMul, L]
    exact Is.mk _
  refine an (sq (sq ?_))
  apply SW_run
  · simp +decide only [E, reduceIte, Nat.reduceAdd, Nat.reduceMul, L, ti204]
    exact Is.mk _
  refine an ?_
  rcases bcase ((List.length p0 : Int) != (List.length p1 : Int)) with b1 | b1
  · replace h := ite_t b1 h
    refine SW_ct (by simp +decide only [F, reduceIte, Nat.reduceAdd, b1]) ?_
    refine sq ?_
    apply SW_run
    · simp +decide only [E, reduceIte, Nat.reduceAdd, Nat.reduceMul, L, b1]
      exact Is.mk _
    refine an (rt ?_)
    cases h
    simp [Ret, b1]
  replace h := ite_f b1 h
  refine SW_cf (by simp +decide only [F, reduceIte, Nat.reduceAdd, b1]) ?_
  refine sk (an (sq (sq ?_)))
  apply SW_run
  · simp +decide only [E, reduceIte, Nat.reduceAdd, Nat.reduceMul, L, b1]
    exact Is.mk _
  refine an (bk ?_)
  refine SW_loop (fun m s => ∃ v5 : Int, s.t 0 = .v false [.dat (.sl (List.map M.Field.en p0))] ∧ s.t 1 = .v false [.dat (.sl (List.map M.Field.en p1))] ∧ s.t 5 = .v false [.dat (.int .i64 v5)] ∧ m_laws_eqFieldS_L1 p0 p1 m v5 = some r) fuel ?_ ?_
  · refine ⟨0, ?_, ?_, ?_, h⟩
    all_goals simp +decide only [F, reduceIte, Nat.reduceAdd, b1]
  rintro mL1 s2 ⟨v5, f3, f4, f5, h⟩
  rcases mL1 with _ | mL1
  · exact absurd h (by simp [m_laws_eqFieldS_L1])
  simp only [m_laws_eqFieldS_L1] at h
  refine sq (sq ?_)
  apply SW_run
  · simp +decide only [E, reduceIte, Nat.reduceAdd, Nat.reduceMul, L, ti204, b1, f3, f4, f5]
    exact Is.mk _
  refine an ?_
  rcases bcas (decide (v5 < (List.length p0 : Int))) with b6 | b6
  · replace h := ite_f b6 h
    refine SW_cf (by simp +decide only [F, reduceIte, Nat.reduceAdd, b1, f3, f4, f5, b6]) ?_
    refine xt (aft_cx (aft_ix (aft_x (an (sq ?_)))))
    apply SW_run
    · simp +decide only [E, reduceIte, Nat.reduceAdd, Nat.reduceMul, L, b1, f3, f4, f5, b6]
      exact Is.mk _
    refine an (rt ?_)
    cases h
    simp [Ret, b1, f3, f4, f5, b6]
  replace h := ite_t b6 h
  refine SW_ct (by simp +decide only [F, reduceIte, Nat.reduceAdd, b1, f3, f4, f5, b6]) ?_
  refine sk (an (sq (bk (sq ?_))))
  obtain ⟨x7, h8, h⟩ := bind_some h
  obtain ⟨q9, q10, q11⟩ := idx_some h8
  obtain ⟨x12, h13, h⟩ := bind_some h
  obtain ⟨q14, q15, q16⟩ := idx_some h13
  obtain ⟨x17, h18, h⟩ := bind_some h
  apply SW_runD mixed
  · simp +decide only [E, reduceIte, Nat.reduceAdd, Nat.reduceMul, L, ti204, ti273, M.Field.en, b1, f3, f4, f5, b6, q9, q10, q11, q14, q15, q16]
    refine ⟨_, c_laws_eqField x7 x12 x17 h18, ?_⟩
    try simp +decide only [E, reduceIte, Nat.reduceAdd, Nat.reduceMul, L, ti204, ti273, M.Field.en, b1, f3, f4, f5, b6, q9, q10, q11, q14, q15, q16]
    exact ⟨.mk (by decide +kernel), Is.mk _⟩
  refine an ?_
  rcases bcase (!x17) with b19 | b19
  · replace h := ite_t b19 h
    refine SW_ct (by simp +decide only [F, reduceIte, Nat.reduceAdd, b1, f3, f4, f5, b6, q9, q10, q11, q14, q15, q16, b19]) ?_
    refine sq ?_
    apply SW_run
    · simp +decide only [E, reduceIte, Nat.reduceAdd, Nat.reduceMul, L, b1, f3, f4, f5, b6, q9, q10, q11, q14, q15, q16, b19]
      exact Is.mk _
    refine an (rt ?_)
    cases h
    simp [Ret, b1, f3, f4, f5, b6, q9, q10, q11, q14, q15, q16, b19]
  replace h := ite_f b19 h
  refine SW_cf (by simp +decide only [F, reduceIte, Nat.reduceAdd, b1, f3, f4, f5, b6, q9, q10, q11, q14, q15, q16, b19]) ?_
  refine sk (ab (an ?_))
  apply SW_run
  · simp +decide only [E, reduceIte, Nat.reduceAdd, Nat.reduceMul, L, b1, f3, f4, f5, b6, q9, q10, q11, q14, q15, q16, b19]
    exact Is.mk _
  refine aft_i ⟨mL1, by omega, (IntKind.i64.wrap (v5 + 1)), ?_, ?_, ?_, h⟩
  all_goals simp +decide only [F, reduceIte, Nat.reduceAdd, b1, f3, f4, f5, b6, q9, q10, q11, q14, q15, q16, b19]

set_option maxHeartbeats 4000000 in
theorem c_laws_eqRecord (p0 : M.Record) (p1 : M.Record) (r : Bool) (h : m_laws_eqRecord p0 p1 = some r) : SCalls Tryz.prog 322 [(true, M.Record.en p0), (true, M.Record.en p1)] [(false, [.ro (.bool r)])] := by
  unfold m_laws_eqRecord at h
  simp only [M.Record.en]
  refine scalls_n (N := 11) (vars := [.tmp 4]) Tryz.func322 rfl rfl rfl (by decide +kernel) (Nat.le_of_ble_eq_true rfl) fun base wd => ?_
  refine sq ?_
  apply SW_run
  · simp +decide only [E, reduceIte, Nat.reduceAdd, Nat.reduceMul, L]
    exact Is.mk _
  refine an (sq (sq ?_))
  obtain ⟨x1, h2, h⟩ := bind_some h
  apply SW_run
  · simp +decide only [E, reduceIte, Nat.reduceAdd, Nat.reduceMul, L, ti204, ti206]
    refine ⟨_, c_laws_eqFieldS p0.Fields p1.Fields x1 h2, ?_⟩
    try simp +decide only [E, reduceIte, Nat.reduceAdd, Nat.reduceMul, L, ti204, ti206]
    exact Is.mk _
  refine an ?_
  rcases bcase (!x1) with b3 | b3
  · replace h := ite_t b3 h
    refine SW_ct (by simp +decide only [F, reduceIte, Nat.reduceAdd, b3]) ?_
    refine sq ?_
    apply SW_run
    · simp +decide only [E, reduceIte, Nat.reduceAdd, Nat.reduceMul, L, b3]
      exact Is.mk _
    refine an (rt ?_)
    cases h
    simp [Ret, b3]
  replace h := ite_f b3 h
  refine SW_cf (by simp +decide only [F, reduceIte, Nat.reduceAdd, b3]) ?_
  refine sk (an (sq ?_))
  apply SW_run
  · simp +decide only [E, reduceIte, Nat.reduceAdd, Nat.reduceMul, L, b3]
    exact Is.mk _
  refine an (rt ?_)
  cases h
  simp [Ret, b3]

set_option maxHeartbeats 4000000 in
theorem c_laws_eqItem (p0 : M.Item) (p1 : M.Item) (r : Bool) (h : m_laws_eqItem p0 p1 = some r) : SCalls Tryz.prog 291 [(true, M.Item.en p0), (true, M.Item.en p1)] [(false, [.ro (.bool r)])] := by
  unfold m_laws_eqItem at h
  simp only [M.Item.en]
  refine scalls_n (N := 17) (vars := [.tmp 4]) Tryz.func291 rfl rfl rfl (by decide +kernel) (Nat.le_of_ble_eq_true rfl) fun base wd => ?_
  refine sq ?_
  apply SW_run
  · simp +decide only [E, reduceIte, Nat.reduceAdd, Nat.reduceMul, L]
    exact Is.mk _
  refine an (sq (sq ?_))
  obtain ⟨x1, h2, h⟩ := bind_some h
  apply SW_run
  · simp +decide only [E, reduceIte, Nat.reduceAdd, Nat.reduceMul, L, ti203, ti208]
    refine ⟨_, c_laws_eqKey p0.Key p1.Key x1 h2, ?_⟩
    try simp +decide only [E, reduceIte, Nat.reduceAdd, Nat.reduceMul, L, ti203, ti208]
    exact Is.mk _
  refine an ?_
  rcases bcase (!x1) with b3 | b3
  · replace h := ite_t b3 h
    refine SW_ct (by simp +decide only [F, reduceIte, Nat.reduceAdd, b3]) ?_
    refine sq ?_
    apply SW_run
    · simp +decide only [E, reduceIte, Nat.reduceAdd, Nat.reduceMul, L, b3]
      exact Is.mk _
    refine an (rt ?_)
    cases h
    simp [Ret, b3]
  replace h := ite_f b3 h
  refine SW_cf (by simp +decide only [F, reduceIte, Nat.reduceAdd, b3]) ?_
  refine sk (an (sq (sq ?_)))
  obtain ⟨x4, h5, h⟩ := bind_some h
  apply SW_run
  · simp +decide only [E, reduceIte, Nat.reduceAdd, Nat.reduceMul, L, ti206, ti208, b3]
    refine ⟨_, c_laws_eqRecord p0.Record p1.Record x4 h5, ?_⟩
    try simp +decide only [E, reduceIte, Nat.reduceAdd, Nat.reduceMul, L, ti206, ti208, b3]
    exact Is.mk _
  refine an ?_
  rcases bcase (!x4) with b6 | b6
  · replace h := ite_t b6 h
    refine SW_ct (by simp +decide only [F, reduceIte, Nat.reduceAdd, b3, b6]) ?_
    refine sq ?_
    apply SW_run
    · simp +decide only [E, reduceIte, Nat.reduceAdd, Nat.reduceMul, L, b3, b6]
      exact Is.mk _
    refine an (rt ?_)
    cases h
    simp [Ret, b3, b6]
  replace h := ite_f b6 h
  refine SW_cf (by simp +decide only [F, reduceIte, Nat.reduceAdd, b3, b6]) ?_
  refine sk (an (sq ?_))
  apply SW_run
  · simp +decide only [E, reduceIte, Nat.reduceAdd, Nat.reduceMul, L, b3, b6]
    exact Is.mk _
  refine an (rt ?_)
  cases h
  simp [Ret, b3, b6]

set_option maxHeartbeats 4000000 in
theorem c_laws_eqItemS (p0 : List M.Item) (p1 : List M.Item) (r : Bool) (h : m_laws_eqItemS p0 p1 = some r) : SCalls Tryz.prog 230 [(false, [.sl (List.map M.Item.en p0)]), (false, [.sl (List.map M.Item.en p1)])] [(false, [.ro (.bool r)])] := by
  unfold m_laws_eqItemS at h
  refine scalls_n (N := 27) (vars := [.tmp 4]) Tryz.func230 rfl rfl rfl (by decide +kernel) (Nat.le_of_ble_eq_true rfl) fun base wd => ?_
  refine sq ?_
  apply SW_run
  · simp +decide only [E, reduceIte, Nat.reduceAdd, Nat.reduceMul, L]
    exact Is.mk _
  refine an (sq (sq ?_))
  apply SW_run
  · simp +decide only [E, reduceIte, Nat.reduceAdd, Nat.reduceMul, L, ti58]
    exact Is.mk _
  refine an ?_
  rcases bcase ((List.length p0 : Int) != (List.length p1 : Int)) with b1 | b1
  · replace h := ite_t b1 h
    refine SW_ct (by simp +decide only [F, reduceIte, Nat.reduceAdd, b1]) ?_
    refine sq ?_
    apply SW_run
    · simp +decide only [E, reduceIte, Nat.reduceAdd, Nat.reduceMul, L, b1]
      exact Is.mk _
    refine an (rt ?_)
    cases h
    simp [Ret, b1]
  replace h := ite_f b1 h
  refine SW_cf (by simp +decide only [F, reduceIte, Nat.reduceAdd, b1]) ?_
  refine sk (an (sq (sq ?_)))
  apply SW_run
  · simp +decide only [E, reduceIte, Nat.reduceAdd, Nat.reduceMul, L, b1]
    exact Is.mk _
  refine an (bk ?_)
  refine SW_loop (fun m s => ∃ v5 : Int, s.t 0 = .v false [.dat (.sl (List.map M.Item.en p0))] ∧ s.t 1 = .v false [.dat (.sl (List.map M.Item.en p1))] ∧ s.t 5 = .v false [.dat (.int .i64 v5)] ∧ m_laws_eqItemS_L1 p0 p1 m v5 = some r) fuel ?_ ?_
  · refine ⟨0, ?_, ?_, ?_, h⟩
    all_goals simp +decide only [F, reduceIte, Nat.reduceAdd, b1]
  rintro mL1 s2 ⟨v5, f3, f4, f5, h⟩
  rcases mL1 with _ | mL1
  · exact absurd h (by simp [m_laws_eqItemS_L1])
  simp only [m_laws_eqItemS_L1] at h
  refine sq (sq ?_)
  apply SW_run
  · simp +decide only [E, reduceIte, Nat.reduceAdd, Nat.reduceMul, L, ti58, b1, f3, f4, f5]
    exact Is.mk _
  refine an ?_
  rcases bcas (decide (v5 < (List.length p0 : Int))) with b6 | b6
  · replace h := ite_f b6 h
    refine SW_cf (by simp +decide only [F, reduceIte, Nat.reduceAdd, b1, f3, f4, f5, b6]) ?_
    refine xt (aft_cx (aft_ix (aft_x (an (sq ?_)))))
    apply SW_run
    · simp +decide only [E, reduceIte, Nat.reduceAdd, Nat.reduceMul, L, b1, f3, f4, f5, b6]
      exact Is.mk _
    refine an (rt ?_)
    cases h
    simp [Ret, b1, f3, f4, f5, b6]
  replace h := ite_t b6 h
  refine SW_ct (by simp +decide only [F, reduceIte, Nat.reduceAdd, b1, f3, f4, f5, b6]) ?_
  refine sk (an (sq (bk (sq ?_))))
  obtain ⟨x7, h8, h⟩ := bind_some h
  obtain ⟨q9, q10, q11⟩ := idx_some h8
  obtain ⟨x12, h13, h⟩ := bind_some h
  obtain ⟨q14, q15, q16⟩ := idx_some h13
  obtain ⟨x17, h18, h⟩ := bind_some h
  apply SW_runD mixed
  · simp +decide only [E, reduceIte, Nat.reduceAdd, Nat.reduceMul, L, ti58, ti208, M.Item.en, b1, f3, f4, f5, b6, q9, q10, q11, q14, q15, q16]
    refine ⟨_, c_laws_eqItem x7 x12 x17 h18, ?_⟩
    try simp +decide only [E, reduceIte, Nat.reduceAdd, Nat.reduceMul, L, ti58, ti208, M.Item.en, b1, f3, f4, f5, b6, q9, q10, q11, q14, q15, q16]
    exact ⟨.mk (by decide +kernel), Is.mk _⟩
  refine an ?_
  rcases bcase (!x17) with b19 | b19
  · replace h := ite_t b19 h
    refine SW_ct (by simp +decide only [F, reduceIte, Nat.reduceAdd, b1, f3, f4, f5, b6, q9, q10, q11, q14, q15, q16, b19]) ?_
    refine sq ?_
    apply SW_run
    · simp +decide only [E, reduceIte, Nat.reduceAdd, Nat.reduceMul, L, b1, f3, f4, f5, b6, q9, q10, q11, q14, q15, q16, b19]
      exact Is.mk _
    refine an (rt ?_)
    cases h
    simp [Ret, b1, f3, f4, f5, b6, q9, q10, q11, q14, q15, q16, b19]
  replace h := ite_f b19 h
  refine SW_cf (by simp +decide only [F, reduceIte, Nat.reduceAdd, b1, f3, f4, f5, b6, q9, q10, q11, q14, q15, q16, b19]) ?_
  refine sk (ab (an ?_))
  apply SW_run
  · simp +decide only [E, reduceIte, Nat.reduceAdd, Nat.reduceMul, L, b1, f3, f4, f5, b6, q9, q10, q11, q14, q15, q16, b19]
    exact Is.mk _
  refine aft_i ⟨mL1, by omega, (IntKind.i64.wrap (v5 + 1)), ?_, ?_, ?_, h⟩
  all_goals simp +decide only [F, reduceIte, Nat.reduceAdd, b1, f3, f4, f5, b6, q9, q10, q11, q14, q15, q16, b19]

set_option maxHeartbeats 4000000 in
theorem c_laws_eqStore (p0 : M.Store) (p1 : M.Store) (r : Bool) (h : m_laws_eqStore p0 p1 = some r) : SCalls Tryz.prog 151 [(true, M.Store.en p0), (true, M.Store.en p1)] [(false, [.ro (.bool r)])] := by
  unfold m_laws_eqStore at h
  simp only [M.Store.en]
  refine scalls_n (N := 21) (vars := [.tmp 4]) Tryz.func151 rfl rfl rfl (by decide +kernel) (Nat.le_of_ble_eq_true rfl) fun base wd => ?_
  refine sq ?_
  apply SW_run
  · simp +decide only [E, reduceIte, Nat.reduceAdd, Nat.reduceMul, L]
    exact Is.mk _
  refine an (sq (sq ?_))
  apply SW_run
  · simp +decide only [E, reduceIte, Nat.reduceAdd, Nat.reduceMul, L, ti9, ti60]
    exact Is.mk _
  refine an ?_
  rcases bcase (!(p0.Name.toList == p1.Name.toList)) with b1 | b1
  · replace h := ite_t b1 h
    refine SW_ct (by simp +decide only [F, reduceIte, Nat.reduceAdd, b1]) ?_
    refine sq ?_
    apply SW_run
    · simp +decide only [E, reduceIte, Nat.reduceAdd, Nat.reduceMul, L, b1]
      exact Is.mk _
    refine an (rt ?_)
    cases h
    simp [Ret, b1]
  replace h := ite_f b1 h
  refine SW_cf (by simp +decide only [F, reduceIte, Nat.reduceAdd, b1]) ?_
  refine sk (an (sq (sq ?_)))
  obtain ⟨x2, h3, h⟩ := bind_some h
  apply SW_run
  · simp +decide only [E, reduceIte, Nat.reduceAdd, Nat.reduceMul, L, ti58, ti60, b1]
    refine ⟨_, c_laws_eqItemS p0.Items p1.Items x2 h3, ?_⟩
    try simp +decide only [E, reduceIte, Nat.reduceAdd, Nat.reduceMul, L, ti58, ti60, b1]
    exact Is.mk _
  refine an ?_
  rcases bcase (!x2) with b4 | b4
  · replace h := ite_t b4 h
    refine SW_ct (by simp +decide only [F, reduceIte, Nat.reduceAdd, b1, b4]) ?_
    refine sq ?_
    apply SW_run
    · simp +decide only [E, reduceIte, Nat.reduceAdd, Nat.reduceMul, L, b1, b4]
      exact Is.mk _
    refine an (rt ?_)
    cases h
    simp [Ret, b1, b4]
  replace h := ite_f b4 h
  refine SW_cf (by simp +decide only [F, reduceIte, Nat.reduceAdd, b1, b4]) ?_
  refine sk (an (sq (sq ?_)))
  apply SW_run
  · simp +decide only [E, reduceIte, Nat.reduceAdd, Nat.reduceMul, L, ti3, ti60, b1, b4]
    exact Is.mk _
  refine an ?_
  rcases bcase (p0.Auto != p1.Auto) with b5 | b5
  · replace h := ite_t b5 h
    refine SW_ct (by simp +decide only [F, reduceIte, Nat.reduceAdd, b1, b4, b5]) ?_
    refine sq ?_
    apply SW_run
    · simp +decide only [E, reduceIte, Nat.reduceAdd, Nat.reduceMul, L, b1, b4, b5]
      exact Is.mk _
    refine an (rt ?_)
    cases h
    simp [Ret, b1, b4, b5]
  replace h := ite_f b5 h
  refine SW_cf (by simp +decide only [F, reduceIte, Nat.reduceAdd, b1, b4, b5]) ?_
  refine sk (an (sq ?_))
  apply SW_run
  · simp +decide only [E, reduceIte, Nat.reduceAdd, Nat.reduceMul, L, b1, b4, b5]
    exact Is.mk _
  refine an (rt ?_)
  cases h
  simp [Ret, b1, b4, b5]

set_option maxHeartbeats 4000000 in
theorem c_laws_eqStoreS (p0 : List M.Store) (p1 : List M.Store) (r : Bool) (h : m_laws_eqStoreS p0 p1 = some r) : SCalls Tryz.prog 207 [(false, [.sl (List.map M.Store.en p0)]), (false, [.sl (List.map M.Store.en p1)])] [(false, [.ro (.bool r)])] := by
  unfold m_laws_eqStoreS at h
  refine scalls_n (N := 27) (vars := [.tmp 4]) Tryz.func207 rfl rfl rfl (by decide +kernel) (Nat.le_of_ble_eq_true rfl) fun base wd => ?_
  refine sq ?_
  apply SW_run
  · simp +decide only [E, reduceIte, Nat.reduceAdd, Nat.reduceMul, L]
    exact Is.mk _
  refine an (sq (sq ?_))
  apply SW_run
  · simp +decide only [E, reduceIte, Nat.reduceAdd, Nat.reduceMul, L, ti52]
    exact Is.mk _
  refine an ?_
  rcases bcase ((List.length p0 : Int) != (List.length p1 : Int)) with b1 | b1
  · replace h := ite_t b1 h
    refine SW_ct (by simp +decide only [F, reduceIte, Nat.reduceAdd, b1]) ?_
    refine sq ?_
    apply SW_run
    · simp +decide only [E, reduceIte, Nat.reduceAdd, Nat.reduceMul, L, b1]
      exact Is.mk _
    refine an (rt ?_)
    cases h
    simp [Ret, b1]
  replace h := ite_f b1 h
  refine SW_cf (by simp +decide only [F, reduceIte, Nat.reduceAdd, b1]) ?_
  refine sk (an (sq (sq ?_)))
  apply SW_run
  · simp +decide only [E, reduceIte, Nat.reduceAdd, Nat.reduceMul, L, b1]
    exact Is.mk _
  refine an (bk ?_)
  refine SW_loop (fun m s => ∃ v5 : Int, s.t 0 = .v false [.dat (.sl (List.map M.Store.en p0))] ∧ s.t 1 = .v false [.dat (.sl (List.map M.Store.en p1))] ∧ s.t 5 = .v false [.dat (.int .i64 v5)] ∧ m_laws_eqStoreS_L1 p0 p1 m v5 = some r) fuel ?_ ?_
  · refine ⟨0, ?_, ?_, ?_, h⟩
    all_goals simp +decide only [F, reduceIte, Nat.reduceAdd, b1]
  rintro mL1 s2 ⟨v5, f3, f4, f5, h⟩
  rcases mL1 with _ | mL1
  · exact absurd h (by simp [m_laws_eqStoreS_L1])
  simp only [m_laws_eqStoreS_L1] at h
  refine sq (sq ?_)
  apply SW_run
  · simp +decide only [E, reduceIte, Nat.reduceAdd, Nat.reduceMul, L, ti52, b1, f3, f4, f5]
    exact Is.mk _
  refine an ?_
  rcases bcas (decide (v5 < (List.length p0 : Int))) with b6 | b6
  · replace h := ite_f b6 h
    refine SW_cf (by simp +decide only [F, reduceIte, Nat.reduceAdd, b1, f3, f4, f5, b6]) ?_
    refine xt (aft_cx (aft_ix (aft_x (an (sq ?_)))))
    apply SW_run
    · simp +decide only [E, reduceIte, Nat.reduceAdd, Nat.reduceMul, L, b1, f3, f4, f5, b6]
      exact Is.mk _
    refine an (rt ?_)
    cases h
    simp [Ret, b1, f3, f4, f5, b6]
  replace h := ite_t b6 h
  refine SW_ct (by simp +decide only [F, reduceIte, Nat.reduceAdd, b1, f3, f4, f5, b6]) ?_
  refine sk (an (sq (bk (sq ?_))))
  obtain ⟨x7, h8, h⟩ := bind_some h
  obtain ⟨q9, q10, q11⟩ := idx_some h8
  obtain ⟨x12, h13, h⟩ := bind_some h
  obtain ⟨q14, q15, q16⟩ := idx_some h13
  obtain ⟨x17, h18, h⟩ := bind_some h
  apply SW_runD mixed
  · simp +decide only [E, reduceIte, Nat.reduceAdd, Nat.reduceMul, L, ti52, ti60, M.Store.en, b1, f3, f4, f5, b6, q9, q10, q11, q14, q15, q16]
    refine ⟨_, c_laws_eqStore x7 x12 x17 h18, ?_⟩
    try simp +decide only [E, reduceIte, Nat.reduceAdd, Nat.reduceMul, L, ti52, ti60, M.Store.en, b1, f3, f4, f5, b6, q9, q10, q11, q14, q15, q16]
    exact ⟨.mk (by decide +kernel), Is.mk _⟩
  refine an ?_
  rcases bcase (!x17) with b19 | b19
  · replace h := ite_t b19 h
    refine SW_ct (by simp +decide only [F, reduceIte, Nat.reduceAdd, b1, f3, f4, f5, b6, q9, q10, q11, q14, q15, q16, b19]) ?_
    refine sq ?_
    apply SW_run
    · simp +decide only [E, reduceIte, Nat.reduceAdd, Nat.reduceMul, L, b1, f3, f4, f5, b6, q9, q10, q11, q14, q15, q16, b19]
      exact Is.mk _
    refine an (rt ?_)
    cases h
    simp [Ret, b1, f3, f4, f5, b6, q9, q10, q11, q14, q15, q16, b19]
  replace h := ite_f b19 h
  refine SW_cf (by simp +decide only [F, reduceIte, Nat.reduceAdd, b1, f3, f4, f5, b6, q9, q10, q11, q14, q15, q16, b19]) ?_
  refine sk (ab (an ?_))
  apply SW_run
  · simp +decide only [E, reduceIte, Nat.reduceAdd, Nat.reduceMul, L, b1, f3, f4, f5, b6, q9, q10, q11, q14, q15, q16, b19]
    exact Is.mk _
  refine aft_i ⟨mL1, by omega, (IntKind.i64.wrap (v5 + 1)), ?_, ?_, ?_, h⟩
  all_goals simp +decide only [F, reduceIte, Nat.reduceAdd, b1, f3, f4, f5, b6, q9, q10, q11, q14, q15, q16, b19]

set_option maxHeartbeats 4000000 in
theorem c_laws_eqIndexDef (p0 : M.IndexDef) (p1 : M.IndexDef) (r : Bool) (h : m_laws_eqIndexDef p0 p1 = some r) : SCalls Tryz.prog 279 [(true, M.IndexDef.en p0), (true, M.IndexDef.en p1)] [(false, [.ro (.bool r)])] := by
  unfold m_laws_eqIndexDef at h
  simp only [M.IndexDef.en]
  refine scalls_n (N := 15) (vars := [.tmp 4]) Tryz.func279 rfl rfl rfl (by decide +kernel) (Nat.le_of_ble_eq_true rfl) fun base wd => ?_
  refine sq ?_
  apply SW_run
  · simp +decide only [E, reduceIte, Nat.reduceAdd, Nat.reduceMul, L]
    exact Is.mk _
  refine an (sq (sq ?_))
  apply SW_run
  · simp +decide only [E, reduceIte, Nat.reduceAdd, Nat.reduceMul, L, ti9, ti225]
    exact Is.mk _
  refine an ?_
  rcases bcase (!(p0.Store.toList == p1.Store.toList)) with b1 | b1
  · replace h := ite_t b1 h
    refine SW_ct (by simp +decide only [F, reduceIte, Nat.reduceAdd, b1]) ?_
    refine sq ?_
    apply SW_run
    · simp +decide only [E, reduceIte, Nat.reduceAdd, Nat.reduceMul, L, b1]
      exact Is.mk _
    refine an (rt ?_)
    cases h
    simp [Ret, b1]
  replace h := ite_f b1 h
  refine SW_cf (by simp +decide only [F, reduceIte, Nat.reduceAdd, b1]) ?_
  refine sk (an (sq (sq ?_)))
  apply SW_run
  · simp +decide only [E, reduceIte, Nat.reduceAdd, Nat.reduceMul, L, ti9, ti225, b1]
    exact Is.mk _
  refine an ?_
  rcases bcase (!(p0.Field.toList == p1.Field.toList)) with b2 | b2
  · replace h := ite_t b2 h
    refine SW_ct (by simp +decide only [F, reduceIte, Nat.reduceAdd, b1, b2]) ?_
    refine sq ?_
    apply SW_run
    · simp +decide only [E, reduceIte, Nat.reduceAdd, Nat.reduceMul, L, b1, b2]
      exact Is.mk _
    refine an (rt ?_)
    cases h
    simp [Ret, b1, b2]
  replace h := ite_f b2 h
  refine SW_cf (by simp +decide only [F, reduceIte, Nat.reduceAdd, b1, b2]) ?_
  refine sk (an (sq ?_))
  apply SW_run
  · simp +decide only [E, reduceIte, Nat.reduceAdd, Nat.reduceMul, L, b1, b2]
    exact Is.mk _
  refine an (rt ?_)
  cases h
  simp [Ret, b1, b2]

set_option maxHeartbeats 4000000 in
theorem c_laws_eqIndexDefS (p0 : List M.IndexDef) (p1 : List M.IndexDef) (r : Bool) (h : m_laws_eqIndexDefS p0 p1 = some r) : SCalls Tryz.prog 208 [(false, [.sl (List.map M.IndexDef.en p0)]), (false, [.sl (List.map M.IndexDef.en p1)])] [(false, [.ro (.bool r)])] := by
  unfold m_laws_eqIndexDefS at h
  refine scalls_n (N := 27) (vars := [.tmp 4]) Tryz.func208 rfl rfl rfl (by decide +kernel) (Nat.le_of_ble_eq_true rfl) fun base wd => ?_
  refine sq ?_
  apply SW_run
  · simp +decide only [E, reduceIte, Nat.reduceAdd, Nat.reduceMul, L]
    exact Is.mk _
  refine an (sq (sq ?_))
  apply SW_run
  · simp +decide only [E, reduceIte, Nat.reduceAdd, Nat.reduceMul, L, ti53]
    exact Is.mk _
  refine an ?_
  rcases bcase ((List.length p0 : Int) != (List.length p1 : Int)) with b1 | b1
  · replace h := ite_t b1 h
    refine SW_ct (by simp +decide only [F, reduceIte, Nat.reduceAdd, b1]) ?_
    refine sq ?_
    apply SW_run
    · simp +decide only [E, reduceIte, Nat.reduceAdd, Nat.reduceMul, L, b1]
      exact Is.mk _
    refine an (rt ?_)
    cases h
    simp [Ret, b1]
  replace h := ite_f b1 h
  refine SW_cf (by simp +decide only [F, reduceIte, Nat.reduceAdd, b1]) ?_
  refine sk (an (sq (sq ?_)))
  apply SW_run
  · simp +decide only [E, reduceIte, Nat.reduceAdd, Nat.reduceMul, L, b1]
    exact Is.mk _
  refine an (bk ?_)
  refine SW_loop (fun m s => ∃ v5 : Int, s.t 0 = .v false [.dat (.sl (List.map M.IndexDef.en p0))] ∧ s.t 1 = .v false [.dat (.sl (List.map M.IndexDef.en p1))] ∧ s.t 5 = .v false [.dat (.int .i64 v5)] ∧ m_laws_eqIndexDefS_L1 p0 p1 m v5 = some r) fuel ?_ ?_
  · refine ⟨0, ?_, ?_, ?_, h⟩
    all_goals simp +decide only [F, reduceIte, Nat.reduceAdd, b1]
  rintro mL1 s2 ⟨v5, f3, f4, f5, h⟩
  rcases mL1 with _ | mL1
  · exact absurd h (by simp [m_laws_eqIndexDefS_L1])
  simp only [m_laws_eqIndexDefS_L1] at h
  refine sq (sq ?_)
  apply SW_run
  · simp +decide only [E, reduceIte, Nat.reduceAdd, Nat.reduceMul, L, ti53, b1, f3, f4, f5]
    exact Is.mk _
  refine an ?_
  rcases bcas (decide (v5 < (List.length p0 : Int))) with b6 | b6
  · replace h := ite_f b6 h
    refine SW_cf (by simp +decide only [F, reduceIte, Nat.reduceAdd, b1, f3, f4, f5, b6]) ?_
    refine xt (aft_cx (aft_ix (aft_x (an (sq ?_)))))
    apply SW_run
    · simp +decide only [E, reduceIte, Nat.reduceAdd, Nat.reduceMul, L, b1, f3, f4, f5, b6]
      exact Is.mk _
    refine an (rt ?_)
    cases h
    simp [Ret, b1, f3, f4, f5, b6]
  replace h := ite_t b6 h
  refine SW_ct (by simp +decide only [F, reduceIte, Nat.reduceAdd, b1, f3, f4, f5, b6]) ?_
  refine sk (an (sq (bk (sq ?_))))
  obtain ⟨x7, h8, h⟩ := bind_some h
  obtain ⟨q9, q10, q11⟩ := idx_some h8
  obtain ⟨x12, h13, h⟩ := bind_some h
  obtain ⟨q14, q15, q16⟩ := idx_some h13
  obtain ⟨x17, h18, h⟩ := bind_some h
  apply SW_runD mixed
  · simp +decide only [E, reduceIte, Nat.reduceAdd, Nat.reduceMul, L, ti53, ti225, M.IndexDef.en, b1, f3, f4, f5, b6, q9, q10, q11, q14, q15, q16]
    refine ⟨_, c_laws_eqIndexDef x7 x12 x17 h18, ?_⟩
    try simp +decide only [E, reduceIte, Nat.reduceAdd, Nat.reduceMul, L, ti53, ti225, M.IndexDef.en, b1, f3, f4, f5, b6, q9, q10, q11, q14, q15, q16]
    exact ⟨.mk (by decide +kernel), Is.mk _⟩
  refine an ?_
  rcases bcase (!x17) with b19 | b19
  · replace h := ite_t b19 h
    refine SW_ct (by simp +decide only [F, reduceIte, Nat.reduceAdd, b1, f3, f4, f5, b6, q9, q10, q11, q14, q15, q16, b19]) ?_
    refine sq ?_
    apply SW_run
    · simp +decide only [E, reduceIte, Nat.reduceAdd, Nat.reduceMul, L, b1, f3, f4, f5, b6, q9, q10, q11, q14, q15, q16, b19]
      exact Is.mk _
    refine an (rt ?_)
    cases h
    simp [Ret, b1, f3, f4, f5, b6, q9, q10, q11, q14, q15, q16, b19]
  replace h := ite_f b19 h
  refine SW_cf (by simp +decide only [F, reduceIte, Nat.reduceAdd, b1, f3, f4, f5, b6, q9, q10, q11, q14, q15, q16, b19]) ?_
  refine sk (ab (an ?_))
  apply SW_run
  · simp +decide only [E, reduceIte, Nat.reduceAdd, Nat.reduceMul, L, b1, f3, f4, f5, b6, q9, q10, q11, q14, q15, q16, b19]
    exact Is.mk _
  refine aft_i ⟨mL1, by omega, (IntKind.i64.wrap (v5 + 1)), ?_, ?_, ?_, h⟩
  all_goals simp +decide only [F, reduceIte, Nat.reduceAdd, b1, f3, f4, f5, b6, q9, q10, q11, q14, q15, q16, b19]

set_option maxHeartbeats 4000000 in
theorem c_laws_eqDatabase (p0 : M.Database) (p1 : M.Database) (r : Bool) (h : m_laws_eqDatabase p0 p1 = some r) : SCalls Tryz.prog 124 [(true, M.Database.en p0), (true, M.Database.en p1)] [(false, [.ro (.bool r)])] := by
  unfold m_laws_eqDatabase at h
  simp only [M.Database.en]
  refine scalls_n (N := 27) (vars := [.tmp 4]) Tryz.func124 rfl rfl rfl (by decide +kernel) (Nat.le_of_ble_eq_true rfl) fun base wd => ?_
  refine sq ?_
  apply SW_run
  · simp +decide only [E, reduceIte, Nat.reduceAdd, Nat.reduceMul, L]
    exact Is.mk _
  refine an (sq (sq ?_))
  apply SW_run
  · simp +decide only [E, reduceIte, Nat.reduceAdd, Nat.reduceMul, L, ti9, ti55]
    exact Is.mk _
  refine an ?_
  rcases bcase (!(p0.Name.toList == p1.Name.toList)) with b1 | b1
  · replace h := ite_t b1 h
    refine SW_ct (by simp +decide only [F, reduceIte, Nat.reduceAdd, b1]) ?_
    refine sq ?_
    apply SW_run
    · simp +decide only [E, reduceIte, Nat.reduceAdd, Nat.reduceMul, L, b1]
      exact Is.mk _
    refine an (rt ?_)
    cases h
    simp [Ret, b1]
  replace h := ite_f b1 h
  refine SW_cf (by simp +decide only [F, reduceIte, Nat.reduceAdd, b1]) ?_
  refine sk (an (sq (sq ?_)))
  apply SW_run
  · simp +decide only [E, reduceIte, Nat.reduceAdd, Nat.reduceMul, L, ti3, ti55, b1]
    exact Is.mk _
  refine an ?_
  rcases bcase (p0.Version != p1.Version) with b2 | b2
  · replace h := ite_t b2 h
    refine SW_ct (by simp +decide only [F, reduceIte, Nat.reduceAdd, b1, b2]) ?_
    refine sq ?_
    apply SW_run
    · simp +decide only [E, reduceIte, Nat.reduceAdd, Nat.reduceMul, L, b1, b2]
      exact Is.mk _
    refine an (rt ?_)
    cases h
    simp [Ret, b1, b2]
  replace h := ite_f b2 h
  refine SW_cf (by simp +decide only [F, reduceIte, Nat.reduceAdd, b1, b2]) ?_
  refine sk (an (sq (sq ?_)))
  obtain ⟨x3, h4, h⟩ := bind_some h
  apply SW_run
  · simp +decide only [E, reduceIte, Nat.reduceAdd, Nat.reduceMul, L, ti52, ti55, b1, b2]
    refine ⟨_, c_laws_eqStoreS p0.Stores p1.Stores x3 h4, ?_⟩
    try simp +decide only [E, reduceIte, Nat.reduceAdd, Nat.reduceMul, L, ti52, ti55, b1, b2]
    exact Is.mk _
  refine an ?_
  rcases bcase (!x3) with b5 | b5
  · replace h := ite_t b5 h
    refine SW_ct (by simp +decide only [F, reduceIte, Nat.reduceAdd, b1, b2, b5]) ?_
    refine sq ?_
    apply SW_run
    · simp +decide only [E, reduceIte, Nat.reduceAdd, Nat.reduceMul, L, b1, b2, b5]
      exact Is.mk _
    refine an (rt ?_)
    cases h
    simp [Ret, b1, b2, b5]
  replace h := ite_f b5 h
  refine SW_cf (by simp +decide only [F, reduceIte, Nat.reduceAdd, b1, b2, b5]) ?_
  refine sk (an (sq (sq ?_)))
  obtain ⟨x6, h7, h⟩ := bind_some h
  apply SW_run
  · simp +decide only [E, reduceIte, Nat.reduceAdd, Nat.reduceMul, L, ti53, ti55, b1, b2, b5]
    refine ⟨_, c_laws_eqIndexDefS p0.Unique p1.Unique x6 h7, ?_⟩
    try simp +decide only [E, reduceIte, Nat.reduceAdd, Nat.reduceMul, L, ti53, ti55, b1, b2, b5]
    exact Is.mk _
  refine an ?_
  rcases bcase (!x6) with b8 | b8
  · replace h := ite_t b8 h
    refine SW_ct (by simp +decide only [F, reduceIte, Nat.reduceAdd, b1, b2, b5, b8]) ?_
    refine sq ?_
    apply SW_run
    · simp +decide only [E, reduceIte, Nat.reduceAdd, Nat.reduceMul, L, b1, b2, b5, b8]
      exact Is.mk _
    refine an (rt ?_)
    cases h
    simp [Ret, b1, b2, b5, b8]
  replace h := ite_f b8 h
  refine SW_cf (by simp +decide only [F, reduceIte, Nat.reduceAdd, b1, b2, b5, b8]) ?_
  refine sk (an (sq ?_))
  apply SW_run
  · simp +decide only [E, reduceIte, Nat.reduceAdd, Nat.reduceMul, L, b1, b2, b5, b8]
    exact Is.mk _
  refine an (rt ?_)
  cases h
  simp [Ret, b1, b2, b5, b8]

set_option maxHeartbeats 4000000 in
theorem c_laws_eqDisk (p0 : M.Disk) (p1 : M.Disk) (r : Bool) (h : m_laws_eqDisk p0 p1 = some r) : SCalls Tryz.prog 53 [(true, M.Disk.en p0), (true, M.Disk.en p1)] [(false, [.ro (.bool r)])] := by
  unfold m_laws_eqDisk at h
  simp only [M.Disk.en]
  refine scalls_n (N := 22) (vars := [.tmp 4]) Tryz.func53 rfl rfl rfl (by decide +kernel) (Nat.le_of_ble_eq_true rfl) fun base wd => ?_
  refine sq ?_
  apply SW_run
  · simp +decide only [E, reduceIte, Nat.reduceAdd, Nat.reduceMul, L]
    exact Is.mk _
  refine an (sq (sq ?_))
  obtain ⟨x1, h2, h⟩ := bind_some h
  apply SW_run
  · simp +decide only [E, reduceIte, Nat.reduceAdd, Nat.reduceMul, L, ti55, ti57]
    refine ⟨_, c_laws_eqDatabase p0.Base p1.Base x1 h2, ?_⟩
    try simp +decide only [E, reduceIte, Nat.reduceAdd, Nat.reduceMul, L, ti55, ti57]
    exact Is.mk _
  refine an ?_
  rcases bcase (!x1) with b3 | b3
  · replace h := ite_t b3 h
    refine SW_ct (by simp +decide only [F, reduceIte, Nat.reduceAdd, b3]) ?_
    refine sq ?_
    apply SW_run
    · simp +decide only [E, reduceIte, Nat.reduceAdd, Nat.reduceMul, L, b3]
      exact Is.mk _
    refine an (rt ?_)
    cases h
    simp [Ret, b3]
  replace h := ite_f b3 h
  refine SW_cf (by simp +decide only [F, reduceIte, Nat.reduceAdd, b3]) ?_
  refine sk (an (sq (sq ?_)))
  obtain ⟨x4, h5, h⟩ := bind_some h
  apply SW_run
  · simp +decide only [E, reduceIte, Nat.reduceAdd, Nat.reduceMul, L, ti31, ti57, b3]
    refine ⟨_, c_laws_eqByteS p0.Log p1.Log x4 h5, ?_⟩
    try simp +decide only [E, reduceIte, Nat.reduceAdd, Nat.reduceMul, L, ti31, ti57, b3]
    exact Is.mk _
  refine an ?_
  rcases bcase (!x4) with b6 | b6
  · replace h := ite_t b6 h
    refine SW_ct (by simp +decide only [F, reduceIte, Nat.reduceAdd, b3, b6]) ?_
    refine sq ?_
    apply SW_run
    · simp +decide only [E, reduceIte, Nat.reduceAdd, Nat.reduceMul, L, b3, b6]
      exact Is.mk _
    refine an (rt ?_)
    cases h
    simp [Ret, b3, b6]
  replace h := ite_f b6 h
  refine SW_cf (by simp +decide only [F, reduceIte, Nat.reduceAdd, b3, b6]) ?_
  refine sk (an (sq (sq ?_)))
  apply SW_run
  · simp +decide only [E, reduceIte, Nat.reduceAdd, Nat.reduceMul, L, ti3, ti57, b3, b6]
    exact Is.mk _
  refine an ?_
  rcases bcase (p0.Count != p1.Count) with b7 | b7
  · replace h := ite_t b7 h
    refine SW_ct (by simp +decide only [F, reduceIte, Nat.reduceAdd, b3, b6, b7]) ?_
    refine sq ?_
    apply SW_run
    · simp +decide only [E, reduceIte, Nat.reduceAdd, Nat.reduceMul, L, b3, b6, b7]
      exact Is.mk _
    refine an (rt ?_)
    cases h
    simp [Ret, b3, b6, b7]
  replace h := ite_f b7 h
  refine SW_cf (by simp +decide only [F, reduceIte, Nat.reduceAdd, b3, b6, b7]) ?_
  refine sk (an (sq ?_))
  apply SW_run
  · simp +decide only [E, reduceIte, Nat.reduceAdd, Nat.reduceMul, L, b3, b6, b7]
    exact Is.mk _
  refine an (rt ?_)
  cases h
  simp [Ret, b3, b6, b7]

set_option maxHeartbeats 4000000 in
theorem c_laws_eqWrite (p0 : M.Write) (p1 : M.Write) (r : Bool) (h : m_laws_eqWrite p0 p1 = some r) : SCalls Tryz.prog 323 [(true, M.Write.en p0), (true, M.Write.en p1)] [(false, [.ro (.bool r)])] := by
  unfold m_laws_eqWrite at h
  simp only [M.Write.en]
  refine scalls_n (N := 31) (vars := [.tmp 4]) Tryz.func323 rfl rfl rfl (by decide +kernel) (Nat.le_of_ble_eq_true rfl) fun base wd => ?_
  refine sq ?_
  apply SW_run
  · simp +decide only [E, reduceIte, Nat.reduceAdd, Nat.reduceMul, L]
    exact Is.mk _
  refine an (sq (sq ?_))
  apply SW_run
  · simp +decide only [E, reduceIte, Nat.reduceAdd, Nat.reduceMul, L, ti3, ti285]
    exact Is.mk _
  refine an ?_
  rcases bcase (p0.Device != p1.Device) with b1 | b1
  · replace h := ite_t b1 h
    refine SW_ct (by simp +decide only [F, reduceIte, Nat.reduceAdd, b1]) ?_
    refine sq ?_
    apply SW_run
    · simp +decide only [E, reduceIte, Nat.reduceAdd, Nat.reduceMul, L, b1]
      exact Is.mk _
    refine an (rt ?_)
    cases h
    simp [Ret, b1]
  replace h := ite_f b1 h
  refine SW_cf (by simp +decide only [F, reduceIte, Nat.reduceAdd, b1]) ?_
  refine sk (an (sq (sq ?_)))
  apply SW_run
  · simp +decide only [E, reduceIte, Nat.reduceAdd, Nat.reduceMul, L, ti3, ti285, b1]
    exact Is.mk _
  refine an ?_
  rcases bcase (p0.Seq != p1.Seq) with b2 | b2
  · replace h := ite_t b2 h
    refine SW_ct (by simp +decide only [F, reduceIte, Nat.reduceAdd, b1, b2]) ?_
    refine sq ?_
    apply SW_run
    · simp +decide only [E, reduceIte, Nat.reduceAdd, Nat.reduceMul, L, b1, b2]
      exact Is.mk _
    refine an (rt ?_)
    cases h
    simp [Ret, b1, b2]
  replace h := ite_f b2 h
  refine SW_cf (by simp +decide only [F, reduceIte, Nat.reduceAdd, b1, b2]) ?_
  refine sk (an (sq (sq ?_)))
  obtain ⟨x3, h4, h⟩ := bind_some h
  apply SW_run
  · simp +decide only [E, reduceIte, Nat.reduceAdd, Nat.reduceMul, L, ti203, ti285, b1, b2]
    refine ⟨_, c_laws_eqKey p0.Key p1.Key x3 h4, ?_⟩
    try simp +decide only [E, reduceIte, Nat.reduceAdd, Nat.reduceMul, L, ti203, ti285, b1, b2]
    exact Is.mk _
  refine an ?_
  rcases bcase (!x3) with b5 | b5
  · replace h := ite_t b5 h
    refine SW_ct (by simp +decide only [F, reduceIte, Nat.reduceAdd, b1, b2, b5]) ?_
    refine sq ?_
    apply SW_run
    · simp +decide only [E, reduceIte, Nat.reduceAdd, Nat.reduceMul, L, b1, b2, b5]
      exact Is.mk _
    refine an (rt ?_)
    cases h
    simp [Ret, b1, b2, b5]
  replace h := ite_f b5 h
  refine SW_cf (by simp +decide only [F, reduceIte, Nat.reduceAdd, b1, b2, b5]) ?_
  refine sk (an (sq (sq ?_)))
  apply SW_run
  · simp +decide only [E, reduceIte, Nat.reduceAdd, Nat.reduceMul, L, ti9, ti285, b1, b2, b5]
    exact Is.mk _
  refine an ?_
  rcases bcase (!(p0.Field.toList == p1.Field.toList)) with b6 | b6
  · replace h := ite_t b6 h
    refine SW_ct (by simp +decide only [F, reduceIte, Nat.reduceAdd, b1, b2, b5, b6]) ?_
    refine sq ?_
    apply SW_run
    · simp +decide only [E, reduceIte, Nat.reduceAdd, Nat.reduceMul, L, b1, b2, b5, b6]
      exact Is.mk _
    refine an (rt ?_)
    cases h
    simp [Ret, b1, b2, b5, b6]
  replace h := ite_f b6 h
  refine SW_cf (by simp +decide only [F, reduceIte, Nat.reduceAdd, b1, b2, b5, b6]) ?_
  refine sk (an (sq (sq ?_)))
  apply SW_run
  · simp +decide only [E, reduceIte, Nat.reduceAdd, Nat.reduceMul, L, ti3, ti285, b1, b2, b5, b6]
    exact Is.mk _
  refine an ?_
  rcases bcase (p0.N != p1.N) with b7 | b7
  · replace h := ite_t b7 h
    refine SW_ct (by simp +decide only [F, reduceIte, Nat.reduceAdd, b1, b2, b5, b6, b7]) ?_
    refine sq ?_
    apply SW_run
    · simp +decide only [E, reduceIte, Nat.reduceAdd, Nat.reduceMul, L, b1, b2, b5, b6, b7]
      exact Is.mk _
    refine an (rt ?_)
    cases h
    simp [Ret, b1, b2, b5, b6, b7]
  replace h := ite_f b7 h
  refine SW_cf (by simp +decide only [F, reduceIte, Nat.reduceAdd, b1, b2, b5, b6, b7]) ?_
  refine sk (an (sq ?_))
  apply SW_run
  · simp +decide only [E, reduceIte, Nat.reduceAdd, Nat.reduceMul, L, b1, b2, b5, b6, b7]
    exact Is.mk _
  refine an (rt ?_)
  cases h
  simp [Ret, b1, b2, b5, b6, b7]

set_option maxHeartbeats 4000000 in
theorem c_laws_eqWriteS (p0 : List M.Write) (p1 : List M.Write) (r : Bool) (h : m_laws_eqWriteS p0 p1 = some r) : SCalls Tryz.prog 292 [(false, [.sl (List.map M.Write.en p0)]), (false, [.sl (List.map M.Write.en p1)])] [(false, [.ro (.bool r)])] := by
  unfold m_laws_eqWriteS at h
  refine scalls_n (N := 27) (vars := [.tmp 4]) Tryz.func292 rfl rfl rfl (by decide +kernel) (Nat.le_of_ble_eq_true rfl) fun base wd => ?_
  refine sq ?_
  apply SW_run
  · simp +decide only [E, reduceIte, Nat.reduceAdd, Nat.reduceMul, L]
    exact Is.mk _
  refine an (sq (sq ?_))
  apply SW_run
  · simp +decide only [E, reduceIte, Nat.reduceAdd, Nat.reduceMul, L, ti61]
    exact Is.mk _
  refine an ?_
  rcases bcase ((List.length p0 : Int) != (List.length p1 : Int)) with b1 | b1
  · replace h := ite_t b1 h
    refine SW_ct (by simp +decide only [F, reduceIte, Nat.reduceAdd, b1]) ?_
    refine sq ?_
    apply SW_run
    · simp +decide only [E, reduceIte, Nat.reduceAdd, Nat.reduceMul, L, b1]
      exact Is.mk _
    refine an (rt ?_)
    cases h
    simp [Ret, b1]
  replace h := ite_f b1 h
  refine SW_cf (by simp +decide only [F, reduceIte, Nat.reduceAdd, b1]) ?_
  refine sk (an (sq (sq ?_)))
  apply SW_run
  · simp +decide only [E, reduceIte, Nat.reduceAdd, Nat.reduceMul, L, b1]
    exact Is.mk _
  refine an (bk ?_)
  refine SW_loop (fun m s => ∃ v5 : Int, s.t 0 = .v false [.dat (.sl (List.map M.Write.en p0))] ∧ s.t 1 = .v false [.dat (.sl (List.map M.Write.en p1))] ∧ s.t 5 = .v false [.dat (.int .i64 v5)] ∧ m_laws_eqWriteS_L1 p0 p1 m v5 = some r) fuel ?_ ?_
  · refine ⟨0, ?_, ?_, ?_, h⟩
    all_goals simp +decide only [F, reduceIte, Nat.reduceAdd, b1]
  rintro mL1 s2 ⟨v5, f3, f4, f5, h⟩
  rcases mL1 with _ | mL1
  · exact absurd h (by simp [m_laws_eqWriteS_L1])
  simp only [m_laws_eqWriteS_L1] at h
  refine sq (sq ?_)
  apply SW_run
  · simp +decide only [E, reduceIte, Nat.reduceAdd, Nat.reduceMul, L, ti61, b1, f3, f4, f5]
    exact Is.mk _
  refine an ?_
  rcases bcas (decide (v5 < (List.length p0 : Int))) with b6 | b6
  · replace h := ite_f b6 h
    refine SW_cf (by simp +decide only [F, reduceIte, Nat.reduceAdd, b1, f3, f4, f5, b6]) ?_
    refine xt (aft_cx (aft_ix (aft_x (an (sq ?_)))))
    apply SW_run
    · simp +decide only [E, reduceIte, Nat.reduceAdd, Nat.reduceMul, L, b1, f3, f4, f5, b6]
      exact Is.mk _
    refine an (rt ?_)
    cases h
    simp [Ret, b1, f3, f4, f5, b6]
  replace h := ite_t b6 h
  refine SW_ct (by simp +decide only [F, reduceIte, Nat.reduceAdd, b1, f3, f4, f5, b6]) ?_
  refine sk (an (sq (bk (sq ?_))))
  obtain ⟨x7, h8, h⟩ := bind_some h
  obtain ⟨q9, q10, q11⟩ := idx_some h8
  obtain ⟨x12, h13, h⟩ := bind_some h
  obtain ⟨q14, q15, q16⟩ := idx_some h13
  obtain ⟨x17, h18, h⟩ := bind_some h
  apply SW_runD mixed
  · simp +decide only [E, reduceIte, Nat.reduceAdd, Nat.reduceMul, L, ti61, ti285, M.Write.en, b1, f3, f4, f5, b6, q9, q10, q11, q14, q15, q16]
    refine ⟨_, c_laws_eqWrite x7 x12 x17 h18, ?_⟩
    try simp +decide only [E, reduceIte, Nat.reduceAdd, Nat.reduceMul, L, ti61, ti285, M.Write.en, b1, f3, f4, f5, b6, q9, q10, q11, q14, q15, q16]
    exact ⟨.mk (by decide +kernel), Is.mk _⟩
  refine an ?_
  rcases bcase (!x17) with b19 | b19
  · replace h := ite_t b19 h
    refine SW_ct (by simp +decide only [F, reduceIte, Nat.reduceAdd, b1, f3, f4, f5, b6, q9, q10, q11, q14, q15, q16, b19]) ?_
    refine sq ?_
    apply SW_run
    · simp +decide only [E, reduceIte, Nat.reduceAdd, Nat.reduceMul, L, b1, f3, f4, f5, b6, q9, q10, q11, q14, q15, q16, b19]
      exact Is.mk _
    refine an (rt ?_)
    cases h
    simp [Ret, b1, f3, f4, f5, b6, q9, q10, q11, q14, q15, q16, b19]
  replace h := ite_f b19 h
  refine SW_cf (by simp +decide only [F, reduceIte, Nat.reduceAdd, b1, f3, f4, f5, b6, q9, q10, q11, q14, q15, q16, b19]) ?_
  refine sk (ab (an ?_))
  apply SW_run
  · simp +decide only [E, reduceIte, Nat.reduceAdd, Nat.reduceMul, L, b1, f3, f4, f5, b6, q9, q10, q11, q14, q15, q16, b19]
    exact Is.mk _
  refine aft_i ⟨mL1, by omega, (IntKind.i64.wrap (v5 + 1)), ?_, ?_, ?_, h⟩
  all_goals simp +decide only [F, reduceIte, Nat.reduceAdd, b1, f3, f4, f5, b6, q9, q10, q11, q14, q15, q16, b19]

set_option maxHeartbeats 4000000 in
theorem c_laws_eqOutbox (p0 : M.Outbox) (p1 : M.Outbox) (r : Bool) (h : m_laws_eqOutbox p0 p1 = some r) : SCalls Tryz.prog 231 [(true, M.Outbox.en p0), (true, M.Outbox.en p1)] [(false, [.ro (.bool r)])] := by
  unfold m_laws_eqOutbox at h
  simp only [M.Outbox.en]
  refine scalls_n (N := 21) (vars := [.tmp 4]) Tryz.func231 rfl rfl rfl (by decide +kernel) (Nat.le_of_ble_eq_true rfl) fun base wd => ?_
  refine sq ?_
  apply SW_run
  · simp +decide only [E, reduceIte, Nat.reduceAdd, Nat.reduceMul, L]
    exact Is.mk _
  refine an (sq (sq ?_))
  apply SW_run
  · simp +decide only [E, reduceIte, Nat.reduceAdd, Nat.reduceMul, L, ti3, ti63]
    exact Is.mk _
  refine an ?_
  rcases bcase (p0.Device != p1.Device) with b1 | b1
  · replace h := ite_t b1 h
    refine SW_ct (by simp +decide only [F, reduceIte, Nat.reduceAdd, b1]) ?_
    refine sq ?_
    apply SW_run
    · simp +decide only [E, reduceIte, Nat.reduceAdd, Nat.reduceMul, L, b1]
      exact Is.mk _
    refine an (rt ?_)
    cases h
    simp [Ret, b1]
  replace h := ite_f b1 h
  refine SW_cf (by simp +decide only [F, reduceIte, Nat.reduceAdd, b1]) ?_
  refine sk (an (sq (sq ?_)))
  apply SW_run
  · simp +decide only [E, reduceIte, Nat.reduceAdd, Nat.reduceMul, L, ti3, ti63, b1]
    exact Is.mk _
  refine an ?_
  rcases bcase (p0.Next != p1.Next) with b2 | b2
  · replace h := ite_t b2 h
    refine SW_ct (by simp +decide only [F, reduceIte, Nat.reduceAdd, b1, b2]) ?_
    refine sq ?_
    apply SW_run
    · simp +decide only [E, reduceIte, Nat.reduceAdd, Nat.reduceMul, L, b1, b2]
      exact Is.mk _
    refine an (rt ?_)
    cases h
    simp [Ret, b1, b2]
  replace h := ite_f b2 h
  refine SW_cf (by simp +decide only [F, reduceIte, Nat.reduceAdd, b1, b2]) ?_
  refine sk (an (sq (sq ?_)))
  obtain ⟨x3, h4, h⟩ := bind_some h
  apply SW_run
  · simp +decide only [E, reduceIte, Nat.reduceAdd, Nat.reduceMul, L, ti61, ti63, b1, b2]
    refine ⟨_, c_laws_eqWriteS p0.Writes p1.Writes x3 h4, ?_⟩
    try simp +decide only [E, reduceIte, Nat.reduceAdd, Nat.reduceMul, L, ti61, ti63, b1, b2]
    exact Is.mk _
  refine an ?_
  rcases bcase (!x3) with b5 | b5
  · replace h := ite_t b5 h
    refine SW_ct (by simp +decide only [F, reduceIte, Nat.reduceAdd, b1, b2, b5]) ?_
    refine sq ?_
    apply SW_run
    · simp +decide only [E, reduceIte, Nat.reduceAdd, Nat.reduceMul, L, b1, b2, b5]
      exact Is.mk _
    refine an (rt ?_)
    cases h
    simp [Ret, b1, b2, b5]
  replace h := ite_f b5 h
  refine SW_cf (by simp +decide only [F, reduceIte, Nat.reduceAdd, b1, b2, b5]) ?_
  refine sk (an (sq ?_))
  apply SW_run
  · simp +decide only [E, reduceIte, Nat.reduceAdd, Nat.reduceMul, L, b1, b2, b5]
    exact Is.mk _
  refine an (rt ?_)
  cases h
  simp [Ret, b1, b2, b5]

set_option maxHeartbeats 4000000 in
theorem c_laws_eqSync (p0 : M.Sync) (p1 : M.Sync) (r : Bool) (h : m_laws_eqSync p0 p1 = some r) : SCalls Tryz.prog 152 [(true, M.Sync.en p0), (true, M.Sync.en p1)] [(false, [.ro (.bool r)])] := by
  unfold m_laws_eqSync at h
  simp only [M.Sync.en]
  refine scalls_n (N := 21) (vars := [.tmp 4]) Tryz.func152 rfl rfl rfl (by decide +kernel) (Nat.le_of_ble_eq_true rfl) fun base wd => ?_
  refine sq ?_
  apply SW_run
  · simp +decide only [E, reduceIte, Nat.reduceAdd, Nat.reduceMul, L]
    exact Is.mk _
  refine an (sq (sq ?_))
  obtain ⟨x1, h2, h⟩ := bind_some h
  apply SW_run
  · simp +decide only [E, reduceIte, Nat.reduceAdd, Nat.reduceMul, L, ti63, ti65]
    refine ⟨_, c_laws_eqOutbox p0.Outbox p1.Outbox x1 h2, ?_⟩
    try simp +decide only [E, reduceIte, Nat.reduceAdd, Nat.reduceMul, L, ti63, ti65]
    exact Is.mk _
  refine an ?_
  rcases bcase (!x1) with b3 | b3
  · replace h := ite_t b3 h
    refine SW_ct (by simp +decide only [F, reduceIte, Nat.reduceAdd, b3]) ?_
    refine sq ?_
    apply SW_run
    · simp +decide only [E, reduceIte, Nat.reduceAdd, Nat.reduceMul, L, b3]
      exact Is.mk _
    refine an (rt ?_)
    cases h
    simp [Ret, b3]
  replace h := ite_f b3 h
  refine SW_cf (by simp +decide only [F, reduceIte, Nat.reduceAdd, b3]) ?_
  refine sk (an (sq (sq ?_)))
  apply SW_run
  · simp +decide only [E, reduceIte, Nat.reduceAdd, Nat.reduceMul, L, ti3, ti65, b3]
    exact Is.mk _
  refine an ?_
  rcases bcase (p0.Tries != p1.Tries) with b4 | b4
  · replace h := ite_t b4 h
    refine SW_ct (by simp +decide only [F, reduceIte, Nat.reduceAdd, b3, b4]) ?_
    refine sq ?_
    apply SW_run
    · simp +decide only [E, reduceIte, Nat.reduceAdd, Nat.reduceMul, L, b3, b4]
      exact Is.mk _
    refine an (rt ?_)
    cases h
    simp [Ret, b3, b4]
  replace h := ite_f b4 h
  refine SW_cf (by simp +decide only [F, reduceIte, Nat.reduceAdd, b3, b4]) ?_
  refine sk (an (sq (sq ?_)))
  apply SW_run
  · simp +decide only [E, reduceIte, Nat.reduceAdd, Nat.reduceMul, L, ti3, ti65, b3, b4]
    exact Is.mk _
  refine an ?_
  rcases bcase (p0.WaitUntil != p1.WaitUntil) with b5 | b5
  · replace h := ite_t b5 h
    refine SW_ct (by simp +decide only [F, reduceIte, Nat.reduceAdd, b3, b4, b5]) ?_
    refine sq ?_
    apply SW_run
    · simp +decide only [E, reduceIte, Nat.reduceAdd, Nat.reduceMul, L, b3, b4, b5]
      exact Is.mk _
    refine an (rt ?_)
    cases h
    simp [Ret, b3, b4, b5]
  replace h := ite_f b5 h
  refine SW_cf (by simp +decide only [F, reduceIte, Nat.reduceAdd, b3, b4, b5]) ?_
  refine sk (an (sq ?_))
  apply SW_run
  · simp +decide only [E, reduceIte, Nat.reduceAdd, Nat.reduceMul, L, b3, b4, b5]
    exact Is.mk _
  refine an (rt ?_)
  cases h
  simp [Ret, b3, b4, b5]

set_option maxHeartbeats 4000000 in
theorem c_laws_eqReplica (p0 : M.Replica) (p1 : M.Replica) (r : Bool) (h : m_laws_eqReplica p0 p1 = some r) : SCalls Tryz.prog 71 [(true, M.Replica.en p0), (true, M.Replica.en p1)] [(false, [.ro (.bool r)])] := by
  unfold m_laws_eqReplica at h
  simp only [M.Replica.en]
  refine scalls_n (N := 22) (vars := [.tmp 4]) Tryz.func71 rfl rfl rfl (by decide +kernel) (Nat.le_of_ble_eq_true rfl) fun base wd => ?_
  refine sq ?_
  apply SW_run
  · simp +decide only [E, reduceIte, Nat.reduceAdd, Nat.reduceMul, L]
    exact Is.mk _
  refine an (sq (sq ?_))
  obtain ⟨x1, h2, h⟩ := bind_some h
  apply SW_run
  · simp +decide only [E, reduceIte, Nat.reduceAdd, Nat.reduceMul, L, ti60, ti67]
    refine ⟨_, c_laws_eqStore p0.Base p1.Base x1 h2, ?_⟩
    try simp +decide only [E, reduceIte, Nat.reduceAdd, Nat.reduceMul, L, ti60, ti67]
    exact Is.mk _
  refine an ?_
  rcases bcase (!x1) with b3 | b3
  · replace h := ite_t b3 h
    refine SW_ct (by simp +decide only [F, reduceIte, Nat.reduceAdd, b3]) ?_
    refine sq ?_
    apply SW_run
    · simp +decide only [E, reduceIte, Nat.reduceAdd, Nat.reduceMul, L, b3]
      exact Is.mk _
    refine an (rt ?_)
    cases h
    simp [Ret, b3]
  replace h := ite_f b3 h
  refine SW_cf (by simp +decide only [F, reduceIte, Nat.reduceAdd, b3]) ?_
  refine sk (an (sq (sq ?_)))
  apply SW_run
  · simp +decide only [E, reduceIte, Nat.reduceAdd, Nat.reduceMul, L, ti3, ti67, b3]
    exact Is.mk _
  refine an ?_
  rcases bcase (p0.Seen != p1.Seen) with b4 | b4
  · replace h := ite_t b4 h
    refine SW_ct (by simp +decide only [F, reduceIte, Nat.reduceAdd, b3, b4]) ?_
    refine sq ?_
    apply SW_run
    · simp +decide only [E, reduceIte, Nat.reduceAdd, Nat.reduceMul, L, b3, b4]
      exact Is.mk _
    refine an (rt ?_)
    cases h
    simp [Ret, b3, b4]
  replace h := ite_f b4 h
  refine SW_cf (by simp +decide only [F, reduceIte, Nat.reduceAdd, b3, b4]) ?_
  refine sk (an (sq (sq ?_)))
  obtain ⟨x5, h6, h⟩ := bind_some h
  apply SW_run
  · simp +decide only [E, reduceIte, Nat.reduceAdd, Nat.reduceMul, L, ti65, ti67, b3, b4]
    refine ⟨_, c_laws_eqSync p0.Sync p1.Sync x5 h6, ?_⟩
    try simp +decide only [E, reduceIte, Nat.reduceAdd, Nat.reduceMul, L, ti65, ti67, b3, b4]
    exact Is.mk _
  refine an ?_
  rcases bcase (!x5) with b7 | b7
  · replace h := ite_t b7 h
    refine SW_ct (by simp +decide only [F, reduceIte, Nat.reduceAdd, b3, b4, b7]) ?_
    refine sq ?_
    apply SW_run
    · simp +decide only [E, reduceIte, Nat.reduceAdd, Nat.reduceMul, L, b3, b4, b7]
      exact Is.mk _
    refine an (rt ?_)
    cases h
    simp [Ret, b3, b4, b7]
  replace h := ite_f b7 h
  refine SW_cf (by simp +decide only [F, reduceIte, Nat.reduceAdd, b3, b4, b7]) ?_
  refine sk (an (sq ?_))
  apply SW_run
  · simp +decide only [E, reduceIte, Nat.reduceAdd, Nat.reduceMul, L, b3, b4, b7]
    exact Is.mk _
  refine an (rt ?_)
  cases h
  simp [Ret, b3, b4, b7]

set_option maxHeartbeats 4000000 in
theorem c_laws_eqBucket (p0 : M.Bucket) (p1 : M.Bucket) (r : Bool) (h : m_laws_eqBucket p0 p1 = some r) : SCalls Tryz.prog 18 [(true, M.Bucket.en p0), (true, M.Bucket.en p1)] [(false, [.ro (.bool r)])] := by
  unfold m_laws_eqBucket at h
  simp only [M.Bucket.en]
  refine scalls_n (N := 49) (vars := [.tmp 4]) Tryz.func18 rfl rfl rfl (by decide +kernel) (Nat.le_of_ble_eq_true rfl) fun base wd => ?_
  refine sq ?_
  apply SW_run
  · simp +decide only [E, reduceIte, Nat.reduceAdd, Nat.reduceMul, L]
    exact Is.mk _
  refine an (sq (sq ?_))
  apply SW_run
  · simp +decide only [E, reduceIte, Nat.reduceAdd, Nat.reduceMul, L, ti9, ti69]
    exact Is.mk _
  refine an ?_
  rcases bcase (!(p0.Site.toList == p1.Site.toList)) with b1 | b1
  · replace h := ite_t b1 h
    refine SW_ct (by simp +decide only [F, reduceIte, Nat.reduceAdd, b1]) ?_
    refine sq ?_
    apply SW_run
    · simp +decide only [E, reduceIte, Nat.reduceAdd, Nat.reduceMul, L, b1]
      exact Is.mk _
    refine an (rt ?_)
    cases h
    simp [Ret, b1]
  replace h := ite_f b1 h
  refine SW_cf (by simp +decide only [F, reduceIte, Nat.reduceAdd, b1]) ?_
  refine sk (an (sq (sq ?_)))
  apply SW_run
  · simp +decide only [E, reduceIte, Nat.reduceAdd, Nat.reduceMul, L, ti9, ti69, b1]
    exact Is.mk _
  refine an ?_
  rcases bcase (!(p0.Top.toList == p1.Top.toList)) with b2 | b2
  · replace h := ite_t b2 h
    refine SW_ct (by simp +decide only [F, reduceIte, Nat.reduceAdd, b1, b2]) ?_
    refine sq ?_
    apply SW_run
    · simp +decide only [E, reduceIte, Nat.reduceAdd, Nat.reduceMul, L, b1, b2]
      exact Is.mk _
    refine an (rt ?_)
    cases h
    simp [Ret, b1, b2]
  replace h := ite_f b2 h
  refine SW_cf (by simp +decide only [F, reduceIte, Nat.reduceAdd, b1, b2]) ?_
  refine sk (an (sq (sq ?_)))
  obtain ⟨x3, h4, h⟩ := bind_some h
  apply SW_run
  · simp +decide only [E, reduceIte, Nat.reduceAdd, Nat.reduceMul, L, ti48, ti69, b1, b2]
    refine ⟨_, c_laws_eqRegistration p0.Registration p1.Registration x3 h4, ?_⟩
    try simp +decide only [E, reduceIte, Nat.reduceAdd, Nat.reduceMul, L, ti48, ti69, b1, b2]
    exact Is.mk _
  refine an ?_
  rcases bcase (!x3) with b5 | b5
  · replace h := ite_t b5 h
    refine SW_ct (by simp +decide only [F, reduceIte, Nat.reduceAdd, b1, b2, b5]) ?_
    refine sq ?_
    apply SW_run
    · simp +decide only [E, reduceIte, Nat.reduceAdd, Nat.reduceMul, L, b1, b2, b5]
      exact Is.mk _
    refine an (rt ?_)
    cases h
    simp [Ret, b1, b2, b5]
  replace h := ite_f b5 h
  refine SW_cf (by simp +decide only [F, reduceIte, Nat.reduceAdd, b1, b2, b5]) ?_
  refine sk (an (sq (sq ?_)))
  obtain ⟨x6, h7, h⟩ := bind_some h
  apply SW_run
  · simp +decide only [E, reduceIte, Nat.reduceAdd, Nat.reduceMul, L, ti51, ti69, b1, b2, b5]
    refine ⟨_, c_laws_eqCacheSet p0.Caches p1.Caches x6 h7, ?_⟩
    try simp +decide only [E, reduceIte, Nat.reduceAdd, Nat.reduceMul, L, ti51, ti69, b1, b2, b5]
    exact Is.mk _
  refine an ?_
  rcases bcase (!x6) with b8 | b8
  · replace h := ite_t b8 h
    refine SW_ct (by simp +decide only [F, reduceIte, Nat.reduceAdd, b1, b2, b5, b8]) ?_
    refine sq ?_
    apply SW_run
    · simp +decide only [E, reduceIte, Nat.reduceAdd, Nat.reduceMul, L, b1, b2, b5, b8]
      exact Is.mk _
    refine an (rt ?_)
    cases h
    simp [Ret, b1, b2, b5, b8]
  replace h := ite_f b8 h
  refine SW_cf (by simp +decide only [F, reduceIte, Nat.reduceAdd, b1, b2, b5, b8]) ?_
  refine sk (an (sq (sq ?_)))
  obtain ⟨x9, h10, h⟩ := bind_some h
  apply SW_run
  · simp +decide only [E, reduceIte, Nat.reduceAdd, Nat.reduceMul, L, ti57, ti69, b1, b2, b5, b8]
    refine ⟨_, c_laws_eqDisk p0.Disk p1.Disk x9 h10, ?_⟩
    try simp +decide only [E, reduceIte, Nat.reduceAdd, Nat.reduceMul, L, ti57, ti69, b1, b2, b5, b8]
    exact Is.mk _
  refine an ?_
  rcases bcase (!x9) with b11 | b11
  · replace h := ite_t b11 h
    refine SW_ct (by simp +decide only [F, reduceIte, Nat.reduceAdd, b1, b2, b5, b8, b11]) ?_
    refine sq ?_
    apply SW_run
    · simp +decide only [E, reduceIte, Nat.reduceAdd, Nat.reduceMul, L, b1, b2, b5, b8, b11]
      exact Is.mk _
    refine an (rt ?_)
    cases h
    simp [Ret, b1, b2, b5, b8, b11]
  replace h := ite_f b11 h
  refine SW_cf (by simp +decide only [F, reduceIte, Nat.reduceAdd, b1, b2, b5, b8, b11]) ?_
  refine sk (an (sq (sq ?_)))
  obtain ⟨x12, h13, h⟩ := bind_some h
  apply SW_run
  · simp +decide only [E, reduceIte, Nat.reduceAdd, Nat.reduceMul, L, ti67, ti69, b1, b2, b5, b8, b11]
    refine ⟨_, c_laws_eqReplica p0.Replica p1.Replica x12 h13, ?_⟩
    try simp +decide only [E, reduceIte, Nat.reduceAdd, Nat.reduceMul, L, ti67, ti69, b1, b2, b5, b8, b11]
    exact Is.mk _
  refine an ?_
  rcases bcase (!x12) with b14 | b14
  · replace h := ite_t b14 h
    refine SW_ct (by simp +decide only [F, reduceIte, Nat.reduceAdd, b1, b2, b5, b8, b11, b14]) ?_
    refine sq ?_
    apply SW_run
    · simp +decide only [E, reduceIte, Nat.reduceAdd, Nat.reduceMul, L, b1, b2, b5, b8, b11, b14]
      exact Is.mk _
    refine an (rt ?_)
    cases h
    simp [Ret, b1, b2, b5, b8, b11, b14]
  replace h := ite_f b14 h
  refine SW_cf (by simp +decide only [F, reduceIte, Nat.reduceAdd, b1, b2, b5, b8, b11, b14]) ?_
  refine sk (an (sq (sq ?_)))
  apply SW_run
  · simp +decide only [E, reduceIte, Nat.reduceAdd, Nat.reduceMul, L, ti3, ti69, b1, b2, b5, b8, b11, b14]
    exact Is.mk _
  refine an ?_
  rcases bcase (p0.LastUsed != p1.LastUsed) with b15 | b15
  · replace h := ite_t b15 h
    refine SW_ct (by simp +decide only [F, reduceIte, Nat.reduceAdd, b1, b2, b5, b8, b11, b14, b15]) ?_
    refine sq ?_
    apply SW_run
    · simp +decide only [E, reduceIte, Nat.reduceAdd, Nat.reduceMul, L, b1, b2, b5, b8, b11, b14, b15]
      exact Is.mk _
    refine an (rt ?_)
    cases h
    simp [Ret, b1, b2, b5, b8, b11, b14, b15]
  replace h := ite_f b15 h
  refine SW_cf (by simp +decide only [F, reduceIte, Nat.reduceAdd, b1, b2, b5, b8, b11, b14, b15]) ?_
  refine sk (an (sq (sq ?_)))
  apply SW_run
  · simp +decide only [E, reduceIte, Nat.reduceAdd, Nat.reduceMul, L, ti4, ti69, b1, b2, b5, b8, b11, b14, b15]
    exact Is.mk _
  refine an ?_
  rcases bcase (!(p0.Persistent == p1.Persistent)) with b16 | b16
  · replace h := ite_t b16 h
    refine SW_ct (by simp +decide only [F, reduceIte, Nat.reduceAdd, b1, b2, b5, b8, b11, b14, b15, b16]) ?_
    refine sq ?_
    apply SW_run
    · simp +decide only [E, reduceIte, Nat.reduceAdd, Nat.reduceMul, L, b1, b2, b5, b8, b11, b14, b15, b16]
      exact Is.mk _
    refine an (rt ?_)
    cases h
    simp [Ret, b1, b2, b5, b8, b11, b14, b15, b16]
  replace h := ite_f b16 h
  refine SW_cf (by simp +decide only [F, reduceIte, Nat.reduceAdd, b1, b2, b5, b8, b11, b14, b15, b16]) ?_
  refine sk (an (sq ?_))
  apply SW_run
  · simp +decide only [E, reduceIte, Nat.reduceAdd, Nat.reduceMul, L, b1, b2, b5, b8, b11, b14, b15, b16]
    exact Is.mk _
  refine an (rt ?_)
  cases h
  simp [Ret, b1, b2, b5, b8, b11, b14, b15, b16]

end Go.Proofs.YtgpiencmneiblaaGreat.gen
