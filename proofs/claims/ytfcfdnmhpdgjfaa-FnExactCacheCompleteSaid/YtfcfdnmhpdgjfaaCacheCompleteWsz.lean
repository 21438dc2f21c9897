/-
  Helper text: walks: each function's contract out of its model. No conditions beyond those of each contract.
-/
import Derived.Test.YtfcfdnmhpdgjfaaCacheCompleteTi
namespace Go.Proofs.Ytfcfdnmhpdgjfaa.gen
open Go Go.Sh
set_option linter.unusedVariables false
set_option linter.unusedSimpArgs false
set_option maxHeartbeats 4000000 in
theorem c_laws_szByteS (p0 : List Int) (p1 : Int) (r : Int) (h : m_laws_szByteS p0 p1 = some r) : SCalls Try.prog 158 [(false, [.sl (List.map enB p0)]), (false, [.int .i64 p1])] [(false, [.ro (.int .i64 r)])] := by
  unfold m_laws_szByteS at h
  refine scalls_n (N := 12) (vars := [.tmp 4]) Try.func158 rfl rfl rfl (by decide +kernel) (Nat.le_of_ble_eq_true rfl) fun base wd => ?_
  refine sq ?_
  apply SW_run
  · simp +decide only [E, reduceIte, Nat.reduceAdd, Nat.reduceMul, Bool.not_true, Bool.not_false, L]
    exact Is.mk _
  refine an (sq ?_)
  apply SW_run
  · simp +decide only [E, reduceIte, Nat.reduceAdd, Nat.reduceMul, Bool.not_true, Bool.not_false, L, ti57]
    exact Is.mk _
  refine an (sq (sq ?_))
  apply SW_run
  · simp +decide only [E, reduceIte, Nat.reduceAdd, Nat.reduceMul, Bool.not_true, Bool.not_false, L]
    exact Is.mk _
  refine an ?_
  rcases bcase (decide ((IntKind.i64.wrap (p1 - (List.length p0 : Int))) < 0)) with b1 | b1
  · replace h := ite_t b1 h
    refine SW_ct (by simp +decide only [F, reduceIte, Nat.reduceAdd, Bool.not_true, Bool.not_false, b1]) ?_
    refine sq ?_
    apply SW_run
    · simp +decide only [E, reduceIte, Nat.reduceAdd, Nat.reduceMul, Bool.not_true, Bool.not_false, L, b1]
      exact Is.mk _
    refine an (rt ?_)
    cases h
    simp [Ret, b1]
  replace h := ite_f b1 h
  refine SW_cf (by simp +decide only [F, reduceIte, Nat.reduceAdd, Bool.not_true, Bool.not_false, b1]) ?_
  refine sk (an (sq ?_))
  apply SW_run
  · simp +decide only [E, reduceIte, Nat.reduceAdd, Nat.reduceMul, Bool.not_true, Bool.not_false, L, b1]
    exact Is.mk _
  refine an (rt ?_)
  cases h
  simp [Ret, b1]

set_option maxHeartbeats 4000000 in
theorem c_laws_szResponse (p0 : M.Response) (p1 : Int) (r : Int) (h : m_laws_szResponse p0 p1 = some r) : SCalls Try.prog 153 [(true, M.Response.en p0), (false, [.int .i64 p1])] [(false, [.ro (.int .i64 r)])] := by
  unfold m_laws_szResponse at h
  simp only [M.Response.en]
  refine scalls_n (N := 12) (vars := [.tmp 4]) Try.func153 rfl rfl rfl (by decide +kernel) (Nat.le_of_ble_eq_true rfl) fun base wd => ?_
  refine sq ?_
  apply SW_run
  · simp +decide only [E, reduceIte, Nat.reduceAdd, Nat.reduceMul, Bool.not_true, Bool.not_false, L]
    exact Is.mk _
  refine an (sq ?_)
  obtain ⟨x1, h2, h⟩ := bind_some h
  apply SW_run
  · simp +decide only [E, reduceIte, Nat.reduceAdd, Nat.reduceMul, Bool.not_true, Bool.not_false, L, ti57, ti194]
    refine ⟨_, c_laws_szByteS p0.Body p1 x1 h2, ?_⟩
    try simp +decide only [E, reduceIte, Nat.reduceAdd, Nat.reduceMul, Bool.not_true, Bool.not_false, L, ti57, ti194]
    exact Is.mk _
  refine an (sq (sq ?_))
  apply SW_run
  · simp +decide only [E, reduceIte, Nat.reduceAdd, Nat.reduceMul, Bool.not_true, Bool.not_false, L]
    exact Is.mk _
  refine an ?_
  rcases bcase (decide (x1 < 0)) with b3 | b3
  · replace h := ite_t b3 h
    refine SW_ct (by simp +decide only [F, reduceIte, Nat.reduceAdd, Bool.not_true, Bool.not_false, b3]) ?_
    refine sq ?_
    apply SW_run
    · simp +decide only [E, reduceIte, Nat.reduceAdd, Nat.reduceMul, Bool.not_true, Bool.not_false, L, b3]
      exact Is.mk _
    refine an (rt ?_)
    cases h
    simp [Ret, b3]
  replace h := ite_f b3 h
  refine SW_cf (by simp +decide only [F, reduceIte, Nat.reduceAdd, Bool.not_true, Bool.not_false, b3]) ?_
  refine sk (an (sq ?_))
  apply SW_run
  · simp +decide only [E, reduceIte, Nat.reduceAdd, Nat.reduceMul, Bool.not_true, Bool.not_false, L, b3]
    exact Is.mk _
  refine an (rt ?_)
  cases h
  simp [Ret, b3]

set_option maxHeartbeats 4000000 in
theorem c_laws_szCached (p0 : M.Cached) (p1 : Int) (r : Int) (h : m_laws_szCached p0 p1 = some r) : SCalls Try.prog 142 [(true, M.Cached.en p0), (false, [.int .i64 p1])] [(false, [.ro (.int .i64 r)])] := by
  unfold m_laws_szCached at h
  simp only [M.Cached.en]
  refine scalls_n (N := 26) (vars := [.tmp 4]) Try.func142 rfl rfl rfl (by decide +kernel) (Nat.le_of_ble_eq_true rfl) fun base wd => ?_
  refine sq ?_
  apply SW_run
  · simp +decide only [E, reduceIte, Nat.reduceAdd, Nat.reduceMul, Bool.not_true, Bool.not_false, L]
    exact Is.mk _
  refine an (sq ?_)
  apply SW_run
  · simp +decide only [E, reduceIte, Nat.reduceAdd, Nat.reduceMul, Bool.not_true, Bool.not_false, L, ti9, ti196]
    exact Is.mk _
  refine an (sq (sq ?_))
  apply SW_run
  · simp +decide only [E, reduceIte, Nat.reduceAdd, Nat.reduceMul, Bool.not_true, Bool.not_false, L]
    exact Is.mk _
  refine an ?_
  rcases bcase (decide ((IntKind.i64.wrap (p1 - (p0.Site.size : Int))) < 0)) with b1 | b1
  · replace h := ite_t b1 h
    refine SW_ct (by simp +decide only [F, reduceIte, Nat.reduceAdd, Bool.not_true, Bool.not_false, b1]) ?_
    refine sq ?_
    apply SW_run
    · simp +decide only [E, reduceIte, Nat.reduceAdd, Nat.reduceMul, Bool.not_true, Bool.not_false, L, b1]
      exact Is.mk _
    refine an (rt ?_)
    cases h
    simp [Ret, b1]
  replace h := ite_f b1 h
  refine SW_cf (by simp +decide only [F, reduceIte, Nat.reduceAdd, Bool.not_true, Bool.not_false, b1]) ?_
  refine sk (an (sq ?_))
  apply SW_run
  · simp +decide only [E, reduceIte, Nat.reduceAdd, Nat.reduceMul, Bool.not_true, Bool.not_false, L, ti9, ti196, b1]
    exact Is.mk _
  refine an (sq (sq ?_))
  apply SW_run
  · simp +decide only [E, reduceIte, Nat.reduceAdd, Nat.reduceMul, Bool.not_true, Bool.not_false, L, b1]
    exact Is.mk _
  refine an ?_
  rcases bcase (decide ((IntKind.i64.wrap ((IntKind.i64.wrap (p1 - (p0.Site.size : Int))) - (p0.Path.size : Int))) < 0)) with b2 | b2
  · replace h := ite_t b2 h
    refine SW_ct (by simp +decide only [F, reduceIte, Nat.reduceAdd, Bool.not_true, Bool.not_false, b1, b2]) ?_
    refine sq ?_
    apply SW_run
    · simp +decide only [E, reduceIte, Nat.reduceAdd, Nat.reduceMul, Bool.not_true, Bool.not_false, L, b1, b2]
      exact Is.mk _
    refine an (rt ?_)
    cases h
    simp [Ret, b1, b2]
  replace h := ite_f b2 h
  refine SW_cf (by simp +decide only [F, reduceIte, Nat.reduceAdd, Bool.not_true, Bool.not_false, b1, b2]) ?_
  refine sk (an (sq ?_))
  obtain ⟨x3, h4, h⟩ := bind_some h
  apply SW_run
  · simp +decide only [E, reduceIte, Nat.reduceAdd, Nat.reduceMul, Bool.not_true, Bool.not_false, L, ti194, ti196, b1, b2]
    refine ⟨_, c_laws_szResponse p0.Response (IntKind.i64.wrap ((IntKind.i64.wrap (p1 - (p0.Site.size : Int))) - (p0.Path.size : Int))) x3 h4, ?_⟩
    try simp +decide only [E, reduceIte, Nat.reduceAdd, Nat.reduceMul, Bool.not_true, Bool.not_false, L, ti194, ti196, b1, b2]
    exact Is.mk _
  refine an (sq (sq ?_))
  apply SW_run
  · simp +decide only [E, reduceIte, Nat.reduceAdd, Nat.reduceMul, Bool.not_true, Bool.not_false, L, b1, b2]
    exact Is.mk _
  refine an ?_
  rcases bcase (decide (x3 < 0)) with b5 | b5
  · replace h := ite_t b5 h
    refine SW_ct (by simp +decide only [F, reduceIte, Nat.reduceAdd, Bool.not_true, Bool.not_false, b1, b2, b5]) ?_
    refine sq ?_
    apply SW_run
    · simp +decide only [E, reduceIte, Nat.reduceAdd, Nat.reduceMul, Bool.not_true, Bool.not_false, L, b1, b2, b5]
      exact Is.mk _
    refine an (rt ?_)
    cases h
    simp [Ret, b1, b2, b5]
  replace h := ite_f b5 h
  refine SW_cf (by simp +decide only [F, reduceIte, Nat.reduceAdd, Bool.not_true, Bool.not_false, b1, b2, b5]) ?_
  refine sk (an (sq ?_))
  apply SW_run
  · simp +decide only [E, reduceIte, Nat.reduceAdd, Nat.reduceMul, Bool.not_true, Bool.not_false, L, b1, b2, b5]
    exact Is.mk _
  refine an (rt ?_)
  cases h
  simp [Ret, b1, b2, b5]

set_option maxHeartbeats 4000000 in
theorem c_laws_szCachedS (p0 : List M.Cached) (p1 : Int) (r : Int) (h : m_laws_szCachedS p0 p1 = some r) : SCalls Try.prog 127 [(false, [.sl (List.map M.Cached.en p0)]), (false, [.int .i64 p1])] [(false, [.ro (.int .i64 r)])] := by
  unfold m_laws_szCachedS at h
  refine scalls_n (N := 27) (vars := [.tmp 4]) Try.func127 rfl rfl rfl (by decide +kernel) (Nat.le_of_ble_eq_true rfl) fun base wd => ?_
  refine sq ?_
  apply SW_run
  · simp +decide only [E, reduceIte, Nat.reduceAdd, Nat.reduceMul, Bool.not_true, Bool.not_false, L]
    exact Is.mk _
  refine an (sq ?_)
  apply SW_run
  · simp +decide only [E, reduceIte, Nat.reduceAdd, Nat.reduceMul, Bool.not_true, Bool.not_false, L, ti151]
    exact Is.mk _
  refine an (sq (sq ?_))
  apply SW_run
  · simp +decide only [E, reduceIte, Nat.reduceAdd, Nat.reduceMul, Bool.not_true, Bool.not_false, L]
    exact Is.mk _
  refine an ?_
  rcases bcase (decide ((IntKind.i64.wrap (p1 - (List.length p0 : Int))) < 0)) with b1 | b1
  · replace h := ite_t b1 h
    refine SW_ct (by simp +decide only [F, reduceIte, Nat.reduceAdd, Bool.not_true, Bool.not_false, b1]) ?_
    refine sq ?_
    apply SW_run
    · simp +decide only [E, reduceIte, Nat.reduceAdd, Nat.reduceMul, Bool.not_true, Bool.not_false, L, b1]
      exact Is.mk _
    refine an (rt ?_)
    cases h
    simp [Ret, b1]
  replace h := ite_f b1 h
  refine SW_cf (by simp +decide only [F, reduceIte, Nat.reduceAdd, Bool.not_true, Bool.not_false, b1]) ?_
  refine sk (an (sq (sq ?_)))
  apply SW_run
  · simp +decide only [E, reduceIte, Nat.reduceAdd, Nat.reduceMul, Bool.not_true, Bool.not_false, L, b1]
    exact Is.mk _
  refine an (bk ?_)
  refine SW_loop (fun m s => ∃ v1 : Int, ∃ v5 : Int, s.t 0 = .v false [.dat (.sl (List.map M.Cached.en p0))] ∧ s.t 1 = .v false [.dat (.int .i64 v1)] ∧ s.t 5 = .v false [.dat (.int .i64 v5)] ∧ m_laws_szCachedS_L1 p0 m v1 v5 = some r) fuel ?_ ?_
  · refine ⟨(IntKind.i64.wrap (p1 - (List.length p0 : Int))), 0, ?_, ?_, ?_, h⟩
    all_goals simp +decide only [F, reduceIte, Nat.reduceAdd, Bool.not_true, Bool.not_false, b1]
  rintro mL1 s2 ⟨v1, v5, f3, f4, f5, h⟩
  rcases mL1 with _ | mL1
  · exact absurd h (by simp [m_laws_szCachedS_L1])
  simp only [m_laws_szCachedS_L1] at h
  refine sq (sq ?_)
  apply SW_run
  · simp +decide only [E, reduceIte, Nat.reduceAdd, Nat.reduceMul, Bool.not_true, Bool.not_false, L, ti151, b1, f3, f4, f5]
    exact Is.mk _
  refine an ?_
  rcases bcas (decide (v5 < (List.length p0 : Int))) with b6 | b6
  · replace h := ite_f b6 h
    refine SW_cf (by simp +decide only [F, reduceIte, Nat.reduceAdd, Bool.not_true, Bool.not_false, b1, f3, f4, f5, b6]) ?_
    refine xt (aft_cx (aft_ix (aft_x (an (sq ?_)))))
    apply SW_run
    · simp +decide only [E, reduceIte, Nat.reduceAdd, Nat.reduceMul, Bool.not_true, Bool.not_false, L, b1, f3, f4, f5, b6]
      exact Is.mk _
    refine an (rt ?_)
    cases h
    simp [Ret, b1, f3, f4, f5, b6]
  replace h := ite_t b6 h
  refine SW_ct (by simp +decide only [F, reduceIte, Nat.reduceAdd, Bool.not_true, Bool.not_false, b1, f3, f4, f5, b6]) ?_
  refine sk (an (sq (bk (sq ?_))))
  obtain ⟨x7, h8, h⟩ := bind_some h
  obtain ⟨q9, q10, q11⟩ := idx_some h8
  obtain ⟨x12, h13, h⟩ := bind_some h
  apply SW_run
  · simp +decide only [E, reduceIte, Nat.reduceAdd, Nat.reduceMul, Bool.not_true, Bool.not_false, L, ti151, ti196, M.Cached.en, b1, f3, f4, f5, b6, q9, q10, q11]
    refine ⟨_, c_laws_szCached x7 v1 x12 h13, ?_⟩
    try simp +decide only [E, reduceIte, Nat.reduceAdd, Nat.reduceMul, Bool.not_true, Bool.not_false, L, ti151, ti196, M.Cached.en, b1, f3, f4, f5, b6, q9, q10, q11]
    exact Is.mk _
  refine an (sq ?_)
  apply SW_run
  · simp +decide only [E, reduceIte, Nat.reduceAdd, Nat.reduceMul, Bool.not_true, Bool.not_false, L, b1, f3, f4, f5, b6, q9, q10, q11]
    exact Is.mk _
  refine an ?_
  rcases bcase (decide (x12 < 0)) with b14 | b14
  · replace h := ite_t b14 h
    refine SW_ct (by simp +decide only [F, reduceIte, Nat.reduceAdd, Bool.not_true, Bool.not_false, b1, f3, f4, f5, b6, q9, q10, q11, b14]) ?_
    refine sq ?_
    apply SW_run
    · simp +decide only [E, reduceIte, Nat.reduceAdd, Nat.reduceMul, Bool.not_true, Bool.not_false, L, b1, f3, f4, f5, b6, q9, q10, q11, b14]
      exact Is.mk _
    refine an (rt ?_)
    cases h
    simp [Ret, b1, f3, f4, f5, b6, q9, q10, q11, b14]
  replace h := ite_f b14 h
  refine SW_cf (by simp +decide only [F, reduceIte, Nat.reduceAdd, Bool.not_true, Bool.not_false, b1, f3, f4, f5, b6, q9, q10, q11, b14]) ?_
  refine sk (ab (an ?_))
  apply SW_run
  · simp +decide only [E, reduceIte, Nat.reduceAdd, Nat.reduceMul, Bool.not_true, Bool.not_false, L, b1, f3, f4, f5, b6, q9, q10, q11, b14]
    exact Is.mk _
  refine aft_i ⟨mL1, by omega, x12, (IntKind.i64.wrap (v5 + 1)), ?_, ?_, ?_, h⟩
  all_goals simp +decide only [F, reduceIte, Nat.reduceAdd, Bool.not_true, Bool.not_false, b1, f3, f4, f5, b6, q9, q10, q11, b14]

set_option maxHeartbeats 4000000 in
theorem c_laws_szCache (p0 : M.Cache) (p1 : Int) (r : Int) (h : m_laws_szCache p0 p1 = some r) : SCalls Try.prog 102 [(true, M.Cache.en p0), (false, [.int .i64 p1])] [(false, [.ro (.int .i64 r)])] := by
  unfold m_laws_szCache at h
  simp only [M.Cache.en]
  refine scalls_n (N := 12) (vars := [.tmp 4]) Try.func102 rfl rfl rfl (by decide +kernel) (Nat.le_of_ble_eq_true rfl) fun base wd => ?_
  refine sq ?_
  apply SW_run
  · simp +decide only [E, reduceIte, Nat.reduceAdd, Nat.reduceMul, Bool.not_true, Bool.not_false, L]
    exact Is.mk _
  refine an (sq ?_)
  obtain ⟨x1, h2, h⟩ := bind_some h
  apply SW_run
  · simp +decide only [E, reduceIte, Nat.reduceAdd, Nat.reduceMul, Bool.not_true, Bool.not_false, L, ti151, ti153]
    refine ⟨_, c_laws_szCachedS p0.Entries p1 x1 h2, ?_⟩
    try simp +decide only [E, reduceIte, Nat.reduceAdd, Nat.reduceMul, Bool.not_true, Bool.not_false, L, ti151, ti153]
    exact Is.mk _
  refine an (sq (sq ?_))
  apply SW_run
  · simp +decide only [E, reduceIte, Nat.reduceAdd, Nat.reduceMul, Bool.not_true, Bool.not_false, L]
    exact Is.mk _
  refine an ?_
  rcases bcase (decide (x1 < 0)) with b3 | b3
  · replace h := ite_t b3 h
    refine SW_ct (by simp +decide only [F, reduceIte, Nat.reduceAdd, Bool.not_true, Bool.not_false, b3]) ?_
    refine sq ?_
    apply SW_run
    · simp +decide only [E, reduceIte, Nat.reduceAdd, Nat.reduceMul, Bool.not_true, Bool.not_false, L, b3]
      exact Is.mk _
    refine an (rt ?_)
    cases h
    simp [Ret, b3]
  replace h := ite_f b3 h
  refine SW_cf (by simp +decide only [F, reduceIte, Nat.reduceAdd, Bool.not_true, Bool.not_false, b3]) ?_
  refine sk (an (sq ?_))
  apply SW_run
  · simp +decide only [E, reduceIte, Nat.reduceAdd, Nat.reduceMul, Bool.not_true, Bool.not_false, L, b3]
    exact Is.mk _
  refine an (rt ?_)
  cases h
  simp [Ret, b3]

set_option maxHeartbeats 4000000 in
theorem c_laws_szCacheS (p0 : List M.Cache) (p1 : Int) (r : Int) (h : m_laws_szCacheS p0 p1 = some r) : SCalls Try.prog 70 [(false, [.sl (List.map M.Cache.en p0)]), (false, [.int .i64 p1])] [(false, [.ro (.int .i64 r)])] := by
  unfold m_laws_szCacheS at h
  refine scalls_n (N := 27) (vars := [.tmp 4]) Try.func70 rfl rfl rfl (by decide +kernel) (Nat.le_of_ble_eq_true rfl) fun base wd => ?_
  refine sq ?_
  apply SW_run
  · simp +decide only [E, reduceIte, Nat.reduceAdd, Nat.reduceMul, Bool.not_true, Bool.not_false, L]
    exact Is.mk _
  refine an (sq ?_)
  apply SW_run
  · simp +decide only [E, reduceIte, Nat.reduceAdd, Nat.reduceMul, Bool.not_true, Bool.not_false, L, ti66]
    exact Is.mk _
  refine an (sq (sq ?_))
  apply SW_run
  · simp +decide only [E, reduceIte, Nat.reduceAdd, Nat.reduceMul, Bool.not_true, Bool.not_false, L]
    exact Is.mk _
  refine an ?_
  rcases bcase (decide ((IntKind.i64.wrap (p1 - (List.length p0 : Int))) < 0)) with b1 | b1
  · replace h := ite_t b1 h
    refine SW_ct (by simp +decide only [F, reduceIte, Nat.reduceAdd, Bool.not_true, Bool.not_false, b1]) ?_
    refine sq ?_
    apply SW_run
    · simp +decide only [E, reduceIte, Nat.reduceAdd, Nat.reduceMul, Bool.not_true, Bool.not_false, L, b1]
      exact Is.mk _
    refine an (rt ?_)
    cases h
    simp [Ret, b1]
  replace h := ite_f b1 h
  refine SW_cf (by simp +decide only [F, reduceIte, Nat.reduceAdd, Bool.not_true, Bool.not_false, b1]) ?_
  refine sk (an (sq (sq ?_)))
  apply SW_run
  · simp +decide only [E, reduceIte, Nat.reduceAdd, Nat.reduceMul, Bool.not_true, Bool.not_false, L, b1]
    exact Is.mk _
  refine an (bk ?_)
  refine SW_loop (fun m s => ∃ v1 : Int, ∃ v5 : Int, s.t 0 = .v false [.dat (.sl (List.map M.Cache.en p0))] ∧ s.t 1 = .v false [.dat (.int .i64 v1)] ∧ s.t 5 = .v false [.dat (.int .i64 v5)] ∧ m_laws_szCacheS_L1 p0 m v1 v5 = some r) fuel ?_ ?_
  · refine ⟨(IntKind.i64.wrap (p1 - (List.length p0 : Int))), 0, ?_, ?_, ?_, h⟩
    all_goals simp +decide only [F, reduceIte, Nat.reduceAdd, Bool.not_true, Bool.not_false, b1]
  rintro mL1 s2 ⟨v1, v5, f3, f4, f5, h⟩
  rcases mL1 with _ | mL1
  · exact absurd h (by simp [m_laws_szCacheS_L1])
  simp only [m_laws_szCacheS_L1] at h
  refine sq (sq ?_)
  apply SW_run
  · simp +decide only [E, reduceIte, Nat.reduceAdd, Nat.reduceMul, Bool.not_true, Bool.not_false, L, ti66, b1, f3, f4, f5]
    exact Is.mk _
  refine an ?_
  rcases bcas (decide (v5 < (List.length p0 : Int))) with b6 | b6
  · replace h := ite_f b6 h
    refine SW_cf (by simp +decide only [F, reduceIte, Nat.reduceAdd, Bool.not_true, Bool.not_false, b1, f3, f4, f5, b6]) ?_
    refine xt (aft_cx (aft_ix (aft_x (an (sq ?_)))))
    apply SW_run
    · simp +decide only [E, reduceIte, Nat.reduceAdd, Nat.reduceMul, Bool.not_true, Bool.not_false, L, b1, f3, f4, f5, b6]
      exact Is.mk _
    refine an (rt ?_)
    cases h
    simp [Ret, b1, f3, f4, f5, b6]
  replace h := ite_t b6 h
  refine SW_ct (by simp +decide only [F, reduceIte, Nat.reduceAdd, Bool.not_true, Bool.not_false, b1, f3, f4, f5, b6]) ?_
  refine sk (an (sq (bk (sq ?_))))
  obtain ⟨x7, h8, h⟩ := bind_some h
  obtain ⟨q9, q10, q11⟩ := idx_some h8
  obtain ⟨x12, h13, h⟩ := bind_some h
  apply SW_run
  · simp +decide only [E, reduceIte, Nat.reduceAdd, Nat.reduceMul, Bool.not_true, Bool.not_false, L, ti66, ti153, M.Cache.en, b1, f3, f4, f5, b6, q9, q10, q11]
    refine ⟨_, c_laws_szCache x7 v1 x12 h13, ?_⟩
    try simp +decide only [E, reduceIte, Nat.reduceAdd, Nat.reduceMul, Bool.not_true, Bool.not_false, L, ti66, ti153, M.Cache.en, b1, f3, f4, f5, b6, q9, q10, q11]
    exact Is.mk _
  refine an (sq ?_)
  apply SW_run
  · simp +decide only [E, reduceIte, Nat.reduceAdd, Nat.reduceMul, Bool.not_true, Bool.not_false, L, b1, f3, f4, f5, b6, q9, q10, q11]
    exact Is.mk _
  refine an ?_
  rcases bcase (decide (x12 < 0)) with b14 | b14
  · replace h := ite_t b14 h
    refine SW_ct (by simp +decide only [F, reduceIte, Nat.reduceAdd, Bool.not_true, Bool.not_false, b1, f3, f4, f5, b6, q9, q10, q11, b14]) ?_
    refine sq ?_
    apply SW_run
    · simp +decide only [E, reduceIte, Nat.reduceAdd, Nat.reduceMul, Bool.not_true, Bool.not_false, L, b1, f3, f4, f5, b6, q9, q10, q11, b14]
      exact Is.mk _
    refine an (rt ?_)
    cases h
    simp [Ret, b1, f3, f4, f5, b6, q9, q10, q11, b14]
  replace h := ite_f b14 h
  refine SW_cf (by simp +decide only [F, reduceIte, Nat.reduceAdd, Bool.not_true, Bool.not_false, b1, f3, f4, f5, b6, q9, q10, q11, b14]) ?_
  refine sk (ab (an ?_))
  apply SW_run
  · simp +decide only [E, reduceIte, Nat.reduceAdd, Nat.reduceMul, Bool.not_true, Bool.not_false, L, b1, f3, f4, f5, b6, q9, q10, q11, b14]
    exact Is.mk _
  refine aft_i ⟨mL1, by omega, x12, (IntKind.i64.wrap (v5 + 1)), ?_, ?_, ?_, h⟩
  all_goals simp +decide only [F, reduceIte, Nat.reduceAdd, Bool.not_true, Bool.not_false, b1, f3, f4, f5, b6, q9, q10, q11, b14]

set_option maxHeartbeats 4000000 in
theorem c_laws_szCacheSet (p0 : M.CacheSet) (p1 : Int) (r : Int) (h : m_laws_szCacheSet p0 p1 = some r) : SCalls Try.prog 30 [(true, M.CacheSet.en p0), (false, [.int .i64 p1])] [(false, [.ro (.int .i64 r)])] := by
  unfold m_laws_szCacheSet at h
  simp only [M.CacheSet.en]
  refine scalls_n (N := 12) (vars := [.tmp 4]) Try.func30 rfl rfl rfl (by decide +kernel) (Nat.le_of_ble_eq_true rfl) fun base wd => ?_
  refine sq ?_
  apply SW_run
  · simp +decide only [E, reduceIte, Nat.reduceAdd, Nat.reduceMul, Bool.not_true, Bool.not_false, L]
    exact Is.mk _
  refine an (sq ?_)
  obtain ⟨x1, h2, h⟩ := bind_some h
  apply SW_run
  · simp +decide only [E, reduceIte, Nat.reduceAdd, Nat.reduceMul, Bool.not_true, Bool.not_false, L, ti66, ti68]
    refine ⟨_, c_laws_szCacheS p0.Caches p1 x1 h2, ?_⟩
    try simp +decide only [E, reduceIte, Nat.reduceAdd, Nat.reduceMul, Bool.not_true, Bool.not_false, L, ti66, ti68]
    exact Is.mk _
  refine an (sq (sq ?_))
  apply SW_run
  · simp +decide only [E, reduceIte, Nat.reduceAdd, Nat.reduceMul, Bool.not_true, Bool.not_false, L]
    exact Is.mk _
  refine an ?_
  rcases bcase (decide (x1 < 0)) with b3 | b3
  · replace h := ite_t b3 h
    refine SW_ct (by simp +decide only [F, reduceIte, Nat.reduceAdd, Bool.not_true, Bool.not_false, b3]) ?_
    refine sq ?_
    apply SW_run
    · simp +decide only [E, reduceIte, Nat.reduceAdd, Nat.reduceMul, Bool.not_true, Bool.not_false, L, b3]
      exact Is.mk _
    refine an (rt ?_)
    cases h
    simp [Ret, b3]
  replace h := ite_f b3 h
  refine SW_cf (by simp +decide only [F, reduceIte, Nat.reduceAdd, Bool.not_true, Bool.not_false, b3]) ?_
  refine sk (an (sq ?_))
  apply SW_run
  · simp +decide only [E, reduceIte, Nat.reduceAdd, Nat.reduceMul, Bool.not_true, Bool.not_false, L, b3]
    exact Is.mk _
  refine an (rt ?_)
  cases h
  simp [Ret, b3]

set_option maxHeartbeats 4000000 in
theorem c_laws_szStringS (p0 : List ByteArray) (p1 : Int) (r : Int) (h : m_laws_szStringS p0 p1 = some r) : SCalls Try.prog 71 [(false, [.sl (List.map enS p0)]), (false, [.int .i64 p1])] [(false, [.ro (.int .i64 r)])] := by
  unfold m_laws_szStringS at h
  refine scalls_n (N := 28) (vars := [.tmp 4]) Try.func71 rfl rfl rfl (by decide +kernel) (Nat.le_of_ble_eq_true rfl) fun base wd => ?_
  refine sq ?_
  apply SW_run
  · simp +decide only [E, reduceIte, Nat.reduceAdd, Nat.reduceMul, Bool.not_true, Bool.not_false, L]
    exact Is.mk _
  refine an (sq ?_)
  apply SW_run
  · simp +decide only [E, reduceIte, Nat.reduceAdd, Nat.reduceMul, Bool.not_true, Bool.not_false, L, ti69]
    exact Is.mk _
  refine an (sq (sq ?_))
  apply SW_run
  · simp +decide only [E, reduceIte, Nat.reduceAdd, Nat.reduceMul, Bool.not_true, Bool.not_false, L]
    exact Is.mk _
  refine an ?_
  rcases bcase (decide ((IntKind.i64.wrap (p1 - (List.length p0 : Int))) < 0)) with b1 | b1
  · replace h := ite_t b1 h
    refine SW_ct (by simp +decide only [F, reduceIte, Nat.reduceAdd, Bool.not_true, Bool.not_false, b1]) ?_
    refine sq ?_
    apply SW_run
    · simp +decide only [E, reduceIte, Nat.reduceAdd, Nat.reduceMul, Bool.not_true, Bool.not_false, L, b1]
      exact Is.mk _
    refine an (rt ?_)
    cases h
    simp [Ret, b1]
  replace h := ite_f b1 h
  refine SW_cf (by simp +decide only [F, reduceIte, Nat.reduceAdd, Bool.not_true, Bool.not_false, b1]) ?_
  refine sk (an (sq (sq ?_)))
  apply SW_run
  · simp +decide only [E, reduceIte, Nat.reduceAdd, Nat.reduceMul, Bool.not_true, Bool.not_false, L, b1]
    exact Is.mk _
  refine an (bk ?_)
  refine SW_loop (fun m s => ∃ v1 : Int, ∃ v5 : Int, s.t 0 = .v false [.dat (.sl (List.map enS p0))] ∧ s.t 1 = .v false [.dat (.int .i64 v1)] ∧ s.t 5 = .v false [.dat (.int .i64 v5)] ∧ m_laws_szStringS_L1 p0 m v1 v5 = some r) fuel ?_ ?_
  · refine ⟨(IntKind.i64.wrap (p1 - (List.length p0 : Int))), 0, ?_, ?_, ?_, h⟩
    all_goals simp +decide only [F, reduceIte, Nat.reduceAdd, Bool.not_true, Bool.not_false, b1]
  rintro mL1 s2 ⟨v1, v5, f3, f4, f5, h⟩
  rcases mL1 with _ | mL1
  · exact absurd h (by simp [m_laws_szStringS_L1])
  simp only [m_laws_szStringS_L1] at h
  refine sq (sq ?_)
  apply SW_run
  · simp +decide only [E, reduceIte, Nat.reduceAdd, Nat.reduceMul, Bool.not_true, Bool.not_false, L, ti69, b1, f3, f4, f5]
    exact Is.mk _
  refine an ?_
  rcases bcas (decide (v5 < (List.length p0 : Int))) with b6 | b6
  · replace h := ite_f b6 h
    refine SW_cf (by simp +decide only [F, reduceIte, Nat.reduceAdd, Bool.not_true, Bool.not_false, b1, f3, f4, f5, b6]) ?_
    refine xt (aft_cx (aft_ix (aft_x (an (sq ?_)))))
    apply SW_run
    · simp +decide only [E, reduceIte, Nat.reduceAdd, Nat.reduceMul, Bool.not_true, Bool.not_false, L, b1, f3, f4, f5, b6]
      exact Is.mk _
    refine an (rt ?_)
    cases h
    simp [Ret, b1, f3, f4, f5, b6]
  replace h := ite_t b6 h
  refine SW_ct (by simp +decide only [F, reduceIte, Nat.reduceAdd, Bool.not_true, Bool.not_false, b1, f3, f4, f5, b6]) ?_
  refine sk (an (sq (bk (sq ?_))))
  obtain ⟨x7, h8, h⟩ := bind_some h
  obtain ⟨q9, q10, q11⟩ := idx_some h8
  apply SW_run
  · simp +decide only [E, reduceIte, Nat.reduceAdd, Nat.reduceMul, Bool.not_true, Bool.not_false, L, ti9, ti69, enS, b1, f3, f4, f5, b6, q9, q10, q11]
    exact Is.mk _
  refine an (sq ?_)
  apply SW_run
  · simp +decide only [E, reduceIte, Nat.reduceAdd, Nat.reduceMul, Bool.not_true, Bool.not_false, L, b1, f3, f4, f5, b6, q9, q10, q11]
    exact Is.mk _
  refine an ?_
  rcases bcase (decide ((IntKind.i64.wrap (v1 - (x7.size : Int))) < 0)) with b12 | b12
  · replace h := ite_t b12 h
    refine SW_ct (by simp +decide only [F, reduceIte, Nat.reduceAdd, Bool.not_true, Bool.not_false, b1, f3, f4, f5, b6, q9, q10, q11, b12]) ?_
    refine sq ?_
    apply SW_run
    · simp +decide only [E, reduceIte, Nat.reduceAdd, Nat.reduceMul, Bool.not_true, Bool.not_false, L, b1, f3, f4, f5, b6, q9, q10, q11, b12]
      exact Is.mk _
    refine an (rt ?_)
    cases h
    simp [Ret, b1, f3, f4, f5, b6, q9, q10, q11, b12]
  replace h := ite_f b12 h
  refine SW_cf (by simp +decide only [F, reduceIte, Nat.reduceAdd, Bool.not_true, Bool.not_false, b1, f3, f4, f5, b6, q9, q10, q11, b12]) ?_
  refine sk (ab (an ?_))
  apply SW_run
  · simp +decide only [E, reduceIte, Nat.reduceAdd, Nat.reduceMul, Bool.not_true, Bool.not_false, L, b1, f3, f4, f5, b6, q9, q10, q11, b12]
    exact Is.mk _
  refine aft_i ⟨mL1, by omega, (IntKind.i64.wrap (v1 - (x7.size : Int))), (IntKind.i64.wrap (v5 + 1)), ?_, ?_, ?_, h⟩
  all_goals simp +decide only [F, reduceIte, Nat.reduceAdd, Bool.not_true, Bool.not_false, b1, f3, f4, f5, b6, q9, q10, q11, b12]

set_option maxHeartbeats 4000000 in
theorem c_laws_szSite (p0 : M.Site) (p1 : Int) (r : Int) (h : m_laws_szSite p0 p1 = some r) : SCalls Try.prog 31 [(true, M.Site.en p0), (false, [.int .i64 p1])] [(false, [.ro (.int .i64 r)])] := by
  unfold m_laws_szSite at h
  simp only [M.Site.en]
  refine scalls_n (N := 19) (vars := [.tmp 4]) Try.func31 rfl rfl rfl (by decide +kernel) (Nat.le_of_ble_eq_true rfl) fun base wd => ?_
  refine sq ?_
  apply SW_run
  · simp +decide only [E, reduceIte, Nat.reduceAdd, Nat.reduceMul, Bool.not_true, Bool.not_false, L]
    exact Is.mk _
  refine an (sq ?_)
  apply SW_run
  · simp +decide only [E, reduceIte, Nat.reduceAdd, Nat.reduceMul, Bool.not_true, Bool.not_false, L, ti9, ti71]
    exact Is.mk _
  refine an (sq (sq ?_))
  apply SW_run
  · simp +decide only [E, reduceIte, Nat.reduceAdd, Nat.reduceMul, Bool.not_true, Bool.not_false, L]
    exact Is.mk _
  refine an ?_
  rcases bcase (decide ((IntKind.i64.wrap (p1 - (p0.Name.size : Int))) < 0)) with b1 | b1
  · replace h := ite_t b1 h
    refine SW_ct (by simp +decide only [F, reduceIte, Nat.reduceAdd, Bool.not_true, Bool.not_false, b1]) ?_
    refine sq ?_
    apply SW_run
    · simp +decide only [E, reduceIte, Nat.reduceAdd, Nat.reduceMul, Bool.not_true, Bool.not_false, L, b1]
      exact Is.mk _
    refine an (rt ?_)
    cases h
    simp [Ret, b1]
  replace h := ite_f b1 h
  refine SW_cf (by simp +decide only [F, reduceIte, Nat.reduceAdd, Bool.not_true, Bool.not_false, b1]) ?_
  refine sk (an (sq ?_))
  obtain ⟨x2, h3, h⟩ := bind_some h
  apply SW_run
  · simp +decide only [E, reduceIte, Nat.reduceAdd, Nat.reduceMul, Bool.not_true, Bool.not_false, L, ti69, ti71, b1]
    refine ⟨_, c_laws_szStringS p0.Files (IntKind.i64.wrap (p1 - (p0.Name.size : Int))) x2 h3, ?_⟩
    try simp +decide only [E, reduceIte, Nat.reduceAdd, Nat.reduceMul, Bool.not_true, Bool.not_false, L, ti69, ti71, b1]
    exact Is.mk _
  refine an (sq (sq ?_))
  apply SW_run
  · simp +decide only [E, reduceIte, Nat.reduceAdd, Nat.reduceMul, Bool.not_true, Bool.not_false, L, b1]
    exact Is.mk _
  refine an ?_
  rcases bcase (decide (x2 < 0)) with b4 | b4
  · replace h := ite_t b4 h
    refine SW_ct (by simp +decide only [F, reduceIte, Nat.reduceAdd, Bool.not_true, Bool.not_false, b1, b4]) ?_
    refine sq ?_
    apply SW_run
    · simp +decide only [E, reduceIte, Nat.reduceAdd, Nat.reduceMul, Bool.not_true, Bool.not_false, L, b1, b4]
      exact Is.mk _
    refine an (rt ?_)
    cases h
    simp [Ret, b1, b4]
  replace h := ite_f b4 h
  refine SW_cf (by simp +decide only [F, reduceIte, Nat.reduceAdd, Bool.not_true, Bool.not_false, b1, b4]) ?_
  refine sk (an (sq ?_))
  apply SW_run
  · simp +decide only [E, reduceIte, Nat.reduceAdd, Nat.reduceMul, Bool.not_true, Bool.not_false, L, b1, b4]
    exact Is.mk _
  refine an (rt ?_)
  cases h
  simp [Ret, b1, b4]

end Go.Proofs.Ytfcfdnmhpdgjfaa.gen
