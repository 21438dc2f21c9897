/-
  Helper text: walks: each function's contract out of its model. No conditions beyond those of each contract.
-/
import Derived.Test.YtfcfdnmhpdgjfaaCacheCompleteTi
namespace Go.Proofs.Ytfcfdnmhpdgjfaa.gen
open Go Go.Sh
set_option linter.unusedVariables false
set_option linter.unusedSimpArgs false
set_option maxHeartbeats 4000000 in
theorem c_spec_FindCache (p0 : M.CacheSet) (p1 : Int) (r : Int) (h : m_spec_FindCache p0 p1 = some r) : SCalls Try.prog 75 [(true, M.CacheSet.en p0), (false, [.int .i64 p1])] [(false, [.ro (.int .i64 r)])] := by
  unfold m_spec_FindCache at h
  simp only [M.CacheSet.en]
  refine scalls_n (N := 22) (vars := [.tmp 4]) Try.func75 rfl rfl rfl (by decide +kernel) (Nat.le_of_ble_eq_true rfl) fun base wd => ?_
  refine sq ?_
  apply SW_run
  · simp +decide only [E, reduceIte, Nat.reduceAdd, Nat.reduceMul, Bool.not_true, Bool.not_false, L]
    exact Is.mk _
  refine an (sq (sq ?_))
  apply SW_run
  · simp +decide only [E, reduceIte, Nat.reduceAdd, Nat.reduceMul, Bool.not_true, Bool.not_false, L]
    exact Is.mk _
  refine an (bk ?_)
  refine SW_loop (fun m s => ∃ v5 : Int, s.t 1 = .v false [.dat (.int .i64 p1)] ∧ s.t 2 = .v false [.bp 2 1 0] ∧ s.t 5 = .v false [.dat (.int .i64 v5)] ∧ s.h 2 = (1, .box 77 [.dat (.sl (List.map M.Cache.en p0.Caches))]) ∧ m_spec_FindCache_L1 p0 p1 m v5 = some r) fuel ?_ ?_
  · refine ⟨0, ?_, ?_, ?_, ?_, h⟩
    all_goals simp +decide only [F, reduceIte, Nat.reduceAdd, Bool.not_true, Bool.not_false]
  rintro mL1 s1 ⟨v5, f2, f3, f4, f5, h⟩
  rcases mL1 with _ | mL1
  · exact absurd h (by simp [m_spec_FindCache_L1])
  simp only [m_spec_FindCache_L1] at h
  refine sq (sq ?_)
  apply SW_run
  · simp +decide only [E, reduceIte, Nat.reduceAdd, Nat.reduceMul, Bool.not_true, Bool.not_false, L, ti75, ti77, f2, f3, f4, f5]
    exact Is.mk _
  refine an ?_
  rcases bcas (decide (v5 < (List.length p0.Caches : Int))) with b6 | b6
  · replace h := ite_f b6 h
    refine SW_cf (by simp +decide only [F, reduceIte, Nat.reduceAdd, Bool.not_true, Bool.not_false, f2, f3, f4, f5, b6]) ?_
    refine xt (aft_cx (aft_ix (aft_x (an (sq ?_)))))
    apply SW_run
    · simp +decide only [E, reduceIte, Nat.reduceAdd, Nat.reduceMul, Bool.not_true, Bool.not_false, L, f2, f3, f4, f5, b6]
      exact Is.mk _
    refine an (rt ?_)
    cases h
    simp [Ret, f2, f3, f4, f5, b6]
  replace h := ite_t b6 h
  refine SW_ct (by simp +decide only [F, reduceIte, Nat.reduceAdd, Bool.not_true, Bool.not_false, f2, f3, f4, f5, b6]) ?_
  refine sk (an (sq (bk (sq ?_))))
  obtain ⟨x7, h8, h⟩ := bind_some h
  obtain ⟨q9, q10, q11⟩ := idx_some h8
  apply SW_run
  · simp +decide only [E, reduceIte, Nat.reduceAdd, Nat.reduceMul, Bool.not_true, Bool.not_false, L, ti3, ti75, ti77, ti158, M.Cache.en, f2, f3, f4, f5, b6, q9, q10, q11]
    exact Is.mk _
  refine an ?_
  rcases bcase (x7.Version == p1) with b12 | b12
  · replace h := ite_t b12 h
    refine SW_ct (by simp +decide only [F, reduceIte, Nat.reduceAdd, Bool.not_true, Bool.not_false, f2, f3, f4, f5, b6, q9, q10, q11, b12]) ?_
    refine sq ?_
    apply SW_run
    · simp +decide only [E, reduceIte, Nat.reduceAdd, Nat.reduceMul, Bool.not_true, Bool.not_false, L, f2, f3, f4, f5, b6, q9, q10, q11, b12]
      exact Is.mk _
    refine an (rt ?_)
    cases h
    simp [Ret, f2, f3, f4, f5, b6, q9, q10, q11, b12]
  replace h := ite_f b12 h
  refine SW_cf (by simp +decide only [F, reduceIte, Nat.reduceAdd, Bool.not_true, Bool.not_false, f2, f3, f4, f5, b6, q9, q10, q11, b12]) ?_
  refine sk (ab (an ?_))
  apply SW_run
  · simp +decide only [E, reduceIte, Nat.reduceAdd, Nat.reduceMul, Bool.not_true, Bool.not_false, L, f2, f3, f4, f5, b6, q9, q10, q11, b12]
    exact Is.mk _
  refine aft_i ⟨mL1, by omega, (IntKind.i64.wrap (v5 + 1)), ?_, ?_, ?_, ?_, h⟩
  all_goals simp +decide only [F, reduceIte, Nat.reduceAdd, Bool.not_true, Bool.not_false, f2, f3, f4, f5, b6, q9, q10, q11, b12]

set_option maxHeartbeats 4000000 in
theorem c_spec_ErrorResponse  (r : M.Response) (h : m_spec_ErrorResponse = some r) : SCalls Try.prog 103 [] [(true, [.ro (.int .i64 r.Type_), .ro (.int .i64 r.Status), .ro (.int .i64 r.Version), .own 5 1 (List.map enB r.Body), .ro (.bool r.Shares)])] := by
  unfold m_spec_ErrorResponse at h
  refine scalls_n (N := 2) (vars := [.cell 0 117]) Try.func103 rfl rfl rfl (by decide +kernel) (Nat.le_of_ble_eq_true rfl) fun base wd => ?_
  refine sq ?_
  apply SW_run
  · simp +decide only [E, reduceIte, Nat.reduceAdd, Nat.reduceMul, Bool.not_true, Bool.not_false, L, ti117]
    exact Is.mk _
  refine an (sq ?_)
  apply SW_run
  · simp +decide only [E, reduceIte, Nat.reduceAdd, Nat.reduceMul, Bool.not_true, Bool.not_false, L, ti117]
    exact Is.mk _
  refine an (rt ?_)
  cases h
  simp [Ret, ti117, enB]

set_option maxHeartbeats 4000000 in
theorem c_spec_l17Find (p0 : M.Cache) (p1 : ByteArray) (p2 : ByteArray) (r : Int) (h : m_spec_l17Find p0 p1 p2 = some r) : SCalls Try.prog 104 [(true, M.Cache.en p0), (false, [.str p1]), (false, [.str p2])] [(false, [.ro (.int .i64 r)])] := by
  unfold m_spec_l17Find at h
  simp only [M.Cache.en]
  refine scalls_n (N := 34) (vars := [.tmp 6]) Try.func104 rfl rfl rfl (by decide +kernel) (Nat.le_of_ble_eq_true rfl) fun base wd => ?_
  refine sq ?_
  apply SW_run
  · simp +decide only [E, reduceIte, Nat.reduceAdd, Nat.reduceMul, Bool.not_true, Bool.not_false, L]
    exact Is.mk _
  refine an (sq (sq ?_))
  apply SW_run
  · simp +decide only [E, reduceIte, Nat.reduceAdd, Nat.reduceMul, Bool.not_true, Bool.not_false, L]
    exact Is.mk _
  refine an (bk ?_)
  refine SW_loop (fun m s => ∃ v7 : Int, s.t 1 = .v false [.dat (.str p1)] ∧ s.t 2 = .v false [.dat (.str p2)] ∧ s.t 3 = .v false [.bp 3 1 0] ∧ s.t 7 = .v false [.dat (.int .i64 v7)] ∧ s.h 3 = (1, .box 158 [.dat (.int .i64 p0.Version), .dat (.sl (List.map M.Cached.en p0.Entries))]) ∧ m_spec_l17Find_L1 p0 p1 p2 m v7 = some r) fuel ?_ ?_
  · refine ⟨0, ?_, ?_, ?_, ?_, ?_, h⟩
    all_goals simp +decide only [F, reduceIte, Nat.reduceAdd, Bool.not_true, Bool.not_false]
  rintro mL1 s1 ⟨v7, f2, f3, f4, f5, f6, h⟩
  rcases mL1 with _ | mL1
  · exact absurd h (by simp [m_spec_l17Find_L1])
  simp only [m_spec_l17Find_L1] at h
  refine sq (sq ?_)
  apply SW_run
  · simp +decide only [E, reduceIte, Nat.reduceAdd, Nat.reduceMul, Bool.not_true, Bool.not_false, L, ti156, ti158, f2, f3, f4, f5, f6]
    exact Is.mk _
  refine an ?_
  rcases bcas (decide (v7 < (List.length p0.Entries : Int))) with b7 | b7
  · replace h := ite_f b7 h
    refine SW_cf (by simp +decide only [F, reduceIte, Nat.reduceAdd, Bool.not_true, Bool.not_false, f2, f3, f4, f5, f6, b7]) ?_
    refine xt (aft_cx (aft_ix (aft_x (an (sq ?_)))))
    apply SW_run
    · simp +decide only [E, reduceIte, Nat.reduceAdd, Nat.reduceMul, Bool.not_true, Bool.not_false, L, f2, f3, f4, f5, f6, b7]
      exact Is.mk _
    refine an (rt ?_)
    cases h
    simp [Ret, f2, f3, f4, f5, f6, b7]
  replace h := ite_t b7 h
  refine SW_ct (by simp +decide only [F, reduceIte, Nat.reduceAdd, Bool.not_true, Bool.not_false, f2, f3, f4, f5, f6, b7]) ?_
  refine sk (an (sq (bk (sq ?_))))
  obtain ⟨x8, h9, h⟩ := bind_some h
  obtain ⟨q10, q11, q12⟩ := idx_some h9
  rcases bcas (x8.Site.toList == p1.toList) with b13 | b13
  · replace h := ite_f b13 h
    apply SW_run
    · simp +decide only [E, reduceIte, Nat.reduceAdd, Nat.reduceMul, Bool.not_true, Bool.not_false, L, ti9, ti156, ti158, ti161, M.Cached.en, f2, f3, f4, f5, f6, b7, q10, q11, q12, b13]
      exact Is.mk _
    refine an ?_
    refine SW_cf (by simp +decide only [F, reduceIte, Nat.reduceAdd, Bool.not_true, Bool.not_false, f2, f3, f4, f5, f6, b7, q10, q11, q12, b13]) ?_
    refine sk (ab (an ?_))
    apply SW_run
    · simp +decide only [E, reduceIte, Nat.reduceAdd, Nat.reduceMul, Bool.not_true, Bool.not_false, L, f2, f3, f4, f5, f6, b7, q10, q11, q12, b13]
      exact Is.mk _
    refine aft_i ⟨mL1, by omega, (IntKind.i64.wrap (v7 + 1)), ?_, ?_, ?_, ?_, ?_, h⟩
    all_goals simp +decide only [F, reduceIte, Nat.reduceAdd, Bool.not_true, Bool.not_false, f2, f3, f4, f5, f6, b7, q10, q11, q12, b13]
  replace h := ite_t b13 h
  apply SW_run
  · simp +decide only [E, reduceIte, Nat.reduceAdd, Nat.reduceMul, Bool.not_true, Bool.not_false, L, ti9, ti156, ti158, ti161, M.Cached.en, f2, f3, f4, f5, f6, b7, q10, q11, q12, b13]
    exact Is.mk _
  refine an ?_
  rcases bcase (x8.Path.toList == p2.toList) with b14 | b14
  · replace h := ite_t b14 h
    refine SW_ct (by simp +decide only [F, reduceIte, Nat.reduceAdd, Bool.not_true, Bool.not_false, f2, f3, f4, f5, f6, b7, q10, q11, q12, b13, b14]) ?_
    refine sq ?_
    apply SW_run
    · simp +decide only [E, reduceIte, Nat.reduceAdd, Nat.reduceMul, Bool.not_true, Bool.not_false, L, f2, f3, f4, f5, f6, b7, q10, q11, q12, b13, b14]
      exact Is.mk _
    refine an (rt ?_)
    cases h
    simp [Ret, f2, f3, f4, f5, f6, b7, q10, q11, q12, b13, b14]
  replace h := ite_f b14 h
  refine SW_cf (by simp +decide only [F, reduceIte, Nat.reduceAdd, Bool.not_true, Bool.not_false, f2, f3, f4, f5, f6, b7, q10, q11, q12, b13, b14]) ?_
  refine sk (ab (an ?_))
  apply SW_run
  · simp +decide only [E, reduceIte, Nat.reduceAdd, Nat.reduceMul, Bool.not_true, Bool.not_false, L, f2, f3, f4, f5, f6, b7, q10, q11, q12, b13, b14]
    exact Is.mk _
  refine aft_i ⟨mL1, by omega, (IntKind.i64.wrap (v7 + 1)), ?_, ?_, ?_, ?_, ?_, h⟩
  all_goals simp +decide only [F, reduceIte, Nat.reduceAdd, Bool.not_true, Bool.not_false, f2, f3, f4, f5, f6, b7, q10, q11, q12, b13, b14]

set_option maxHeartbeats 4000000 in
theorem c_spec_l15Copy (p0 : M.Response) (r : M.Response) (h : m_spec_l15Copy p0 = some r) : SCalls Try.prog 105 [(true, M.Response.en p0)] [(true, [.ro (.int .i64 r.Type_), .ro (.int .i64 r.Status), .ro (.int .i64 r.Version), .own 5 1 (List.map enB r.Body), .ro (.bool r.Shares)])] := by
  unfold m_spec_l15Copy at h
  simp only [M.Response.en]
  refine scalls_n (N := 11) (vars := [.cell 2 117]) Try.func105 rfl rfl rfl (by decide +kernel) (Nat.le_of_ble_eq_true rfl) fun base wd => ?_
  refine sq ?_
  apply SW_run
  · simp +decide only [E, reduceIte, Nat.reduceAdd, Nat.reduceMul, Bool.not_true, Bool.not_false, L, ti117]
    exact Is.mk _
  refine an (sq ?_)
  apply SW_run
  · simp +decide only [E, reduceIte, Nat.reduceAdd, Nat.reduceMul, Bool.not_true, Bool.not_false, L, ti117]
    exact Is.mk _
  refine an (sq ?_)
  obtain ⟨x1, h2, h⟩ := bind_some h
  apply SW_run
  · simp +decide only [E, reduceIte, Nat.reduceAdd, Nat.reduceMul, Bool.not_true, Bool.not_false, enB.fl, L, ti5, ti57, ti117, enB]
    refine ⟨by (have hb := app_some h2); simp [enB, List.length_append] at hb ⊢ <;> omega, ?_⟩
    try simp +decide only [E, reduceIte, Nat.reduceAdd, Nat.reduceMul, Bool.not_true, Bool.not_false, enB.fl, L, ti5, ti57, ti117, enB]
    exact Is.mk _
  refine an (sq ?_)
  apply SW_run
  · simp +decide only [E, reduceIte, Nat.reduceAdd, Nat.reduceMul, Bool.not_true, Bool.not_false, L, ti117]
    exact Is.mk _
  refine an (rt ?_)
  cases h
  simp [Ret, ti117, enB]

set_option maxHeartbeats 4000000 in
theorem c_spec_MatchCache (p0 : M.CacheSet) (p1 : Int) (p2 : ByteArray) (p3 : ByteArray) (r : (M.Response × Bool)) (h : m_spec_MatchCache p0 p1 p2 p3 = some r) : SCalls Try.prog 72 [(true, M.CacheSet.en p0), (false, [.int .i64 p1]), (false, [.str p2]), (false, [.str p3])] [(true, [.ro (.int .i64 r.1.Type_), .ro (.int .i64 r.1.Status), .ro (.int .i64 r.1.Version), .own 5 1 (List.map enB r.1.Body), .ro (.bool r.1.Shares)]), (false, [.ro (.bool r.2)])] := by
  unfold m_spec_MatchCache at h
  simp only [M.CacheSet.en]
  refine scalls_n (N := 40) (vars := [.cell 8 117, .tmp 9]) Try.func72 rfl rfl rfl (by decide +kernel) (Nat.le_of_ble_eq_true rfl) fun base wd => ?_
  refine sq ?_
  apply SW_run
  · simp +decide only [E, reduceIte, Nat.reduceAdd, Nat.reduceMul, Bool.not_true, Bool.not_false, L, ti117]
    exact Is.mk _
  refine an (sq ?_)
  obtain ⟨x1, h2, h⟩ := bind_some h
  apply SW_run
  · simp +decide only [E, reduceIte, Nat.reduceAdd, Nat.reduceMul, Bool.not_true, Bool.not_false, L, ti77]
    refine ⟨_, c_spec_FindCache p0 p1 x1 h2, ?_⟩
    try simp +decide only [E, reduceIte, Nat.reduceAdd, Nat.reduceMul, Bool.not_true, Bool.not_false, L, ti77]
    exact Is.mk _
  refine an (sq (sq ?_))
  apply SW_run
  · simp +decide only [E, reduceIte, Nat.reduceAdd, Nat.reduceMul, Bool.not_true, Bool.not_false, L]
    exact Is.mk _
  refine an ?_
  rcases bcase (decide (x1 < 0)) with b3 | b3
  · replace h := ite_t b3 h
    refine SW_ct (by simp +decide only [F, reduceIte, Nat.reduceAdd, Bool.not_true, Bool.not_false, b3]) ?_
    refine sq ?_
    obtain ⟨x4, h5, h⟩ := bind_some h
    apply SW_run
    · simp +decide only [E, reduceIte, Nat.reduceAdd, Nat.reduceMul, Bool.not_true, Bool.not_false, L, ti117, b3]
      refine ⟨_, c_spec_ErrorResponse x4 h5, ?_⟩
      try simp +decide only [E, reduceIte, Nat.reduceAdd, Nat.reduceMul, Bool.not_true, Bool.not_false, L, ti117, b3]
      exact Is.mk _
    refine an (rt ?_)
    cases h
    simp [Ret, ti117, enB, b3]
  replace h := ite_f b3 h
  refine SW_cf (by simp +decide only [F, reduceIte, Nat.reduceAdd, Bool.not_true, Bool.not_false, b3]) ?_
  refine sk (an (sq ?_))
  obtain ⟨x6, h7, h⟩ := bind_some h
  obtain ⟨q8, q9, q10⟩ := idx_some h7
  obtain ⟨x11, h12, h⟩ := bind_some h
  apply SW_run
  · simp +decide only [E, reduceIte, Nat.reduceAdd, Nat.reduceMul, Bool.not_true, Bool.not_false, L, ti75, ti77, ti158, M.Cache.en, b3, q8, q9, q10]
    refine ⟨_, c_spec_l17Find x6 p2 p3 x11 h12, ?_⟩
    try simp +decide only [E, reduceIte, Nat.reduceAdd, Nat.reduceMul, Bool.not_true, Bool.not_false, L, ti75, ti77, ti158, M.Cache.en, b3, q8, q9, q10]
    exact Is.mk _
  refine an (sq (sq ?_))
  apply SW_run
  · simp +decide only [E, reduceIte, Nat.reduceAdd, Nat.reduceMul, Bool.not_true, Bool.not_false, L, b3, q8, q9, q10]
    exact Is.mk _
  refine an ?_
  rcases bcase (decide (x11 < 0)) with b13 | b13
  · replace h := ite_t b13 h
    refine SW_ct (by simp +decide only [F, reduceIte, Nat.reduceAdd, Bool.not_true, Bool.not_false, b3, q8, q9, q10, b13]) ?_
    refine sq ?_
    obtain ⟨x14, h15, h⟩ := bind_some h
    apply SW_run
    · simp +decide only [E, reduceIte, Nat.reduceAdd, Nat.reduceMul, Bool.not_true, Bool.not_false, L, ti117, b3, q8, q9, q10, b13]
      refine ⟨_, c_spec_ErrorResponse x14 h15, ?_⟩
      try simp +decide only [E, reduceIte, Nat.reduceAdd, Nat.reduceMul, Bool.not_true, Bool.not_false, L, ti117, b3, q8, q9, q10, b13]
      exact Is.mk _
    refine an (rt ?_)
    cases h
    simp [Ret, ti117, enB, b3, q8, q9, q10, b13]
  replace h := ite_f b13 h
  refine SW_cf (by simp +decide only [F, reduceIte, Nat.reduceAdd, Bool.not_true, Bool.not_false, b3, q8, q9, q10, b13]) ?_
  refine sk (an (sq ?_))
  obtain ⟨x16, h17, h⟩ := bind_some h
  obtain ⟨q18, q19, q20⟩ := idx_some h17
  obtain ⟨x21, h22, h⟩ := bind_some h
  apply SW_run
  · simp +decide only [E, reduceIte, Nat.reduceAdd, Nat.reduceMul, Bool.not_true, Bool.not_false, L, ti75, ti77, ti117, ti156, ti158, ti161, M.Cache.en, M.Cached.en, b3, q8, q9, q10, b13, q18, q19, q20]
    refine ⟨_, c_spec_l15Copy x16.Response x21 h22, ?_⟩
    try simp +decide only [E, reduceIte, Nat.reduceAdd, Nat.reduceMul, Bool.not_true, Bool.not_false, L, ti75, ti77, ti117, ti156, ti158, ti161, M.Cache.en, M.Cached.en, b3, q8, q9, q10, b13, q18, q19, q20]
    exact Is.mk _
  refine an (rt ?_)
  cases h
  simp [Ret, ti117, enB, b3, q8, q9, q10, b13, q18, q19, q20]

set_option maxHeartbeats 4000000 in
theorem c_spec_BytesToInts (p0 : List Int) (r : (List Int)) (h : m_spec_BytesToInts p0 = some r) : SCalls Try.prog 130 [(false, [.sl (List.map enB p0)])] [(false, [.own 3 1 (List.map enI r)])] := by
  unfold m_spec_BytesToInts at h
  refine scalls_n (N := 23) (vars := [.tmp 2]) Try.func130 rfl rfl rfl (by decide +kernel) (Nat.le_of_ble_eq_true rfl) fun base wd => ?_
  refine sq ?_
  apply SW_run
  · simp +decide only [E, reduceIte, Nat.reduceAdd, Nat.reduceMul, Bool.not_true, Bool.not_false, L]
    exact Is.mk _
  refine an (sq ?_)
  apply SW_run
  · simp +decide only [E, reduceIte, Nat.reduceAdd, Nat.reduceMul, Bool.not_true, Bool.not_false, L, ti3, ti42, ti57, enI]
    exact Is.mk _
  refine an (sq (sq ?_))
  refine SW_cut (J := fun s => s.t 0 = .v false [.dat (.sl (List.map enB p0))] ∧ s.t 3 = .v false [.row 100007 1] ∧ s.h 100007 = (1, .row 3 1 (List.map enI ([(List.length p0 : Int)])) true) ∧ True) ?_ ?_
  · refine ⟨?_, ?_, ?_, trivial⟩ <;> (try simp +decide only [F, reduceIte, Nat.reduceAdd, Bool.not_true, Bool.not_false, enI])
  rintro s1 ⟨f2, f3, f4, _⟩
  apply SW_run
  · simp +decide only [E, reduceIte, Nat.reduceAdd, Nat.reduceMul, Bool.not_true, Bool.not_false, L, f2, f3, f4]
    exact Is.mk _
  refine an (bk ?_)
  refine SW_loop (fun m s => ∃ v4 : Int, ∃ r7 : List Int, ∃ u7 : Nat, s.t 0 = .v false [.dat (.sl (List.map enB p0))] ∧ s.t 3 = .v false [.row 100007 u7] ∧ s.t 4 = .v false [.dat (.int .i64 v4)] ∧ s.h 100007 = (u7, .row 3 1 (List.map enI r7) true) ∧ m_spec_BytesToInts_L1 p0 m v4 r7 = some r) fuel ?_ ?_
  · refine ⟨0, ([(List.length p0 : Int)]), 1, ?_, ?_, ?_, ?_, h⟩
    all_goals simp +decide only [F, reduceIte, Nat.reduceAdd, Bool.not_true, Bool.not_false, enI, f2, f3, f4]
  rintro mL1 s5 ⟨v4, r7, u7, f6, f7, f8, f9, h⟩
  rcases mL1 with _ | mL1
  · exact absurd h (by simp [m_spec_BytesToInts_L1])
  simp only [m_spec_BytesToInts_L1] at h
  refine sq (sq ?_)
  apply SW_run
  · simp +decide only [E, reduceIte, Nat.reduceAdd, Nat.reduceMul, Bool.not_true, Bool.not_false, L, ti57, f6, f7, f8, f9]
    exact Is.mk _
  refine an ?_
  rcases bcas (decide (v4 < (List.length p0 : Int))) with b10 | b10
  · replace h := ite_f b10 h
    refine SW_cf (by simp +decide only [F, reduceIte, Nat.reduceAdd, Bool.not_true, Bool.not_false, f6, f7, f8, f9, b10]) ?_
    refine xt (aft_cx (aft_ix (aft_x (an (sq ?_)))))
    apply SW_run
    · simp +decide only [E, reduceIte, Nat.reduceAdd, Nat.reduceMul, Bool.not_true, Bool.not_false, L, f6, f7, f8, f9, b10]
      exact Is.mk _
    refine an (rt ?_)
    cases h
    simp [Ret, enI, f6, f7, f8, f9, b10]
  replace h := ite_t b10 h
  refine SW_ct (by simp +decide only [F, reduceIte, Nat.reduceAdd, Bool.not_true, Bool.not_false, f6, f7, f8, f9, b10]) ?_
  refine sk (an (sq (bk ?_)))
  obtain ⟨x11, h12, h⟩ := bind_some h
  obtain ⟨q13, q14, q15⟩ := idx_some h12
  obtain ⟨x16, h17, h⟩ := bind_some h
  apply SW_run
  · simp +decide only [E, reduceIte, Nat.reduceAdd, Nat.reduceMul, Bool.not_true, Bool.not_false, L, ti3, ti5, ti42, ti57, enB, enI, f6, f7, f8, f9, b10, q13, q14, q15]
    refine ⟨by (have hb := app_some h17); simp [enB, enI, List.length_append] at hb ⊢ <;> omega, ?_⟩
    try simp +decide only [E, reduceIte, Nat.reduceAdd, Nat.reduceMul, Bool.not_true, Bool.not_false, L, ti3, ti5, ti42, ti57, enB, enI, f6, f7, f8, f9, b10, q13, q14, q15]
    exact Is.mk _
  refine ab (an ?_)
  refine SW_cut (J := fun s => s.t 0 = .v false [.dat (.sl (List.map enB p0))] ∧ s.t 3 = .v false [.row 100007 (u7 + 1)] ∧ s.t 4 = .v false [.dat (.int .i64 v4)] ∧ s.h 100007 = ((u7 + 1), .row 3 1 (List.map enI (r7 ++ [(IntKind.i64.wrap x11)])) true) ∧ True) ?_ ?_
  · refine ⟨?_, ?_, ?_, ?_, trivial⟩ <;> (try simp +decide only [F, reduceIte, Nat.reduceAdd, Bool.not_true, Bool.not_false, enI, f6, f7, f8, f9, b10, q13, q14, q15])
  rintro s18 ⟨f19, f20, f21, f22, _⟩
  apply SW_run
  · simp +decide only [E, reduceIte, Nat.reduceAdd, Nat.reduceMul, Bool.not_true, Bool.not_false, L, b10, q13, q14, q15, f19, f20, f21, f22]
    exact Is.mk _
  refine aft_i ⟨mL1, by omega, (IntKind.i64.wrap (v4 + 1)), (r7 ++ [(IntKind.i64.wrap x11)]), (u7 + 1), ?_, ?_, ?_, ?_, h⟩
  all_goals simp +decide only [F, reduceIte, Nat.reduceAdd, Bool.not_true, Bool.not_false, enI, b10, q13, q14, q15, f19, f20, f21, f22]

set_option maxHeartbeats 4000000 in
theorem c_spec_l1In (p0 : Int) (p1 : Int) (p2 : Int) (r : Bool) (h : m_spec_l1In p0 p1 p2 = some r) : SCalls Try.prog 150 [(false, [.int .i64 p0]), (false, [.int .i64 p1]), (false, [.int .i64 p2])] [(false, [.ro (.bool r)])] := by
  unfold m_spec_l1In at h
  refine scalls_n (N := 15) (vars := [.tmp 6]) Try.func150 rfl rfl rfl (by decide +kernel) (Nat.le_of_ble_eq_true rfl) fun base wd => ?_
  refine sq ?_
  apply SW_run
  · simp +decide only [E, reduceIte, Nat.reduceAdd, Nat.reduceMul, Bool.not_true, Bool.not_false, L]
    exact Is.mk _
  refine an (sq ?_)
  rcases bcase (decide (p0 ≥ p1)) with b1 | b1
  · replace h := ite_t b1 h
    apply SW_run
    · simp +decide only [E, reduceIte, Nat.reduceAdd, Nat.reduceMul, Bool.not_true, Bool.not_false, L, b1]
      exact Is.mk _
    refine an (rt ?_)
    cases h
    simp [Ret, b1]
  replace h := ite_f b1 h
  apply SW_run
  · simp +decide only [E, reduceIte, Nat.reduceAdd, Nat.reduceMul, Bool.not_true, Bool.not_false, L, b1]
    exact Is.mk _
  refine an (rt ?_)
  cases h
  simp [Ret, b1]

set_option maxHeartbeats 4000000 in
theorem c_spec_Mod (p0 : Int) (p1 : Int) (r : Int) (h : m_spec_Mod p0 p1 = some r) : SCalls Try.prog 143 [(false, [.int .i64 p0]), (false, [.int .i64 p1])] [(false, [.ro (.int .i64 r)])] := by
  unfold m_spec_Mod at h
  refine scalls_n (N := 15) (vars := [.tmp 4]) Try.func143 rfl rfl rfl (by decide +kernel) (Nat.le_of_ble_eq_true rfl) fun base wd => ?_
  refine sq ?_
  apply SW_run
  · simp +decide only [E, reduceIte, Nat.reduceAdd, Nat.reduceMul, Bool.not_true, Bool.not_false, L]
    exact Is.mk _
  refine an (sq (sq ?_))
  obtain ⟨x1, h2, h⟩ := bind_some h
  apply SW_run
  · simp +decide only [E, reduceIte, Nat.reduceAdd, Nat.reduceMul, Bool.not_true, Bool.not_false, L]
    refine ⟨_, c_spec_l1In p1 1 1000000000000 x1 h2, ?_⟩
    try simp +decide only [E, reduceIte, Nat.reduceAdd, Nat.reduceMul, Bool.not_true, Bool.not_false, L]
    exact Is.mk _
  refine an ?_
  rcases bcase (!x1) with b3 | b3
  · replace h := ite_t b3 h
    refine SW_ct (by simp +decide only [F, reduceIte, Nat.reduceAdd, Bool.not_true, Bool.not_false, b3]) ?_
    refine sq ?_
    apply SW_run
    · simp +decide only [E, reduceIte, Nat.reduceAdd, Nat.reduceMul, Bool.not_true, Bool.not_false, L, b3]
      exact Is.mk _
    refine an (rt ?_)
    cases h
    simp [Ret, b3]
  replace h := ite_f b3 h
  refine SW_cf (by simp +decide only [F, reduceIte, Nat.reduceAdd, Bool.not_true, Bool.not_false, b3]) ?_
  refine sk (an (sq ?_))
  rcases bcase (decide (p1 = 0)) with b4 | b4
  · replace h := ite_t b4 h
    cases h
  replace h := ite_f b4 h
  apply SW_run
  · simp +decide only [E, reduceIte, Nat.reduceAdd, Nat.reduceMul, Bool.not_true, Bool.not_false, div_ok, L, b3, b4]
    exact Is.mk _
  refine an (rt ?_)
  cases h
  simp [Ret, b3, b4]

set_option maxHeartbeats 4000000 in
theorem c_spec_Hash (p0 : List Int) (r : Int) (h : m_spec_Hash p0 = some r) : SCalls Try.prog 128 [(false, [.sl (List.map enI p0)])] [(false, [.ro (.int .i64 r)])] := by
  unfold m_spec_Hash at h
  refine scalls_n (N := 22) (vars := [.tmp 2]) Try.func128 rfl rfl rfl (by decide +kernel) (Nat.le_of_ble_eq_true rfl) fun base wd => ?_
  refine sq ?_
  apply SW_run
  · simp +decide only [E, reduceIte, Nat.reduceAdd, Nat.reduceMul, Bool.not_true, Bool.not_false, L]
    exact Is.mk _
  refine an (sq ?_)
  apply SW_run
  · simp +decide only [E, reduceIte, Nat.reduceAdd, Nat.reduceMul, Bool.not_true, Bool.not_false, L]
    exact Is.mk _
  refine an (sq (sq ?_))
  apply SW_run
  · simp +decide only [E, reduceIte, Nat.reduceAdd, Nat.reduceMul, Bool.not_true, Bool.not_false, L]
    exact Is.mk _
  refine an (bk ?_)
  refine SW_loop (fun m s => ∃ v3 : Int, ∃ v4 : Int, s.t 0 = .v false [.dat (.sl (List.map enI p0))] ∧ s.t 3 = .v false [.dat (.int .i64 v3)] ∧ s.t 4 = .v false [.dat (.int .i64 v4)] ∧ m_spec_Hash_L1 p0 m v3 v4 = some r) fuel ?_ ?_
  · refine ⟨11, 0, ?_, ?_, ?_, h⟩
    all_goals simp +decide only [F, reduceIte, Nat.reduceAdd, Bool.not_true, Bool.not_false]
  rintro mL1 s1 ⟨v3, v4, f2, f3, f4, h⟩
  rcases mL1 with _ | mL1
  · exact absurd h (by simp [m_spec_Hash_L1])
  simp only [m_spec_Hash_L1] at h
  refine sq (sq ?_)
  apply SW_run
  · simp +decide only [E, reduceIte, Nat.reduceAdd, Nat.reduceMul, Bool.not_true, Bool.not_false, L, ti42, f2, f3, f4]
    exact Is.mk _
  refine an ?_
  rcases bcas (decide (v4 < (List.length p0 : Int))) with b5 | b5
  · replace h := ite_f b5 h
    refine SW_cf (by simp +decide only [F, reduceIte, Nat.reduceAdd, Bool.not_true, Bool.not_false, f2, f3, f4, b5]) ?_
    refine xt (aft_cx (aft_ix (aft_x (an (sq ?_)))))
    apply SW_run
    · simp +decide only [E, reduceIte, Nat.reduceAdd, Nat.reduceMul, Bool.not_true, Bool.not_false, L, f2, f3, f4, b5]
      exact Is.mk _
    refine an (rt ?_)
    cases h
    simp [Ret, f2, f3, f4, b5]
  replace h := ite_t b5 h
  refine SW_ct (by simp +decide only [F, reduceIte, Nat.reduceAdd, Bool.not_true, Bool.not_false, f2, f3, f4, b5]) ?_
  refine sk (an (sq (bk ?_)))
  obtain ⟨x6, h7, h⟩ := bind_some h
  obtain ⟨q8, q9, q10⟩ := idx_some h7
  obtain ⟨x11, h12, h⟩ := bind_some h
  apply SW_run
  · simp +decide only [E, reduceIte, Nat.reduceAdd, Nat.reduceMul, Bool.not_true, Bool.not_false, Int.reduceEq, L, ti3, ti42, enI, f2, f3, f4, b5, q8, q9, q10]
    refine ⟨_, c_spec_Mod x6 2147483647 x11 h12, ?_⟩
    try simp +decide only [E, reduceIte, Nat.reduceAdd, Nat.reduceMul, Bool.not_true, Bool.not_false, Int.reduceEq, L, ti3, ti42, enI, f2, f3, f4, b5, q8, q9, q10]
    exact Is.mk _
  refine ab (an ?_)
  apply SW_run
  · simp +decide only [E, reduceIte, Nat.reduceAdd, Nat.reduceMul, Bool.not_true, Bool.not_false, L, f2, f3, f4, b5, q8, q9, q10]
    exact Is.mk _
  refine aft_i ⟨mL1, by omega, (Int.tmod (IntKind.i64.wrap ((IntKind.i64.wrap ((IntKind.i64.wrap (v3 * 1000003)) + x11)) + 13)) 2147483647), (IntKind.i64.wrap (v4 + 1)), ?_, ?_, ?_, h⟩
  all_goals simp +decide only [F, reduceIte, Nat.reduceAdd, Bool.not_true, Bool.not_false, f2, f3, f4, b5, q8, q9, q10]

set_option maxHeartbeats 4000000 in
theorem c_spec_KeyedHash (p0 : Int) (p1 : List Int) (r : Int) (h : m_spec_KeyedHash p0 p1 = some r) : SCalls Try.prog 106 [(false, [.int .i64 p0]), (false, [.sl (List.map enI p1)])] [(false, [.ro (.int .i64 r)])] := by
  unfold m_spec_KeyedHash at h
  refine scalls_n (N := 13) (vars := [.tmp 4]) Try.func106 rfl rfl rfl (by decide +kernel) (Nat.le_of_ble_eq_true rfl) fun base wd => ?_
  refine sq ?_
  apply SW_run
  · simp +decide only [E, reduceIte, Nat.reduceAdd, Nat.reduceMul, Bool.not_true, Bool.not_false, L]
    exact Is.mk _
  refine an (sq ?_)
  obtain ⟨x1, h2, h⟩ := bind_some h
  obtain ⟨x3, h4, h⟩ := bind_some h
  obtain ⟨x5, h6, h⟩ := bind_some h
  apply SW_run
  · simp +decide only [E, reduceIte, Nat.reduceAdd, Nat.reduceMul, Bool.not_true, Bool.not_false, enI.fl, L, ti3, ti42, enI]
    refine ⟨by (have hb := app_some h2); simp [enI, List.length_append] at hb ⊢ <;> omega, ?_⟩
    try simp +decide only [E, reduceIte, Nat.reduceAdd, Nat.reduceMul, Bool.not_true, Bool.not_false, enI.fl, L, ti3, ti42, enI]
    refine ⟨by (have hb := app_some h4); simp [enI, List.length_append] at hb ⊢ <;> omega, ?_⟩
    try simp +decide only [E, reduceIte, Nat.reduceAdd, Nat.reduceMul, Bool.not_true, Bool.not_false, enI.fl, L, ti3, ti42, enI]
    have hc := c_spec_Hash (([p0] ++ p1) ++ [p0]) x5 h6
    simp only [List.map_append, List.map_cons, List.map_nil, enI] at hc
    refine ⟨_, hc, ?_⟩
    try simp +decide only [E, reduceIte, Nat.reduceAdd, Nat.reduceMul, Bool.not_true, Bool.not_false, enI.fl, L, ti3, ti42, enI]
    exact Is.mk _
  refine an (rt ?_)
  cases h
  simp [Ret, ]

set_option maxHeartbeats 4000000 in
theorem c_spec_Max (p0 : Int) (p1 : Int) (r : Int) (h : m_spec_Max p0 p1 = some r) : SCalls Try.prog 129 [(false, [.int .i64 p0]), (false, [.int .i64 p1])] [(false, [.ro (.int .i64 r)])] := by
  unfold m_spec_Max at h
  refine scalls_n (N := 10) (vars := [.tmp 4]) Try.func129 rfl rfl rfl (by decide +kernel) (Nat.le_of_ble_eq_true rfl) fun base wd => ?_
  refine sq ?_
  apply SW_run
  · simp +decide only [E, reduceIte, Nat.reduceAdd, Nat.reduceMul, Bool.not_true, Bool.not_false, L]
    exact Is.mk _
  refine an (sq (sq ?_))
  apply SW_run
  · simp +decide only [E, reduceIte, Nat.reduceAdd, Nat.reduceMul, Bool.not_true, Bool.not_false, L]
    exact Is.mk _
  refine an ?_
  rcases bcase (decide (p1 > p0)) with b1 | b1
  · replace h := ite_t b1 h
    refine SW_ct (by simp +decide only [F, reduceIte, Nat.reduceAdd, Bool.not_true, Bool.not_false, b1]) ?_
    refine sq ?_
    apply SW_run
    · simp +decide only [E, reduceIte, Nat.reduceAdd, Nat.reduceMul, Bool.not_true, Bool.not_false, L, b1]
      exact Is.mk _
    refine an (rt ?_)
    cases h
    simp [Ret, b1]
  replace h := ite_f b1 h
  refine SW_cf (by simp +decide only [F, reduceIte, Nat.reduceAdd, Bool.not_true, Bool.not_false, b1]) ?_
  refine sk (an (sq ?_))
  apply SW_run
  · simp +decide only [E, reduceIte, Nat.reduceAdd, Nat.reduceMul, Bool.not_true, Bool.not_false, L, b1]
    exact Is.mk _
  refine an (rt ?_)
  cases h
  simp [Ret, b1]

set_option maxHeartbeats 4000000 in
theorem c_spec_DeriveFromString (p0 : Int) (p1 : ByteArray) (r : Int) (h : m_spec_DeriveFromString p0 p1 = some r) : SCalls Try.prog 107 [(false, [.int .i64 p0]), (false, [.str p1])] [(false, [.ro (.int .i64 r)])] := by
  unfold m_spec_DeriveFromString at h
  refine scalls_n (N := 11) (vars := [.tmp 4]) Try.func107 rfl rfl rfl (by decide +kernel) (Nat.le_of_ble_eq_true rfl) fun base wd => ?_
  refine sq ?_
  apply SW_run
  · simp +decide only [E, reduceIte, Nat.reduceAdd, Nat.reduceMul, Bool.not_true, Bool.not_false, L]
    exact Is.mk _
  refine an (sq ?_)
  obtain ⟨x1, h2, h⟩ := bind_some h
  obtain ⟨x3, h4, h⟩ := bind_some h
  obtain ⟨x5, h6, h⟩ := bind_some h
  apply SW_run
  · simp +decide only [E, reduceIte, Nat.reduceAdd, Nat.reduceMul, Bool.not_true, Bool.not_false, bytesD_en, L, ti5, ti9, ti57]
    refine ⟨_, c_spec_BytesToInts (strBytes p1) x1 h2, ?_⟩
    try simp +decide only [E, reduceIte, Nat.reduceAdd, Nat.reduceMul, Bool.not_true, Bool.not_false, bytesD_en, L, ti5, ti9, ti57]
    refine ⟨_, c_spec_KeyedHash p0 x1 x3 h4, ?_⟩
    try simp +decide only [E, reduceIte, Nat.reduceAdd, Nat.reduceMul, Bool.not_true, Bool.not_false, bytesD_en, L, ti5, ti9, ti57]
    refine ⟨_, c_spec_Max 1 x3 x5 h6, ?_⟩
    try simp +decide only [E, reduceIte, Nat.reduceAdd, Nat.reduceMul, Bool.not_true, Bool.not_false, bytesD_en, L, ti5, ti9, ti57]
    exact Is.mk _
  refine an (rt ?_)
  cases h
  simp [Ret, ]

set_option maxHeartbeats 4000000 in
theorem c_spec_BodyOf (p0 : M.Site) (p1 : ByteArray) (p2 : Int) (r : (List Int)) (h : m_spec_BodyOf p0 p1 p2 = some r) : SCalls Try.prog 74 [(true, M.Site.en p0), (false, [.str p1]), (false, [.int .i64 p2])] [(false, [.own 5 1 (List.map enB r)])] := by
  unfold m_spec_BodyOf at h
  simp only [M.Site.en]
  refine scalls_n (N := 34) (vars := [.tmp 6]) Try.func74 rfl rfl rfl (by decide +kernel) (Nat.le_of_ble_eq_true rfl) fun base wd => ?_
  refine sq ?_
  apply SW_run
  · simp +decide only [E, reduceIte, Nat.reduceAdd, Nat.reduceMul, Bool.not_true, Bool.not_false, L]
    exact Is.mk _
  refine an (sq ?_)
  obtain ⟨x1, h2, h⟩ := bind_some h
  obtain ⟨x3, h4, h⟩ := bind_some h
  obtain ⟨x5, h6, h⟩ := bind_some h
  apply SW_run
  · simp +decide only [E, reduceIte, Nat.reduceAdd, Nat.reduceMul, Bool.not_true, Bool.not_false, L, ti3, ti9, ti42, ti79, enI]
    refine ⟨_, c_spec_DeriveFromString 107 p0.Name x1 h2, ?_⟩
    try simp +decide only [E, reduceIte, Nat.reduceAdd, Nat.reduceMul, Bool.not_true, Bool.not_false, L, ti3, ti9, ti42, ti79, enI]
    refine ⟨_, c_spec_DeriveFromString 109 p1 x3 h4, ?_⟩
    try simp +decide only [E, reduceIte, Nat.reduceAdd, Nat.reduceMul, Bool.not_true, Bool.not_false, L, ti3, ti9, ti42, ti79, enI]
    have hc := c_spec_KeyedHash (IntKind.i64.wrap (1 + p2)) ([103, x1, x3]) x5 h6
    simp only [List.map_append, List.map_cons, List.map_nil, enI] at hc
    refine ⟨_, hc, ?_⟩
    try simp +decide only [E, reduceIte, Nat.reduceAdd, Nat.reduceMul, Bool.not_true, Bool.not_false, L, ti3, ti9, ti42, ti79, enI]
    exact Is.mk _
  refine an (sq ?_)
  refine SW_cut (J := fun s => s.t 7 = .v false [.dat (.int .i64 x5)] ∧ True) ?_ ?_
  · refine ⟨?_, trivial⟩ <;> (try simp +decide only [F, reduceIte, Nat.reduceAdd, Bool.not_true, Bool.not_false])
  rintro s7 ⟨f8, _⟩
  apply SW_run
  · simp +decide only [E, reduceIte, Nat.reduceAdd, Nat.reduceMul, Bool.not_true, Bool.not_false, L, ti5, ti57, enB, f8]
    exact Is.mk _
  refine an (sq (sq ?_))
  refine SW_cut (J := fun s => s.t 7 = .v false [.dat (.int .i64 x5)] ∧ s.t 8 = .v false [.row 100019 ((s7.h 100019).1 + 1)] ∧ s.h 100019 = (((s7.h 100019).1 + 1), .row 5 1 (List.map enB ([] : List Int)) true) ∧ True) ?_ ?_
  · refine ⟨?_, ?_, ?_, trivial⟩ <;> (try simp +decide only [F, reduceIte, Nat.reduceAdd, Bool.not_true, Bool.not_false, enB, f8])
  rintro s9 ⟨f10, f11, f12, _⟩
  apply SW_run
  · simp +decide only [E, reduceIte, Nat.reduceAdd, Nat.reduceMul, Bool.not_true, Bool.not_false, L, f10, f11, f12]
    exact Is.mk _
  refine an (bk ?_)
  refine SW_loop (fun m s => ∃ v9 : Int, ∃ r19 : List Int, ∃ u19 : Nat, s.t 7 = .v false [.dat (.int .i64 x5)] ∧ s.t 8 = .v false [.row 100019 u19] ∧ s.t 9 = .v false [.dat (.int .i64 v9)] ∧ s.h 100019 = (u19, .row 5 1 (List.map enB r19) true) ∧ m_spec_BodyOf_L1 x5 m v9 r19 = some r) fuel ?_ ?_
  · refine ⟨5, ([] : List Int), ((s7.h 100019).1 + 1), ?_, ?_, ?_, ?_, h⟩
    all_goals simp +decide only [F, reduceIte, Nat.reduceAdd, Bool.not_true, Bool.not_false, enB, f10, f11, f12]
  rintro mL1 s13 ⟨v9, r19, u19, f14, f15, f16, f17, h⟩
  rcases mL1 with _ | mL1
  · exact absurd h (by simp [m_spec_BodyOf_L1])
  simp only [m_spec_BodyOf_L1] at h
  refine sq (sq ?_)
  apply SW_run
  · simp +decide only [E, reduceIte, Nat.reduceAdd, Nat.reduceMul, Bool.not_true, Bool.not_false, L, f14, f15, f16, f17]
    exact Is.mk _
  refine an ?_
  rcases bcas (decide (v9 ≥ 0)) with b18 | b18
  · replace h := ite_f b18 h
    refine SW_cf (by simp +decide only [F, reduceIte, Nat.reduceAdd, Bool.not_true, Bool.not_false, f14, f15, f16, f17, b18]) ?_
    refine xt (aft_cx (aft_ix (aft_x (an (sq ?_)))))
    apply SW_run
    · simp +decide only [E, reduceIte, Nat.reduceAdd, Nat.reduceMul, Bool.not_true, Bool.not_false, L, f14, f15, f16, f17, b18]
      exact Is.mk _
    refine an (rt ?_)
    cases h
    simp [Ret, enB, f14, f15, f16, f17, b18]
  replace h := ite_t b18 h
  refine SW_ct (by simp +decide only [F, reduceIte, Nat.reduceAdd, Bool.not_true, Bool.not_false, f14, f15, f16, f17, b18]) ?_
  refine sk (an (sq (bk ?_)))
  rcases bcas (decide (0 ≤ (IntKind.i64.wrap (8 * v9)))) with b19 | b19
  · replace h := ite_f b19 h
    cases h
  replace h := ite_t b19 h
  obtain ⟨x20, h21, h⟩ := bind_some h
  apply SW_run
  · simp +decide only [E, reduceIte, Nat.reduceAdd, Nat.reduceMul, Bool.not_true, Bool.not_false, shr_ok, L, ti3, ti5, ti57, enB, f14, f15, f16, f17, b18, b19]
    refine ⟨by (have hb := app_some h21); simp [enB, List.length_append] at hb ⊢ <;> omega, ?_⟩
    try simp +decide only [E, reduceIte, Nat.reduceAdd, Nat.reduceMul, Bool.not_true, Bool.not_false, shr_ok, L, ti3, ti5, ti57, enB, f14, f15, f16, f17, b18, b19]
    exact Is.mk _
  refine ab (an ?_)
  refine SW_cut (J := fun s => s.t 7 = .v false [.dat (.int .i64 x5)] ∧ s.t 8 = .v false [.row 100019 (u19 + 1)] ∧ s.t 9 = .v false [.dat (.int .i64 v9)] ∧ s.h 100019 = ((u19 + 1), .row 5 1 (List.map enB (r19 ++ [(IntKind.u8.wrap (IntKind.i64.wrap (BitVec.ofInt (IntKind.i64.bits) (Int.fdiv x5 (2 ^ (min (IntKind.i64.wrap (8 * v9)).toNat IntKind.i64.bits))) &&& BitVec.ofInt (IntKind.i64.bits) 255).toNat))])) true) ∧ True) ?_ ?_
  · refine ⟨?_, ?_, ?_, ?_, trivial⟩ <;> (try simp +decide only [F, reduceIte, Nat.reduceAdd, Bool.not_true, Bool.not_false, enB, f14, f15, f16, f17, b18, b19])
  rintro s22 ⟨f23, f24, f25, f26, _⟩
  apply SW_run
  · simp +decide only [E, reduceIte, Nat.reduceAdd, Nat.reduceMul, Bool.not_true, Bool.not_false, L, b18, b19, f23, f24, f25, f26]
    exact Is.mk _
  refine aft_i ⟨mL1, by omega, (IntKind.i64.wrap (v9 - 1)), (r19 ++ [(IntKind.u8.wrap (IntKind.i64.wrap (BitVec.ofInt (IntKind.i64.bits) (Int.fdiv x5 (2 ^ (min (IntKind.i64.wrap (8 * v9)).toNat IntKind.i64.bits))) &&& BitVec.ofInt (IntKind.i64.bits) 255).toNat))]), (u19 + 1), ?_, ?_, ?_, ?_, h⟩
  all_goals simp +decide only [F, reduceIte, Nat.reduceAdd, Bool.not_true, Bool.not_false, enB, b18, b19, f23, f24, f25, f26]

set_option maxHeartbeats 4000000 in
theorem c_spec_EqualBytes (p0 : List Int) (p1 : List Int) (r : Bool) (h : m_spec_EqualBytes p0 p1 = some r) : SCalls Try.prog 73 [(false, [.sl (List.map enB p0)]), (false, [.sl (List.map enB p1)])] [(false, [.ro (.bool r)])] := by
  unfold m_spec_EqualBytes at h
  refine scalls_n (N := 10) (vars := [.tmp 4]) Try.func73 rfl rfl rfl (by decide +kernel) (Nat.le_of_ble_eq_true rfl) fun base wd => ?_
  refine sq ?_
  apply SW_run
  · simp +decide only [E, reduceIte, Nat.reduceAdd, Nat.reduceMul, Bool.not_true, Bool.not_false, L]
    exact Is.mk _
  refine an (sq ?_)
  obtain ⟨x1, h2, h⟩ := bind_some h
  obtain ⟨x3, h4, h⟩ := bind_some h
  apply SW_run
  · simp +decide only [E, reduceIte, Nat.reduceAdd, Nat.reduceMul, Bool.not_true, Bool.not_false, strOf_en, L, ti5, ti9, ti57]
    refine ⟨toStr_must h2, ?_⟩
    try simp +decide only [E, reduceIte, Nat.reduceAdd, Nat.reduceMul, Bool.not_true, Bool.not_false, strOf_en, L, ti5, ti9, ti57]
    refine ⟨toStr_must h4, ?_⟩
    try simp +decide only [E, reduceIte, Nat.reduceAdd, Nat.reduceMul, Bool.not_true, Bool.not_false, strOf_en, L, ti5, ti9, ti57]
    exact Is.mk _
  refine an (rt ?_)
  cases h
  simp [Ret, ]

set_option maxHeartbeats 4000000 in
theorem c_spec_CacheComplete (p0 : M.CacheSet) (p1 : M.Site) (p2 : Int) (r : Bool) (h : m_spec_CacheComplete p0 p1 p2 = some r) : SCalls Try.prog 32 [(true, M.CacheSet.en p0), (true, M.Site.en p1), (false, [.int .i64 p2])] [(false, [.ro (.bool r)])] := by
  unfold m_spec_CacheComplete at h
  simp only [M.CacheSet.en, M.Site.en]
  refine scalls_n (N := 61) (vars := [.tmp 6]) Try.func32 rfl rfl rfl (by decide +kernel) (Nat.le_of_ble_eq_true rfl) fun base wd => ?_
  refine sq ?_
  apply SW_run
  · simp +decide only [E, reduceIte, Nat.reduceAdd, Nat.reduceMul, Bool.not_true, Bool.not_false, L]
    exact Is.mk _
  refine an (sq (sq ?_))
  apply SW_run
  · simp +decide only [E, reduceIte, Nat.reduceAdd, Nat.reduceMul, Bool.not_true, Bool.not_false, L]
    exact Is.mk _
  refine an (bk ?_)
  refine SW_loop (fun m s => ∃ v7 : Int, s.t 2 = .v false [.dat (.int .i64 p2)] ∧ s.t 3 = .v false [.bp 3 1 0] ∧ s.t 4 = .v false [.bp 4 1 0] ∧ s.t 7 = .v false [.dat (.int .i64 v7)] ∧ s.h 3 = (1, .box 77 [.dat (.sl (List.map M.Cache.en p0.Caches))]) ∧ s.h 4 = (1, .box 79 [.dat (.str p1.Name), .dat (.int .i64 p1.Version), .dat (.sl (List.map enS p1.Files)), .dat (.bool p1.Shared)]) ∧ m_spec_CacheComplete_L1 p0 p1 p2 m v7 = some r) fuel ?_ ?_
  · refine ⟨0, ?_, ?_, ?_, ?_, ?_, ?_, h⟩
    all_goals simp +decide only [F, reduceIte, Nat.reduceAdd, Bool.not_true, Bool.not_false]
  rintro mL1 s1 ⟨v7, f2, f3, f4, f5, f6, f7, h⟩
  rcases mL1 with _ | mL1
  · exact absurd h (by simp [m_spec_CacheComplete_L1])
  simp only [m_spec_CacheComplete_L1] at h
  refine sq (sq ?_)
  apply SW_run
  · simp +decide only [E, reduceIte, Nat.reduceAdd, Nat.reduceMul, Bool.not_true, Bool.not_false, L, ti69, ti79, f2, f3, f4, f5, f6, f7]
    exact Is.mk _
  refine an ?_
  rcases bcas (decide (v7 < (List.length p1.Files : Int))) with b8 | b8
  · replace h := ite_f b8 h
    refine SW_cf (by simp +decide only [F, reduceIte, Nat.reduceAdd, Bool.not_true, Bool.not_false, f2, f3, f4, f5, f6, f7, b8]) ?_
    refine xt (aft_cx (aft_ix (aft_x (an (sq ?_)))))
    obtain ⟨x24, h25, h⟩ := bind_some h
    apply SW_run
    · simp +decide only [E, reduceIte, Nat.reduceAdd, Nat.reduceMul, Bool.not_true, Bool.not_false, L, ti77, f2, f3, f4, f5, f6, f7, b8]
      refine ⟨_, c_spec_FindCache p0 p2 x24 h25, ?_⟩
      try simp +decide only [E, reduceIte, Nat.reduceAdd, Nat.reduceMul, Bool.not_true, Bool.not_false, L, ti77, f2, f3, f4, f5, f6, f7, b8]
      exact Is.mk _
    refine an (rt ?_)
    cases h
    simp [Ret, f2, f3, f4, f5, f6, f7, b8]
  replace h := ite_t b8 h
  refine SW_ct (by simp +decide only [F, reduceIte, Nat.reduceAdd, Bool.not_true, Bool.not_false, f2, f3, f4, f5, f6, f7, b8]) ?_
  refine sk (an (sq (bk (sq ?_))))
  obtain ⟨x9, h10, h⟩ := bind_some h
  obtain ⟨q11, q12, q13⟩ := idx_some h10
  obtain ⟨x14, h15, h⟩ := bind_some h
  apply SW_runD mixed
  · simp +decide only [E, reduceIte, Nat.reduceAdd, Nat.reduceMul, Bool.not_true, Bool.not_false, L, ti9, ti69, ti77, ti79, ti117, enS, f2, f3, f4, f5, f6, f7, b8, q11, q12, q13]
    refine ⟨_, c_spec_MatchCache p0 p2 p1.Name x9 x14 h15, ?_⟩
    try simp +decide only [E, reduceIte, Nat.reduceAdd, Nat.reduceMul, Bool.not_true, Bool.not_false, L, ti9, ti69, ti77, ti79, ti117, enS, f2, f3, f4, f5, f6, f7, b8, q11, q12, q13]
    exact ⟨.mk (by decide +kernel), Is.mk _⟩
  refine an (sq ?_)
  rcases bcase (!x14.2) with b16 | b16
  · replace h := ite_t b16 h
    apply SW_runD mixed
    · simp +decide only [E, reduceIte, Nat.reduceAdd, Nat.reduceMul, Bool.not_true, Bool.not_false, L, f2, f3, f4, f5, f6, f7, b8, q11, q12, q13, b16]
      exact ⟨.mk (by decide +kernel), Is.mk _⟩
    refine an ?_
    refine SW_ct (by simp +decide only [F, reduceIte, Nat.reduceAdd, Bool.not_true, Bool.not_false, f2, f3, f4, f5, f6, f7, b8, q11, q12, q13, b16]) ?_
    refine sq ?_
    apply SW_run
    · simp +decide only [E, reduceIte, Nat.reduceAdd, Nat.reduceMul, Bool.not_true, Bool.not_false, L, f2, f3, f4, f5, f6, f7, b8, q11, q12, q13, b16]
      exact Is.mk _
    refine an (rt ?_)
    cases h
    simp [Ret, f2, f3, f4, f5, f6, f7, b8, q11, q12, q13, b16]
  replace h := ite_f b16 h
  rcases bcase (x14.1.Status != 200) with b17 | b17
  · replace h := ite_t b17 h
    apply SW_runD mixed
    · simp +decide only [E, reduceIte, Nat.reduceAdd, Nat.reduceMul, Bool.not_true, Bool.not_false, L, ti3, ti117, f2, f3, f4, f5, f6, f7, b8, q11, q12, q13, b16, b17]
      exact ⟨.mk (by decide +kernel), Is.mk _⟩
    refine an ?_
    refine SW_ct (by simp +decide only [F, reduceIte, Nat.reduceAdd, Bool.not_true, Bool.not_false, f2, f3, f4, f5, f6, f7, b8, q11, q12, q13, b16, b17]) ?_
    refine sq ?_
    apply SW_run
    · simp +decide only [E, reduceIte, Nat.reduceAdd, Nat.reduceMul, Bool.not_true, Bool.not_false, L, f2, f3, f4, f5, f6, f7, b8, q11, q12, q13, b16, b17]
      exact Is.mk _
    refine an (rt ?_)
    cases h
    simp [Ret, f2, f3, f4, f5, f6, f7, b8, q11, q12, q13, b16, b17]
  replace h := ite_f b17 h
  rcases bcase (x14.1.Version != p2) with b18 | b18
  · replace h := ite_t b18 h
    apply SW_runD mixed
    · simp +decide only [E, reduceIte, Nat.reduceAdd, Nat.reduceMul, Bool.not_true, Bool.not_false, L, ti3, ti117, f2, f3, f4, f5, f6, f7, b8, q11, q12, q13, b16, b17, b18]
      exact ⟨.mk (by decide +kernel), Is.mk _⟩
    refine an ?_
    refine SW_ct (by simp +decide only [F, reduceIte, Nat.reduceAdd, Bool.not_true, Bool.not_false, f2, f3, f4, f5, f6, f7, b8, q11, q12, q13, b16, b17, b18]) ?_
    refine sq ?_
    apply SW_run
    · simp +decide only [E, reduceIte, Nat.reduceAdd, Nat.reduceMul, Bool.not_true, Bool.not_false, L, f2, f3, f4, f5, f6, f7, b8, q11, q12, q13, b16, b17, b18]
      exact Is.mk _
    refine an (rt ?_)
    cases h
    simp [Ret, f2, f3, f4, f5, f6, f7, b8, q11, q12, q13, b16, b17, b18]
  replace h := ite_f b18 h
  obtain ⟨x19, h20, h⟩ := bind_some h
  obtain ⟨x21, h22, h⟩ := bind_some h
  apply SW_runD mixed
  · simp +decide only [E, reduceIte, Nat.reduceAdd, Nat.reduceMul, Bool.not_true, Bool.not_false, L, ti3, ti9, ti57, ti69, ti79, ti117, enS, f2, f3, f4, f5, f6, f7, b8, q11, q12, q13, b16, b17, b18]
    refine ⟨_, c_spec_BodyOf p1 x9 p2 x19 h20, ?_⟩
    try simp +decide only [E, reduceIte, Nat.reduceAdd, Nat.reduceMul, Bool.not_true, Bool.not_false, L, ti3, ti9, ti57, ti69, ti79, ti117, enS, f2, f3, f4, f5, f6, f7, b8, q11, q12, q13, b16, b17, b18]
    refine ⟨_, c_spec_EqualBytes x14.1.Body x19 x21 h22, ?_⟩
    try simp +decide only [E, reduceIte, Nat.reduceAdd, Nat.reduceMul, Bool.not_true, Bool.not_false, L, ti3, ti9, ti57, ti69, ti79, ti117, enS, f2, f3, f4, f5, f6, f7, b8, q11, q12, q13, b16, b17, b18]
    exact ⟨.mk (by decide +kernel), Is.mk _⟩
  refine an ?_
  rcases bcase (!x21) with b23 | b23
  · replace h := ite_t b23 h
    refine SW_ct (by simp +decide only [F, reduceIte, Nat.reduceAdd, Bool.not_true, Bool.not_false, f2, f3, f4, f5, f6, f7, b8, q11, q12, q13, b16, b17, b18, b23]) ?_
    refine sq ?_
    apply SW_run
    · simp +decide only [E, reduceIte, Nat.reduceAdd, Nat.reduceMul, Bool.not_true, Bool.not_false, L, f2, f3, f4, f5, f6, f7, b8, q11, q12, q13, b16, b17, b18, b23]
      exact Is.mk _
    refine an (rt ?_)
    cases h
    simp [Ret, f2, f3, f4, f5, f6, f7, b8, q11, q12, q13, b16, b17, b18, b23]
  replace h := ite_f b23 h
  refine SW_cf (by simp +decide only [F, reduceIte, Nat.reduceAdd, Bool.not_true, Bool.not_false, f2, f3, f4, f5, f6, f7, b8, q11, q12, q13, b16, b17, b18, b23]) ?_
  refine sk (ab (an ?_))
  apply SW_run
  · simp +decide only [E, reduceIte, Nat.reduceAdd, Nat.reduceMul, Bool.not_true, Bool.not_false, L, f2, f3, f4, f5, f6, f7, b8, q11, q12, q13, b16, b17, b18, b23]
    exact Is.mk _
  refine aft_i ⟨mL1, by omega, (IntKind.i64.wrap (v7 + 1)), ?_, ?_, ?_, ?_, ?_, ?_, h⟩
  all_goals simp +decide only [F, reduceIte, Nat.reduceAdd, Bool.not_true, Bool.not_false, f2, f3, f4, f5, f6, f7, b8, q11, q12, q13, b16, b17, b18, b23]

end Go.Proofs.Ytfcfdnmhpdgjfaa.gen
