/-
  Helper text: walks: each function's contract out of its model. No conditions beyond those of each contract.
-/
import Derived.Test.YtfcfdnmhpdgjfaaBroadcastTi
namespace Go.Proofs.Ytfcfdnmhpdgjfaa.gen
open Go Go.Sh
set_option linter.unusedVariables false
set_option linter.unusedSimpArgs false
set_option maxHeartbeats 4000000 in
theorem c_laws_szMailS (p0 : List M.Mail) (p1 : Int) (r : Int) (h : m_laws_szMailS p0 p1 = some r) : SCalls Try.prog 44 [(false, [.sl (List.map M.Mail.en p0)]), (false, [.int .i64 p1])] [(false, [.ro (.int .i64 r)])] := by
  unfold m_laws_szMailS at h
  refine scalls_n (N := 12) (vars := [.tmp 4]) Try.func44 rfl rfl rfl (by decide +kernel) (Nat.le_of_ble_eq_true rfl) fun base wd => ?_
  refine sq ?_
  apply SW_run
  · simp +decide only [E, reduceIte, Nat.reduceAdd, Nat.reduceMul, Bool.not_true, Bool.not_false, L]
    exact Is.mk _
  refine an (sq ?_)
  apply SW_run
  · simp +decide only [E, reduceIte, Nat.reduceAdd, Nat.reduceMul, Bool.not_true, Bool.not_false, L, ti24]
    exact Is.mk _
  refine an (sq (sq ?_))
  apply SW_run
  · simp +decide only [E, reduceIte, Nat.reduceAdd, Nat.reduceMul, Bool.not_true, Bool.not_false, L]
    exact Is.mk _
  refine an ?_
  rcases bcase (decide ((IntKind.i64.wrap (p1 - (List.length p0 : Int))) < 0)) with b1 | b1
  · replace h := ite_t b1 h
    refine SW_ct (by simp +decide only [F, reduceIte, Nat.reduceAdd, Bool.not_true, Bool.not_false, b1]) ?_
    refine sq ?_
    apply SW_run
    · simp +decide only [E, reduceIte, Nat.reduceAdd, Nat.reduceMul, Bool.not_true, Bool.not_false, L, b1]
      exact Is.mk _
    refine an (rt ?_)
    cases h
    simp [Ret, b1]
  replace h := ite_f b1 h
  refine SW_cf (by simp +decide only [F, reduceIte, Nat.reduceAdd, Bool.not_true, Bool.not_false, b1]) ?_
  refine sk (an (sq ?_))
  apply SW_run
  · simp +decide only [E, reduceIte, Nat.reduceAdd, Nat.reduceMul, Bool.not_true, Bool.not_false, L, b1]
    exact Is.mk _
  refine an (rt ?_)
  cases h
  simp [Ret, b1]

set_option maxHeartbeats 4000000 in
theorem c_laws_szChannel (p0 : M.Channel) (p1 : Int) (r : Int) (h : m_laws_szChannel p0 p1 = some r) : SCalls Try.prog 11 [(true, M.Channel.en p0), (false, [.int .i64 p1])] [(false, [.ro (.int .i64 r)])] := by
  unfold m_laws_szChannel at h
  simp only [M.Channel.en]
  refine scalls_n (N := 12) (vars := [.tmp 4]) Try.func11 rfl rfl rfl (by decide +kernel) (Nat.le_of_ble_eq_true rfl) fun base wd => ?_
  refine sq ?_
  apply SW_run
  · simp +decide only [E, reduceIte, Nat.reduceAdd, Nat.reduceMul, Bool.not_true, Bool.not_false, L]
    exact Is.mk _
  refine an (sq ?_)
  obtain ⟨x1, h2, h⟩ := bind_some h
  apply SW_run
  · simp +decide only [E, reduceIte, Nat.reduceAdd, Nat.reduceMul, Bool.not_true, Bool.not_false, L, ti24, ti26]
    refine ⟨_, c_laws_szMailS p0.Mails p1 x1 h2, ?_⟩
    try simp +decide only [E, reduceIte, Nat.reduceAdd, Nat.reduceMul, Bool.not_true, Bool.not_false, L, ti24, ti26]
    exact Is.mk _
  refine an (sq (sq ?_))
  apply SW_run
  · simp +decide only [E, reduceIte, Nat.reduceAdd, Nat.reduceMul, Bool.not_true, Bool.not_false, L]
    exact Is.mk _
  refine an ?_
  rcases bcase (decide (x1 < 0)) with b3 | b3
  · replace h := ite_t b3 h
    refine SW_ct (by simp +decide only [F, reduceIte, Nat.reduceAdd, Bool.not_true, Bool.not_false, b3]) ?_
    refine sq ?_
    apply SW_run
    · simp +decide only [E, reduceIte, Nat.reduceAdd, Nat.reduceMul, Bool.not_true, Bool.not_false, L, b3]
      exact Is.mk _
    refine an (rt ?_)
    cases h
    simp [Ret, b3]
  replace h := ite_f b3 h
  refine SW_cf (by simp +decide only [F, reduceIte, Nat.reduceAdd, Bool.not_true, Bool.not_false, b3]) ?_
  refine sk (an (sq ?_))
  apply SW_run
  · simp +decide only [E, reduceIte, Nat.reduceAdd, Nat.reduceMul, Bool.not_true, Bool.not_false, L, b3]
    exact Is.mk _
  refine an (rt ?_)
  cases h
  simp [Ret, b3]

set_option maxHeartbeats 4000000 in
theorem c_laws_szLoaded (p0 : M.Loaded) (p1 : Int) (r : Int) (h : m_laws_szLoaded p0 p1 = some r) : SCalls Try.prog 89 [(true, M.Loaded.en p0), (false, [.int .i64 p1])] [(false, [.ro (.int .i64 r)])] := by
  unfold m_laws_szLoaded at h
  simp only [M.Loaded.en]
  refine scalls_n (N := 13) (vars := [.tmp 4]) Try.func89 rfl rfl rfl (by decide +kernel) (Nat.le_of_ble_eq_true rfl) fun base wd => ?_
  refine sq ?_
  apply SW_run
  · simp +decide only [E, reduceIte, Nat.reduceAdd, Nat.reduceMul, Bool.not_true, Bool.not_false, L]
    exact Is.mk _
  refine an (sq ?_)
  apply SW_run
  · simp +decide only [E, reduceIte, Nat.reduceAdd, Nat.reduceMul, Bool.not_true, Bool.not_false, L, ti9, ti135]
    exact Is.mk _
  refine an (sq (sq ?_))
  apply SW_run
  · simp +decide only [E, reduceIte, Nat.reduceAdd, Nat.reduceMul, Bool.not_true, Bool.not_false, L]
    exact Is.mk _
  refine an ?_
  rcases bcase (decide ((IntKind.i64.wrap (p1 - (p0.Path.size : Int))) < 0)) with b1 | b1
  · replace h := ite_t b1 h
    refine SW_ct (by simp +decide only [F, reduceIte, Nat.reduceAdd, Bool.not_true, Bool.not_false, b1]) ?_
    refine sq ?_
    apply SW_run
    · simp +decide only [E, reduceIte, Nat.reduceAdd, Nat.reduceMul, Bool.not_true, Bool.not_false, L, b1]
      exact Is.mk _
    refine an (rt ?_)
    cases h
    simp [Ret, b1]
  replace h := ite_f b1 h
  refine SW_cf (by simp +decide only [F, reduceIte, Nat.reduceAdd, Bool.not_true, Bool.not_false, b1]) ?_
  refine sk (an (sq ?_))
  apply SW_run
  · simp +decide only [E, reduceIte, Nat.reduceAdd, Nat.reduceMul, Bool.not_true, Bool.not_false, L, b1]
    exact Is.mk _
  refine an (rt ?_)
  cases h
  simp [Ret, b1]

set_option maxHeartbeats 4000000 in
theorem c_laws_szLoadedS (p0 : List M.Loaded) (p1 : Int) (r : Int) (h : m_laws_szLoadedS p0 p1 = some r) : SCalls Try.prog 54 [(false, [.sl (List.map M.Loaded.en p0)]), (false, [.int .i64 p1])] [(false, [.ro (.int .i64 r)])] := by
  unfold m_laws_szLoadedS at h
  refine scalls_n (N := 27) (vars := [.tmp 4]) Try.func54 rfl rfl rfl (by decide +kernel) (Nat.le_of_ble_eq_true rfl) fun base wd => ?_
  refine sq ?_
  apply SW_run
  · simp +decide only [E, reduceIte, Nat.reduceAdd, Nat.reduceMul, Bool.not_true, Bool.not_false, L]
    exact Is.mk _
  refine an (sq ?_)
  apply SW_run
  · simp +decide only [E, reduceIte, Nat.reduceAdd, Nat.reduceMul, Bool.not_true, Bool.not_false, L, ti40]
    exact Is.mk _
  refine an (sq (sq ?_))
  apply SW_run
  · simp +decide only [E, reduceIte, Nat.reduceAdd, Nat.reduceMul, Bool.not_true, Bool.not_false, L]
    exact Is.mk _
  refine an ?_
  rcases bcase (decide ((IntKind.i64.wrap (p1 - (List.length p0 : Int))) < 0)) with b1 | b1
  · replace h := ite_t b1 h
    refine SW_ct (by simp +decide only [F, reduceIte, Nat.reduceAdd, Bool.not_true, Bool.not_false, b1]) ?_
    refine sq ?_
    apply SW_run
    · simp +decide only [E, reduceIte, Nat.reduceAdd, Nat.reduceMul, Bool.not_true, Bool.not_false, L, b1]
      exact Is.mk _
    refine an (rt ?_)
    cases h
    simp [Ret, b1]
  replace h := ite_f b1 h
  refine SW_cf (by simp +decide only [F, reduceIte, Nat.reduceAdd, Bool.not_true, Bool.not_false, b1]) ?_
  refine sk (an (sq (sq ?_)))
  apply SW_run
  · simp +decide only [E, reduceIte, Nat.reduceAdd, Nat.reduceMul, Bool.not_true, Bool.not_false, L, b1]
    exact Is.mk _
  refine an (bk ?_)
  refine SW_loop (fun m s => ∃ v1 : Int, ∃ v5 : Int, s.t 0 = .v false [.dat (.sl (List.map M.Loaded.en p0))] ∧ s.t 1 = .v false [.dat (.int .i64 v1)] ∧ s.t 5 = .v false [.dat (.int .i64 v5)] ∧ m_laws_szLoadedS_L1 p0 m v1 v5 = some r) fuel ?_ ?_
  · refine ⟨(IntKind.i64.wrap (p1 - (List.length p0 : Int))), 0, ?_, ?_, ?_, h⟩
    all_goals simp +decide only [F, reduceIte, Nat.reduceAdd, Bool.not_true, Bool.not_false, b1]
  rintro mL1 s2 ⟨v1, v5, f3, f4, f5, h⟩
  rcases mL1 with _ | mL1
  · exact absurd h (by simp [m_laws_szLoadedS_L1])
  simp only [m_laws_szLoadedS_L1] at h
  refine sq (sq ?_)
  apply SW_run
  · simp +decide only [E, reduceIte, Nat.reduceAdd, Nat.reduceMul, Bool.not_true, Bool.not_false, L, ti40, b1, f3, f4, f5]
    exact Is.mk _
  refine an ?_
  rcases bcas (decide (v5 < (List.length p0 : Int))) with b6 | b6
  · replace h := ite_f b6 h
    refine SW_cf (by simp +decide only [F, reduceIte, Nat.reduceAdd, Bool.not_true, Bool.not_false, b1, f3, f4, f5, b6]) ?_
    refine xt (aft_cx (aft_ix (aft_x (an (sq ?_)))))
    apply SW_run
    · simp +decide only [E, reduceIte, Nat.reduceAdd, Nat.reduceMul, Bool.not_true, Bool.not_false, L, b1, f3, f4, f5, b6]
      exact Is.mk _
    refine an (rt ?_)
    cases h
    simp [Ret, b1, f3, f4, f5, b6]
  replace h := ite_t b6 h
  refine SW_ct (by simp +decide only [F, reduceIte, Nat.reduceAdd, Bool.not_true, Bool.not_false, b1, f3, f4, f5, b6]) ?_
  refine sk (an (sq (bk (sq ?_))))
  obtain ⟨x7, h8, h⟩ := bind_some h
  obtain ⟨q9, q10, q11⟩ := idx_some h8
  obtain ⟨x12, h13, h⟩ := bind_some h
  apply SW_run
  · simp +decide only [E, reduceIte, Nat.reduceAdd, Nat.reduceMul, Bool.not_true, Bool.not_false, L, ti40, ti135, M.Loaded.en, b1, f3, f4, f5, b6, q9, q10, q11]
    refine ⟨_, c_laws_szLoaded x7 v1 x12 h13, ?_⟩
    try simp +decide only [E, reduceIte, Nat.reduceAdd, Nat.reduceMul, Bool.not_true, Bool.not_false, L, ti40, ti135, M.Loaded.en, b1, f3, f4, f5, b6, q9, q10, q11]
    exact Is.mk _
  refine an (sq ?_)
  apply SW_run
  · simp +decide only [E, reduceIte, Nat.reduceAdd, Nat.reduceMul, Bool.not_true, Bool.not_false, L, b1, f3, f4, f5, b6, q9, q10, q11]
    exact Is.mk _
  refine an ?_
  rcases bcase (decide (x12 < 0)) with b14 | b14
  · replace h := ite_t b14 h
    refine SW_ct (by simp +decide only [F, reduceIte, Nat.reduceAdd, Bool.not_true, Bool.not_false, b1, f3, f4, f5, b6, q9, q10, q11, b14]) ?_
    refine sq ?_
    apply SW_run
    · simp +decide only [E, reduceIte, Nat.reduceAdd, Nat.reduceMul, Bool.not_true, Bool.not_false, L, b1, f3, f4, f5, b6, q9, q10, q11, b14]
      exact Is.mk _
    refine an (rt ?_)
    cases h
    simp [Ret, b1, f3, f4, f5, b6, q9, q10, q11, b14]
  replace h := ite_f b14 h
  refine SW_cf (by simp +decide only [F, reduceIte, Nat.reduceAdd, Bool.not_true, Bool.not_false, b1, f3, f4, f5, b6, q9, q10, q11, b14]) ?_
  refine sk (ab (an ?_))
  apply SW_run
  · simp +decide only [E, reduceIte, Nat.reduceAdd, Nat.reduceMul, Bool.not_true, Bool.not_false, L, b1, f3, f4, f5, b6, q9, q10, q11, b14]
    exact Is.mk _
  refine aft_i ⟨mL1, by omega, x12, (IntKind.i64.wrap (v5 + 1)), ?_, ?_, ?_, h⟩
  all_goals simp +decide only [F, reduceIte, Nat.reduceAdd, Bool.not_true, Bool.not_false, b1, f3, f4, f5, b6, q9, q10, q11, b14]

set_option maxHeartbeats 4000000 in
theorem c_laws_szInstr (p0 : M.Instr) (p1 : Int) (r : Int) (h : m_laws_szInstr p0 p1 = some r) : SCalls Try.prog 118 [(true, M.Instr.en p0), (false, [.int .i64 p1])] [(false, [.ro (.int .i64 r)])] := by
  unfold m_laws_szInstr at h
  simp only [M.Instr.en]
  refine scalls_n (N := 13) (vars := [.tmp 4]) Try.func118 rfl rfl rfl (by decide +kernel) (Nat.le_of_ble_eq_true rfl) fun base wd => ?_
  refine sq ?_
  apply SW_run
  · simp +decide only [E, reduceIte, Nat.reduceAdd, Nat.reduceMul, Bool.not_true, Bool.not_false, L]
    exact Is.mk _
  refine an (sq ?_)
  apply SW_run
  · simp +decide only [E, reduceIte, Nat.reduceAdd, Nat.reduceMul, Bool.not_true, Bool.not_false, L, ti9, ti171]
    exact Is.mk _
  refine an (sq (sq ?_))
  apply SW_run
  · simp +decide only [E, reduceIte, Nat.reduceAdd, Nat.reduceMul, Bool.not_true, Bool.not_false, L]
    exact Is.mk _
  refine an ?_
  rcases bcase (decide ((IntKind.i64.wrap (p1 - (p0.Text.size : Int))) < 0)) with b1 | b1
  · replace h := ite_t b1 h
    refine SW_ct (by simp +decide only [F, reduceIte, Nat.reduceAdd, Bool.not_true, Bool.not_false, b1]) ?_
    refine sq ?_
    apply SW_run
    · simp +decide only [E, reduceIte, Nat.reduceAdd, Nat.reduceMul, Bool.not_true, Bool.not_false, L, b1]
      exact Is.mk _
    refine an (rt ?_)
    cases h
    simp [Ret, b1]
  replace h := ite_f b1 h
  refine SW_cf (by simp +decide only [F, reduceIte, Nat.reduceAdd, Bool.not_true, Bool.not_false, b1]) ?_
  refine sk (an (sq ?_))
  apply SW_run
  · simp +decide only [E, reduceIte, Nat.reduceAdd, Nat.reduceMul, Bool.not_true, Bool.not_false, L, b1]
    exact Is.mk _
  refine an (rt ?_)
  cases h
  simp [Ret, b1]

set_option maxHeartbeats 4000000 in
theorem c_laws_szInstrS (p0 : List M.Instr) (p1 : Int) (r : Int) (h : m_laws_szInstrS p0 p1 = some r) : SCalls Try.prog 90 [(false, [.sl (List.map M.Instr.en p0)]), (false, [.int .i64 p1])] [(false, [.ro (.int .i64 r)])] := by
  unfold m_laws_szInstrS at h
  refine scalls_n (N := 27) (vars := [.tmp 4]) Try.func90 rfl rfl rfl (by decide +kernel) (Nat.le_of_ble_eq_true rfl) fun base wd => ?_
  refine sq ?_
  apply SW_run
  · simp +decide only [E, reduceIte, Nat.reduceAdd, Nat.reduceMul, Bool.not_true, Bool.not_false, L]
    exact Is.mk _
  refine an (sq ?_)
  apply SW_run
  · simp +decide only [E, reduceIte, Nat.reduceAdd, Nat.reduceMul, Bool.not_true, Bool.not_false, L, ti41]
    exact Is.mk _
  refine an (sq (sq ?_))
  apply SW_run
  · simp +decide only [E, reduceIte, Nat.reduceAdd, Nat.reduceMul, Bool.not_true, Bool.not_false, L]
    exact Is.mk _
  refine an ?_
  rcases bcase (decide ((IntKind.i64.wrap (p1 - (List.length p0 : Int))) < 0)) with b1 | b1
  · replace h := ite_t b1 h
    refine SW_ct (by simp +decide only [F, reduceIte, Nat.reduceAdd, Bool.not_true, Bool.not_false, b1]) ?_
    refine sq ?_
    apply SW_run
    · simp +decide only [E, reduceIte, Nat.reduceAdd, Nat.reduceMul, Bool.not_true, Bool.not_false, L, b1]
      exact Is.mk _
    refine an (rt ?_)
    cases h
    simp [Ret, b1]
  replace h := ite_f b1 h
  refine SW_cf (by simp +decide only [F, reduceIte, Nat.reduceAdd, Bool.not_true, Bool.not_false, b1]) ?_
  refine sk (an (sq (sq ?_)))
  apply SW_run
  · simp +decide only [E, reduceIte, Nat.reduceAdd, Nat.reduceMul, Bool.not_true, Bool.not_false, L, b1]
    exact Is.mk _
  refine an (bk ?_)
  refine SW_loop (fun m s => ∃ v1 : Int, ∃ v5 : Int, s.t 0 = .v false [.dat (.sl (List.map M.Instr.en p0))] ∧ s.t 1 = .v false [.dat (.int .i64 v1)] ∧ s.t 5 = .v false [.dat (.int .i64 v5)] ∧ m_laws_szInstrS_L1 p0 m v1 v5 = some r) fuel ?_ ?_
  · refine ⟨(IntKind.i64.wrap (p1 - (List.length p0 : Int))), 0, ?_, ?_, ?_, h⟩
    all_goals simp +decide only [F, reduceIte, Nat.reduceAdd, Bool.not_true, Bool.not_false, b1]
  rintro mL1 s2 ⟨v1, v5, f3, f4, f5, h⟩
  rcases mL1 with _ | mL1
  · exact absurd h (by simp [m_laws_szInstrS_L1])
  simp only [m_laws_szInstrS_L1] at h
  refine sq (sq ?_)
  apply SW_run
  · simp +decide only [E, reduceIte, Nat.reduceAdd, Nat.reduceMul, Bool.not_true, Bool.not_false, L, ti41, b1, f3, f4, f5]
    exact Is.mk _
  refine an ?_
  rcases bcas (decide (v5 < (List.length p0 : Int))) with b6 | b6
  · replace h := ite_f b6 h
    refine SW_cf (by simp +decide only [F, reduceIte, Nat.reduceAdd, Bool.not_true, Bool.not_false, b1, f3, f4, f5, b6]) ?_
    refine xt (aft_cx (aft_ix (aft_x (an (sq ?_)))))
    apply SW_run
    · simp +decide only [E, reduceIte, Nat.reduceAdd, Nat.reduceMul, Bool.not_true, Bool.not_false, L, b1, f3, f4, f5, b6]
      exact Is.mk _
    refine an (rt ?_)
    cases h
    simp [Ret, b1, f3, f4, f5, b6]
  replace h := ite_t b6 h
  refine SW_ct (by simp +decide only [F, reduceIte, Nat.reduceAdd, Bool.not_true, Bool.not_false, b1, f3, f4, f5, b6]) ?_
  refine sk (an (sq (bk (sq ?_))))
  obtain ⟨x7, h8, h⟩ := bind_some h
  obtain ⟨q9, q10, q11⟩ := idx_some h8
  obtain ⟨x12, h13, h⟩ := bind_some h
  apply SW_run
  · simp +decide only [E, reduceIte, Nat.reduceAdd, Nat.reduceMul, Bool.not_true, Bool.not_false, L, ti41, ti171, M.Instr.en, b1, f3, f4, f5, b6, q9, q10, q11]
    refine ⟨_, c_laws_szInstr x7 v1 x12 h13, ?_⟩
    try simp +decide only [E, reduceIte, Nat.reduceAdd, Nat.reduceMul, Bool.not_true, Bool.not_false, L, ti41, ti171, M.Instr.en, b1, f3, f4, f5, b6, q9, q10, q11]
    exact Is.mk _
  refine an (sq ?_)
  apply SW_run
  · simp +decide only [E, reduceIte, Nat.reduceAdd, Nat.reduceMul, Bool.not_true, Bool.not_false, L, b1, f3, f4, f5, b6, q9, q10, q11]
    exact Is.mk _
  refine an ?_
  rcases bcase (decide (x12 < 0)) with b14 | b14
  · replace h := ite_t b14 h
    refine SW_ct (by simp +decide only [F, reduceIte, Nat.reduceAdd, Bool.not_true, Bool.not_false, b1, f3, f4, f5, b6, q9, q10, q11, b14]) ?_
    refine sq ?_
    apply SW_run
    · simp +decide only [E, reduceIte, Nat.reduceAdd, Nat.reduceMul, Bool.not_true, Bool.not_false, L, b1, f3, f4, f5, b6, q9, q10, q11, b14]
      exact Is.mk _
    refine an (rt ?_)
    cases h
    simp [Ret, b1, f3, f4, f5, b6, q9, q10, q11, b14]
  replace h := ite_f b14 h
  refine SW_cf (by simp +decide only [F, reduceIte, Nat.reduceAdd, Bool.not_true, Bool.not_false, b1, f3, f4, f5, b6, q9, q10, q11, b14]) ?_
  refine sk (ab (an ?_))
  apply SW_run
  · simp +decide only [E, reduceIte, Nat.reduceAdd, Nat.reduceMul, Bool.not_true, Bool.not_false, L, b1, f3, f4, f5, b6, q9, q10, q11, b14]
    exact Is.mk _
  refine aft_i ⟨mL1, by omega, x12, (IntKind.i64.wrap (v5 + 1)), ?_, ?_, ?_, h⟩
  all_goals simp +decide only [F, reduceIte, Nat.reduceAdd, Bool.not_true, Bool.not_false, b1, f3, f4, f5, b6, q9, q10, q11, b14]

set_option maxHeartbeats 4000000 in
theorem c_laws_szIntS (p0 : List Int) (p1 : Int) (r : Int) (h : m_laws_szIntS p0 p1 = some r) : SCalls Try.prog 91 [(false, [.sl (List.map enI p0)]), (false, [.int .i64 p1])] [(false, [.ro (.int .i64 r)])] := by
  unfold m_laws_szIntS at h
  refine scalls_n (N := 12) (vars := [.tmp 4]) Try.func91 rfl rfl rfl (by decide +kernel) (Nat.le_of_ble_eq_true rfl) fun base wd => ?_
  refine sq ?_
  apply SW_run
  · simp +decide only [E, reduceIte, Nat.reduceAdd, Nat.reduceMul, Bool.not_true, Bool.not_false, L]
    exact Is.mk _
  refine an (sq ?_)
  apply SW_run
  · simp +decide only [E, reduceIte, Nat.reduceAdd, Nat.reduceMul, Bool.not_true, Bool.not_false, L, ti42]
    exact Is.mk _
  refine an (sq (sq ?_))
  apply SW_run
  · simp +decide only [E, reduceIte, Nat.reduceAdd, Nat.reduceMul, Bool.not_true, Bool.not_false, L]
    exact Is.mk _
  refine an ?_
  rcases bcase (decide ((IntKind.i64.wrap (p1 - (List.length p0 : Int))) < 0)) with b1 | b1
  · replace h := ite_t b1 h
    refine SW_ct (by simp +decide only [F, reduceIte, Nat.reduceAdd, Bool.not_true, Bool.not_false, b1]) ?_
    refine sq ?_
    apply SW_run
    · simp +decide only [E, reduceIte, Nat.reduceAdd, Nat.reduceMul, Bool.not_true, Bool.not_false, L, b1]
      exact Is.mk _
    refine an (rt ?_)
    cases h
    simp [Ret, b1]
  replace h := ite_f b1 h
  refine SW_cf (by simp +decide only [F, reduceIte, Nat.reduceAdd, Bool.not_true, Bool.not_false, b1]) ?_
  refine sk (an (sq ?_))
  apply SW_run
  · simp +decide only [E, reduceIte, Nat.reduceAdd, Nat.reduceMul, Bool.not_true, Bool.not_false, L, b1]
    exact Is.mk _
  refine an (rt ?_)
  cases h
  simp [Ret, b1]

set_option maxHeartbeats 4000000 in
theorem c_laws_szMachine (p0 : M.Machine) (p1 : Int) (r : Int) (h : m_laws_szMachine p0 p1 = some r) : SCalls Try.prog 55 [(true, M.Machine.en p0), (false, [.int .i64 p1])] [(false, [.ro (.int .i64 r)])] := by
  unfold m_laws_szMachine at h
  simp only [M.Machine.en]
  refine scalls_n (N := 18) (vars := [.tmp 4]) Try.func55 rfl rfl rfl (by decide +kernel) (Nat.le_of_ble_eq_true rfl) fun base wd => ?_
  refine sq ?_
  apply SW_run
  · simp +decide only [E, reduceIte, Nat.reduceAdd, Nat.reduceMul, Bool.not_true, Bool.not_false, L]
    exact Is.mk _
  refine an (sq ?_)
  obtain ⟨x1, h2, h⟩ := bind_some h
  apply SW_run
  · simp +decide only [E, reduceIte, Nat.reduceAdd, Nat.reduceMul, Bool.not_true, Bool.not_false, L, ti41, ti44]
    refine ⟨_, c_laws_szInstrS p0.Script p1 x1 h2, ?_⟩
    try simp +decide only [E, reduceIte, Nat.reduceAdd, Nat.reduceMul, Bool.not_true, Bool.not_false, L, ti41, ti44]
    exact Is.mk _
  refine an (sq (sq ?_))
  apply SW_run
  · simp +decide only [E, reduceIte, Nat.reduceAdd, Nat.reduceMul, Bool.not_true, Bool.not_false, L]
    exact Is.mk _
  refine an ?_
  rcases bcase (decide (x1 < 0)) with b3 | b3
  · replace h := ite_t b3 h
    refine SW_ct (by simp +decide only [F, reduceIte, Nat.reduceAdd, Bool.not_true, Bool.not_false, b3]) ?_
    refine sq ?_
    apply SW_run
    · simp +decide only [E, reduceIte, Nat.reduceAdd, Nat.reduceMul, Bool.not_true, Bool.not_false, L, b3]
      exact Is.mk _
    refine an (rt ?_)
    cases h
    simp [Ret, b3]
  replace h := ite_f b3 h
  refine SW_cf (by simp +decide only [F, reduceIte, Nat.reduceAdd, Bool.not_true, Bool.not_false, b3]) ?_
  refine sk (an (sq ?_))
  obtain ⟨x4, h5, h⟩ := bind_some h
  apply SW_run
  · simp +decide only [E, reduceIte, Nat.reduceAdd, Nat.reduceMul, Bool.not_true, Bool.not_false, L, ti42, ti44, b3]
    refine ⟨_, c_laws_szIntS p0.Regs x1 x4 h5, ?_⟩
    try simp +decide only [E, reduceIte, Nat.reduceAdd, Nat.reduceMul, Bool.not_true, Bool.not_false, L, ti42, ti44, b3]
    exact Is.mk _
  refine an (sq (sq ?_))
  apply SW_run
  · simp +decide only [E, reduceIte, Nat.reduceAdd, Nat.reduceMul, Bool.not_true, Bool.not_false, L, b3]
    exact Is.mk _
  refine an ?_
  rcases bcase (decide (x4 < 0)) with b6 | b6
  · replace h := ite_t b6 h
    refine SW_ct (by simp +decide only [F, reduceIte, Nat.reduceAdd, Bool.not_true, Bool.not_false, b3, b6]) ?_
    refine sq ?_
    apply SW_run
    · simp +decide only [E, reduceIte, Nat.reduceAdd, Nat.reduceMul, Bool.not_true, Bool.not_false, L, b3, b6]
      exact Is.mk _
    refine an (rt ?_)
    cases h
    simp [Ret, b3, b6]
  replace h := ite_f b6 h
  refine SW_cf (by simp +decide only [F, reduceIte, Nat.reduceAdd, Bool.not_true, Bool.not_false, b3, b6]) ?_
  refine sk (an (sq ?_))
  apply SW_run
  · simp +decide only [E, reduceIte, Nat.reduceAdd, Nat.reduceMul, Bool.not_true, Bool.not_false, L, b3, b6]
    exact Is.mk _
  refine an (rt ?_)
  cases h
  simp [Ret, b3, b6]

set_option maxHeartbeats 4000000 in
theorem c_laws_szPage (p0 : M.Page) (p1 : Int) (r : Int) (h : m_laws_szPage p0 p1 = some r) : SCalls Try.prog 19 [(true, M.Page.en p0), (false, [.int .i64 p1])] [(false, [.ro (.int .i64 r)])] := by
  unfold m_laws_szPage at h
  simp only [M.Page.en]
  refine scalls_n (N := 32) (vars := [.tmp 4]) Try.func19 rfl rfl rfl (by decide +kernel) (Nat.le_of_ble_eq_true rfl) fun base wd => ?_
  refine sq ?_
  apply SW_run
  · simp +decide only [E, reduceIte, Nat.reduceAdd, Nat.reduceMul, Bool.not_true, Bool.not_false, L]
    exact Is.mk _
  refine an (sq ?_)
  apply SW_run
  · simp +decide only [E, reduceIte, Nat.reduceAdd, Nat.reduceMul, Bool.not_true, Bool.not_false, L, ti9, ti46]
    exact Is.mk _
  refine an (sq (sq ?_))
  apply SW_run
  · simp +decide only [E, reduceIte, Nat.reduceAdd, Nat.reduceMul, Bool.not_true, Bool.not_false, L]
    exact Is.mk _
  refine an ?_
  rcases bcase (decide ((IntKind.i64.wrap (p1 - (p0.Site.size : Int))) < 0)) with b1 | b1
  · replace h := ite_t b1 h
    refine SW_ct (by simp +decide only [F, reduceIte, Nat.reduceAdd, Bool.not_true, Bool.not_false, b1]) ?_
    refine sq ?_
    apply SW_run
    · simp +decide only [E, reduceIte, Nat.reduceAdd, Nat.reduceMul, Bool.not_true, Bool.not_false, L, b1]
      exact Is.mk _
    refine an (rt ?_)
    cases h
    simp [Ret, b1]
  replace h := ite_f b1 h
  refine SW_cf (by simp +decide only [F, reduceIte, Nat.reduceAdd, Bool.not_true, Bool.not_false, b1]) ?_
  refine sk (an (sq ?_))
  apply SW_run
  · simp +decide only [E, reduceIte, Nat.reduceAdd, Nat.reduceMul, Bool.not_true, Bool.not_false, L, ti9, ti46, b1]
    exact Is.mk _
  refine an (sq (sq ?_))
  apply SW_run
  · simp +decide only [E, reduceIte, Nat.reduceAdd, Nat.reduceMul, Bool.not_true, Bool.not_false, L, b1]
    exact Is.mk _
  refine an ?_
  rcases bcase (decide ((IntKind.i64.wrap ((IntKind.i64.wrap (p1 - (p0.Site.size : Int))) - (p0.Top.size : Int))) < 0)) with b2 | b2
  · replace h := ite_t b2 h
    refine SW_ct (by simp +decide only [F, reduceIte, Nat.reduceAdd, Bool.not_true, Bool.not_false, b1, b2]) ?_
    refine sq ?_
    apply SW_run
    · simp +decide only [E, reduceIte, Nat.reduceAdd, Nat.reduceMul, Bool.not_true, Bool.not_false, L, b1, b2]
      exact Is.mk _
    refine an (rt ?_)
    cases h
    simp [Ret, b1, b2]
  replace h := ite_f b2 h
  refine SW_cf (by simp +decide only [F, reduceIte, Nat.reduceAdd, Bool.not_true, Bool.not_false, b1, b2]) ?_
  refine sk (an (sq ?_))
  obtain ⟨x3, h4, h⟩ := bind_some h
  apply SW_run
  · simp +decide only [E, reduceIte, Nat.reduceAdd, Nat.reduceMul, Bool.not_true, Bool.not_false, L, ti40, ti46, b1, b2]
    refine ⟨_, c_laws_szLoadedS p0.Loaded (IntKind.i64.wrap ((IntKind.i64.wrap (p1 - (p0.Site.size : Int))) - (p0.Top.size : Int))) x3 h4, ?_⟩
    try simp +decide only [E, reduceIte, Nat.reduceAdd, Nat.reduceMul, Bool.not_true, Bool.not_false, L, ti40, ti46, b1, b2]
    exact Is.mk _
  refine an (sq (sq ?_))
  apply SW_run
  · simp +decide only [E, reduceIte, Nat.reduceAdd, Nat.reduceMul, Bool.not_true, Bool.not_false, L, b1, b2]
    exact Is.mk _
  refine an ?_
  rcases bcase (decide (x3 < 0)) with b5 | b5
  · replace h := ite_t b5 h
    refine SW_ct (by simp +decide only [F, reduceIte, Nat.reduceAdd, Bool.not_true, Bool.not_false, b1, b2, b5]) ?_
    refine sq ?_
    apply SW_run
    · simp +decide only [E, reduceIte, Nat.reduceAdd, Nat.reduceMul, Bool.not_true, Bool.not_false, L, b1, b2, b5]
      exact Is.mk _
    refine an (rt ?_)
    cases h
    simp [Ret, b1, b2, b5]
  replace h := ite_f b5 h
  refine SW_cf (by simp +decide only [F, reduceIte, Nat.reduceAdd, Bool.not_true, Bool.not_false, b1, b2, b5]) ?_
  refine sk (an (sq ?_))
  obtain ⟨x6, h7, h⟩ := bind_some h
  apply SW_run
  · simp +decide only [E, reduceIte, Nat.reduceAdd, Nat.reduceMul, Bool.not_true, Bool.not_false, L, ti44, ti46, b1, b2, b5]
    refine ⟨_, c_laws_szMachine p0.Machine x3 x6 h7, ?_⟩
    try simp +decide only [E, reduceIte, Nat.reduceAdd, Nat.reduceMul, Bool.not_true, Bool.not_false, L, ti44, ti46, b1, b2, b5]
    exact Is.mk _
  refine an (sq (sq ?_))
  apply SW_run
  · simp +decide only [E, reduceIte, Nat.reduceAdd, Nat.reduceMul, Bool.not_true, Bool.not_false, L, b1, b2, b5]
    exact Is.mk _
  refine an ?_
  rcases bcase (decide (x6 < 0)) with b8 | b8
  · replace h := ite_t b8 h
    refine SW_ct (by simp +decide only [F, reduceIte, Nat.reduceAdd, Bool.not_true, Bool.not_false, b1, b2, b5, b8]) ?_
    refine sq ?_
    apply SW_run
    · simp +decide only [E, reduceIte, Nat.reduceAdd, Nat.reduceMul, Bool.not_true, Bool.not_false, L, b1, b2, b5, b8]
      exact Is.mk _
    refine an (rt ?_)
    cases h
    simp [Ret, b1, b2, b5, b8]
  replace h := ite_f b8 h
  refine SW_cf (by simp +decide only [F, reduceIte, Nat.reduceAdd, Bool.not_true, Bool.not_false, b1, b2, b5, b8]) ?_
  refine sk (an (sq ?_))
  apply SW_run
  · simp +decide only [E, reduceIte, Nat.reduceAdd, Nat.reduceMul, Bool.not_true, Bool.not_false, L, b1, b2, b5, b8]
    exact Is.mk _
  refine an (rt ?_)
  cases h
  simp [Ret, b1, b2, b5, b8]

set_option maxHeartbeats 4000000 in
theorem c_laws_szPageS (p0 : List M.Page) (p1 : Int) (r : Int) (h : m_laws_szPageS p0 p1 = some r) : SCalls Try.prog 38 [(false, [.sl (List.map M.Page.en p0)]), (false, [.int .i64 p1])] [(false, [.ro (.int .i64 r)])] := by
  unfold m_laws_szPageS at h
  refine scalls_n (N := 27) (vars := [.tmp 4]) Try.func38 rfl rfl rfl (by decide +kernel) (Nat.le_of_ble_eq_true rfl) fun base wd => ?_
  refine sq ?_
  apply SW_run
  · simp +decide only [E, reduceIte, Nat.reduceAdd, Nat.reduceMul, Bool.not_true, Bool.not_false, L]
    exact Is.mk _
  refine an (sq ?_)
  apply SW_run
  · simp +decide only [E, reduceIte, Nat.reduceAdd, Nat.reduceMul, Bool.not_true, Bool.not_false, L, ti84]
    exact Is.mk _
  refine an (sq (sq ?_))
  apply SW_run
  · simp +decide only [E, reduceIte, Nat.reduceAdd, Nat.reduceMul, Bool.not_true, Bool.not_false, L]
    exact Is.mk _
  refine an ?_
  rcases bcase (decide ((IntKind.i64.wrap (p1 - (List.length p0 : Int))) < 0)) with b1 | b1
  · replace h := ite_t b1 h
    refine SW_ct (by simp +decide only [F, reduceIte, Nat.reduceAdd, Bool.not_true, Bool.not_false, b1]) ?_
    refine sq ?_
    apply SW_run
    · simp +decide only [E, reduceIte, Nat.reduceAdd, Nat.reduceMul, Bool.not_true, Bool.not_false, L, b1]
      exact Is.mk _
    refine an (rt ?_)
    cases h
    simp [Ret, b1]
  replace h := ite_f b1 h
  refine SW_cf (by simp +decide only [F, reduceIte, Nat.reduceAdd, Bool.not_true, Bool.not_false, b1]) ?_
  refine sk (an (sq (sq ?_)))
  apply SW_run
  · simp +decide only [E, reduceIte, Nat.reduceAdd, Nat.reduceMul, Bool.not_true, Bool.not_false, L, b1]
    exact Is.mk _
  refine an (bk ?_)
  refine SW_loop (fun m s => ∃ v1 : Int, ∃ v5 : Int, s.t 0 = .v false [.dat (.sl (List.map M.Page.en p0))] ∧ s.t 1 = .v false [.dat (.int .i64 v1)] ∧ s.t 5 = .v false [.dat (.int .i64 v5)] ∧ m_laws_szPageS_L1 p0 m v1 v5 = some r) fuel ?_ ?_
  · refine ⟨(IntKind.i64.wrap (p1 - (List.length p0 : Int))), 0, ?_, ?_, ?_, h⟩
    all_goals simp +decide only [F, reduceIte, Nat.reduceAdd, Bool.not_true, Bool.not_false, b1]
  rintro mL1 s2 ⟨v1, v5, f3, f4, f5, h⟩
  rcases mL1 with _ | mL1
  · exact absurd h (by simp [m_laws_szPageS_L1])
  simp only [m_laws_szPageS_L1] at h
  refine sq (sq ?_)
  apply SW_run
  · simp +decide only [E, reduceIte, Nat.reduceAdd, Nat.reduceMul, Bool.not_true, Bool.not_false, L, ti84, b1, f3, f4, f5]
    exact Is.mk _
  refine an ?_
  rcases bcas (decide (v5 < (List.length p0 : Int))) with b6 | b6
  · replace h := ite_f b6 h
    refine SW_cf (by simp +decide only [F, reduceIte, Nat.reduceAdd, Bool.not_true, Bool.not_false, b1, f3, f4, f5, b6]) ?_
    refine xt (aft_cx (aft_ix (aft_x (an (sq ?_)))))
    apply SW_run
    · simp +decide only [E, reduceIte, Nat.reduceAdd, Nat.reduceMul, Bool.not_true, Bool.not_false, L, b1, f3, f4, f5, b6]
      exact Is.mk _
    refine an (rt ?_)
    cases h
    simp [Ret, b1, f3, f4, f5, b6]
  replace h := ite_t b6 h
  refine SW_ct (by simp +decide only [F, reduceIte, Nat.reduceAdd, Bool.not_true, Bool.not_false, b1, f3, f4, f5, b6]) ?_
  refine sk (an (sq (bk (sq ?_))))
  obtain ⟨x7, h8, h⟩ := bind_some h
  obtain ⟨q9, q10, q11⟩ := idx_some h8
  obtain ⟨x12, h13, h⟩ := bind_some h
  apply SW_run
  · simp +decide only [E, reduceIte, Nat.reduceAdd, Nat.reduceMul, Bool.not_true, Bool.not_false, L, ti46, ti84, M.Page.en, b1, f3, f4, f5, b6, q9, q10, q11]
    refine ⟨_, c_laws_szPage x7 v1 x12 h13, ?_⟩
    try simp +decide only [E, reduceIte, Nat.reduceAdd, Nat.reduceMul, Bool.not_true, Bool.not_false, L, ti46, ti84, M.Page.en, b1, f3, f4, f5, b6, q9, q10, q11]
    exact Is.mk _
  refine an (sq ?_)
  apply SW_run
  · simp +decide only [E, reduceIte, Nat.reduceAdd, Nat.reduceMul, Bool.not_true, Bool.not_false, L, b1, f3, f4, f5, b6, q9, q10, q11]
    exact Is.mk _
  refine an ?_
  rcases bcase (decide (x12 < 0)) with b14 | b14
  · replace h := ite_t b14 h
    refine SW_ct (by simp +decide only [F, reduceIte, Nat.reduceAdd, Bool.not_true, Bool.not_false, b1, f3, f4, f5, b6, q9, q10, q11, b14]) ?_
    refine sq ?_
    apply SW_run
    · simp +decide only [E, reduceIte, Nat.reduceAdd, Nat.reduceMul, Bool.not_true, Bool.not_false, L, b1, f3, f4, f5, b6, q9, q10, q11, b14]
      exact Is.mk _
    refine an (rt ?_)
    cases h
    simp [Ret, b1, f3, f4, f5, b6, q9, q10, q11, b14]
  replace h := ite_f b14 h
  refine SW_cf (by simp +decide only [F, reduceIte, Nat.reduceAdd, Bool.not_true, Bool.not_false, b1, f3, f4, f5, b6, q9, q10, q11, b14]) ?_
  refine sk (ab (an ?_))
  apply SW_run
  · simp +decide only [E, reduceIte, Nat.reduceAdd, Nat.reduceMul, Bool.not_true, Bool.not_false, L, b1, f3, f4, f5, b6, q9, q10, q11, b14]
    exact Is.mk _
  refine aft_i ⟨mL1, by omega, x12, (IntKind.i64.wrap (v5 + 1)), ?_, ?_, ?_, h⟩
  all_goals simp +decide only [F, reduceIte, Nat.reduceAdd, Bool.not_true, Bool.not_false, b1, f3, f4, f5, b6, q9, q10, q11, b14]

end Go.Proofs.Ytfcfdnmhpdgjfaa.gen
