/-
  Helper text: walks: each function's contract out of its model. No conditions beyond those of each contract.
-/
import Derived.Test.YtfcfdnmhpdgjfaaBroadcastTi
namespace Go.Proofs.Ytfcfdnmhpdgjfaa.gen
open Go Go.Sh
set_option linter.unusedVariables false
set_option linter.unusedSimpArgs false
set_option maxHeartbeats 4000000 in
theorem c_laws_toMail (p0 : M.Mail) (r : M.Mail) (h : m_laws_toMail p0 = some r) : SCalls Try.prog 88 [(true, M.Mail.en p0)] [(true, [.ro (.int .i64 r.To), .ro (.int .i64 r.From), .ro (.int .i64 r.N)])] := by
  unfold m_laws_toMail at h
  simp only [M.Mail.en]
  refine scalls_n (N := 14) (vars := [.cell 2 32]) Try.func88 rfl rfl rfl (by decide +kernel) (Nat.le_of_ble_eq_true rfl) fun base wd => ?_
  refine sq ?_
  apply SW_run
  · simp +decide only [E, reduceIte, Nat.reduceAdd, Nat.reduceMul, Bool.not_true, Bool.not_false, L, ti32]
    exact Is.mk _
  refine an (sq ?_)
  apply SW_run
  · simp +decide only [E, reduceIte, Nat.reduceAdd, Nat.reduceMul, Bool.not_true, Bool.not_false, L, ti32]
    exact Is.mk _
  refine an (sq ?_)
  apply SW_run
  · simp +decide only [E, reduceIte, Nat.reduceAdd, Nat.reduceMul, Bool.not_true, Bool.not_false, L, ti3, ti32, ti132]
    exact Is.mk _
  refine an (sq ?_)
  apply SW_run
  · simp +decide only [E, reduceIte, Nat.reduceAdd, Nat.reduceMul, Bool.not_true, Bool.not_false, L, ti3, ti32, ti132]
    exact Is.mk _
  refine an (sq ?_)
  apply SW_run
  · simp +decide only [E, reduceIte, Nat.reduceAdd, Nat.reduceMul, Bool.not_true, Bool.not_false, L, ti3, ti32, ti132]
    exact Is.mk _
  refine an (sq ?_)
  apply SW_run
  · simp +decide only [E, reduceIte, Nat.reduceAdd, Nat.reduceMul, Bool.not_true, Bool.not_false, L, ti32]
    exact Is.mk _
  refine an (rt ?_)
  cases h
  simp [Ret, ti32]

set_option maxHeartbeats 4000000 in
theorem c_laws_toMailS (p0 : List M.Mail) (r : (List M.Mail)) (h : m_laws_toMailS p0 = some r) : SCalls Try.prog 46 [(false, [.sl (List.map M.Mail.en p0)])] [(false, [.own 32 3 (List.map M.Mail.en r)])] := by
  unfold m_laws_toMailS at h
  refine scalls_n (N := 23) (vars := [.tmp 2]) Try.func46 rfl rfl rfl (by decide +kernel) (Nat.le_of_ble_eq_true rfl) fun base wd => ?_
  refine sq ?_
  apply SW_run
  · simp +decide only [E, reduceIte, Nat.reduceAdd, Nat.reduceMul, Bool.not_true, Bool.not_false, L]
    exact Is.mk _
  refine an (sq ?_)
  obtain ⟨x1, h2, h⟩ := bind_some h
  apply SW_run
  · simp +decide only [E, reduceIte, Nat.reduceAdd, Nat.reduceMul, Bool.not_true, Bool.not_false, L, ti24, ti28, ti32, M.Mail.en]
    refine ⟨mkL_must h2, ?_⟩
    try simp +decide only [E, reduceIte, Nat.reduceAdd, Nat.reduceMul, Bool.not_true, Bool.not_false, L, ti24, ti28, ti32, M.Mail.en]
    exact Is.mk _
  refine an (sq (sq ?_))
  refine SW_cut (J := fun s => s.t 0 = .v false [.dat (.sl (List.map M.Mail.en p0))] ∧ s.t 3 = .v false [.row 100007 1] ∧ s.h 100007 = (1, .row 32 3 (List.map M.Mail.en (List.replicate (List.length p0 : Int).toNat (⟨0, 0, 0⟩ : M.Mail))) true) ∧ True) ?_ ?_
  · refine ⟨?_, ?_, ?_, trivial⟩ <;> (try simp +decide only [F, reduceIte, Nat.reduceAdd, Bool.not_true, Bool.not_false, M.Mail.en])
  rintro s3 ⟨f4, f5, f6, _⟩
  apply SW_run
  · simp +decide only [E, reduceIte, Nat.reduceAdd, Nat.reduceMul, Bool.not_true, Bool.not_false, L, f4, f5, f6]
    exact Is.mk _
  refine an (bk ?_)
  refine SW_loop (fun m s => ∃ v4 : Int, ∃ r7 : List M.Mail, s.t 0 = .v false [.dat (.sl (List.map M.Mail.en p0))] ∧ s.t 3 = .v false [.row 100007 1] ∧ s.t 4 = .v false [.dat (.int .i64 v4)] ∧ s.h 100007 = (1, .row 32 3 (List.map M.Mail.en r7) true) ∧ m_laws_toMailS_L1 p0 m v4 r7 = some r) fuel ?_ ?_
  · refine ⟨0, (List.replicate (List.length p0 : Int).toNat (⟨0, 0, 0⟩ : M.Mail)), ?_, ?_, ?_, ?_, h⟩
    all_goals simp +decide only [F, reduceIte, Nat.reduceAdd, Bool.not_true, Bool.not_false, M.Mail.en, f4, f5, f6]
  rintro mL1 s7 ⟨v4, r7, f8, f9, f10, f11, h⟩
  rcases mL1 with _ | mL1
  · exact absurd h (by simp [m_laws_toMailS_L1])
  simp only [m_laws_toMailS_L1] at h
  refine sq (sq ?_)
  apply SW_run
  · simp +decide only [E, reduceIte, Nat.reduceAdd, Nat.reduceMul, Bool.not_true, Bool.not_false, L, ti24, f8, f9, f10, f11]
    exact Is.mk _
  refine an ?_
  rcases bcas (decide (v4 < (List.length p0 : Int))) with b12 | b12
  · replace h := ite_f b12 h
    refine SW_cf (by simp +decide only [F, reduceIte, Nat.reduceAdd, Bool.not_true, Bool.not_false, f8, f9, f10, f11, b12]) ?_
    refine xt (aft_cx (aft_ix (aft_x (an (sq ?_)))))
    apply SW_run
    · simp +decide only [E, reduceIte, Nat.reduceAdd, Nat.reduceMul, Bool.not_true, Bool.not_false, L, f8, f9, f10, f11, b12]
      exact Is.mk _
    refine an (rt ?_)
    cases h
    simp [Ret, M.Mail.en, f8, f9, f10, f11, b12]
  replace h := ite_t b12 h
  refine SW_ct (by simp +decide only [F, reduceIte, Nat.reduceAdd, Bool.not_true, Bool.not_false, f8, f9, f10, f11, b12]) ?_
  refine sk (an (sq (bk ?_)))
  obtain ⟨x13, h14, h⟩ := bind_some h
  obtain ⟨q15, q16, q17⟩ := idx_some h14
  obtain ⟨x18, h19, h⟩ := bind_some h
  obtain ⟨x20, h21, h⟩ := bind_some h
  obtain ⟨q22, q23, q24⟩ := idx_some h21
  apply SW_run
  · simp +decide only [E, reduceIte, Nat.reduceAdd, Nat.reduceMul, Bool.not_true, Bool.not_false, L, ti24, ti28, ti32, ti132, M.Mail.en, f8, f9, f10, f11, b12, q15, q16, q17, q22, q23, q24]
    refine ⟨_, c_laws_toMail x13 x18 h19, ?_⟩
    try simp +decide only [E, reduceIte, Nat.reduceAdd, Nat.reduceMul, Bool.not_true, Bool.not_false, L, ti24, ti28, ti32, ti132, M.Mail.en, f8, f9, f10, f11, b12, q15, q16, q17, q22, q23, q24]
    exact Is.mk _
  refine ab (an ?_)
  refine SW_cut (J := fun s => s.t 0 = .v false [.dat (.sl (List.map M.Mail.en p0))] ∧ s.t 3 = .v false [.row 100007 1] ∧ s.t 4 = .v false [.dat (.int .i64 v4)] ∧ s.h 100007 = (1, .row 32 3 (List.map M.Mail.en (List.set r7 v4.toNat x18)) true) ∧ True) ?_ ?_
  · refine ⟨?_, ?_, ?_, ?_, trivial⟩ <;> (try simp +decide only [F, reduceIte, Nat.reduceAdd, Bool.not_true, Bool.not_false, M.Mail.en, f8, f9, f10, f11, b12, q15, q16, q17, q22, q23, q24])
  rintro s25 ⟨f26, f27, f28, f29, _⟩
  apply SW_run
  · simp +decide only [E, reduceIte, Nat.reduceAdd, Nat.reduceMul, Bool.not_true, Bool.not_false, L, b12, q15, q16, q17, q22, q23, q24, f26, f27, f28, f29]
    exact Is.mk _
  refine aft_i ⟨mL1, by omega, (IntKind.i64.wrap (v4 + 1)), (List.set r7 v4.toNat x18), ?_, ?_, ?_, ?_, h⟩
  all_goals simp +decide only [F, reduceIte, Nat.reduceAdd, Bool.not_true, Bool.not_false, M.Mail.en, b12, q15, q16, q17, q22, q23, q24, f26, f27, f28, f29]

set_option maxHeartbeats 4000000 in
theorem c_laws_toChannel (p0 : M.Channel) (r : M.Channel) (h : m_laws_toChannel p0 = some r) : SCalls Try.prog 13 [(true, M.Channel.en p0)] [(true, [.own 32 3 (List.map M.Mail.en r.Mails)])] := by
  unfold m_laws_toChannel at h
  simp only [M.Channel.en]
  refine scalls_n (N := 9) (vars := [.cell 2 30]) Try.func13 rfl rfl rfl (by decide +kernel) (Nat.le_of_ble_eq_true rfl) fun base wd => ?_
  refine sq ?_
  apply SW_run
  · simp +decide only [E, reduceIte, Nat.reduceAdd, Nat.reduceMul, Bool.not_true, Bool.not_false, L, ti30]
    exact Is.mk _
  refine an (sq ?_)
  apply SW_run
  · simp +decide only [E, reduceIte, Nat.reduceAdd, Nat.reduceMul, Bool.not_true, Bool.not_false, L, ti30]
    exact Is.mk _
  refine an (sq ?_)
  obtain ⟨x1, h2, h⟩ := bind_some h
  apply SW_run
  · simp +decide only [E, reduceIte, Nat.reduceAdd, Nat.reduceMul, Bool.not_true, Bool.not_false, L, ti24, ti26, ti28, ti30]
    refine ⟨_, c_laws_toMailS p0.Mails x1 h2, ?_⟩
    try simp +decide only [E, reduceIte, Nat.reduceAdd, Nat.reduceMul, Bool.not_true, Bool.not_false, L, ti24, ti26, ti28, ti30]
    exact Is.mk _
  refine an (sq ?_)
  apply SW_run
  · simp +decide only [E, reduceIte, Nat.reduceAdd, Nat.reduceMul, Bool.not_true, Bool.not_false, L, ti30]
    exact Is.mk _
  refine an (rt ?_)
  cases h
  simp [Ret, ti30, M.Mail.en]

set_option maxHeartbeats 4000000 in
theorem c_laws_toLoaded (p0 : M.Loaded) (r : M.Loaded) (h : m_laws_toLoaded p0 = some r) : SCalls Try.prog 92 [(true, M.Loaded.en p0)] [(true, [.ro (.str r.Path), .ro (.int .i64 r.Version)])] := by
  unfold m_laws_toLoaded at h
  simp only [M.Loaded.en]
  refine scalls_n (N := 11) (vars := [.cell 2 137]) Try.func92 rfl rfl rfl (by decide +kernel) (Nat.le_of_ble_eq_true rfl) fun base wd => ?_
  refine sq ?_
  apply SW_run
  · simp +decide only [E, reduceIte, Nat.reduceAdd, Nat.reduceMul, Bool.not_true, Bool.not_false, L, ti137]
    exact Is.mk _
  refine an (sq ?_)
  apply SW_run
  · simp +decide only [E, reduceIte, Nat.reduceAdd, Nat.reduceMul, Bool.not_true, Bool.not_false, L, ti137]
    exact Is.mk _
  refine an (sq ?_)
  apply SW_run
  · simp +decide only [E, reduceIte, Nat.reduceAdd, Nat.reduceMul, Bool.not_true, Bool.not_false, L, ti9, ti135, ti137]
    exact Is.mk _
  refine an (sq ?_)
  apply SW_run
  · simp +decide only [E, reduceIte, Nat.reduceAdd, Nat.reduceMul, Bool.not_true, Bool.not_false, L, ti3, ti135, ti137]
    exact Is.mk _
  refine an (sq ?_)
  apply SW_run
  · simp +decide only [E, reduceIte, Nat.reduceAdd, Nat.reduceMul, Bool.not_true, Bool.not_false, L, ti137]
    exact Is.mk _
  refine an (rt ?_)
  cases h
  simp [Ret, ti137]

set_option maxHeartbeats 4000000 in
theorem c_laws_toLoadedS (p0 : List M.Loaded) (r : (List M.Loaded)) (h : m_laws_toLoadedS p0 = some r) : SCalls Try.prog 56 [(false, [.sl (List.map M.Loaded.en p0)])] [(false, [.own 137 2 (List.map M.Loaded.en r)])] := by
  unfold m_laws_toLoadedS at h
  refine scalls_n (N := 23) (vars := [.tmp 2]) Try.func56 rfl rfl rfl (by decide +kernel) (Nat.le_of_ble_eq_true rfl) fun base wd => ?_
  refine sq ?_
  apply SW_run
  · simp +decide only [E, reduceIte, Nat.reduceAdd, Nat.reduceMul, Bool.not_true, Bool.not_false, L]
    exact Is.mk _
  refine an (sq ?_)
  obtain ⟨x1, h2, h⟩ := bind_some h
  apply SW_run
  · simp +decide only [E, reduceIte, Nat.reduceAdd, Nat.reduceMul, Bool.not_true, Bool.not_false, L, ti40, ti49, ti137, M.Loaded.en]
    refine ⟨mkL_must h2, ?_⟩
    try simp +decide only [E, reduceIte, Nat.reduceAdd, Nat.reduceMul, Bool.not_true, Bool.not_false, L, ti40, ti49, ti137, M.Loaded.en]
    exact Is.mk _
  refine an (sq (sq ?_))
  refine SW_cut (J := fun s => s.t 0 = .v false [.dat (.sl (List.map M.Loaded.en p0))] ∧ s.t 3 = .v false [.row 100007 1] ∧ s.h 100007 = (1, .row 137 2 (List.map M.Loaded.en (List.replicate (List.length p0 : Int).toNat (⟨(⟨#[]⟩ : ByteArray), 0⟩ : M.Loaded))) true) ∧ True) ?_ ?_
  · refine ⟨?_, ?_, ?_, trivial⟩ <;> (try simp +decide only [F, reduceIte, Nat.reduceAdd, Bool.not_true, Bool.not_false, M.Loaded.en])
  rintro s3 ⟨f4, f5, f6, _⟩
  apply SW_run
  · simp +decide only [E, reduceIte, Nat.reduceAdd, Nat.reduceMul, Bool.not_true, Bool.not_false, L, f4, f5, f6]
    exact Is.mk _
  refine an (bk ?_)
  refine SW_loop (fun m s => ∃ v4 : Int, ∃ r7 : List M.Loaded, s.t 0 = .v false [.dat (.sl (List.map M.Loaded.en p0))] ∧ s.t 3 = .v false [.row 100007 1] ∧ s.t 4 = .v false [.dat (.int .i64 v4)] ∧ s.h 100007 = (1, .row 137 2 (List.map M.Loaded.en r7) true) ∧ m_laws_toLoadedS_L1 p0 m v4 r7 = some r) fuel ?_ ?_
  · refine ⟨0, (List.replicate (List.length p0 : Int).toNat (⟨(⟨#[]⟩ : ByteArray), 0⟩ : M.Loaded)), ?_, ?_, ?_, ?_, h⟩
    all_goals simp +decide only [F, reduceIte, Nat.reduceAdd, Bool.not_true, Bool.not_false, M.Loaded.en, f4, f5, f6]
  rintro mL1 s7 ⟨v4, r7, f8, f9, f10, f11, h⟩
  rcases mL1 with _ | mL1
  · exact absurd h (by simp [m_laws_toLoadedS_L1])
  simp only [m_laws_toLoadedS_L1] at h
  refine sq (sq ?_)
  apply SW_run
  · simp +decide only [E, reduceIte, Nat.reduceAdd, Nat.reduceMul, Bool.not_true, Bool.not_false, L, ti40, f8, f9, f10, f11]
    exact Is.mk _
  refine an ?_
  rcases bcas (decide (v4 < (List.length p0 : Int))) with b12 | b12
  · replace h := ite_f b12 h
    refine SW_cf (by simp +decide only [F, reduceIte, Nat.reduceAdd, Bool.not_true, Bool.not_false, f8, f9, f10, f11, b12]) ?_
    refine xt (aft_cx (aft_ix (aft_x (an (sq ?_)))))
    apply SW_run
    · simp +decide only [E, reduceIte, Nat.reduceAdd, Nat.reduceMul, Bool.not_true, Bool.not_false, L, f8, f9, f10, f11, b12]
      exact Is.mk _
    refine an (rt ?_)
    cases h
    simp [Ret, M.Loaded.en, f8, f9, f10, f11, b12]
  replace h := ite_t b12 h
  refine SW_ct (by simp +decide only [F, reduceIte, Nat.reduceAdd, Bool.not_true, Bool.not_false, f8, f9, f10, f11, b12]) ?_
  refine sk (an (sq (bk ?_)))
  obtain ⟨x13, h14, h⟩ := bind_some h
  obtain ⟨q15, q16, q17⟩ := idx_some h14
  obtain ⟨x18, h19, h⟩ := bind_some h
  obtain ⟨x20, h21, h⟩ := bind_some h
  obtain ⟨q22, q23, q24⟩ := idx_some h21
  apply SW_run
  · simp +decide only [E, reduceIte, Nat.reduceAdd, Nat.reduceMul, Bool.not_true, Bool.not_false, L, ti40, ti49, ti135, ti137, M.Loaded.en, f8, f9, f10, f11, b12, q15, q16, q17, q22, q23, q24]
    refine ⟨_, c_laws_toLoaded x13 x18 h19, ?_⟩
    try simp +decide only [E, reduceIte, Nat.reduceAdd, Nat.reduceMul, Bool.not_true, Bool.not_false, L, ti40, ti49, ti135, ti137, M.Loaded.en, f8, f9, f10, f11, b12, q15, q16, q17, q22, q23, q24]
    exact Is.mk _
  refine ab (an ?_)
  refine SW_cut (J := fun s => s.t 0 = .v false [.dat (.sl (List.map M.Loaded.en p0))] ∧ s.t 3 = .v false [.row 100007 1] ∧ s.t 4 = .v false [.dat (.int .i64 v4)] ∧ s.h 100007 = (1, .row 137 2 (List.map M.Loaded.en (List.set r7 v4.toNat x18)) true) ∧ True) ?_ ?_
  · refine ⟨?_, ?_, ?_, ?_, trivial⟩ <;> (try simp +decide only [F, reduceIte, Nat.reduceAdd, Bool.not_true, Bool.not_false, M.Loaded.en, f8, f9, f10, f11, b12, q15, q16, q17, q22, q23, q24])
  rintro s25 ⟨f26, f27, f28, f29, _⟩
  apply SW_run
  · simp +decide only [E, reduceIte, Nat.reduceAdd, Nat.reduceMul, Bool.not_true, Bool.not_false, L, b12, q15, q16, q17, q22, q23, q24, f26, f27, f28, f29]
    exact Is.mk _
  refine aft_i ⟨mL1, by omega, (IntKind.i64.wrap (v4 + 1)), (List.set r7 v4.toNat x18), ?_, ?_, ?_, ?_, h⟩
  all_goals simp +decide only [F, reduceIte, Nat.reduceAdd, Bool.not_true, Bool.not_false, M.Loaded.en, b12, q15, q16, q17, q22, q23, q24, f26, f27, f28, f29]

set_option maxHeartbeats 4000000 in
theorem c_laws_toInstr (p0 : M.Instr) (r : M.Instr) (h : m_laws_toInstr p0 = some r) : SCalls Try.prog 119 [(true, M.Instr.en p0)] [(true, [.ro (.int .i64 r.Kind), .ro (.int .i64 r.R), .ro (.int .i64 r.N), .ro (.str r.Text)])] := by
  unfold m_laws_toInstr at h
  simp only [M.Instr.en]
  refine scalls_n (N := 17) (vars := [.cell 2 169]) Try.func119 rfl rfl rfl (by decide +kernel) (Nat.le_of_ble_eq_true rfl) fun base wd => ?_
  refine sq ?_
  apply SW_run
  · simp +decide only [E, reduceIte, Nat.reduceAdd, Nat.reduceMul, Bool.not_true, Bool.not_false, L, ti169]
    exact Is.mk _
  refine an (sq ?_)
  apply SW_run
  · simp +decide only [E, reduceIte, Nat.reduceAdd, Nat.reduceMul, Bool.not_true, Bool.not_false, L, ti169]
    exact Is.mk _
  refine an (sq ?_)
  apply SW_run
  · simp +decide only [E, reduceIte, Nat.reduceAdd, Nat.reduceMul, Bool.not_true, Bool.not_false, L, ti3, ti169, ti171]
    exact Is.mk _
  refine an (sq ?_)
  apply SW_run
  · simp +decide only [E, reduceIte, Nat.reduceAdd, Nat.reduceMul, Bool.not_true, Bool.not_false, L, ti3, ti169, ti171]
    exact Is.mk _
  refine an (sq ?_)
  apply SW_run
  · simp +decide only [E, reduceIte, Nat.reduceAdd, Nat.reduceMul, Bool.not_true, Bool.not_false, L, ti3, ti169, ti171]
    exact Is.mk _
  refine an (sq ?_)
  apply SW_run
  · simp +decide only [E, reduceIte, Nat.reduceAdd, Nat.reduceMul, Bool.not_true, Bool.not_false, L, ti9, ti169, ti171]
    exact Is.mk _
  refine an (sq ?_)
  apply SW_run
  · simp +decide only [E, reduceIte, Nat.reduceAdd, Nat.reduceMul, Bool.not_true, Bool.not_false, L, ti169]
    exact Is.mk _
  refine an (rt ?_)
  cases h
  simp [Ret, ti169]

set_option maxHeartbeats 4000000 in
theorem c_laws_toInstrS (p0 : List M.Instr) (r : (List M.Instr)) (h : m_laws_toInstrS p0 = some r) : SCalls Try.prog 93 [(false, [.sl (List.map M.Instr.en p0)])] [(false, [.own 169 4 (List.map M.Instr.en r)])] := by
  unfold m_laws_toInstrS at h
  refine scalls_n (N := 23) (vars := [.tmp 2]) Try.func93 rfl rfl rfl (by decide +kernel) (Nat.le_of_ble_eq_true rfl) fun base wd => ?_
  refine sq ?_
  apply SW_run
  · simp +decide only [E, reduceIte, Nat.reduceAdd, Nat.reduceMul, Bool.not_true, Bool.not_false, L]
    exact Is.mk _
  refine an (sq ?_)
  obtain ⟨x1, h2, h⟩ := bind_some h
  apply SW_run
  · simp +decide only [E, reduceIte, Nat.reduceAdd, Nat.reduceMul, Bool.not_true, Bool.not_false, L, ti41, ti50, ti169, M.Instr.en]
    refine ⟨mkL_must h2, ?_⟩
    try simp +decide only [E, reduceIte, Nat.reduceAdd, Nat.reduceMul, Bool.not_true, Bool.not_false, L, ti41, ti50, ti169, M.Instr.en]
    exact Is.mk _
  refine an (sq (sq ?_))
  refine SW_cut (J := fun s => s.t 0 = .v false [.dat (.sl (List.map M.Instr.en p0))] ∧ s.t 3 = .v false [.row 100007 1] ∧ s.h 100007 = (1, .row 169 4 (List.map M.Instr.en (List.replicate (List.length p0 : Int).toNat (⟨0, 0, 0, (⟨#[]⟩ : ByteArray)⟩ : M.Instr))) true) ∧ True) ?_ ?_
  · refine ⟨?_, ?_, ?_, trivial⟩ <;> (try simp +decide only [F, reduceIte, Nat.reduceAdd, Bool.not_true, Bool.not_false, M.Instr.en])
  rintro s3 ⟨f4, f5, f6, _⟩
  apply SW_run
  · simp +decide only [E, reduceIte, Nat.reduceAdd, Nat.reduceMul, Bool.not_true, Bool.not_false, L, f4, f5, f6]
    exact Is.mk _
  refine an (bk ?_)
  refine SW_loop (fun m s => ∃ v4 : Int, ∃ r7 : List M.Instr, s.t 0 = .v false [.dat (.sl (List.map M.Instr.en p0))] ∧ s.t 3 = .v false [.row 100007 1] ∧ s.t 4 = .v false [.dat (.int .i64 v4)] ∧ s.h 100007 = (1, .row 169 4 (List.map M.Instr.en r7) true) ∧ m_laws_toInstrS_L1 p0 m v4 r7 = some r) fuel ?_ ?_
  · refine ⟨0, (List.replicate (List.length p0 : Int).toNat (⟨0, 0, 0, (⟨#[]⟩ : ByteArray)⟩ : M.Instr)), ?_, ?_, ?_, ?_, h⟩
    all_goals simp +decide only [F, reduceIte, Nat.reduceAdd, Bool.not_true, Bool.not_false, M.Instr.en, f4, f5, f6]
  rintro mL1 s7 ⟨v4, r7, f8, f9, f10, f11, h⟩
  rcases mL1 with _ | mL1
  · exact absurd h (by simp [m_laws_toInstrS_L1])
  simp only [m_laws_toInstrS_L1] at h
  refine sq (sq ?_)
  apply SW_run
  · simp +decide only [E, reduceIte, Nat.reduceAdd, Nat.reduceMul, Bool.not_true, Bool.not_false, L, ti41, f8, f9, f10, f11]
    exact Is.mk _
  refine an ?_
  rcases bcas (decide (v4 < (List.length p0 : Int))) with b12 | b12
  · replace h := ite_f b12 h
    refine SW_cf (by simp +decide only [F, reduceIte, Nat.reduceAdd, Bool.not_true, Bool.not_false, f8, f9, f10, f11, b12]) ?_
    refine xt (aft_cx (aft_ix (aft_x (an (sq ?_)))))
    apply SW_run
    · simp +decide only [E, reduceIte, Nat.reduceAdd, Nat.reduceMul, Bool.not_true, Bool.not_false, L, f8, f9, f10, f11, b12]
      exact Is.mk _
    refine an (rt ?_)
    cases h
    simp [Ret, M.Instr.en, f8, f9, f10, f11, b12]
  replace h := ite_t b12 h
  refine SW_ct (by simp +decide only [F, reduceIte, Nat.reduceAdd, Bool.not_true, Bool.not_false, f8, f9, f10, f11, b12]) ?_
  refine sk (an (sq (bk ?_)))
  obtain ⟨x13, h14, h⟩ := bind_some h
  obtain ⟨q15, q16, q17⟩ := idx_some h14
  obtain ⟨x18, h19, h⟩ := bind_some h
  obtain ⟨x20, h21, h⟩ := bind_some h
  obtain ⟨q22, q23, q24⟩ := idx_some h21
  apply SW_run
  · simp +decide only [E, reduceIte, Nat.reduceAdd, Nat.reduceMul, Bool.not_true, Bool.not_false, L, ti41, ti50, ti169, ti171, M.Instr.en, f8, f9, f10, f11, b12, q15, q16, q17, q22, q23, q24]
    refine ⟨_, c_laws_toInstr x13 x18 h19, ?_⟩
    try simp +decide only [E, reduceIte, Nat.reduceAdd, Nat.reduceMul, Bool.not_true, Bool.not_false, L, ti41, ti50, ti169, ti171, M.Instr.en, f8, f9, f10, f11, b12, q15, q16, q17, q22, q23, q24]
    exact Is.mk _
  refine ab (an ?_)
  refine SW_cut (J := fun s => s.t 0 = .v false [.dat (.sl (List.map M.Instr.en p0))] ∧ s.t 3 = .v false [.row 100007 1] ∧ s.t 4 = .v false [.dat (.int .i64 v4)] ∧ s.h 100007 = (1, .row 169 4 (List.map M.Instr.en (List.set r7 v4.toNat x18)) true) ∧ True) ?_ ?_
  · refine ⟨?_, ?_, ?_, ?_, trivial⟩ <;> (try simp +decide only [F, reduceIte, Nat.reduceAdd, Bool.not_true, Bool.not_false, M.Instr.en, f8, f9, f10, f11, b12, q15, q16, q17, q22, q23, q24])
  rintro s25 ⟨f26, f27, f28, f29, _⟩
  apply SW_run
  · simp +decide only [E, reduceIte, Nat.reduceAdd, Nat.reduceMul, Bool.not_true, Bool.not_false, L, b12, q15, q16, q17, q22, q23, q24, f26, f27, f28, f29]
    exact Is.mk _
  refine aft_i ⟨mL1, by omega, (IntKind.i64.wrap (v4 + 1)), (List.set r7 v4.toNat x18), ?_, ?_, ?_, ?_, h⟩
  all_goals simp +decide only [F, reduceIte, Nat.reduceAdd, Bool.not_true, Bool.not_false, M.Instr.en, b12, q15, q16, q17, q22, q23, q24, f26, f27, f28, f29]

set_option maxHeartbeats 4000000 in
theorem c_laws_toIntS (p0 : List Int) (r : (List Int)) (h : m_laws_toIntS p0 = some r) : SCalls Try.prog 94 [(false, [.sl (List.map enI p0)])] [(false, [.own 3 1 (List.map enI r)])] := by
  unfold m_laws_toIntS at h
  refine scalls_n (N := 22) (vars := [.tmp 2]) Try.func94 rfl rfl rfl (by decide +kernel) (Nat.le_of_ble_eq_true rfl) fun base wd => ?_
  refine sq ?_
  apply SW_run
  · simp +decide only [E, reduceIte, Nat.reduceAdd, Nat.reduceMul, Bool.not_true, Bool.not_false, L]
    exact Is.mk _
  refine an (sq ?_)
  obtain ⟨x1, h2, h⟩ := bind_some h
  apply SW_run
  · simp +decide only [E, reduceIte, Nat.reduceAdd, Nat.reduceMul, Bool.not_true, Bool.not_false, L, ti3, ti42, enI]
    refine ⟨mkL_must h2, ?_⟩
    try simp +decide only [E, reduceIte, Nat.reduceAdd, Nat.reduceMul, Bool.not_true, Bool.not_false, L, ti3, ti42, enI]
    exact Is.mk _
  refine an (sq (sq ?_))
  refine SW_cut (J := fun s => s.t 0 = .v false [.dat (.sl (List.map enI p0))] ∧ s.t 3 = .v false [.row 100007 1] ∧ s.h 100007 = (1, .row 3 1 (List.map enI (List.replicate (List.length p0 : Int).toNat 0)) true) ∧ True) ?_ ?_
  · refine ⟨?_, ?_, ?_, trivial⟩ <;> (try simp +decide only [F, reduceIte, Nat.reduceAdd, Bool.not_true, Bool.not_false, enI])
  rintro s3 ⟨f4, f5, f6, _⟩
  apply SW_run
  · simp +decide only [E, reduceIte, Nat.reduceAdd, Nat.reduceMul, Bool.not_true, Bool.not_false, L, f4, f5, f6]
    exact Is.mk _
  refine an (bk ?_)
  refine SW_loop (fun m s => ∃ v4 : Int, ∃ r7 : List Int, s.t 0 = .v false [.dat (.sl (List.map enI p0))] ∧ s.t 3 = .v false [.row 100007 1] ∧ s.t 4 = .v false [.dat (.int .i64 v4)] ∧ s.h 100007 = (1, .row 3 1 (List.map enI r7) true) ∧ m_laws_toIntS_L1 p0 m v4 r7 = some r) fuel ?_ ?_
  · refine ⟨0, (List.replicate (List.length p0 : Int).toNat 0), ?_, ?_, ?_, ?_, h⟩
    all_goals simp +decide only [F, reduceIte, Nat.reduceAdd, Bool.not_true, Bool.not_false, enI, f4, f5, f6]
  rintro mL1 s7 ⟨v4, r7, f8, f9, f10, f11, h⟩
  rcases mL1 with _ | mL1
  · exact absurd h (by simp [m_laws_toIntS_L1])
  simp only [m_laws_toIntS_L1] at h
  refine sq (sq ?_)
  apply SW_run
  · simp +decide only [E, reduceIte, Nat.reduceAdd, Nat.reduceMul, Bool.not_true, Bool.not_false, L, ti42, f8, f9, f10, f11]
    exact Is.mk _
  refine an ?_
  rcases bcas (decide (v4 < (List.length p0 : Int))) with b12 | b12
  · replace h := ite_f b12 h
    refine SW_cf (by simp +decide only [F, reduceIte, Nat.reduceAdd, Bool.not_true, Bool.not_false, f8, f9, f10, f11, b12]) ?_
    refine xt (aft_cx (aft_ix (aft_x (an (sq ?_)))))
    apply SW_run
    · simp +decide only [E, reduceIte, Nat.reduceAdd, Nat.reduceMul, Bool.not_true, Bool.not_false, L, f8, f9, f10, f11, b12]
      exact Is.mk _
    refine an (rt ?_)
    cases h
    simp [Ret, enI, f8, f9, f10, f11, b12]
  replace h := ite_t b12 h
  refine SW_ct (by simp +decide only [F, reduceIte, Nat.reduceAdd, Bool.not_true, Bool.not_false, f8, f9, f10, f11, b12]) ?_
  refine sk (an (sq (bk ?_)))
  obtain ⟨x13, h14, h⟩ := bind_some h
  obtain ⟨q15, q16, q17⟩ := idx_some h14
  obtain ⟨x18, h19, h⟩ := bind_some h
  obtain ⟨q20, q21, q22⟩ := idx_some h19
  apply SW_run
  · simp +decide only [E, reduceIte, Nat.reduceAdd, Nat.reduceMul, Bool.not_true, Bool.not_false, L, ti3, ti42, enI, f8, f9, f10, f11, b12, q15, q16, q17, q20, q21, q22]
    exact Is.mk _
  refine ab (an ?_)
  refine SW_cut (J := fun s => s.t 0 = .v false [.dat (.sl (List.map enI p0))] ∧ s.t 3 = .v false [.row 100007 1] ∧ s.t 4 = .v false [.dat (.int .i64 v4)] ∧ s.h 100007 = (1, .row 3 1 (List.map enI (List.set r7 v4.toNat x13)) true) ∧ True) ?_ ?_
  · refine ⟨?_, ?_, ?_, ?_, trivial⟩ <;> (try simp +decide only [F, reduceIte, Nat.reduceAdd, Bool.not_true, Bool.not_false, enI, f8, f9, f10, f11, b12, q15, q16, q17, q20, q21, q22])
  rintro s23 ⟨f24, f25, f26, f27, _⟩
  apply SW_run
  · simp +decide only [E, reduceIte, Nat.reduceAdd, Nat.reduceMul, Bool.not_true, Bool.not_false, L, b12, q15, q16, q17, q20, q21, q22, f24, f25, f26, f27]
    exact Is.mk _
  refine aft_i ⟨mL1, by omega, (IntKind.i64.wrap (v4 + 1)), (List.set r7 v4.toNat x13), ?_, ?_, ?_, ?_, h⟩
  all_goals simp +decide only [F, reduceIte, Nat.reduceAdd, Bool.not_true, Bool.not_false, enI, b12, q15, q16, q17, q20, q21, q22, f24, f25, f26, f27]

set_option maxHeartbeats 4000000 in
theorem c_laws_toMachine (p0 : M.Machine) (r : M.Machine) (h : m_laws_toMachine p0 = some r) : SCalls Try.prog 57 [(true, M.Machine.en p0)] [(true, [.own 169 4 (List.map M.Instr.en r.Script), .ro (.int .i64 r.Pc), .own 3 1 (List.map enI r.Regs), .ro (.int .i64 r.Steps), .ro (.bool r.Done), .ro (.bool r.Wait)])] := by
  unfold m_laws_toMachine at h
  simp only [M.Machine.en]
  refine scalls_n (N := 25) (vars := [.cell 2 52]) Try.func57 rfl rfl rfl (by decide +kernel) (Nat.le_of_ble_eq_true rfl) fun base wd => ?_
  refine sq ?_
  apply SW_run
  · simp +decide only [E, reduceIte, Nat.reduceAdd, Nat.reduceMul, Bool.not_true, Bool.not_false, L, ti52]
    exact Is.mk _
  refine an (sq ?_)
  apply SW_run
  · simp +decide only [E, reduceIte, Nat.reduceAdd, Nat.reduceMul, Bool.not_true, Bool.not_false, L, ti52]
    exact Is.mk _
  refine an (sq ?_)
  obtain ⟨x1, h2, h⟩ := bind_some h
  apply SW_run
  · simp +decide only [E, reduceIte, Nat.reduceAdd, Nat.reduceMul, Bool.not_true, Bool.not_false, L, ti41, ti44, ti50, ti52]
    refine ⟨_, c_laws_toInstrS p0.Script x1 h2, ?_⟩
    try simp +decide only [E, reduceIte, Nat.reduceAdd, Nat.reduceMul, Bool.not_true, Bool.not_false, L, ti41, ti44, ti50, ti52]
    exact Is.mk _
  refine an (sq ?_)
  apply SW_run
  · simp +decide only [E, reduceIte, Nat.reduceAdd, Nat.reduceMul, Bool.not_true, Bool.not_false, L, ti3, ti44, ti52]
    exact Is.mk _
  refine an (sq ?_)
  obtain ⟨x3, h4, h⟩ := bind_some h
  apply SW_run
  · simp +decide only [E, reduceIte, Nat.reduceAdd, Nat.reduceMul, Bool.not_true, Bool.not_false, L, ti42, ti44, ti52]
    refine ⟨_, c_laws_toIntS p0.Regs x3 h4, ?_⟩
    try simp +decide only [E, reduceIte, Nat.reduceAdd, Nat.reduceMul, Bool.not_true, Bool.not_false, L, ti42, ti44, ti52]
    exact Is.mk _
  refine an (sq ?_)
  apply SW_run
  · simp +decide only [E, reduceIte, Nat.reduceAdd, Nat.reduceMul, Bool.not_true, Bool.not_false, L, ti3, ti44, ti52]
    exact Is.mk _
  refine an (sq ?_)
  apply SW_run
  · simp +decide only [E, reduceIte, Nat.reduceAdd, Nat.reduceMul, Bool.not_true, Bool.not_false, L, ti4, ti44, ti52]
    exact Is.mk _
  refine an (sq ?_)
  apply SW_run
  · simp +decide only [E, reduceIte, Nat.reduceAdd, Nat.reduceMul, Bool.not_true, Bool.not_false, L, ti4, ti44, ti52]
    exact Is.mk _
  refine an (sq ?_)
  apply SW_run
  · simp +decide only [E, reduceIte, Nat.reduceAdd, Nat.reduceMul, Bool.not_true, Bool.not_false, L, ti52]
    exact Is.mk _
  refine an (rt ?_)
  cases h
  simp [Ret, ti52, M.Instr.en, enI]

set_option maxHeartbeats 4000000 in
theorem c_laws_toPage (p0 : M.Page) (r : M.Page) (h : m_laws_toPage p0 = some r) : SCalls Try.prog 21 [(true, M.Page.en p0)] [(true, [.ro (.int .i64 r.Id), .ro (.str r.Site), .ro (.str r.Top), .ro (.int .i64 r.Version), .own 137 2 (List.map M.Loaded.en r.Loaded), .own 169 4 (List.map M.Instr.en r.Machine.Script), .ro (.int .i64 r.Machine.Pc), .own 3 1 (List.map enI r.Machine.Regs), .ro (.int .i64 r.Machine.Steps), .ro (.bool r.Machine.Done), .ro (.bool r.Machine.Wait)])] := by
  unfold m_laws_toPage at h
  simp only [M.Page.en]
  refine scalls_n (N := 25) (vars := [.cell 2 54]) Try.func21 rfl rfl rfl (by decide +kernel) (Nat.le_of_ble_eq_true rfl) fun base wd => ?_
  refine sq ?_
  apply SW_run
  · simp +decide only [E, reduceIte, Nat.reduceAdd, Nat.reduceMul, Bool.not_true, Bool.not_false, L, ti54]
    exact Is.mk _
  refine an (sq ?_)
  apply SW_run
  · simp +decide only [E, reduceIte, Nat.reduceAdd, Nat.reduceMul, Bool.not_true, Bool.not_false, L, ti54]
    exact Is.mk _
  refine an (sq ?_)
  apply SW_run
  · simp +decide only [E, reduceIte, Nat.reduceAdd, Nat.reduceMul, Bool.not_true, Bool.not_false, L, ti3, ti46, ti54]
    exact Is.mk _
  refine an (sq ?_)
  apply SW_run
  · simp +decide only [E, reduceIte, Nat.reduceAdd, Nat.reduceMul, Bool.not_true, Bool.not_false, L, ti9, ti46, ti54]
    exact Is.mk _
  refine an (sq ?_)
  apply SW_run
  · simp +decide only [E, reduceIte, Nat.reduceAdd, Nat.reduceMul, Bool.not_true, Bool.not_false, L, ti9, ti46, ti54]
    exact Is.mk _
  refine an (sq ?_)
  apply SW_run
  · simp +decide only [E, reduceIte, Nat.reduceAdd, Nat.reduceMul, Bool.not_true, Bool.not_false, L, ti3, ti46, ti54]
    exact Is.mk _
  refine an (sq ?_)
  obtain ⟨x1, h2, h⟩ := bind_some h
  apply SW_run
  · simp +decide only [E, reduceIte, Nat.reduceAdd, Nat.reduceMul, Bool.not_true, Bool.not_false, L, ti40, ti46, ti49, ti54]
    refine ⟨_, c_laws_toLoadedS p0.Loaded x1 h2, ?_⟩
    try simp +decide only [E, reduceIte, Nat.reduceAdd, Nat.reduceMul, Bool.not_true, Bool.not_false, L, ti40, ti46, ti49, ti54]
    exact Is.mk _
  refine an (sq ?_)
  obtain ⟨x3, h4, h⟩ := bind_some h
  apply SW_run
  · simp +decide only [E, reduceIte, Nat.reduceAdd, Nat.reduceMul, Bool.not_true, Bool.not_false, L, ti44, ti46, ti52, ti54]
    refine ⟨_, c_laws_toMachine p0.Machine x3 h4, ?_⟩
    try simp +decide only [E, reduceIte, Nat.reduceAdd, Nat.reduceMul, Bool.not_true, Bool.not_false, L, ti44, ti46, ti52, ti54]
    exact Is.mk _
  refine an (sq ?_)
  apply SW_run
  · simp +decide only [E, reduceIte, Nat.reduceAdd, Nat.reduceMul, Bool.not_true, Bool.not_false, L, ti54]
    exact Is.mk _
  refine an (rt ?_)
  cases h
  simp [Ret, ti54, M.Instr.en, M.Loaded.en, enI]

set_option maxHeartbeats 4000000 in
theorem c_laws_toPageS (p0 : List M.Page) (r : (List M.Page)) (h : m_laws_toPageS p0 = some r) : SCalls Try.prog 39 [(false, [.sl (List.map M.Page.en p0)])] [(false, [.own 54 11 (List.map M.Page.en r)])] := by
  unfold m_laws_toPageS at h
  refine scalls_n (N := 23) (vars := [.tmp 2]) Try.func39 rfl rfl rfl (by decide +kernel) (Nat.le_of_ble_eq_true rfl) fun base wd => ?_
  refine sq ?_
  apply SW_run
  · simp +decide only [E, reduceIte, Nat.reduceAdd, Nat.reduceMul, Bool.not_true, Bool.not_false, L]
    exact Is.mk _
  refine an (sq ?_)
  obtain ⟨x1, h2, h⟩ := bind_some h
  apply SW_run
  · simp +decide only [E, reduceIte, Nat.reduceAdd, Nat.reduceMul, Bool.not_true, Bool.not_false, L, ti54, ti59, ti84, M.Page.en]
    refine ⟨mkL_must h2, ?_⟩
    try simp +decide only [E, reduceIte, Nat.reduceAdd, Nat.reduceMul, Bool.not_true, Bool.not_false, L, ti54, ti59, ti84, M.Page.en]
    exact Is.mk _
  refine an (sq (sq ?_))
  refine SW_cut (J := fun s => s.t 0 = .v false [.dat (.sl (List.map M.Page.en p0))] ∧ s.t 3 = .v false [.row 100007 1] ∧ s.h 100007 = (1, .row 54 11 (List.map M.Page.en (List.replicate (List.length p0 : Int).toNat (⟨0, (⟨#[]⟩ : ByteArray), (⟨#[]⟩ : ByteArray), 0, ([] : List M.Loaded), (⟨([] : List M.Instr), 0, ([] : List Int), 0, false, false⟩ : M.Machine)⟩ : M.Page))) true) ∧ True) ?_ ?_
  · refine ⟨?_, ?_, ?_, trivial⟩ <;> (try simp +decide only [F, reduceIte, Nat.reduceAdd, Bool.not_true, Bool.not_false, M.Page.en])
  rintro s3 ⟨f4, f5, f6, _⟩
  apply SW_run
  · simp +decide only [E, reduceIte, Nat.reduceAdd, Nat.reduceMul, Bool.not_true, Bool.not_false, L, f4, f5, f6]
    exact Is.mk _
  refine an (bk ?_)
  refine SW_loop (fun m s => ∃ v4 : Int, ∃ r7 : List M.Page, s.t 0 = .v false [.dat (.sl (List.map M.Page.en p0))] ∧ s.t 3 = .v false [.row 100007 1] ∧ s.t 4 = .v false [.dat (.int .i64 v4)] ∧ s.h 100007 = (1, .row 54 11 (List.map M.Page.en r7) true) ∧ m_laws_toPageS_L1 p0 m v4 r7 = some r) fuel ?_ ?_
  · refine ⟨0, (List.replicate (List.length p0 : Int).toNat (⟨0, (⟨#[]⟩ : ByteArray), (⟨#[]⟩ : ByteArray), 0, ([] : List M.Loaded), (⟨([] : List M.Instr), 0, ([] : List Int), 0, false, false⟩ : M.Machine)⟩ : M.Page)), ?_, ?_, ?_, ?_, h⟩
    all_goals simp +decide only [F, reduceIte, Nat.reduceAdd, Bool.not_true, Bool.not_false, M.Page.en, f4, f5, f6]
  rintro mL1 s7 ⟨v4, r7, f8, f9, f10, f11, h⟩
  rcases mL1 with _ | mL1
  · exact absurd h (by simp [m_laws_toPageS_L1])
  simp only [m_laws_toPageS_L1] at h
  refine sq (sq ?_)
  apply SW_run
  · simp +decide only [E, reduceIte, Nat.reduceAdd, Nat.reduceMul, Bool.not_true, Bool.not_false, L, ti84, f8, f9, f10, f11]
    exact Is.mk _
  refine an ?_
  rcases bcas (decide (v4 < (List.length p0 : Int))) with b12 | b12
  · replace h := ite_f b12 h
    refine SW_cf (by simp +decide only [F, reduceIte, Nat.reduceAdd, Bool.not_true, Bool.not_false, f8, f9, f10, f11, b12]) ?_
    refine xt (aft_cx (aft_ix (aft_x (an (sq ?_)))))
    apply SW_run
    · simp +decide only [E, reduceIte, Nat.reduceAdd, Nat.reduceMul, Bool.not_true, Bool.not_false, L, f8, f9, f10, f11, b12]
      exact Is.mk _
    refine an (rt ?_)
    cases h
    simp [Ret, M.Page.en, f8, f9, f10, f11, b12]
  replace h := ite_t b12 h
  refine SW_ct (by simp +decide only [F, reduceIte, Nat.reduceAdd, Bool.not_true, Bool.not_false, f8, f9, f10, f11, b12]) ?_
  refine sk (an (sq (bk ?_)))
  obtain ⟨x13, h14, h⟩ := bind_some h
  obtain ⟨q15, q16, q17⟩ := idx_some h14
  obtain ⟨x18, h19, h⟩ := bind_some h
  obtain ⟨x20, h21, h⟩ := bind_some h
  obtain ⟨q22, q23, q24⟩ := idx_some h21
  apply SW_run
  · simp +decide only [E, reduceIte, Nat.reduceAdd, Nat.reduceMul, Bool.not_true, Bool.not_false, L, ti46, ti54, ti59, ti84, M.Page.en, f8, f9, f10, f11, b12, q15, q16, q17, q22, q23, q24]
    refine ⟨_, c_laws_toPage x13 x18 h19, ?_⟩
    try simp +decide only [E, reduceIte, Nat.reduceAdd, Nat.reduceMul, Bool.not_true, Bool.not_false, L, ti46, ti54, ti59, ti84, M.Page.en, f8, f9, f10, f11, b12, q15, q16, q17, q22, q23, q24]
    exact Is.mk _
  refine ab (an ?_)
  refine SW_cut (J := fun s => s.t 0 = .v false [.dat (.sl (List.map M.Page.en p0))] ∧ s.t 3 = .v false [.row 100007 1] ∧ s.t 4 = .v false [.dat (.int .i64 v4)] ∧ s.h 100007 = (1, .row 54 11 (List.map M.Page.en (List.set r7 v4.toNat x18)) true) ∧ True) ?_ ?_
  · refine ⟨?_, ?_, ?_, ?_, trivial⟩ <;> (try simp +decide only [F, reduceIte, Nat.reduceAdd, Bool.not_true, Bool.not_false, M.Page.en, f8, f9, f10, f11, b12, q15, q16, q17, q22, q23, q24])
  rintro s25 ⟨f26, f27, f28, f29, _⟩
  apply SW_run
  · simp +decide only [E, reduceIte, Nat.reduceAdd, Nat.reduceMul, Bool.not_true, Bool.not_false, L, b12, q15, q16, q17, q22, q23, q24, f26, f27, f28, f29]
    exact Is.mk _
  refine aft_i ⟨mL1, by omega, (IntKind.i64.wrap (v4 + 1)), (List.set r7 v4.toNat x18), ?_, ?_, ?_, ?_, h⟩
  all_goals simp +decide only [F, reduceIte, Nat.reduceAdd, Bool.not_true, Bool.not_false, M.Page.en, b12, q15, q16, q17, q22, q23, q24, f26, f27, f28, f29]

end Go.Proofs.Ytfcfdnmhpdgjfaa.gen
