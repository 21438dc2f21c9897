/-
  Helper text: walks: each function's contract out of its model. No conditions beyond those of each contract.
-/
import Derived.Test.YtfcfdnmhpdgjfaaBroadcastTi
namespace Go.Proofs.Ytfcfdnmhpdgjfaa.gen
open Go Go.Sh
set_option linter.unusedVariables false
set_option linter.unusedSimpArgs false
set_option maxHeartbeats 4000000 in
theorem c_spec_l26Copy (p0 : M.Channel) (r : M.Channel) (h : m_spec_l26Copy p0 = some r) : SCalls Try.prog 45 [(true, M.Channel.en p0)] [(true, [.own 32 3 (List.map M.Mail.en r.Mails)])] := by
  unfold m_spec_l26Copy at h
  simp only [M.Channel.en]
  refine scalls_n (N := 8) (vars := [.cell 2 30]) Try.func45 rfl rfl rfl (by decide +kernel) (Nat.le_of_ble_eq_true rfl) fun base wd => ?_
  refine sq ?_
  apply SW_run
  · simp +decide only [E, reduceIte, Nat.reduceAdd, Nat.reduceMul, Bool.not_true, Bool.not_false, L, ti30]
    exact Is.mk _
  refine an (sq ?_)
  obtain ⟨x1, h2, h⟩ := bind_some h
  apply SW_run
  · simp +decide only [E, reduceIte, Nat.reduceAdd, Nat.reduceMul, Bool.not_true, Bool.not_false, M.Mail.en.fl, L, ti28, ti30, ti32, M.Mail.en]
    refine ⟨by (have hb := app_some h2); simp [M.Mail.en, List.length_append, strBytes_len] at hb ⊢ <;> omega, ?_⟩
    try simp +decide only [E, reduceIte, Nat.reduceAdd, Nat.reduceMul, Bool.not_true, Bool.not_false, M.Mail.en.fl, L, ti28, ti30, ti32, M.Mail.en]
    exact Is.mk _
  refine an (rt ?_)
  cases h
  simp [Ret, ti30, M.Mail.en]

set_option maxHeartbeats 4000000 in
theorem c_spec_l26Page (p0 : List M.Page) (p1 : Int) (r : Int) (h : m_spec_l26Page p0 p1 = some r) : SCalls Try.prog 66 [(false, [.sl (List.map M.Page.en p0)]), (false, [.int .i64 p1])] [(false, [.ro (.int .i64 r)])] := by
  unfold m_spec_l26Page at h
  refine scalls_n (N := 20) (vars := [.tmp 4]) Try.func66 rfl rfl rfl (by decide +kernel) (Nat.le_of_ble_eq_true rfl) fun base wd => ?_
  refine sq ?_
  apply SW_run
  · simp +decide only [E, reduceIte, Nat.reduceAdd, Nat.reduceMul, Bool.not_true, Bool.not_false, L]
    exact Is.mk _
  refine an (sq (sq ?_))
  apply SW_run
  · simp +decide only [E, reduceIte, Nat.reduceAdd, Nat.reduceMul, Bool.not_true, Bool.not_false, L]
    exact Is.mk _
  refine an (bk ?_)
  refine SW_loop (fun m s => ∃ v5 : Int, s.t 0 = .v false [.dat (.sl (List.map M.Page.en p0))] ∧ s.t 1 = .v false [.dat (.int .i64 p1)] ∧ s.t 5 = .v false [.dat (.int .i64 v5)] ∧ m_spec_l26Page_L1 p0 p1 m v5 = some r) fuel ?_ ?_
  · refine ⟨0, ?_, ?_, ?_, h⟩
    all_goals simp +decide only [F, reduceIte, Nat.reduceAdd, Bool.not_true, Bool.not_false]
  rintro mL1 s1 ⟨v5, f2, f3, f4, h⟩
  rcases mL1 with _ | mL1
  · exact absurd h (by simp [m_spec_l26Page_L1])
  simp only [m_spec_l26Page_L1] at h
  refine sq (sq ?_)
  apply SW_run
  · simp +decide only [E, reduceIte, Nat.reduceAdd, Nat.reduceMul, Bool.not_true, Bool.not_false, L, ti59, f2, f3, f4]
    exact Is.mk _
  refine an ?_
  rcases bcas (decide (v5 < (List.length p0 : Int))) with b5 | b5
  · replace h := ite_f b5 h
    refine SW_cf (by simp +decide only [F, reduceIte, Nat.reduceAdd, Bool.not_true, Bool.not_false, f2, f3, f4, b5]) ?_
    refine xt (aft_cx (aft_ix (aft_x (an (sq ?_)))))
    apply SW_run
    · simp +decide only [E, reduceIte, Nat.reduceAdd, Nat.reduceMul, Bool.not_true, Bool.not_false, L, f2, f3, f4, b5]
      exact Is.mk _
    refine an (rt ?_)
    cases h
    simp [Ret, f2, f3, f4, b5]
  replace h := ite_t b5 h
  refine SW_ct (by simp +decide only [F, reduceIte, Nat.reduceAdd, Bool.not_true, Bool.not_false, f2, f3, f4, b5]) ?_
  refine sk (an (sq (bk (sq ?_))))
  obtain ⟨x6, h7, h⟩ := bind_some h
  obtain ⟨q8, q9, q10⟩ := idx_some h7
  apply SW_run
  · simp +decide only [E, reduceIte, Nat.reduceAdd, Nat.reduceMul, Bool.not_true, Bool.not_false, L, ti3, ti54, ti59, M.Page.en, f2, f3, f4, b5, q8, q9, q10]
    exact Is.mk _
  refine an ?_
  rcases bcase (x6.Id == p1) with b11 | b11
  · replace h := ite_t b11 h
    refine SW_ct (by simp +decide only [F, reduceIte, Nat.reduceAdd, Bool.not_true, Bool.not_false, f2, f3, f4, b5, q8, q9, q10, b11]) ?_
    refine sq ?_
    apply SW_run
    · simp +decide only [E, reduceIte, Nat.reduceAdd, Nat.reduceMul, Bool.not_true, Bool.not_false, L, f2, f3, f4, b5, q8, q9, q10, b11]
      exact Is.mk _
    refine an (rt ?_)
    cases h
    simp [Ret, f2, f3, f4, b5, q8, q9, q10, b11]
  replace h := ite_f b11 h
  refine SW_cf (by simp +decide only [F, reduceIte, Nat.reduceAdd, Bool.not_true, Bool.not_false, f2, f3, f4, b5, q8, q9, q10, b11]) ?_
  refine sk (ab (an ?_))
  apply SW_run
  · simp +decide only [E, reduceIte, Nat.reduceAdd, Nat.reduceMul, Bool.not_true, Bool.not_false, L, f2, f3, f4, b5, q8, q9, q10, b11]
    exact Is.mk _
  refine aft_i ⟨mL1, by omega, (IntKind.i64.wrap (v5 + 1)), ?_, ?_, ?_, h⟩
  all_goals simp +decide only [F, reduceIte, Nat.reduceAdd, Bool.not_true, Bool.not_false, f2, f3, f4, b5, q8, q9, q10, b11]

set_option maxHeartbeats 4000000 in
theorem c_spec_CanTalk (p0 : M.Page) (p1 : M.Page) (r : Bool) (h : m_spec_CanTalk p0 p1 = some r) : SCalls Try.prog 20 [(true, M.Page.en p0), (true, M.Page.en p1)] [(false, [.ro (.bool r)])] := by
  unfold m_spec_CanTalk at h
  simp only [M.Page.en]
  refine scalls_n (N := 24) (vars := [.tmp 4]) Try.func20 rfl rfl rfl (by decide +kernel) (Nat.le_of_ble_eq_true rfl) fun base wd => ?_
  refine sq ?_
  apply SW_run
  · simp +decide only [E, reduceIte, Nat.reduceAdd, Nat.reduceMul, Bool.not_true, Bool.not_false, L]
    exact Is.mk _
  refine an (sq ?_)
  rcases bcas (p0.Site.toList == p1.Site.toList) with b1 | b1
  · replace h := ite_f b1 h
    apply SW_run
    · simp +decide only [E, reduceIte, Nat.reduceAdd, Nat.reduceMul, Bool.not_true, Bool.not_false, L, ti9, ti54, b1]
      exact Is.mk _
    refine an (rt ?_)
    cases h
    simp [Ret, b1]
  replace h := ite_t b1 h
  rcases bcas (p0.Top.toList == p1.Top.toList) with b2 | b2
  · replace h := ite_f b2 h
    apply SW_run
    · simp +decide only [E, reduceIte, Nat.reduceAdd, Nat.reduceMul, Bool.not_true, Bool.not_false, L, ti9, ti54, b1, b2]
      exact Is.mk _
    refine an (rt ?_)
    cases h
    simp [Ret, b1, b2]
  replace h := ite_t b2 h
  apply SW_run
  · simp +decide only [E, reduceIte, Nat.reduceAdd, Nat.reduceMul, Bool.not_true, Bool.not_false, L, ti3, ti9, ti54, b1, b2]
    exact Is.mk _
  refine an (rt ?_)
  cases h
  simp [Ret, b1, b2]

set_option maxHeartbeats 4000000 in
theorem c_spec_MailsFor (p0 : M.Channel) (p1 : Int) (r : (List M.Mail)) (h : m_spec_MailsFor p0 p1 = some r) : SCalls Try.prog 67 [(true, M.Channel.en p0), (false, [.int .i64 p1])] [(false, [.own 32 3 (List.map M.Mail.en r)])] := by
  unfold m_spec_MailsFor at h
  simp only [M.Channel.en]
  refine scalls_n (N := 32) (vars := [.tmp 4]) Try.func67 rfl rfl rfl (by decide +kernel) (Nat.le_of_ble_eq_true rfl) fun base wd => ?_
  refine sq ?_
  apply SW_run
  · simp +decide only [E, reduceIte, Nat.reduceAdd, Nat.reduceMul, Bool.not_true, Bool.not_false, L]
    exact Is.mk _
  refine an (sq ?_)
  apply SW_run
  · simp +decide only [E, reduceIte, Nat.reduceAdd, Nat.reduceMul, Bool.not_true, Bool.not_false, L, ti28, ti32, M.Mail.en]
    exact Is.mk _
  refine an (sq (sq ?_))
  refine SW_cut (J := fun s => s.t 1 = .v false [.dat (.int .i64 p1)] ∧ s.t 2 = .v false [.bp 2 1 0] ∧ s.t 5 = .v false [.row 100007 1] ∧ s.h 2 = (1, .box 30 [.dat (.sl (List.map M.Mail.en p0.Mails))]) ∧ s.h 100007 = (1, .row 32 3 (List.map M.Mail.en ([] : List M.Mail)) true) ∧ True) ?_ ?_
  · refine ⟨?_, ?_, ?_, ?_, ?_, trivial⟩ <;> (try simp +decide only [F, reduceIte, Nat.reduceAdd, Bool.not_true, Bool.not_false, M.Mail.en])
  rintro s1 ⟨f2, f3, f4, f5, f6, _⟩
  apply SW_run
  · simp +decide only [E, reduceIte, Nat.reduceAdd, Nat.reduceMul, Bool.not_true, Bool.not_false, L, f2, f3, f4, f5, f6]
    exact Is.mk _
  refine an (bk ?_)
  refine SW_loop (fun m s => ∃ v6 : Int, ∃ r7 : List M.Mail, ∃ u7 : Nat, s.t 1 = .v false [.dat (.int .i64 p1)] ∧ s.t 2 = .v false [.bp 2 1 0] ∧ s.t 5 = .v false [.row 100007 u7] ∧ s.t 6 = .v false [.dat (.int .i64 v6)] ∧ s.h 2 = (1, .box 30 [.dat (.sl (List.map M.Mail.en p0.Mails))]) ∧ s.h 100007 = (u7, .row 32 3 (List.map M.Mail.en r7) true) ∧ m_spec_MailsFor_L1 p0 p1 m v6 r7 = some r) fuel ?_ ?_
  · refine ⟨0, ([] : List M.Mail), 1, ?_, ?_, ?_, ?_, ?_, ?_, h⟩
    all_goals simp +decide only [F, reduceIte, Nat.reduceAdd, Bool.not_true, Bool.not_false, M.Mail.en, f2, f3, f4, f5, f6]
  rintro mL1 s7 ⟨v6, r7, u7, f8, f9, f10, f11, f12, f13, h⟩
  rcases mL1 with _ | mL1
  · exact absurd h (by simp [m_spec_MailsFor_L1])
  simp only [m_spec_MailsFor_L1] at h
  refine sq (sq ?_)
  apply SW_run
  · simp +decide only [E, reduceIte, Nat.reduceAdd, Nat.reduceMul, Bool.not_true, Bool.not_false, L, ti28, ti30, f8, f9, f10, f11, f12, f13]
    exact Is.mk _
  refine an ?_
  rcases bcas (decide (v6 < (List.length p0.Mails : Int))) with b14 | b14
  · replace h := ite_f b14 h
    refine SW_cf (by simp +decide only [F, reduceIte, Nat.reduceAdd, Bool.not_true, Bool.not_false, f8, f9, f10, f11, f12, f13, b14]) ?_
    refine xt (aft_cx (aft_ix (aft_x (an (sq ?_)))))
    apply SW_run
    · simp +decide only [E, reduceIte, Nat.reduceAdd, Nat.reduceMul, Bool.not_true, Bool.not_false, L, f8, f9, f10, f11, f12, f13, b14]
      exact Is.mk _
    refine an (rt ?_)
    cases h
    simp [Ret, M.Mail.en, f8, f9, f10, f11, f12, f13, b14]
  replace h := ite_t b14 h
  refine SW_ct (by simp +decide only [F, reduceIte, Nat.reduceAdd, Bool.not_true, Bool.not_false, f8, f9, f10, f11, f12, f13, b14]) ?_
  refine sk (an (sq (bk (sq ?_))))
  obtain ⟨x15, h16, h⟩ := bind_some h
  obtain ⟨q17, q18, q19⟩ := idx_some h16
  apply SW_run
  · simp +decide only [E, reduceIte, Nat.reduceAdd, Nat.reduceMul, Bool.not_true, Bool.not_false, L, ti3, ti28, ti30, ti32, M.Mail.en, f8, f9, f10, f11, f12, f13, b14, q17, q18, q19]
    exact Is.mk _
  refine an ?_
  rcases bcas (x15.To == p1) with b20 | b20
  · replace h := ite_f b20 h
    refine SW_cf (by simp +decide only [F, reduceIte, Nat.reduceAdd, Bool.not_true, Bool.not_false, f8, f9, f10, f11, f12, f13, b14, q17, q18, q19, b20]) ?_
    refine sk (ab (an ?_))
    apply SW_run
    · simp +decide only [E, reduceIte, Nat.reduceAdd, Nat.reduceMul, Bool.not_true, Bool.not_false, L, f8, f9, f10, f11, f12, f13, b14, q17, q18, q19, b20]
      exact Is.mk _
    refine aft_i ⟨mL1, by omega, (IntKind.i64.wrap (v6 + 1)), r7, u7, ?_, ?_, ?_, ?_, ?_, ?_, h⟩
    all_goals simp +decide only [F, reduceIte, Nat.reduceAdd, Bool.not_true, Bool.not_false, M.Mail.en, f8, f9, f10, f11, f12, f13, b14, q17, q18, q19, b20]
  replace h := ite_t b20 h
  refine SW_ct (by simp +decide only [F, reduceIte, Nat.reduceAdd, Bool.not_true, Bool.not_false, f8, f9, f10, f11, f12, f13, b14, q17, q18, q19, b20]) ?_
  obtain ⟨x21, h22, h⟩ := bind_some h
  apply SW_run
  · simp +decide only [E, reduceIte, Nat.reduceAdd, Nat.reduceMul, Bool.not_true, Bool.not_false, L, ti28, ti30, ti32, M.Mail.en, f8, f9, f10, f11, f12, f13, b14, q17, q18, q19, b20]
    refine ⟨by (have hb := app_some h22); simp [M.Mail.en, List.length_append, strBytes_len] at hb ⊢ <;> omega, ?_⟩
    try simp +decide only [E, reduceIte, Nat.reduceAdd, Nat.reduceMul, Bool.not_true, Bool.not_false, L, ti28, ti30, ti32, M.Mail.en, f8, f9, f10, f11, f12, f13, b14, q17, q18, q19, b20]
    exact Is.mk _
  refine ab (an ?_)
  refine SW_cut (J := fun s => s.t 1 = .v false [.dat (.int .i64 p1)] ∧ s.t 2 = .v false [.bp 2 1 0] ∧ s.t 5 = .v false [.row 100007 (u7 + 1)] ∧ s.t 6 = .v false [.dat (.int .i64 v6)] ∧ s.h 2 = (1, .box 30 [.dat (.sl (List.map M.Mail.en p0.Mails))]) ∧ s.h 100007 = ((u7 + 1), .row 32 3 (List.map M.Mail.en (r7 ++ [x15])) true) ∧ True) ?_ ?_
  · refine ⟨?_, ?_, ?_, ?_, ?_, ?_, trivial⟩ <;> (try simp +decide only [F, reduceIte, Nat.reduceAdd, Bool.not_true, Bool.not_false, M.Mail.en, f8, f9, f10, f11, f12, f13, b14, q17, q18, q19, b20])
  rintro s23 ⟨f24, f25, f26, f27, f28, f29, _⟩
  apply SW_run
  · simp +decide only [E, reduceIte, Nat.reduceAdd, Nat.reduceMul, Bool.not_true, Bool.not_false, L, b14, q17, q18, q19, b20, f24, f25, f26, f27, f28, f29]
    exact Is.mk _
  refine aft_i ⟨mL1, by omega, (IntKind.i64.wrap (v6 + 1)), (r7 ++ [x15]), (u7 + 1), ?_, ?_, ?_, ?_, ?_, ?_, h⟩
  all_goals simp +decide only [F, reduceIte, Nat.reduceAdd, Bool.not_true, Bool.not_false, M.Mail.en, b14, q17, q18, q19, b20, f24, f25, f26, f27, f28, f29]

set_option maxHeartbeats 4000000 in
theorem c_spec_Broadcast (p0 : M.Channel) (p1 : List M.Page) (p2 : Int) (p3 : Int) (r : (M.Channel × Int)) (h : m_spec_Broadcast p0 p1 p2 p3 = some r) : SCalls Try.prog 27 [(true, M.Channel.en p0), (false, [.sl (List.map M.Page.en p1)]), (false, [.int .i64 p2]), (false, [.int .i64 p3])] [(true, [.own 32 3 (List.map M.Mail.en r.1.Mails)]), (false, [.ro (.int .i64 r.2)])] := by
  unfold m_spec_Broadcast at h
  simp only [M.Channel.en]
  refine scalls_n (N := 65) (vars := [.cell 8 30, .tmp 9]) Try.func27 rfl rfl rfl (by decide +kernel) (Nat.le_of_ble_eq_true rfl) fun base wd => ?_
  refine sq ?_
  apply SW_run
  · simp +decide only [E, reduceIte, Nat.reduceAdd, Nat.reduceMul, Bool.not_true, Bool.not_false, L, ti30]
    exact Is.mk _
  refine an (sq ?_)
  obtain ⟨x1, h2, h⟩ := bind_some h
  apply SW_run
  · simp +decide only [E, reduceIte, Nat.reduceAdd, Nat.reduceMul, Bool.not_true, Bool.not_false, L, ti30]
    refine ⟨_, c_spec_l26Copy p0 x1 h2, ?_⟩
    try simp +decide only [E, reduceIte, Nat.reduceAdd, Nat.reduceMul, Bool.not_true, Bool.not_false, L, ti30]
    exact Is.mk _
  refine an (sq ?_)
  obtain ⟨x3, h4, h⟩ := bind_some h
  apply SW_run
  · simp +decide only [E, reduceIte, Nat.reduceAdd, Nat.reduceMul, Bool.not_true, Bool.not_false, L]
    refine ⟨_, c_spec_l26Page p1 p2 x3 h4, ?_⟩
    try simp +decide only [E, reduceIte, Nat.reduceAdd, Nat.reduceMul, Bool.not_true, Bool.not_false, L]
    exact Is.mk _
  refine an (sq (sq ?_))
  apply SW_run
  · simp +decide only [E, reduceIte, Nat.reduceAdd, Nat.reduceMul, Bool.not_true, Bool.not_false, L]
    exact Is.mk _
  refine an ?_
  rcases bcase (decide (x3 < 0)) with b5 | b5
  · replace h := ite_t b5 h
    refine SW_ct (by simp +decide only [F, reduceIte, Nat.reduceAdd, Bool.not_true, Bool.not_false, b5]) ?_
    refine sq ?_
    apply SW_run
    · simp +decide only [E, reduceIte, Nat.reduceAdd, Nat.reduceMul, Bool.not_true, Bool.not_false, L, ti30, b5]
      exact Is.mk _
    refine an (rt ?_)
    cases h
    simp [Ret, ti30, M.Mail.en, b5]
  replace h := ite_f b5 h
  refine SW_cf (by simp +decide only [F, reduceIte, Nat.reduceAdd, Bool.not_true, Bool.not_false, b5]) ?_
  refine sk (an (sq ?_))
  apply SW_run
  · simp +decide only [E, reduceIte, Nat.reduceAdd, Nat.reduceMul, Bool.not_true, Bool.not_false, L, b5]
    exact Is.mk _
  refine an (sq (sq ?_))
  apply SW_run
  · simp +decide only [E, reduceIte, Nat.reduceAdd, Nat.reduceMul, Bool.not_true, Bool.not_false, L, b5]
    exact Is.mk _
  refine an (bk ?_)
  refine SW_loop (fun m s => ∃ v12 : Int, ∃ v13 : Int, ∃ r15 : List M.Mail, ∃ u15 : Nat, s.t 1 = .v false [.dat (.sl (List.map M.Page.en p1))] ∧ s.t 2 = .v false [.dat (.int .i64 p2)] ∧ s.t 3 = .v false [.dat (.int .i64 p3)] ∧ s.t 8 = .v false [.bp 8 1 0] ∧ s.t 10 = .v false [.bp 10 1 0] ∧ s.t 11 = .v false [.dat (.int .i64 x3)] ∧ s.t 12 = .v false [.dat (.int .i64 v12)] ∧ s.t 13 = .v false [.dat (.int .i64 v13)] ∧ s.h 8 = (1, .box 30 [.nil]) ∧ s.h 10 = (1, .box 30 [.row 100015 u15]) ∧ s.h 100015 = (u15, .row 32 3 (List.map M.Mail.en r15) true) ∧ m_spec_Broadcast_L1 p1 p2 p3 x3 m v12 v13 r15 = some r) fuel ?_ ?_
  · refine ⟨0, 0, x1.Mails, 1, ?_, ?_, ?_, ?_, ?_, ?_, ?_, ?_, ?_, ?_, ?_, h⟩
    all_goals simp +decide only [F, reduceIte, Nat.reduceAdd, Bool.not_true, Bool.not_false, M.Mail.en, b5]
  rintro mL1 s6 ⟨v12, v13, r15, u15, f7, f8, f9, f10, f11, f12, f13, f14, f15, f16, f17, h⟩
  rcases mL1 with _ | mL1
  · exact absurd h (by simp [m_spec_Broadcast_L1])
  simp only [m_spec_Broadcast_L1] at h
  refine sq (sq ?_)
  apply SW_run
  · simp +decide only [E, reduceIte, Nat.reduceAdd, Nat.reduceMul, Bool.not_true, Bool.not_false, L, ti59, b5, f7, f8, f9, f10, f11, f12, f13, f14, f15, f16, f17]
    exact Is.mk _
  refine an ?_
  rcases bcas (decide (v13 < (List.length p1 : Int))) with b18 | b18
  · replace h := ite_f b18 h
    refine SW_cf (by simp +decide only [F, reduceIte, Nat.reduceAdd, Bool.not_true, Bool.not_false, b5, f7, f8, f9, f10, f11, f12, f13, f14, f15, f16, f17, b18]) ?_
    refine xt (aft_cx (aft_ix (aft_x (an (sq ?_)))))
    apply SW_run
    · simp +decide only [E, reduceIte, Nat.reduceAdd, Nat.reduceMul, Bool.not_true, Bool.not_false, L, ti30, b5, f7, f8, f9, f10, f11, f12, f13, f14, f15, f16, f17, b18]
      exact Is.mk _
    refine an (rt ?_)
    cases h
    simp [Ret, ti30, M.Mail.en, b5, f7, f8, f9, f10, f11, f12, f13, f14, f15, f16, f17, b18]
  replace h := ite_t b18 h
  refine SW_ct (by simp +decide only [F, reduceIte, Nat.reduceAdd, Bool.not_true, Bool.not_false, b5, f7, f8, f9, f10, f11, f12, f13, f14, f15, f16, f17, b18]) ?_
  refine sk (an (sq (bk (sq ?_))))
  obtain ⟨x19, h20, h⟩ := bind_some h
  obtain ⟨q21, q22, q23⟩ := idx_some h20
  obtain ⟨x24, h25, h⟩ := bind_some h
  obtain ⟨q26, q27, q28⟩ := idx_some h25
  obtain ⟨x29, h30, h⟩ := bind_some h
  rcases bcas x29 with b31 | b31
  · replace h := ite_f b31 h
    apply SW_runD mixed
    · simp +decide only [E, reduceIte, Nat.reduceAdd, Nat.reduceMul, Bool.not_true, Bool.not_false, L, ti54, ti59, M.Page.en, b5, f7, f8, f9, f10, f11, f12, f13, f14, f15, f16, f17, b18, q21, q22, q23, q26, q27, q28, b31]
      refine ⟨_, c_spec_CanTalk x19 x24 x29 h30, ?_⟩
      try simp +decide only [E, reduceIte, Nat.reduceAdd, Nat.reduceMul, Bool.not_true, Bool.not_false, L, ti54, ti59, M.Page.en, b5, f7, f8, f9, f10, f11, f12, f13, f14, f15, f16, f17, b18, q21, q22, q23, q26, q27, q28, b31]
      exact ⟨.mk (by decide +kernel), Is.mk _⟩
    refine an ?_
    refine SW_cf (by simp +decide only [F, reduceIte, Nat.reduceAdd, Bool.not_true, Bool.not_false, b5, f7, f8, f9, f10, f11, f12, f13, f14, f15, f16, f17, b18, q21, q22, q23, q26, q27, q28, b31]) ?_
    refine sk (ab (an ?_))
    apply SW_run
    · simp +decide only [E, reduceIte, Nat.reduceAdd, Nat.reduceMul, Bool.not_true, Bool.not_false, L, b5, f7, f8, f9, f10, f11, f12, f13, f14, f15, f16, f17, b18, q21, q22, q23, q26, q27, q28, b31]
      exact Is.mk _
    refine aft_i ⟨mL1, by omega, v12, (IntKind.i64.wrap (v13 + 1)), r15, u15, ?_, ?_, ?_, ?_, ?_, ?_, ?_, ?_, ?_, ?_, ?_, h⟩
    all_goals simp +decide only [F, reduceIte, Nat.reduceAdd, Bool.not_true, Bool.not_false, M.Mail.en, b5, f7, f8, f9, f10, f11, f12, f13, f14, f15, f16, f17, b18, q21, q22, q23, q26, q27, q28, b31]
  replace h := ite_t b31 h
  obtain ⟨x32, h33, h⟩ := bind_some h
  apply SW_runD mixed
  · simp +decide only [E, reduceIte, Nat.reduceAdd, Nat.reduceMul, Bool.not_true, Bool.not_false, L, ti3, ti28, ti30, ti54, ti59, M.Page.en, b5, f7, f8, f9, f10, f11, f12, f13, f14, f15, f16, f17, b18, q21, q22, q23, q26, q27, q28, b31]
    refine ⟨_, c_spec_CanTalk x19 x24 x29 h30, ?_⟩
    try simp +decide only [E, reduceIte, Nat.reduceAdd, Nat.reduceMul, Bool.not_true, Bool.not_false, L, ti3, ti28, ti30, ti54, ti59, M.Page.en, b5, f7, f8, f9, f10, f11, f12, f13, f14, f15, f16, f17, b18, q21, q22, q23, q26, q27, q28, b31]
    refine ⟨_, c_spec_MailsFor (⟨r15⟩ : M.Channel) x24.Id x32 h33, ?_⟩
    try simp +decide only [E, reduceIte, Nat.reduceAdd, Nat.reduceMul, Bool.not_true, Bool.not_false, L, ti3, ti28, ti30, ti54, ti59, M.Page.en, b5, f7, f8, f9, f10, f11, f12, f13, f14, f15, f16, f17, b18, q21, q22, q23, q26, q27, q28, b31]
    exact ⟨.mk (by decide +kernel), Is.mk _⟩
  refine an ?_
  rcases bcas (decide ((List.length x32 : Int) < 5)) with b34 | b34
  · replace h := ite_f b34 h
    refine SW_cf (by simp +decide only [F, reduceIte, Nat.reduceAdd, Bool.not_true, Bool.not_false, b5, f7, f8, f9, f10, f11, f12, f13, f14, f15, f16, f17, b18, q21, q22, q23, q26, q27, q28, b31, b34]) ?_
    refine sk (ab (an ?_))
    apply SW_run
    · simp +decide only [E, reduceIte, Nat.reduceAdd, Nat.reduceMul, Bool.not_true, Bool.not_false, L, b5, f7, f8, f9, f10, f11, f12, f13, f14, f15, f16, f17, b18, q21, q22, q23, q26, q27, q28, b31, b34]
      exact Is.mk _
    refine aft_i ⟨mL1, by omega, v12, (IntKind.i64.wrap (v13 + 1)), r15, u15, ?_, ?_, ?_, ?_, ?_, ?_, ?_, ?_, ?_, ?_, ?_, h⟩
    all_goals simp +decide only [F, reduceIte, Nat.reduceAdd, Bool.not_true, Bool.not_false, M.Mail.en, b5, f7, f8, f9, f10, f11, f12, f13, f14, f15, f16, f17, b18, q21, q22, q23, q26, q27, q28, b31, b34]
  replace h := ite_t b34 h
  refine SW_ct (by simp +decide only [F, reduceIte, Nat.reduceAdd, Bool.not_true, Bool.not_false, b5, f7, f8, f9, f10, f11, f12, f13, f14, f15, f16, f17, b18, q21, q22, q23, q26, q27, q28, b31, b34]) ?_
  refine sq ?_
  obtain ⟨x35, h36, h⟩ := bind_some h
  apply SW_runD mixed
  · simp +decide only [E, reduceIte, Nat.reduceAdd, Nat.reduceMul, Bool.not_true, Bool.not_false, L, ti3, ti28, ti30, ti32, ti54, ti59, M.Mail.en, M.Page.en, b5, f7, f8, f9, f10, f11, f12, f13, f14, f15, f16, f17, b18, q21, q22, q23, q26, q27, q28, b31, b34]
    refine ⟨by (have hb := app_some h36); simp [M.Mail.en, M.Page.en, List.length_append, strBytes_len] at hb ⊢ <;> omega, ?_⟩
    try simp +decide only [E, reduceIte, Nat.reduceAdd, Nat.reduceMul, Bool.not_true, Bool.not_false, L, ti3, ti28, ti30, ti32, ti54, ti59, M.Mail.en, M.Page.en, b5, f7, f8, f9, f10, f11, f12, f13, f14, f15, f16, f17, b18, q21, q22, q23, q26, q27, q28, b31, b34]
    exact ⟨.mk (by decide +kernel), Is.mk _⟩
  refine an ?_
  refine SW_cut (J := fun s => s.t 1 = .v false [.dat (.sl (List.map M.Page.en p1))] ∧ s.t 2 = .v false [.dat (.int .i64 p2)] ∧ s.t 3 = .v false [.dat (.int .i64 p3)] ∧ s.t 8 = .v false [.bp 8 1 0] ∧ s.t 10 = .v false [.bp 10 1 0] ∧ s.t 11 = .v false [.dat (.int .i64 x3)] ∧ s.t 12 = .v false [.dat (.int .i64 v12)] ∧ s.t 13 = .v false [.dat (.int .i64 v13)] ∧ s.h 8 = (1, .box 30 [.nil]) ∧ s.h 10 = (1, .box 30 [.row 100015 (u15 + 1)]) ∧ s.h 100015 = ((u15 + 1), .row 32 3 (List.map M.Mail.en (r15 ++ [(⟨x24.Id, p2, p3⟩ : M.Mail)])) true) ∧ True) ?_ ?_
  · refine ⟨?_, ?_, ?_, ?_, ?_, ?_, ?_, ?_, ?_, ?_, ?_, trivial⟩ <;> (try simp +decide only [F, reduceIte, Nat.reduceAdd, Bool.not_true, Bool.not_false, M.Mail.en, b5, f7, f8, f9, f10, f11, f12, f13, f14, f15, f16, f17, b18, q21, q22, q23, q26, q27, q28, b31, b34])
  rintro s37 ⟨f38, f39, f40, f41, f42, f43, f44, f45, f46, f47, f48, _⟩
  apply SW_run
  · simp +decide only [E, reduceIte, Nat.reduceAdd, Nat.reduceMul, Bool.not_true, Bool.not_false, L, b5, b18, q21, q22, q23, q26, q27, q28, b31, b34, f38, f39, f40, f41, f42, f43, f44, f45, f46, f47, f48]
    exact Is.mk _
  refine ab (an ?_)
  apply SW_run
  · simp +decide only [E, reduceIte, Nat.reduceAdd, Nat.reduceMul, Bool.not_true, Bool.not_false, L, b5, b18, q21, q22, q23, q26, q27, q28, b31, b34, f38, f39, f40, f41, f42, f43, f44, f45, f46, f47, f48]
    exact Is.mk _
  refine aft_i ⟨mL1, by omega, (IntKind.i64.wrap (v12 + 1)), (IntKind.i64.wrap (v13 + 1)), (r15 ++ [(⟨x24.Id, p2, p3⟩ : M.Mail)]), (u15 + 1), ?_, ?_, ?_, ?_, ?_, ?_, ?_, ?_, ?_, ?_, ?_, h⟩
  all_goals simp +decide only [F, reduceIte, Nat.reduceAdd, Bool.not_true, Bool.not_false, M.Mail.en, b5, b18, q21, q22, q23, q26, q27, q28, b31, b34, f38, f39, f40, f41, f42, f43, f44, f45, f46, f47, f48]

end Go.Proofs.Ytfcfdnmhpdgjfaa.gen
