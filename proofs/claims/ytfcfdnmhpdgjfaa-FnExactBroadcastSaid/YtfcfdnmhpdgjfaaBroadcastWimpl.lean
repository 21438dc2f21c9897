/-
  Helper text: walks: each function's contract out of its model. No conditions beyond those of each contract.
-/
import Derived.Test.YtfcfdnmhpdgjfaaBroadcastTi
namespace Go.Proofs.Ytfcfdnmhpdgjfaa.gen
open Go Go.Sh
set_option linter.unusedVariables false
set_option linter.unusedSimpArgs false
set_option maxHeartbeats 4000000 in
theorem c_impl_copyChannel (p0 : M.Channel) (r : M.Channel) (h : m_impl_copyChannel p0 = some r) : SCalls Try.prog 47 [(true, M.Channel.en p0)] [(true, [.own 32 3 (List.map M.Mail.en r.Mails)])] := by
  unfold m_impl_copyChannel at h
  simp only [M.Channel.en]
  refine scalls_n (N := 8) (vars := [.cell 2 30]) Try.func47 rfl rfl rfl (by decide +kernel) (Nat.le_of_ble_eq_true rfl) fun base wd => ?_
  refine sq ?_
  apply SW_run
  · simp +decide only [E, reduceIte, Nat.reduceAdd, Nat.reduceMul, Bool.not_true, Bool.not_false, L, ti30]
    exact Is.mk _
  refine an (sq ?_)
  obtain ⟨x1, h2, h⟩ := bind_some h
  apply SW_run
  · simp +decide only [E, reduceIte, Nat.reduceAdd, Nat.reduceMul, Bool.not_true, Bool.not_false, M.Mail.en.fl, L, ti28, ti30, ti32, M.Mail.en]
    refine ⟨by (have hb := app_some h2); simp [M.Mail.en, List.length_append, strBytes_len] at hb ⊢ <;> omega, ?_⟩
    try simp +decide only [E, reduceIte, Nat.reduceAdd, Nat.reduceMul, Bool.not_true, Bool.not_false, M.Mail.en.fl, L, ti28, ti30, ti32, M.Mail.en]
    exact Is.mk _
  refine an (rt ?_)
  cases h
  simp [Ret, ti30, M.Mail.en]

set_option maxHeartbeats 4000000 in
theorem c_impl_Broadcast_1 (p0 : M.Page) (c0 : Int) (r : Bool) (h : m_impl_Broadcast_1 p0 c0 = some r) : SCalls Try.prog 65 [(true, M.Page.en p0), (false, [.ptr [.int .i64 c0]])] [(false, [.ro (.bool r)])] := by
  unfold m_impl_Broadcast_1 at h
  simp only [M.Page.en]
  refine scalls_n (N := 8) (vars := [.tmp 3]) Try.func65 rfl rfl rfl (by decide +kernel) (Nat.le_of_ble_eq_true rfl) fun base wd => ?_
  refine sq ?_
  apply SW_run
  · simp +decide only [E, reduceIte, Nat.reduceAdd, Nat.reduceMul, Bool.not_true, Bool.not_false, L]
    exact Is.mk _
  refine an (sq ?_)
  apply SW_run
  · simp +decide only [E, reduceIte, Nat.reduceAdd, Nat.reduceMul, Bool.not_true, Bool.not_false, L, ti3, ti54]
    exact Is.mk _
  refine an (rt ?_)
  cases h
  simp [Ret, ]

set_option maxHeartbeats 4000000 in
theorem c_slices_IndexFunc_Page (p0 : List M.Page) (p1 : M.Page → Option Bool) (f1_ : FuncId) (k1_ : List D) (hp1 : ∀ z0 r, p1 z0 = some r → SCalls Try.prog f1_ ((true, M.Page.en z0) ::  k1_.map fun c => (false, [c])) [(false, [.ro (.bool r)])]) (r : Int) (h : m_slices_IndexFunc_Page p0 p1 = some r) : SCalls Try.prog 64 [(false, [.sl (List.map M.Page.en p0)]), (false, [.fn f1_ k1_])] [(false, [.ro (.int .i64 r)])] := by
  unfold m_slices_IndexFunc_Page at h
  refine scalls_n (N := 19) (vars := [.tmp 4]) Try.func64 rfl rfl rfl (by decide +kernel) (Nat.le_of_ble_eq_true rfl) fun base wd => ?_
  refine sq ?_
  apply SW_run
  · simp +decide only [E, reduceIte, Nat.reduceAdd, Nat.reduceMul, Bool.not_true, Bool.not_false, L]
    exact Is.mk _
  refine an (sq (sq ?_))
  apply SW_run
  · simp +decide only [E, reduceIte, Nat.reduceAdd, Nat.reduceMul, Bool.not_true, Bool.not_false, L, ti59]
    exact Is.mk _
  refine an (bk ?_)
  refine SW_loop (fun m s => ∃ v8 : Int, s.t 0 = .v false [.dat (.sl (List.map M.Page.en p0))] ∧ s.t 1 = .v false [.dat (.fn f1_ k1_)] ∧ s.t 7 = .v false [.dat (.int .i64 (List.length p0 : Int))] ∧ s.t 8 = .v false [.dat (.int .i64 v8)] ∧ m_slices_IndexFunc_Page_L1 p0 p1 m v8 = some r) fuel ?_ ?_
  · refine ⟨0, ?_, ?_, ?_, ?_, h⟩
    all_goals simp +decide only [F, reduceIte, Nat.reduceAdd, Bool.not_true, Bool.not_false]
  rintro mL1 s1 ⟨v8, f2, f3, f4, f5, h⟩
  rcases mL1 with _ | mL1
  · exact absurd h (by simp [m_slices_IndexFunc_Page_L1])
  simp only [m_slices_IndexFunc_Page_L1] at h
  refine sq ?_
  apply SW_run
  · simp +decide only [E, reduceIte, Nat.reduceAdd, Nat.reduceMul, Bool.not_true, Bool.not_false, L, f2, f3, f4, f5]
    exact Is.mk _
  refine an (sq ?_)
  rcases bcas (decide (v8 < (List.length p0 : Int))) with b6 | b6
  · replace h := ite_f b6 h
    refine SW_cf (by simp +decide only [F, reduceIte, Nat.reduceAdd, Bool.not_true, Bool.not_false, f2, f3, f4, f5, b6]) ?_
    refine xt (aft_cx (aft_ix (aft_x (an (sq ?_)))))
    apply SW_run
    · simp +decide only [E, reduceIte, Nat.reduceAdd, Nat.reduceMul, Bool.not_true, Bool.not_false, L, f2, f3, f4, f5, b6]
      exact Is.mk _
    refine an (rt ?_)
    cases h
    simp [Ret, f2, f3, f4, f5, b6]
  replace h := ite_t b6 h
  refine SW_ct (by simp +decide only [F, reduceIte, Nat.reduceAdd, Bool.not_true, Bool.not_false, f2, f3, f4, f5, b6]) ?_
  refine sk (an (sq (bk (sq ?_))))
  apply SW_run
  · simp +decide only [E, reduceIte, Nat.reduceAdd, Nat.reduceMul, Bool.not_true, Bool.not_false, L, f2, f3, f4, f5, b6]
    exact Is.mk _
  refine an (sq ?_)
  obtain ⟨x7, h8, h⟩ := bind_some h
  obtain ⟨q9, q10, q11⟩ := idx_some h8
  obtain ⟨x12, h13, h⟩ := bind_some h
  apply SW_run
  · simp +decide only [E, reduceIte, Nat.reduceAdd, Nat.reduceMul, Bool.not_true, Bool.not_false, L, ti54, ti59, M.Page.en, f2, f3, f4, f5, b6, q9, q10, q11]
    refine ⟨_, hp1 x7 x12 h13, ?_⟩
    try simp +decide only [E, reduceIte, Nat.reduceAdd, Nat.reduceMul, Bool.not_true, Bool.not_false, L, ti54, ti59, M.Page.en, f2, f3, f4, f5, b6, q9, q10, q11]
    exact Is.mk _
  refine an ?_
  rcases bcase x12 with b14 | b14
  · replace h := ite_t b14 h
    refine SW_ct (by simp +decide only [F, reduceIte, Nat.reduceAdd, Bool.not_true, Bool.not_false, f2, f3, f4, f5, b6, q9, q10, q11, b14]) ?_
    refine sq ?_
    apply SW_run
    · simp +decide only [E, reduceIte, Nat.reduceAdd, Nat.reduceMul, Bool.not_true, Bool.not_false, L, f2, f3, f4, f5, b6, q9, q10, q11, b14]
      exact Is.mk _
    refine an (rt ?_)
    cases h
    simp [Ret, f2, f3, f4, f5, b6, q9, q10, q11, b14]
  replace h := ite_f b14 h
  refine SW_cf (by simp +decide only [F, reduceIte, Nat.reduceAdd, Bool.not_true, Bool.not_false, f2, f3, f4, f5, b6, q9, q10, q11, b14]) ?_
  refine sk (ab (an ?_))
  apply SW_run
  · simp +decide only [E, reduceIte, Nat.reduceAdd, Nat.reduceMul, Bool.not_true, Bool.not_false, L, f2, f3, f4, f5, b6, q9, q10, q11, b14]
    exact Is.mk _
  refine aft_i ⟨mL1, by omega, (IntKind.i64.wrap (v8 + 1)), ?_, ?_, ?_, ?_, h⟩
  all_goals simp +decide only [F, reduceIte, Nat.reduceAdd, Bool.not_true, Bool.not_false, f2, f3, f4, f5, b6, q9, q10, q11, b14]

set_option maxHeartbeats 4000000 in
theorem c_impl_CanTalk (p0 : M.Page) (p1 : M.Page) (r : Bool) (h : m_impl_CanTalk p0 p1 = some r) : SCalls Try.prog 22 [(true, M.Page.en p0), (true, M.Page.en p1)] [(false, [.ro (.bool r)])] := by
  unfold m_impl_CanTalk at h
  simp only [M.Page.en]
  refine scalls_n (N := 24) (vars := [.tmp 4]) Try.func22 rfl rfl rfl (by decide +kernel) (Nat.le_of_ble_eq_true rfl) fun base wd => ?_
  refine sq ?_
  apply SW_run
  · simp +decide only [E, reduceIte, Nat.reduceAdd, Nat.reduceMul, Bool.not_true, Bool.not_false, L]
    exact Is.mk _
  refine an (sq ?_)
  rcases bcas (p0.Site.toList == p1.Site.toList) with b1 | b1
  · replace h := ite_f b1 h
    apply SW_run
    · simp +decide only [E, reduceIte, Nat.reduceAdd, Nat.reduceMul, Bool.not_true, Bool.not_false, L, ti9, ti54, b1]
      exact Is.mk _
    refine an (rt ?_)
    cases h
    simp [Ret, b1]
  replace h := ite_t b1 h
  rcases bcas (p0.Top.toList == p1.Top.toList) with b2 | b2
  · replace h := ite_f b2 h
    apply SW_run
    · simp +decide only [E, reduceIte, Nat.reduceAdd, Nat.reduceMul, Bool.not_true, Bool.not_false, L, ti9, ti54, b1, b2]
      exact Is.mk _
    refine an (rt ?_)
    cases h
    simp [Ret, b1, b2]
  replace h := ite_t b2 h
  apply SW_run
  · simp +decide only [E, reduceIte, Nat.reduceAdd, Nat.reduceMul, Bool.not_true, Bool.not_false, L, ti3, ti9, ti54, b1, b2]
    exact Is.mk _
  refine an (rt ?_)
  cases h
  simp [Ret, b1, b2]

set_option maxHeartbeats 4000000 in
theorem c_impl_MailsFor (p0 : M.Channel) (p1 : Int) (r : (List M.Mail)) (h : m_impl_MailsFor p0 p1 = some r) : SCalls Try.prog 28 [(true, M.Channel.en p0), (false, [.int .i64 p1])] [(false, [.own 32 3 (List.map M.Mail.en r)])] := by
  unfold m_impl_MailsFor at h
  simp only [M.Channel.en]
  refine scalls_n (N := 26) (vars := [.tmp 4]) Try.func28 rfl rfl rfl (by decide +kernel) (Nat.le_of_ble_eq_true rfl) fun base wd => ?_
  refine sq ?_
  apply SW_run
  · simp +decide only [E, reduceIte, Nat.reduceAdd, Nat.reduceMul, Bool.not_true, Bool.not_false, L]
    exact Is.mk _
  refine an (sq ?_)
  apply SW_run
  · simp +decide only [E, reduceIte, Nat.reduceAdd, Nat.reduceMul, Bool.not_true, Bool.not_false, L, ti28, ti32, M.Mail.en]
    exact Is.mk _
  refine an (sq (sq ?_))
  refine SW_cut (J := fun s => s.t 1 = .v false [.dat (.int .i64 p1)] ∧ s.t 2 = .v false [.bp 2 1 0] ∧ s.t 5 = .v false [.row 100008 1] ∧ s.h 2 = (1, .box 30 [.dat (.sl (List.map M.Mail.en p0.Mails))]) ∧ s.h 100008 = (1, .row 32 3 (List.map M.Mail.en ([] : List M.Mail)) true) ∧ True) ?_ ?_
  · refine ⟨?_, ?_, ?_, ?_, ?_, trivial⟩ <;> (try simp +decide only [F, reduceIte, Nat.reduceAdd, Bool.not_true, Bool.not_false, M.Mail.en])
  rintro s1 ⟨f2, f3, f4, f5, f6, _⟩
  apply SW_run
  · simp +decide only [E, reduceIte, Nat.reduceAdd, Nat.reduceMul, Bool.not_true, Bool.not_false, L, ti28, ti30, f2, f3, f4, f5, f6]
    exact Is.mk _
  refine an (bk ?_)
  refine SW_loop (fun m s => ∃ v12 : Int, ∃ r8 : List M.Mail, ∃ u8 : Nat, s.t 1 = .v false [.dat (.int .i64 p1)] ∧ s.t 5 = .v false [.row 100008 u8] ∧ s.t 10 = .v false [.dat (.sl (List.map M.Mail.en p0.Mails))] ∧ s.t 11 = .v false [.dat (.int .i64 (List.length p0.Mails : Int))] ∧ s.t 12 = .v false [.dat (.int .i64 v12)] ∧ s.h 100008 = (u8, .row 32 3 (List.map M.Mail.en r8) true) ∧ m_impl_MailsFor_L1 p0 p1 m v12 r8 = some r) fuel ?_ ?_
  · refine ⟨0, ([] : List M.Mail), 1, ?_, ?_, ?_, ?_, ?_, ?_, h⟩
    all_goals simp +decide only [F, reduceIte, Nat.reduceAdd, Bool.not_true, Bool.not_false, M.Mail.en, f2, f3, f4, f5, f6]
  rintro mL1 s7 ⟨v12, r8, u8, f8, f9, f10, f11, f12, f13, h⟩
  rcases mL1 with _ | mL1
  · exact absurd h (by simp [m_impl_MailsFor_L1])
  simp only [m_impl_MailsFor_L1] at h
  refine sq ?_
  apply SW_run
  · simp +decide only [E, reduceIte, Nat.reduceAdd, Nat.reduceMul, Bool.not_true, Bool.not_false, L, f8, f9, f10, f11, f12, f13]
    exact Is.mk _
  refine an (sq ?_)
  rcases bcas (decide (v12 < (List.length p0.Mails : Int))) with b14 | b14
  · replace h := ite_f b14 h
    refine SW_cf (by simp +decide only [F, reduceIte, Nat.reduceAdd, Bool.not_true, Bool.not_false, f8, f9, f10, f11, f12, f13, b14]) ?_
    refine xt (aft_cx (aft_ix (aft_x (an (sq ?_)))))
    apply SW_run
    · simp +decide only [E, reduceIte, Nat.reduceAdd, Nat.reduceMul, Bool.not_true, Bool.not_false, L, f8, f9, f10, f11, f12, f13, b14]
      exact Is.mk _
    refine an (rt ?_)
    cases h
    simp [Ret, M.Mail.en, f8, f9, f10, f11, f12, f13, b14]
  replace h := ite_t b14 h
  refine SW_ct (by simp +decide only [F, reduceIte, Nat.reduceAdd, Bool.not_true, Bool.not_false, f8, f9, f10, f11, f12, f13, b14]) ?_
  refine sk (an (sq (bk (sq ?_))))
  obtain ⟨x15, h16, h⟩ := bind_some h
  obtain ⟨q17, q18, q19⟩ := idx_some h16
  apply SW_run
  · simp +decide only [E, reduceIte, Nat.reduceAdd, Nat.reduceMul, Bool.not_true, Bool.not_false, L, ti28, ti32, M.Mail.en, f8, f9, f10, f11, f12, f13, b14, q17, q18, q19]
    exact Is.mk _
  refine an (sq ?_)
  apply SW_run
  · simp +decide only [E, reduceIte, Nat.reduceAdd, Nat.reduceMul, Bool.not_true, Bool.not_false, L, ti3, ti32, f8, f9, f10, f11, f12, f13, b14, q17, q18, q19]
    exact Is.mk _
  refine an ?_
  rcases bcas (x15.To == p1) with b20 | b20
  · replace h := ite_f b20 h
    refine SW_cf (by simp +decide only [F, reduceIte, Nat.reduceAdd, Bool.not_true, Bool.not_false, f8, f9, f10, f11, f12, f13, b14, q17, q18, q19, b20]) ?_
    refine sk (ab (an ?_))
    apply SW_run
    · simp +decide only [E, reduceIte, Nat.reduceAdd, Nat.reduceMul, Bool.not_true, Bool.not_false, L, f8, f9, f10, f11, f12, f13, b14, q17, q18, q19, b20]
      exact Is.mk _
    refine aft_i ⟨mL1, by omega, (IntKind.i64.wrap (v12 + 1)), r8, u8, ?_, ?_, ?_, ?_, ?_, ?_, h⟩
    all_goals simp +decide only [F, reduceIte, Nat.reduceAdd, Bool.not_true, Bool.not_false, M.Mail.en, f8, f9, f10, f11, f12, f13, b14, q17, q18, q19, b20]
  replace h := ite_t b20 h
  refine SW_ct (by simp +decide only [F, reduceIte, Nat.reduceAdd, Bool.not_true, Bool.not_false, f8, f9, f10, f11, f12, f13, b14, q17, q18, q19, b20]) ?_
  obtain ⟨x21, h22, h⟩ := bind_some h
  apply SW_run
  · simp +decide only [E, reduceIte, Nat.reduceAdd, Nat.reduceMul, Bool.not_true, Bool.not_false, L, ti28, ti32, M.Mail.en, f8, f9, f10, f11, f12, f13, b14, q17, q18, q19, b20]
    refine ⟨by (have hb := app_some h22); simp [M.Mail.en, List.length_append, strBytes_len] at hb ⊢ <;> omega, ?_⟩
    try simp +decide only [E, reduceIte, Nat.reduceAdd, Nat.reduceMul, Bool.not_true, Bool.not_false, L, ti28, ti32, M.Mail.en, f8, f9, f10, f11, f12, f13, b14, q17, q18, q19, b20]
    exact Is.mk _
  refine ab (an ?_)
  refine SW_cut (J := fun s => s.t 1 = .v false [.dat (.int .i64 p1)] ∧ s.t 5 = .v false [.row 100008 (u8 + 1)] ∧ s.t 10 = .v false [.dat (.sl (List.map M.Mail.en p0.Mails))] ∧ s.t 11 = .v false [.dat (.int .i64 (List.length p0.Mails : Int))] ∧ s.t 12 = .v false [.dat (.int .i64 v12)] ∧ s.h 100008 = ((u8 + 1), .row 32 3 (List.map M.Mail.en (r8 ++ [x15])) true) ∧ True) ?_ ?_
  · refine ⟨?_, ?_, ?_, ?_, ?_, ?_, trivial⟩ <;> (try simp +decide only [F, reduceIte, Nat.reduceAdd, Bool.not_true, Bool.not_false, M.Mail.en, f8, f9, f10, f11, f12, f13, b14, q17, q18, q19, b20])
  rintro s23 ⟨f24, f25, f26, f27, f28, f29, _⟩
  apply SW_run
  · simp +decide only [E, reduceIte, Nat.reduceAdd, Nat.reduceMul, Bool.not_true, Bool.not_false, L, b14, q17, q18, q19, b20, f24, f25, f26, f27, f28, f29]
    exact Is.mk _
  refine aft_i ⟨mL1, by omega, (IntKind.i64.wrap (v12 + 1)), (r8 ++ [x15]), (u8 + 1), ?_, ?_, ?_, ?_, ?_, ?_, h⟩
  all_goals simp +decide only [F, reduceIte, Nat.reduceAdd, Bool.not_true, Bool.not_false, M.Mail.en, b14, q17, q18, q19, b20, f24, f25, f26, f27, f28, f29]

set_option maxHeartbeats 4000000 in
theorem c_impl_Broadcast (p0 : M.Channel) (p1 : List M.Page) (p2 : Int) (p3 : Int) (r : (M.Channel × Int)) (h : m_impl_Broadcast p0 p1 p2 p3 = some r) : SCalls Try.prog 26 [(true, M.Channel.en p0), (false, [.sl (List.map M.Page.en p1)]), (false, [.int .i64 p2]), (false, [.int .i64 p3])] [(true, [.own 32 3 (List.map M.Mail.en r.1.Mails)]), (false, [.ro (.int .i64 r.2)])] := by
  unfold m_impl_Broadcast at h
  simp only [M.Channel.en]
  refine scalls_n (N := 58) (vars := [.cell 8 30, .tmp 9]) Try.func26 rfl rfl rfl (by decide +kernel) (Nat.le_of_ble_eq_true rfl) fun base wd => ?_
  refine sq ?_
  apply SW_run
  · simp +decide only [E, reduceIte, Nat.reduceAdd, Nat.reduceMul, Bool.not_true, Bool.not_false, L, ti30]
    exact Is.mk _
  refine an (sq ?_)
  obtain ⟨x1, h2, h⟩ := bind_some h
  apply SW_run
  · simp +decide only [E, reduceIte, Nat.reduceAdd, Nat.reduceMul, Bool.not_true, Bool.not_false, L, ti30]
    refine ⟨_, c_impl_copyChannel p0 x1 h2, ?_⟩
    try simp +decide only [E, reduceIte, Nat.reduceAdd, Nat.reduceMul, Bool.not_true, Bool.not_false, L, ti30]
    exact Is.mk _
  refine an (sq ?_)
  obtain ⟨x3, h4, h⟩ := bind_some h
  apply SW_run
  · simp +decide only [E, reduceIte, Nat.reduceAdd, Nat.reduceMul, Bool.not_true, Bool.not_false, L]
    refine ⟨_, c_slices_IndexFunc_Page p1 (fun z0 => m_impl_Broadcast_1 z0 p2) 65 [.ptr [.int .i64 p2]] (fun z0 r hr => c_impl_Broadcast_1 z0 p2 r hr) x3 h4, ?_⟩
    try simp +decide only [E, reduceIte, Nat.reduceAdd, Nat.reduceMul, Bool.not_true, Bool.not_false, L]
    exact Is.mk _
  refine an (sq (sq ?_))
  apply SW_run
  · simp +decide only [E, reduceIte, Nat.reduceAdd, Nat.reduceMul, Bool.not_true, Bool.not_false, L]
    exact Is.mk _
  refine an ?_
  rcases bcase (decide (x3 < 0)) with b5 | b5
  · replace h := ite_t b5 h
    refine SW_ct (by simp +decide only [F, reduceIte, Nat.reduceAdd, Bool.not_true, Bool.not_false, b5]) ?_
    refine sq ?_
    apply SW_run
    · simp +decide only [E, reduceIte, Nat.reduceAdd, Nat.reduceMul, Bool.not_true, Bool.not_false, L, ti30, b5]
      exact Is.mk _
    refine an (rt ?_)
    cases h
    simp [Ret, ti30, M.Mail.en, b5]
  replace h := ite_f b5 h
  refine SW_cf (by simp +decide only [F, reduceIte, Nat.reduceAdd, Bool.not_true, Bool.not_false, b5]) ?_
  refine sk (an (sq ?_))
  apply SW_run
  · simp +decide only [E, reduceIte, Nat.reduceAdd, Nat.reduceMul, Bool.not_true, Bool.not_false, L, b5]
    exact Is.mk _
  refine an (sq (sq ?_))
  apply SW_run
  · simp +decide only [E, reduceIte, Nat.reduceAdd, Nat.reduceMul, Bool.not_true, Bool.not_false, L, ti59, b5]
    exact Is.mk _
  refine an (bk ?_)
  refine SW_loop (fun m s => ∃ v12 : Int, ∃ v25 : Int, ∃ r16 : List M.Mail, ∃ u16 : Nat, s.t 1 = .v false [.dat (.sl (List.map M.Page.en p1))] ∧ s.t 3 = .v false [.dat (.int .i64 p3)] ∧ s.t 6 = .v false [.bp 6 1 0] ∧ s.t 8 = .v false [.bp 8 1 0] ∧ s.t 10 = .v false [.bp 10 1 0] ∧ s.t 11 = .v false [.dat (.int .i64 x3)] ∧ s.t 12 = .v false [.dat (.int .i64 v12)] ∧ s.t 23 = .v false [.dat (.sl (List.map M.Page.en p1))] ∧ s.t 24 = .v false [.dat (.int .i64 (List.length p1 : Int))] ∧ s.t 25 = .v false [.dat (.int .i64 v25)] ∧ s.h 6 = (1, .box 3 [.dat (.int .i64 p2)]) ∧ s.h 8 = (1, .box 30 [.nil]) ∧ s.h 10 = (1, .box 30 [.row 100016 u16]) ∧ s.h 100016 = (u16, .row 32 3 (List.map M.Mail.en r16) true) ∧ m_impl_Broadcast_L1 p1 p2 p3 x3 m v12 v25 r16 = some r) fuel ?_ ?_
  · refine ⟨0, 0, x1.Mails, 1, ?_, ?_, ?_, ?_, ?_, ?_, ?_, ?_, ?_, ?_, ?_, ?_, ?_, ?_, h⟩
    all_goals simp +decide only [F, reduceIte, Nat.reduceAdd, Bool.not_true, Bool.not_false, M.Mail.en, b5]
  rintro mL1 s6 ⟨v12, v25, r16, u16, f7, f8, f9, f10, f11, f12, f13, f14, f15, f16, f17, f18, f19, f20, h⟩
  rcases mL1 with _ | mL1
  · exact absurd h (by simp [m_impl_Broadcast_L1])
  simp only [m_impl_Broadcast_L1] at h
  refine sq ?_
  apply SW_run
  · simp +decide only [E, reduceIte, Nat.reduceAdd, Nat.reduceMul, Bool.not_true, Bool.not_false, L, b5, f7, f8, f9, f10, f11, f12, f13, f14, f15, f16, f17, f18, f19, f20]
    exact Is.mk _
  refine an (sq ?_)
  rcases bcas (decide (v25 < (List.length p1 : Int))) with b21 | b21
  · replace h := ite_f b21 h
    refine SW_cf (by simp +decide only [F, reduceIte, Nat.reduceAdd, Bool.not_true, Bool.not_false, b5, f7, f8, f9, f10, f11, f12, f13, f14, f15, f16, f17, f18, f19, f20, b21]) ?_
    refine xt (aft_cx (aft_ix (aft_x (an (sq ?_)))))
    apply SW_run
    · simp +decide only [E, reduceIte, Nat.reduceAdd, Nat.reduceMul, Bool.not_true, Bool.not_false, L, ti30, b5, f7, f8, f9, f10, f11, f12, f13, f14, f15, f16, f17, f18, f19, f20, b21]
      exact Is.mk _
    refine an (rt ?_)
    cases h
    simp [Ret, ti30, M.Mail.en, b5, f7, f8, f9, f10, f11, f12, f13, f14, f15, f16, f17, f18, f19, f20, b21]
  replace h := ite_t b21 h
  refine SW_ct (by simp +decide only [F, reduceIte, Nat.reduceAdd, Bool.not_true, Bool.not_false, b5, f7, f8, f9, f10, f11, f12, f13, f14, f15, f16, f17, f18, f19, f20, b21]) ?_
  refine sk (an (sq (bk (sq ?_))))
  obtain ⟨x22, h23, h⟩ := bind_some h
  obtain ⟨q24, q25, q26⟩ := idx_some h23
  apply SW_run
  · simp +decide only [E, reduceIte, Nat.reduceAdd, Nat.reduceMul, Bool.not_true, Bool.not_false, L, ti54, ti59, M.Page.en, b5, f7, f8, f9, f10, f11, f12, f13, f14, f15, f16, f17, f18, f19, f20, b21, q24, q25, q26]
    exact Is.mk _
  refine an (sq ?_)
  obtain ⟨x27, h28, h⟩ := bind_some h
  obtain ⟨q29, q30, q31⟩ := idx_some h28
  obtain ⟨x32, h33, h⟩ := bind_some h
  rcases bcas x32 with b34 | b34
  · replace h := ite_f b34 h
    apply SW_runD mixed
    · simp +decide only [E, reduceIte, Nat.reduceAdd, Nat.reduceMul, Bool.not_true, Bool.not_false, L, ti54, ti59, M.Page.en, b5, f7, f8, f9, f10, f11, f12, f13, f14, f15, f16, f17, f18, f19, f20, b21, q24, q25, q26, q29, q30, q31, b34]
      refine ⟨_, c_impl_CanTalk x27 x22 x32 h33, ?_⟩
      try simp +decide only [E, reduceIte, Nat.reduceAdd, Nat.reduceMul, Bool.not_true, Bool.not_false, L, ti54, ti59, M.Page.en, b5, f7, f8, f9, f10, f11, f12, f13, f14, f15, f16, f17, f18, f19, f20, b21, q24, q25, q26, q29, q30, q31, b34]
      exact ⟨.mk (by decide +kernel), Is.mk _⟩
    refine an ?_
    refine SW_cf (by simp +decide only [F, reduceIte, Nat.reduceAdd, Bool.not_true, Bool.not_false, b5, f7, f8, f9, f10, f11, f12, f13, f14, f15, f16, f17, f18, f19, f20, b21, q24, q25, q26, q29, q30, q31, b34]) ?_
    refine sk (ab (an ?_))
    apply SW_run
    · simp +decide only [E, reduceIte, Nat.reduceAdd, Nat.reduceMul, Bool.not_true, Bool.not_false, L, b5, f7, f8, f9, f10, f11, f12, f13, f14, f15, f16, f17, f18, f19, f20, b21, q24, q25, q26, q29, q30, q31, b34]
      exact Is.mk _
    refine aft_i ⟨mL1, by omega, v12, (IntKind.i64.wrap (v25 + 1)), r16, u16, ?_, ?_, ?_, ?_, ?_, ?_, ?_, ?_, ?_, ?_, ?_, ?_, ?_, ?_, h⟩
    all_goals simp +decide only [F, reduceIte, Nat.reduceAdd, Bool.not_true, Bool.not_false, M.Mail.en, b5, f7, f8, f9, f10, f11, f12, f13, f14, f15, f16, f17, f18, f19, f20, b21, q24, q25, q26, q29, q30, q31, b34]
  replace h := ite_t b34 h
  obtain ⟨x35, h36, h⟩ := bind_some h
  apply SW_runD mixed
  · simp +decide only [E, reduceIte, Nat.reduceAdd, Nat.reduceMul, Bool.not_true, Bool.not_false, L, ti3, ti28, ti30, ti54, ti59, M.Page.en, b5, f7, f8, f9, f10, f11, f12, f13, f14, f15, f16, f17, f18, f19, f20, b21, q24, q25, q26, q29, q30, q31, b34]
    refine ⟨_, c_impl_CanTalk x27 x22 x32 h33, ?_⟩
    try simp +decide only [E, reduceIte, Nat.reduceAdd, Nat.reduceMul, Bool.not_true, Bool.not_false, L, ti3, ti28, ti30, ti54, ti59, M.Page.en, b5, f7, f8, f9, f10, f11, f12, f13, f14, f15, f16, f17, f18, f19, f20, b21, q24, q25, q26, q29, q30, q31, b34]
    refine ⟨_, c_impl_MailsFor (⟨r16⟩ : M.Channel) x22.Id x35 h36, ?_⟩
    try simp +decide only [E, reduceIte, Nat.reduceAdd, Nat.reduceMul, Bool.not_true, Bool.not_false, L, ti3, ti28, ti30, ti54, ti59, M.Page.en, b5, f7, f8, f9, f10, f11, f12, f13, f14, f15, f16, f17, f18, f19, f20, b21, q24, q25, q26, q29, q30, q31, b34]
    exact ⟨.mk (by decide +kernel), Is.mk _⟩
  refine an ?_
  rcases bcas (decide ((List.length x35 : Int) < 5)) with b37 | b37
  · replace h := ite_f b37 h
    refine SW_cf (by simp +decide only [F, reduceIte, Nat.reduceAdd, Bool.not_true, Bool.not_false, b5, f7, f8, f9, f10, f11, f12, f13, f14, f15, f16, f17, f18, f19, f20, b21, q24, q25, q26, q29, q30, q31, b34, b37]) ?_
    refine sk (ab (an ?_))
    apply SW_run
    · simp +decide only [E, reduceIte, Nat.reduceAdd, Nat.reduceMul, Bool.not_true, Bool.not_false, L, b5, f7, f8, f9, f10, f11, f12, f13, f14, f15, f16, f17, f18, f19, f20, b21, q24, q25, q26, q29, q30, q31, b34, b37]
      exact Is.mk _
    refine aft_i ⟨mL1, by omega, v12, (IntKind.i64.wrap (v25 + 1)), r16, u16, ?_, ?_, ?_, ?_, ?_, ?_, ?_, ?_, ?_, ?_, ?_, ?_, ?_, ?_, h⟩
    all_goals simp +decide only [F, reduceIte, Nat.reduceAdd, Bool.not_true, Bool.not_false, M.Mail.en, b5, f7, f8, f9, f10, f11, f12, f13, f14, f15, f16, f17, f18, f19, f20, b21, q24, q25, q26, q29, q30, q31, b34, b37]
  replace h := ite_t b37 h
  refine SW_ct (by simp +decide only [F, reduceIte, Nat.reduceAdd, Bool.not_true, Bool.not_false, b5, f7, f8, f9, f10, f11, f12, f13, f14, f15, f16, f17, f18, f19, f20, b21, q24, q25, q26, q29, q30, q31, b34, b37]) ?_
  refine sq ?_
  obtain ⟨x38, h39, h⟩ := bind_some h
  apply SW_run
  · simp +decide only [E, reduceIte, Nat.reduceAdd, Nat.reduceMul, Bool.not_true, Bool.not_false, L, ti3, ti28, ti30, ti32, ti54, M.Mail.en, b5, f7, f8, f9, f10, f11, f12, f13, f14, f15, f16, f17, f18, f19, f20, b21, q24, q25, q26, q29, q30, q31, b34, b37]
    refine ⟨by (have hb := app_some h39); simp [M.Mail.en, List.length_append, strBytes_len] at hb ⊢ <;> omega, ?_⟩
    try simp +decide only [E, reduceIte, Nat.reduceAdd, Nat.reduceMul, Bool.not_true, Bool.not_false, L, ti3, ti28, ti30, ti32, ti54, M.Mail.en, b5, f7, f8, f9, f10, f11, f12, f13, f14, f15, f16, f17, f18, f19, f20, b21, q24, q25, q26, q29, q30, q31, b34, b37]
    exact Is.mk _
  refine an ?_
  refine SW_cut (J := fun s => s.t 1 = .v false [.dat (.sl (List.map M.Page.en p1))] ∧ s.t 3 = .v false [.dat (.int .i64 p3)] ∧ s.t 6 = .v false [.bp 6 1 0] ∧ s.t 8 = .v false [.bp 8 1 0] ∧ s.t 10 = .v false [.bp 10 1 0] ∧ s.t 11 = .v false [.dat (.int .i64 x3)] ∧ s.t 12 = .v false [.dat (.int .i64 v12)] ∧ s.t 23 = .v false [.dat (.sl (List.map M.Page.en p1))] ∧ s.t 24 = .v false [.dat (.int .i64 (List.length p1 : Int))] ∧ s.t 25 = .v false [.dat (.int .i64 v25)] ∧ s.h 6 = (1, .box 3 [.dat (.int .i64 p2)]) ∧ s.h 8 = (1, .box 30 [.nil]) ∧ s.h 10 = (1, .box 30 [.row 100016 (u16 + 1)]) ∧ s.h 100016 = ((u16 + 1), .row 32 3 (List.map M.Mail.en (r16 ++ [(⟨x22.Id, p2, p3⟩ : M.Mail)])) true) ∧ True) ?_ ?_
  · refine ⟨?_, ?_, ?_, ?_, ?_, ?_, ?_, ?_, ?_, ?_, ?_, ?_, ?_, ?_, trivial⟩ <;> (try simp +decide only [F, reduceIte, Nat.reduceAdd, Bool.not_true, Bool.not_false, M.Mail.en, b5, f7, f8, f9, f10, f11, f12, f13, f14, f15, f16, f17, f18, f19, f20, b21, q24, q25, q26, q29, q30, q31, b34, b37])
  rintro s40 ⟨f41, f42, f43, f44, f45, f46, f47, f48, f49, f50, f51, f52, f53, f54, _⟩
  apply SW_run
  · simp +decide only [E, reduceIte, Nat.reduceAdd, Nat.reduceMul, Bool.not_true, Bool.not_false, L, b5, b21, q24, q25, q26, q29, q30, q31, b34, b37, f41, f42, f43, f44, f45, f46, f47, f48, f49, f50, f51, f52, f53, f54]
    exact Is.mk _
  refine ab (an ?_)
  apply SW_run
  · simp +decide only [E, reduceIte, Nat.reduceAdd, Nat.reduceMul, Bool.not_true, Bool.not_false, L, b5, b21, q24, q25, q26, q29, q30, q31, b34, b37, f41, f42, f43, f44, f45, f46, f47, f48, f49, f50, f51, f52, f53, f54]
    exact Is.mk _
  refine aft_i ⟨mL1, by omega, (IntKind.i64.wrap (v12 + 1)), (IntKind.i64.wrap (v25 + 1)), (r16 ++ [(⟨x22.Id, p2, p3⟩ : M.Mail)]), (u16 + 1), ?_, ?_, ?_, ?_, ?_, ?_, ?_, ?_, ?_, ?_, ?_, ?_, ?_, ?_, h⟩
  all_goals simp +decide only [F, reduceIte, Nat.reduceAdd, Bool.not_true, Bool.not_false, M.Mail.en, b5, b21, q24, q25, q26, q29, q30, q31, b34, b37, f41, f42, f43, f44, f45, f46, f47, f48, f49, f50, f51, f52, f53, f54]

end Go.Proofs.Ytfcfdnmhpdgjfaa.gen
