/-
  Helper text: walks: each function's contract out of its model. No conditions beyond those of each contract.
-/
import Derived.Test.YtkplkdhaclhgaaaReceiveMailTi
import Derived.Test.YtkplkdhaclhgaaaReceiveMailWlib
namespace Go.Proofs.Ytkplkdhaclhgaaa.gen
open Go Go.Sh
set_option linter.unusedVariables false
set_option linter.unusedSimpArgs false
set_option maxRecDepth 20000 in
set_option maxHeartbeats 4000000 in
theorem c_impl_copyChannel (p0 : M.Channel) (r : M.Channel) (h : m_impl_copyChannel p0 = some r) : SCalls Try.prog 15 [(true, M.Channel.en p0)] [(true, [.own 30 3 (List.map M.Mail.en r.Mails)])] := by
  unfold m_impl_copyChannel at h
  simp only [M.Channel.en]
  refine scalls_n (N := 8) (vars := [.cell 2 28]) Try.func15 rfl rfl rfl (by decide +kernel) (Nat.le_of_ble_eq_true rfl) fun base wd => ?_
  refine sq (rn ?_)
  refine an (sq ?_)
  obtain ⟨x1, h2, h⟩ := bind_some h
  refine rn1 h2 ?_
  refine an (rt ?_)
  cases h
  simp [Ret, TB, EN, *]

set_option maxRecDepth 20000 in
set_option maxHeartbeats 4000000 in
theorem c_impl_ReceiveMail_1 (p0 : M.Mail) (c0 : Int) (r : Bool) (h : m_impl_ReceiveMail_1 p0 c0 = some r) : SCalls Try.prog 17 [(true, M.Mail.en p0), (false, [.ptr [.int .i64 c0]])] [(false, [.ro (.bool r)])] := by
  unfold m_impl_ReceiveMail_1 at h
  simp only [M.Mail.en]
  refine scalls_n (N := 8) (vars := [.tmp 3]) Try.func17 rfl rfl rfl (by decide +kernel) (Nat.le_of_ble_eq_true rfl) fun base wd => ?_
  refine sq (rn ?_)
  refine an (sq (rn ?_))
  refine an (rt ?_)
  cases h
  simp [Ret, TB, EN, *]

set_option maxRecDepth 20000 in
set_option maxHeartbeats 4000000 in
theorem c_slices_IndexFunc_Mail (p0 : List M.Mail) (p1 : M.Mail → Option Bool) (f1_ : FuncId) (k1_ : List D) (hp1 : ∀ z0 r, p1 z0 = some r → SCalls Try.prog f1_ ((true, M.Mail.en z0) ::  k1_.map fun c => (false, [c])) [(false, [.ro (.bool r)])]) (r : Int) (h : m_slices_IndexFunc_Mail p0 p1 = some r) : SCalls Try.prog 16 [(false, [.sl (List.map M.Mail.en p0)]), (false, [.fn f1_ k1_])] [(false, [.ro (.int .i64 r)])] := by
  unfold m_slices_IndexFunc_Mail at h
  refine scalls_n (N := 19) (vars := [.tmp 4]) Try.func16 rfl rfl rfl (by decide +kernel) (Nat.le_of_ble_eq_true rfl) fun base wd => ?_
  refine sq (rn ?_)
  refine an (sq (sq (rn ?_)))
  refine an (bk ?_)
  refine SW_loop (fun m s => ∃ v8 : Int, s.t 0 = .v false [.dat (.sl (List.map M.Mail.en p0))] ∧ s.t 1 = .v false [.dat (.fn f1_ k1_)] ∧ s.t 7 = .v false [.dat (.int .i64 (List.length p0 : Int))] ∧ s.t 8 = .v false [.dat (.int .i64 v8)] ∧ m_slices_IndexFunc_Mail_L1 p0 p1 m v8 = some r) fuel ?_ ?_
  · refine ⟨0, ?_, ?_, ?_, ?_, h⟩
    all_goals simp +decide only [F, reduceIte, Nat.reduceAdd, Bool.not_true, Bool.not_false, EN, *, -h]
  rintro mL1 s1 ⟨v8, f2, f3, f4, f5, h⟩
  rcases mL1 with _ | mL1
  · exact absurd h (by simp [m_slices_IndexFunc_Mail_L1])
  simp only [m_slices_IndexFunc_Mail_L1] at h
  refine sq (rn ?_)
  refine an (sq ?_)
  rcases bcas (decide (v8 < (List.length p0 : Int))) with b6 | b6
  · replace h := ite_f b6 h
    refine cf (xt (aft_cx (aft_ix (aft_x (an (sq (rn ?_)))))))
    refine an (rt ?_)
    cases h
    simp [Ret, TB, EN, *]
  replace h := ite_t b6 h
  refine ct (sk (an (sq (bk (sq (rn ?_))))))
  refine an (sq ?_)
  obtain ⟨x7, h8, h⟩ := bind_some h
  obtain ⟨q9, q10, q11⟩ := idx_some h8
  obtain ⟨x12, h13, h⟩ := bind_some h
  refine rn1 (hp1 x7 x12 h13) ?_
  refine an ?_
  rcases bcase x12 with b14 | b14
  · replace h := ite_t b14 h
    refine ct (sq (rn ?_))
    refine an (rt ?_)
    cases h
    simp [Ret, TB, EN, *]
  replace h := ite_f b14 h
  refine cf (sk (ab (an (rn ?_))))
  refine aft_i ⟨mL1, by omega, (IntKind.i64.wrap (v8 + 1)), ?_, ?_, ?_, ?_, h⟩
  all_goals simp +decide only [F, reduceIte, Nat.reduceAdd, Bool.not_true, Bool.not_false, EN, *, -h]

set_option maxRecDepth 20000 in
set_option maxHeartbeats 4000000 in
theorem c_impl_ReceiveMail (p0 : M.Channel) (p1 : Int) (r : (M.Channel × M.Mail × Bool)) (h : m_impl_ReceiveMail p0 p1 = some r) : SCalls Try.prog 7 [(true, M.Channel.en p0), (false, [.int .i64 p1])] [(true, [.own 30 3 (List.map M.Mail.en r.1.Mails)]), (true, [.ro (.int .i64 r.2.1.To), .ro (.int .i64 r.2.1.From), .ro (.int .i64 r.2.1.N)]), (false, [.ro (.bool r.2.2)])] := by
  unfold m_impl_ReceiveMail at h
  simp only [M.Channel.en]
  refine scalls_n (N := 32) (vars := [.cell 4 28, .cell 5 30, .tmp 6]) Try.func7 rfl rfl rfl (by decide +kernel) (Nat.le_of_ble_eq_true rfl) fun base wd => ?_
  refine sq (rn ?_)
  refine an (sq ?_)
  obtain ⟨x1, h2, h⟩ := bind_some h
  refine rn1 (c_impl_copyChannel _ _ h2) ?_
  refine an (sq ?_)
  obtain ⟨x3, h4, h⟩ := bind_some h
  refine rn1 (c_slices_IndexFunc_Mail p0.Mails (fun z0 => m_impl_ReceiveMail_1 z0 p1) 17 [.ptr [.int .i64 p1]] (fun z0 r hr => c_impl_ReceiveMail_1 z0 p1 r hr) x3 h4) ?_
  refine an (sq (sq (rn ?_)))
  refine an ?_
  rcases bcase (decide (x3 < 0)) with b5 | b5
  · replace h := ite_t b5 h
    refine ct (sq (rn ?_))
    refine an (rt ?_)
    cases h
    simp [Ret, TB, EN, *]
  replace h := ite_f b5 h
  refine cf (sk (an (sq ?_)))
  obtain ⟨x6, h7, h⟩ := bind_some h
  apply SW_run
  · simp +decide only [E, reduceIte, Nat.reduceAdd, Nat.reduceMul, Bool.not_true, Bool.not_false, ← List.map_take, ← List.map_drop, L, ti26, ti28, ti30, M.Mail.en, b5]
    refine ⟨_, L18.ed18 _, ?_⟩
    try simp +decide only [E, reduceIte, Nat.reduceAdd, Nat.reduceMul, Bool.not_true, Bool.not_false, ← List.map_take, ← List.map_drop, L, ti26, ti28, ti30, M.Mail.en, b5]
    refine ⟨by (have hb := delAt_some h7); simp [M.Mail.en, List.length_append] at hb ⊢ <;> omega, ?_⟩
    try simp +decide only [E, reduceIte, Nat.reduceAdd, Nat.reduceMul, Bool.not_true, Bool.not_false, ← List.map_take, ← List.map_drop, L, ti26, ti28, ti30, M.Mail.en, b5]
    exact Is.mk _
  refine an (sq ?_)
  obtain ⟨x8, h9, h⟩ := bind_some h
  obtain ⟨q10, q11, q12⟩ := idx_some h9
  refine rd mixed ?_
  refine an (rt ?_)
  cases h
  simp [Ret, TB, EN, *]

end Go.Proofs.Ytkplkdhaclhgaaa.gen
