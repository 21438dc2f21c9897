/-
  Helper text: walks: each function's contract out of its model. No conditions beyond those of each contract.
-/
import Derived.Test.YtkplkdhaclhgaaaReceiveMailTi
namespace Go.Proofs.Ytkplkdhaclhgaaa.gen
open Go Go.Sh
set_option linter.unusedVariables false
set_option linter.unusedSimpArgs false
set_option maxRecDepth 20000 in
set_option maxHeartbeats 4000000 in
theorem c_spec_l26Copy (p0 : M.Channel) (r : M.Channel) (h : m_spec_l26Copy p0 = some r) : SCalls Try.prog 13 [(true, M.Channel.en p0)] [(true, [.own 30 3 (List.map M.Mail.en r.Mails)])] := by
  unfold m_spec_l26Copy at h
  simp only [M.Channel.en]
  refine scalls_n (N := 8) (vars := [.cell 2 28]) Try.func13 rfl rfl rfl (by decide +kernel) (Nat.le_of_ble_eq_true rfl) fun base wd => ?_
  refine sq (rn ?_)
  refine an (sq ?_)
  obtain ⟨x1, h2, h⟩ := bind_some h
  refine rn1 h2 ?_
  refine an (rt ?_)
  cases h
  simp [Ret, TB, EN, *]

set_option maxRecDepth 20000 in
set_option maxHeartbeats 4000000 in
theorem c_spec_ReceiveMail (p0 : M.Channel) (p1 : Int) (r : (M.Channel × M.Mail × Bool)) (h : m_spec_ReceiveMail p0 p1 = some r) : SCalls Try.prog 5 [(true, M.Channel.en p0), (false, [.int .i64 p1])] [(true, [.own 30 3 (List.map M.Mail.en r.1.Mails)]), (true, [.ro (.int .i64 r.2.1.To), .ro (.int .i64 r.2.1.From), .ro (.int .i64 r.2.1.N)]), (false, [.ro (.bool r.2.2)])] := by
  unfold m_spec_ReceiveMail at h
  simp only [M.Channel.en]
  refine scalls_n (N := 46) (vars := [.cell 4 28, .cell 5 30, .tmp 6]) Try.func5 rfl rfl rfl (by decide +kernel) (Nat.le_of_ble_eq_true rfl) fun base wd => ?_
  refine sq (rn ?_)
  refine an (sq (sq (rn ?_)))
  refine an (bk ?_)
  refine SW_loop (fun m s => ∃ v7 : Int, s.t 1 = .v false [.dat (.int .i64 p1)] ∧ s.t 2 = .v false [.bp 2 1 0] ∧ s.t 4 = .v false [.bp 4 1 0] ∧ s.t 5 = .v false [.bp 5 1 0] ∧ s.t 7 = .v false [.dat (.int .i64 v7)] ∧ s.h 2 = (1, .box 28 [.dat (.sl (List.map M.Mail.en p0.Mails))]) ∧ s.h 4 = (1, .box 28 [.nil]) ∧ s.h 5 = (1, .box 30 [.dat (.int .i64 0), .dat (.int .i64 0), .dat (.int .i64 0)]) ∧ m_spec_ReceiveMail_L1 p0 p1 m v7 = some r) fuel ?_ ?_
  · refine ⟨0, ?_, ?_, ?_, ?_, ?_, ?_, ?_, ?_, h⟩
    all_goals simp +decide only [F, reduceIte, Nat.reduceAdd, Bool.not_true, Bool.not_false, EN, *, -h]
  rintro mL1 s1 ⟨v7, f2, f3, f4, f5, f6, f7, f8, f9, h⟩
  rcases mL1 with _ | mL1
  · exact absurd h (by simp [m_spec_ReceiveMail_L1])
  simp only [m_spec_ReceiveMail_L1] at h
  refine sq (sq (rn ?_))
  refine an ?_
  rcases bcas (decide (v7 < (List.length p0.Mails : Int))) with b10 | b10
  · replace h := ite_f b10 h
    refine cf (xt (aft_cx (aft_ix (aft_x (an (sq ?_))))))
    obtain ⟨x25, h26, h⟩ := bind_some h
    refine rn1 (c_spec_l26Copy _ _ h26) ?_
    refine an (rt ?_)
    cases h
    simp [Ret, TB, EN, *]
  replace h := ite_t b10 h
  refine ct (sk (an (sq (bk (sq ?_)))))
  obtain ⟨x11, h12, h⟩ := bind_some h
  obtain ⟨q13, q14, q15⟩ := idx_some h12
  refine rn ?_
  refine an ?_
  rcases bcas (x11.To == p1) with b16 | b16
  · replace h := ite_f b16 h
    refine cf (sk (ab (an (rn ?_))))
    refine aft_i ⟨mL1, by omega, (IntKind.i64.wrap (v7 + 1)), ?_, ?_, ?_, ?_, ?_, ?_, ?_, ?_, h⟩
    all_goals simp +decide only [F, reduceIte, Nat.reduceAdd, Bool.not_true, Bool.not_false, EN, *, -h]
  replace h := ite_t b16 h
  refine ct (sq ?_)
  obtain ⟨x17, h18, h⟩ := bind_some h
  obtain ⟨x19, h20, h⟩ := bind_some h
  obtain ⟨x21, h22, h⟩ := bind_some h
  obtain ⟨x23, h24, h⟩ := bind_some h
  apply SW_runD mixed
  · simp +decide only [E, reduceIte, Nat.reduceAdd, Nat.reduceMul, Bool.not_true, Bool.not_false, ← List.map_take, ← List.map_drop, M.Mail.en.fl, L, ti26, ti28, ti30, M.Mail.en, f2, f3, f4, f5, f6, f7, f8, f9, b10, q13, q14, q15, b16]
    refine ⟨by first | exact slcHi_some (f := M.Mail.en) (n := 3) (fun _ => rfl) h18 | exact (slcHi_some (f := M.Mail.en) (n := 3) (fun _ => rfl) h18).2 | exact (slcHi_some (f := M.Mail.en) (n := 3) (fun _ => rfl) h18).2.2, ?_⟩
    try simp +decide only [E, reduceIte, Nat.reduceAdd, Nat.reduceMul, Bool.not_true, Bool.not_false, ← List.map_take, ← List.map_drop, M.Mail.en.fl, L, ti26, ti28, ti30, M.Mail.en, f2, f3, f4, f5, f6, f7, f8, f9, b10, q13, q14, q15, b16]
    refine ⟨by (have hb := app_some h20); simp [M.Mail.en, List.length_append, strBytes_len, ← List.map_take, ← List.map_drop, -List.map_take, -List.map_drop] at hb ⊢ <;> omega, ?_⟩
    try simp +decide only [E, reduceIte, Nat.reduceAdd, Nat.reduceMul, Bool.not_true, Bool.not_false, ← List.map_take, ← List.map_drop, M.Mail.en.fl, L, ti26, ti28, ti30, M.Mail.en, f2, f3, f4, f5, f6, f7, f8, f9, b10, q13, q14, q15, b16]
    refine ⟨by first | exact slcLo_some (f := M.Mail.en) (n := 3) (fun _ => rfl) h22 | exact (slcLo_some (f := M.Mail.en) (n := 3) (fun _ => rfl) h22).2 | exact (slcLo_some (f := M.Mail.en) (n := 3) (fun _ => rfl) h22).2.2, ?_⟩
    try simp +decide only [E, reduceIte, Nat.reduceAdd, Nat.reduceMul, Bool.not_true, Bool.not_false, ← List.map_take, ← List.map_drop, M.Mail.en.fl, L, ti26, ti28, ti30, M.Mail.en, f2, f3, f4, f5, f6, f7, f8, f9, b10, q13, q14, q15, b16]
    refine ⟨by (have hb := app_some h24); simp [M.Mail.en, List.length_append, strBytes_len, ← List.map_take, ← List.map_drop, -List.map_take, -List.map_drop] at hb ⊢ <;> omega, ?_⟩
    try simp +decide only [E, reduceIte, Nat.reduceAdd, Nat.reduceMul, Bool.not_true, Bool.not_false, ← List.map_take, ← List.map_drop, M.Mail.en.fl, L, ti26, ti28, ti30, M.Mail.en, f2, f3, f4, f5, f6, f7, f8, f9, b10, q13, q14, q15, b16]
    exact ⟨.mk (by decide +kernel), Is.mk _⟩
  refine an (sq (rd mixed ?_))
  refine an (rt ?_)
  cases h
  simp [Ret, TB, EN, *]

end Go.Proofs.Ytkplkdhaclhgaaa.gen
