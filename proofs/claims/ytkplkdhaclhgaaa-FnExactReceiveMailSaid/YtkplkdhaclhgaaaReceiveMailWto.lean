/-
  Helper text: walks: each function's contract out of its model. No conditions beyond those of each contract.
-/
import Derived.Test.YtkplkdhaclhgaaaReceiveMailTi
namespace Go.Proofs.Ytkplkdhaclhgaaa.gen
open Go Go.Sh
set_option linter.unusedVariables false
set_option linter.unusedSimpArgs false
set_option maxRecDepth 20000 in
set_option maxHeartbeats 4000000 in
theorem c_laws_toMail (p0 : M.Mail) (r : M.Mail) (h : m_laws_toMail p0 = some r) : SCalls Try.prog 22 [(true, M.Mail.en p0)] [(true, [.ro (.int .i64 r.To), .ro (.int .i64 r.From), .ro (.int .i64 r.N)])] := by
  unfold m_laws_toMail at h
  simp only [M.Mail.en]
  refine scalls_n (N := 14) (vars := [.cell 2 30]) Try.func22 rfl rfl rfl (by decide +kernel) (Nat.le_of_ble_eq_true rfl) fun base wd => ?_
  refine sq (rn ?_)
  refine an (sq (rn ?_))
  refine an (sq (rn ?_))
  refine an (sq (rn ?_))
  refine an (sq (rn ?_))
  refine an (sq (rn ?_))
  refine an (rt ?_)
  cases h
  simp [Ret, TB, EN, *]

set_option maxRecDepth 20000 in
set_option maxHeartbeats 4000000 in
theorem c_laws_toMailS (p0 : List M.Mail) (r : (List M.Mail)) (h : m_laws_toMailS p0 = some r) : SCalls Try.prog 14 [(false, [.sl (List.map M.Mail.en p0)])] [(false, [.own 30 3 (List.map M.Mail.en r)])] := by
  unfold m_laws_toMailS at h
  refine scalls_n (N := 23) (vars := [.tmp 2]) Try.func14 rfl rfl rfl (by decide +kernel) (Nat.le_of_ble_eq_true rfl) fun base wd => ?_
  refine sq (rn ?_)
  refine an (sq ?_)
  obtain ⟨x1, h2, h⟩ := bind_some h
  refine rn1 (mkL_must h2) ?_
  refine an (sq (sq ?_))
  refine cu (fun s => s.t 0 = .v false [.dat (.sl (List.map M.Mail.en p0))] ∧ s.t 3 = .v false [.row 100007 1] ∧ s.h 100007 = (1, .row 30 3 (List.map M.Mail.en (List.replicate (List.length p0 : Int).toNat (⟨0, 0, 0⟩ : M.Mail))) true) ∧ True) ?_
  rintro s3 ⟨f4, f5, f6, _⟩
  refine rn ?_
  refine an (bk ?_)
  refine SW_loop (fun m s => ∃ v4 : Int, ∃ r7 : List M.Mail, s.t 0 = .v false [.dat (.sl (List.map M.Mail.en p0))] ∧ s.t 3 = .v false [.row 100007 1] ∧ s.t 4 = .v false [.dat (.int .i64 v4)] ∧ s.h 100007 = (1, .row 30 3 (List.map M.Mail.en r7) true) ∧ m_laws_toMailS_L1 p0 m v4 r7 = some r) fuel ?_ ?_
  · refine ⟨0, (List.replicate (List.length p0 : Int).toNat (⟨0, 0, 0⟩ : M.Mail)), ?_, ?_, ?_, ?_, h⟩
    all_goals simp +decide only [F, reduceIte, Nat.reduceAdd, Bool.not_true, Bool.not_false, EN, *, -h]
  rintro mL1 s7 ⟨v4, r7, f8, f9, f10, f11, h⟩
  rcases mL1 with _ | mL1
  · exact absurd h (by simp [m_laws_toMailS_L1])
  simp only [m_laws_toMailS_L1] at h
  refine sq (sq (rn ?_))
  refine an ?_
  rcases bcas (decide (v4 < (List.length p0 : Int))) with b12 | b12
  · replace h := ite_f b12 h
    refine cf (xt (aft_cx (aft_ix (aft_x (an (sq (rn ?_)))))))
    refine an (rt ?_)
    cases h
    simp [Ret, TB, EN, *]
  replace h := ite_t b12 h
  refine ct (sk (an (sq (bk ?_))))
  obtain ⟨x13, h14, h⟩ := bind_some h
  obtain ⟨q15, q16, q17⟩ := idx_some h14
  obtain ⟨x18, h19, h⟩ := bind_some h
  obtain ⟨x20, h21, h⟩ := bind_some h
  obtain ⟨q22, q23, q24⟩ := idx_some h21
  refine rn1 (c_laws_toMail _ _ h19) ?_
  refine ab (an ?_)
  refine cu (fun s => s.t 0 = .v false [.dat (.sl (List.map M.Mail.en p0))] ∧ s.t 3 = .v false [.row 100007 1] ∧ s.t 4 = .v false [.dat (.int .i64 v4)] ∧ s.h 100007 = (1, .row 30 3 (List.map M.Mail.en (List.set r7 v4.toNat x18)) true) ∧ True) ?_
  rintro s25 ⟨f26, f27, f28, f29, _⟩
  refine rn ?_
  refine aft_i ⟨mL1, by omega, (IntKind.i64.wrap (v4 + 1)), (List.set r7 v4.toNat x18), ?_, ?_, ?_, ?_, h⟩
  all_goals simp +decide only [F, reduceIte, Nat.reduceAdd, Bool.not_true, Bool.not_false, EN, *, -h]

set_option maxRecDepth 20000 in
set_option maxHeartbeats 4000000 in
theorem c_laws_toChannel (p0 : M.Channel) (r : M.Channel) (h : m_laws_toChannel p0 = some r) : SCalls Try.prog 6 [(true, M.Channel.en p0)] [(true, [.own 30 3 (List.map M.Mail.en r.Mails)])] := by
  unfold m_laws_toChannel at h
  simp only [M.Channel.en]
  refine scalls_n (N := 9) (vars := [.cell 2 28]) Try.func6 rfl rfl rfl (by decide +kernel) (Nat.le_of_ble_eq_true rfl) fun base wd => ?_
  refine sq (rn ?_)
  refine an (sq (rn ?_))
  refine an (sq ?_)
  obtain ⟨x1, h2, h⟩ := bind_some h
  refine rn1 (c_laws_toMailS _ _ h2) ?_
  refine an (sq (rn ?_))
  refine an (rt ?_)
  cases h
  simp [Ret, TB, EN, *]

end Go.Proofs.Ytkplkdhaclhgaaa.gen
