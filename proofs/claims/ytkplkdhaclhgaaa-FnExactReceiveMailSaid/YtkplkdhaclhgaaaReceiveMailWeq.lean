/-
  Helper text: walks: each function's contract out of its model. No conditions beyond those of each contract.
-/
import Derived.Test.YtkplkdhaclhgaaaReceiveMailTi
namespace Go.Proofs.Ytkplkdhaclhgaaa.gen
open Go Go.Sh
set_option linter.unusedVariables false
set_option linter.unusedSimpArgs false
set_option maxRecDepth 20000 in
set_option maxHeartbeats 4000000 in
theorem c_laws_eqMail (p0 : M.Mail) (p1 : M.Mail) (r : Bool) (h : m_laws_eqMail p0 p1 = some r) : SCalls Try.prog 9 [(true, M.Mail.en p0), (true, M.Mail.en p1)] [(false, [.ro (.bool r)])] := by
  unfold m_laws_eqMail at h
  simp only [M.Mail.en]
  refine scalls_n (N := 20) (vars := [.tmp 4]) Try.func9 rfl rfl rfl (by decide +kernel) (Nat.le_of_ble_eq_true rfl) fun base wd => ?_
  refine sq (rn ?_)
  refine an (sq (sq (rn ?_)))
  refine an ?_
  rcases bcase (p0.To != p1.To) with b1 | b1
  · replace h := ite_t b1 h
    refine ct (sq (rn ?_))
    refine an (rt ?_)
    cases h
    simp [Ret, TB, EN, *]
  replace h := ite_f b1 h
  refine cf (sk (an (sq (sq (rn ?_)))))
  refine an ?_
  rcases bcase (p0.From != p1.From) with b2 | b2
  · replace h := ite_t b2 h
    refine ct (sq (rn ?_))
    refine an (rt ?_)
    cases h
    simp [Ret, TB, EN, *]
  replace h := ite_f b2 h
  refine cf (sk (an (sq (sq (rn ?_)))))
  refine an ?_
  rcases bcase (p0.N != p1.N) with b3 | b3
  · replace h := ite_t b3 h
    refine ct (sq (rn ?_))
    refine an (rt ?_)
    cases h
    simp [Ret, TB, EN, *]
  replace h := ite_f b3 h
  refine cf (sk (an (sq (rn ?_))))
  refine an (rt ?_)
  cases h
  simp [Ret, TB, EN, *]

set_option maxRecDepth 20000 in
set_option maxHeartbeats 4000000 in
theorem c_laws_eqMailS (p0 : List M.Mail) (p1 : List M.Mail) (r : Bool) (h : m_laws_eqMailS p0 p1 = some r) : SCalls Try.prog 19 [(false, [.sl (List.map M.Mail.en p0)]), (false, [.sl (List.map M.Mail.en p1)])] [(false, [.ro (.bool r)])] := by
  unfold m_laws_eqMailS at h
  refine scalls_n (N := 27) (vars := [.tmp 4]) Try.func19 rfl rfl rfl (by decide +kernel) (Nat.le_of_ble_eq_true rfl) fun base wd => ?_
  refine sq (rn ?_)
  refine an (sq (sq (rn ?_)))
  refine an ?_
  rcases bcase ((List.length p0 : Int) != (List.length p1 : Int)) with b1 | b1
  · replace h := ite_t b1 h
    refine ct (sq (rn ?_))
    refine an (rt ?_)
    cases h
    simp [Ret, TB, EN, *]
  replace h := ite_f b1 h
  refine cf (sk (an (sq (sq (rn ?_)))))
  refine an (bk ?_)
  refine SW_loop (fun m s => ∃ v5 : Int, s.t 0 = .v false [.dat (.sl (List.map M.Mail.en p0))] ∧ s.t 1 = .v false [.dat (.sl (List.map M.Mail.en p1))] ∧ s.t 5 = .v false [.dat (.int .i64 v5)] ∧ m_laws_eqMailS_L1 p0 p1 m v5 = some r) fuel ?_ ?_
  · refine ⟨0, ?_, ?_, ?_, h⟩
    all_goals simp +decide only [F, reduceIte, Nat.reduceAdd, Bool.not_true, Bool.not_false, EN, *, -h]
  rintro mL1 s2 ⟨v5, f3, f4, f5, h⟩
  rcases mL1 with _ | mL1
  · exact absurd h (by simp [m_laws_eqMailS_L1])
  simp only [m_laws_eqMailS_L1] at h
  refine sq (sq (rn ?_))
  refine an ?_
  rcases bcas (decide (v5 < (List.length p0 : Int))) with b6 | b6
  · replace h := ite_f b6 h
    refine cf (xt (aft_cx (aft_ix (aft_x (an (sq (rn ?_)))))))
    refine an (rt ?_)
    cases h
    simp [Ret, TB, EN, *]
  replace h := ite_t b6 h
  refine ct (sk (an (sq (bk (sq ?_)))))
  obtain ⟨x7, h8, h⟩ := bind_some h
  obtain ⟨q9, q10, q11⟩ := idx_some h8
  obtain ⟨x12, h13, h⟩ := bind_some h
  obtain ⟨q14, q15, q16⟩ := idx_some h13
  obtain ⟨x17, h18, h⟩ := bind_some h
  refine rd1 mixed (c_laws_eqMail _ _ _ h18) ?_
  refine an ?_
  rcases bcase (!x17) with b19 | b19
  · replace h := ite_t b19 h
    refine ct (sq (rn ?_))
    refine an (rt ?_)
    cases h
    simp [Ret, TB, EN, *]
  replace h := ite_f b19 h
  refine cf (sk (ab (an (rn ?_))))
  refine aft_i ⟨mL1, by omega, (IntKind.i64.wrap (v5 + 1)), ?_, ?_, ?_, h⟩
  all_goals simp +decide only [F, reduceIte, Nat.reduceAdd, Bool.not_true, Bool.not_false, EN, *, -h]

set_option maxRecDepth 20000 in
set_option maxHeartbeats 4000000 in
theorem c_laws_eqChannel (p0 : M.Channel) (p1 : M.Channel) (r : Bool) (h : m_laws_eqChannel p0 p1 = some r) : SCalls Try.prog 8 [(true, M.Channel.en p0), (true, M.Channel.en p1)] [(false, [.ro (.bool r)])] := by
  unfold m_laws_eqChannel at h
  simp only [M.Channel.en]
  refine scalls_n (N := 11) (vars := [.tmp 4]) Try.func8 rfl rfl rfl (by decide +kernel) (Nat.le_of_ble_eq_true rfl) fun base wd => ?_
  refine sq (rn ?_)
  refine an (sq (sq ?_))
  obtain ⟨x1, h2, h⟩ := bind_some h
  refine rn1 (c_laws_eqMailS _ _ _ h2) ?_
  refine an ?_
  rcases bcase (!x1) with b3 | b3
  · replace h := ite_t b3 h
    refine ct (sq (rn ?_))
    refine an (rt ?_)
    cases h
    simp [Ret, TB, EN, *]
  replace h := ite_f b3 h
  refine cf (sk (an (sq (rn ?_))))
  refine an (rt ?_)
  cases h
  simp [Ret, TB, EN, *]

end Go.Proofs.Ytkplkdhaclhgaaa.gen
