/-
  Helper text: walks: each function's contract out of its model. No conditions beyond those of each contract.
-/
import Derived.Test.YtfecchihbhpelaaGreatIsFinishedTi
namespace Go.Proofs.YtfecchihbhpelaaGreat.gen
open Go Go.Sh
set_option linter.unusedVariables false
set_option linter.unusedSimpArgs false
set_option maxHeartbeats 4000000 in
theorem c_spec_l26Page (p0 : List M.Page) (p1 : Int) (r : Int) (h : m_spec_l26Page p0 p1 = some r) : SCalls Tryz.prog 90 [(false, [.sl (List.map M.Page.en p0)]), (false, [.int .i64 p1])] [(false, [.ro (.int .i64 r)])] := by
  unfold m_spec_l26Page at h
  refine scalls_n (N := 20) (vars := [.tmp 4]) Tryz.func90 rfl rfl rfl (by decide +kernel) (Nat.le_of_ble_eq_true rfl) fun base wd => ?_
  refine sq (rn ?_)
  refine an (sq (sq (rn ?_)))
  refine an (bk ?_)
  refine SW_loop (fun m s => ∃ v5 : Int, s.t 0 = .v false [.dat (.sl (List.map M.Page.en p0))] ∧ s.t 1 = .v false [.dat (.int .i64 p1)] ∧ s.t 5 = .v false [.dat (.int .i64 v5)] ∧ m_spec_l26Page_L1 p0 p1 m v5 = some r) fuel ?_ ?_
  · refine ⟨0, ?_, ?_, ?_, h⟩
    all_goals simp +decide only [F, reduceIte, Nat.reduceAdd, Bool.not_true, Bool.not_false, EN, *, -h]
  rintro mL1 s1 ⟨v5, f2, f3, f4, h⟩
  rcases mL1 with _ | mL1
  · exact absurd h (by simp [m_spec_l26Page_L1])
  simp only [m_spec_l26Page_L1] at h
  refine sq (sq (rn ?_))
  refine an ?_
  rcases bcas (decide (v5 < (List.length p0 : Int))) with b5 | b5
  · replace h := ite_f b5 h
    refine cf (xt (aft_cx (aft_ix (aft_x (an (sq (rn ?_)))))))
    refine an (rt ?_)
    cases h
    simp [Ret, TB, EN, *]
  replace h := ite_t b5 h
  refine ct (sk (an (sq (bk (sq ?_)))))
  obtain ⟨x6, h7, h⟩ := bind_some h
  obtain ⟨q8, q9, q10⟩ := idx_some h7
  refine rn ?_
  refine an ?_
  rcases bcase (x6.Id == p1) with b11 | b11
  · replace h := ite_t b11 h
    refine ct (sq (rn ?_))
    refine an (rt ?_)
    cases h
    simp [Ret, TB, EN, *]
  replace h := ite_f b11 h
  refine cf (sk (ab (an (rn ?_))))
  refine aft_i ⟨mL1, by omega, (IntKind.i64.wrap (v5 + 1)), ?_, ?_, ?_, h⟩
  all_goals simp +decide only [F, reduceIte, Nat.reduceAdd, Bool.not_true, Bool.not_false, EN, *, -h]

set_option maxHeartbeats 4000000 in
theorem c_spec_PageIndex (p0 : M.World) (p1 : Int) (r : Int) (h : m_spec_PageIndex p0 p1 = some r) : SCalls Tryz.prog 26 [(true, M.World.en p0), (false, [.int .i64 p1])] [(false, [.ro (.int .i64 r)])] := by
  unfold m_spec_PageIndex at h
  simp only [M.World.en]
  refine scalls_n (N := 9) (vars := [.tmp 4]) Tryz.func26 rfl rfl rfl (by decide +kernel) (Nat.le_of_ble_eq_true rfl) fun base wd => ?_
  refine sq (rn ?_)
  refine an (sq ?_)
  obtain ⟨x1, h2, h⟩ := bind_some h
  refine rn1 (c_spec_l26Page _ _ _ h2) ?_
  refine an (rt ?_)
  cases h
  simp [Ret, TB, EN, *]

set_option maxHeartbeats 4000000 in
theorem c_spec_IsFinished (p0 : M.World) (p1 : Int) (r : Bool) (h : m_spec_IsFinished p0 p1 = some r) : SCalls Tryz.prog 28 [(true, M.World.en p0), (false, [.int .i64 p1])] [(false, [.ro (.bool r)])] := by
  unfold m_spec_IsFinished at h
  simp only [M.World.en]
  refine scalls_n (N := 20) (vars := [.tmp 4]) Tryz.func28 rfl rfl rfl (by decide +kernel) (Nat.le_of_ble_eq_true rfl) fun base wd => ?_
  refine sq (rn ?_)
  refine an (sq ?_)
  obtain ⟨x1, h2, h⟩ := bind_some h
  refine rn1 (c_spec_PageIndex _ _ _ h2) ?_
  refine an (sq ?_)
  rcases bcas (decide (x1 ≥ 0)) with b3 | b3
  · replace h := ite_f b3 h
    refine rn ?_
    refine an (rt ?_)
    cases h
    simp [Ret, TB, EN, *]
  replace h := ite_t b3 h
  obtain ⟨x4, h5, h⟩ := bind_some h
  obtain ⟨q6, q7, q8⟩ := idx_some h5
  refine rn ?_
  refine an (rt ?_)
  cases h
  simp [Ret, TB, EN, *]

end Go.Proofs.YtfecchihbhpelaaGreat.gen
