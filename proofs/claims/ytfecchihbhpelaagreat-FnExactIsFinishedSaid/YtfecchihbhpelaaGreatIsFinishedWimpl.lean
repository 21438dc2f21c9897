/-
  Helper text: walks: each function's contract out of its model. No conditions beyond those of each contract.
-/
import Derived.Test.YtfecchihbhpelaaGreatIsFinishedTi
namespace Go.Proofs.YtfecchihbhpelaaGreat.gen
open Go Go.Sh
set_option linter.unusedVariables false
set_option linter.unusedSimpArgs false
set_option maxHeartbeats 4000000 in
theorem c_impl_PageIndex_1 (p0 : M.Page) (c0 : Int) (r : Bool) (h : m_impl_PageIndex_1 p0 c0 = some r) : SCalls Tryz.prog 92 [(true, M.Page.en p0), (false, [.ptr [.int .i64 c0]])] [(false, [.ro (.bool r)])] := by
  unfold m_impl_PageIndex_1 at h
  simp only [M.Page.en]
  refine scalls_n (N := 8) (vars := [.tmp 3]) Tryz.func92 rfl rfl rfl (by decide +kernel) (Nat.le_of_ble_eq_true rfl) fun base wd => ?_
  refine sq (rn ?_)
  refine an (sq (rn ?_))
  refine an (rt ?_)
  cases h
  simp [Ret, TB, EN, *]

set_option maxHeartbeats 4000000 in
theorem c_slices_IndexFunc_Page (p0 : List M.Page) (p1 : M.Page → Option Bool) (f1_ : FuncId) (k1_ : List D) (hp1 : ∀ z0 r, p1 z0 = some r → SCalls Tryz.prog f1_ ((true, M.Page.en z0) ::  k1_.map fun c => (false, [c])) [(false, [.ro (.bool r)])]) (r : Int) (h : m_slices_IndexFunc_Page p0 p1 = some r) : SCalls Tryz.prog 91 [(false, [.sl (List.map M.Page.en p0)]), (false, [.fn f1_ k1_])] [(false, [.ro (.int .i64 r)])] := by
  unfold m_slices_IndexFunc_Page at h
  refine scalls_n (N := 19) (vars := [.tmp 4]) Tryz.func91 rfl rfl rfl (by decide +kernel) (Nat.le_of_ble_eq_true rfl) fun base wd => ?_
  refine sq (rn ?_)
  refine an (sq (sq (rn ?_)))
  refine an (bk ?_)
  refine SW_loop (fun m s => ∃ v8 : Int, s.t 0 = .v false [.dat (.sl (List.map M.Page.en p0))] ∧ s.t 1 = .v false [.dat (.fn f1_ k1_)] ∧ s.t 7 = .v false [.dat (.int .i64 (List.length p0 : Int))] ∧ s.t 8 = .v false [.dat (.int .i64 v8)] ∧ m_slices_IndexFunc_Page_L1 p0 p1 m v8 = some r) fuel ?_ ?_
  · refine ⟨0, ?_, ?_, ?_, ?_, h⟩
    all_goals simp +decide only [F, reduceIte, Nat.reduceAdd, Bool.not_true, Bool.not_false, EN, *, -h]
  rintro mL1 s1 ⟨v8, f2, f3, f4, f5, h⟩
  rcases mL1 with _ | mL1
  · exact absurd h (by simp [m_slices_IndexFunc_Page_L1])
  simp only [m_slices_IndexFunc_Page_L1] at h
  refine sq (rn ?_)
  refine an (sq ?_)
  rcases bcas (decide (v8 < (List.length p0 : Int))) with b6 | b6
  · replace h := ite_f b6 h
    refine cf (xt (aft_cx (aft_ix (aft_x (an (sq (rn ?_)))))))
    refine an (rt ?_)
    cases h
    simp [Ret, TB, EN, *]
  replace h := ite_t b6 h
  refine ct (sk (an (sq (bk (sq (rn ?_))))))
  refine an (sq ?_)
  obtain ⟨x7, h8, h⟩ := bind_some h
  obtain ⟨q9, q10, q11⟩ := idx_some h8
  obtain ⟨x12, h13, h⟩ := bind_some h
  refine rn1 (hp1 x7 x12 h13) ?_
  refine an ?_
  rcases bcase x12 with b14 | b14
  · replace h := ite_t b14 h
    refine ct (sq (rn ?_))
    refine an (rt ?_)
    cases h
    simp [Ret, TB, EN, *]
  replace h := ite_f b14 h
  refine cf (sk (ab (an (rn ?_))))
  refine aft_i ⟨mL1, by omega, (IntKind.i64.wrap (v8 + 1)), ?_, ?_, ?_, ?_, h⟩
  all_goals simp +decide only [F, reduceIte, Nat.reduceAdd, Bool.not_true, Bool.not_false, EN, *, -h]

set_option maxHeartbeats 4000000 in
theorem c_impl_PageIndex (p0 : M.World) (p1 : Int) (r : Int) (h : m_impl_PageIndex p0 p1 = some r) : SCalls Tryz.prog 27 [(true, M.World.en p0), (false, [.int .i64 p1])] [(false, [.ro (.int .i64 r)])] := by
  unfold m_impl_PageIndex at h
  simp only [M.World.en]
  refine scalls_n (N := 9) (vars := [.tmp 4]) Tryz.func27 rfl rfl rfl (by decide +kernel) (Nat.le_of_ble_eq_true rfl) fun base wd => ?_
  refine sq (rn ?_)
  refine an (sq ?_)
  obtain ⟨x1, h2, h⟩ := bind_some h
  refine rn1 (c_slices_IndexFunc_Page p0.Pages (fun z0 => m_impl_PageIndex_1 z0 p1) 92 [.ptr [.int .i64 p1]] (fun z0 r hr => c_impl_PageIndex_1 z0 p1 r hr) x1 h2) ?_
  refine an (rt ?_)
  cases h
  simp [Ret, TB, EN, *]

set_option maxHeartbeats 4000000 in
theorem c_impl_IsFinished (p0 : M.World) (p1 : Int) (r : Bool) (h : m_impl_IsFinished p0 p1 = some r) : SCalls Tryz.prog 29 [(true, M.World.en p0), (false, [.int .i64 p1])] [(false, [.ro (.bool r)])] := by
  unfold m_impl_IsFinished at h
  simp only [M.World.en]
  refine scalls_n (N := 20) (vars := [.tmp 4]) Tryz.func29 rfl rfl rfl (by decide +kernel) (Nat.le_of_ble_eq_true rfl) fun base wd => ?_
  refine sq (rn ?_)
  refine an (sq ?_)
  obtain ⟨x1, h2, h⟩ := bind_some h
  refine rn1 (c_impl_PageIndex _ _ _ h2) ?_
  refine an (sq ?_)
  rcases bcas (decide (x1 ≥ 0)) with b3 | b3
  · replace h := ite_f b3 h
    refine rn ?_
    refine an (rt ?_)
    cases h
    simp [Ret, TB, EN, *]
  replace h := ite_t b3 h
  obtain ⟨x4, h5, h⟩ := bind_some h
  obtain ⟨q6, q7, q8⟩ := idx_some h5
  refine rn ?_
  refine an (rt ?_)
  cases h
  simp [Ret, TB, EN, *]

end Go.Proofs.YtfecchihbhpelaaGreat.gen
