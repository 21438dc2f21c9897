/-
  Helper text: walks: each function's contract out of its model. No conditions beyond those of each contract.
-/
import Derived.Test.YtfecchihbhpelaaGreatPendingWritesTi
namespace Go.Proofs.YtfecchihbhpelaaGreat.gen
open Go Go.Sh
set_option linter.unusedVariables false
set_option linter.unusedSimpArgs false
set_option maxHeartbeats 4000000 in
theorem c_impl_PendingCount (p0 : M.Sync) (r : Int) (h : m_impl_PendingCount p0 = some r) : SCalls Tryz.prog 89 [(true, M.Sync.en p0)] [(false, [.ro (.int .i64 r)])] := by
  unfold m_impl_PendingCount at h
  simp only [M.Sync.en]
  refine scalls_n (N := 7) (vars := [.tmp 2]) Tryz.func89 rfl rfl rfl (by decide +kernel) (Nat.le_of_ble_eq_true rfl) fun base wd => ?_
  refine sq (rn ?_)
  refine an (sq (rn ?_))
  refine an (rt ?_)
  cases h
  simp [Ret, TB, EN, *]

set_option maxHeartbeats 4000000 in
theorem c_impl_PendingWrites (p0 : M.World) (r : Int) (h : m_impl_PendingWrites p0 = some r) : SCalls Tryz.prog 25 [(true, M.World.en p0)] [(false, [.ro (.int .i64 r)])] := by
  unfold m_impl_PendingWrites at h
  simp only [M.World.en]
  refine scalls_n (N := 22) (vars := [.tmp 2]) Tryz.func25 rfl rfl rfl (by decide +kernel) (Nat.le_of_ble_eq_true rfl) fun base wd => ?_
  refine sq (rn ?_)
  refine an (sq (rn ?_))
  refine an (sq (sq (rn ?_)))
  refine an (bk ?_)
  refine SW_loop (fun m s => ∃ v3 : Int, ∃ v10 : Int, s.t 3 = .v false [.dat (.int .i64 v3)] ∧ s.t 8 = .v false [.dat (.sl (List.map M.Bucket.en p0.Storage.Buckets))] ∧ s.t 9 = .v false [.dat (.int .i64 (List.length p0.Storage.Buckets : Int))] ∧ s.t 10 = .v false [.dat (.int .i64 v10)] ∧ m_impl_PendingWrites_L1 p0 m v3 v10 = some r) fuel ?_ ?_
  · refine ⟨0, 0, ?_, ?_, ?_, ?_, h⟩
    all_goals simp +decide only [F, reduceIte, Nat.reduceAdd, Bool.not_true, Bool.not_false, EN, *, -h]
  rintro mL1 s1 ⟨v3, v10, f2, f3, f4, f5, h⟩
  rcases mL1 with _ | mL1
  · exact absurd h (by simp [m_impl_PendingWrites_L1])
  simp only [m_impl_PendingWrites_L1] at h
  refine sq (rn ?_)
  refine an (sq ?_)
  rcases bcas (decide (v10 < (List.length p0.Storage.Buckets : Int))) with b6 | b6
  · replace h := ite_f b6 h
    refine cf (xt (aft_cx (aft_ix (aft_x (an (sq (rn ?_)))))))
    refine an (rt ?_)
    cases h
    simp [Ret, TB, EN, *]
  replace h := ite_t b6 h
  refine ct (sk (an (sq (bk (sq ?_)))))
  obtain ⟨x7, h8, h⟩ := bind_some h
  obtain ⟨q9, q10, q11⟩ := idx_some h8
  refine rn ?_
  refine an ?_
  obtain ⟨x12, h13, h⟩ := bind_some h
  refine rn1 (c_impl_PendingCount _ _ h13) ?_
  refine ab (an (rn ?_))
  refine aft_i ⟨mL1, by omega, (IntKind.i64.wrap (v3 + x12)), (IntKind.i64.wrap (v10 + 1)), ?_, ?_, ?_, ?_, h⟩
  all_goals simp +decide only [F, reduceIte, Nat.reduceAdd, Bool.not_true, Bool.not_false, EN, *, -h]

end Go.Proofs.YtfecchihbhpelaaGreat.gen
