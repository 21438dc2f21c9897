/-
  Helper text: walks: each function's contract out of its model. No conditions beyond those of each contract.
-/
import Derived.Test.YtfecchihbhpelaaGreatBucketDeviceTi
namespace Go.Proofs.YtfecchihbhpelaaGreat.gen
open Go Go.Sh
set_option linter.unusedVariables false
set_option linter.unusedSimpArgs false
set_option maxHeartbeats 4000000 in
theorem c_spec_BucketDevice (p0 : M.World) (r : Int) (h : m_spec_BucketDevice p0 = some r) : SCalls Tryz.prog 21 [(true, M.World.en p0)] [(false, [.ro (.int .i64 r)])] := by
  unfold m_spec_BucketDevice at h
  simp only [M.World.en]
  refine scalls_n (N := 9) (vars := [.tmp 2]) Tryz.func21 rfl rfl rfl (by decide +kernel) (Nat.le_of_ble_eq_true rfl) fun base wd => ?_
  refine sq (rn ?_)
  refine an (sq (rn ?_))
  refine an (rt ?_)
  cases h
  simp [Ret, TB, EN, *]

end Go.Proofs.YtfecchihbhpelaaGreat.gen
