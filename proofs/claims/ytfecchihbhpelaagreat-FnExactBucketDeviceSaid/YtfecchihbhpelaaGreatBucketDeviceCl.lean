/-
  Helper text: the closed facts of the row. No conditions.
-/
import Derived.Test.YtfecchihbhpelaaGreatRows
import Derived.Test.YtfecchihbhpelaaGreatProg
import Derived.KernelRfl
import Derived.JoinedOf
namespace Go.Proofs.YtfecchihbhpelaaGreat.gen
open Go
theorem band {a b : Bool} (ha : a = true) (hb : b = true) : (a && b) = true := by rw [ha, hb]; rfl
set_option maxRecDepth 100000 in
set_option maxHeartbeats 4000000 in
theorem closed : joinedFacts Tryz.pinned.checked.prog 4 Tryz.f4 Rows.fnExactBucketDeviceSpec Rows.fnExactBucketDeviceRow = true := by
  unfold joinedFacts
  repeat' (with_reducible refine band ?_ ?_)
  all_goals (as_aux_lemma => kernel_rfl)
end Go.Proofs.YtfecchihbhpelaaGreat.gen
