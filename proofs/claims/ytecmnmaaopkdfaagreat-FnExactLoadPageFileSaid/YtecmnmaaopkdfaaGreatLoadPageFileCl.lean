/-
  Helper text. No conditions.
-/
import Derived.Test.YtecmnmaaopkdfaaGreatCp
namespace Go.Proofs.YtecmnmaaopkdfaaGreat.gen
open Go
theorem aVT {a b : Bool} (ha : a = true) (hb : b = true) : (a && b) = true := by rw [ha, hb]; rfl
set_option maxRecDepth 100000 in
set_option maxHeartbeats 4000000 in
theorem closed : joinedFacts Tryz.pinned.checked.prog 6 Tryz.f6 Rows.fnExactLoadPageFileSpec Rows.fnExactLoadPageFileRow = true := by
  unfold joinedFacts
  repeat' (with_reducible refine aVT ?_ ?_)
  all_goals (first | (with_reducible exact aL3) | (with_reducible exact aOZ) | (with_reducible exact aNO) | (with_reducible exact aNl) | (with_reducible exact aNs) | (with_reducible exact aNt) | (with_reducible rw [aNu]; as_aux_lemma => kernel_rfl) | (with_reducible rw [aOW]; as_aux_lemma => kernel_rfl) | (with_reducible rw [aOH]; as_aux_lemma => kernel_rfl) | (as_aux_lemma => kernel_rfl))
end Go.Proofs.YtecmnmaaopkdfaaGreat.gen
