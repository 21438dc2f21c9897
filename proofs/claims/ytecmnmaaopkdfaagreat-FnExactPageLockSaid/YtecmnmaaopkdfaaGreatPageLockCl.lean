/-
  Helper text. No conditions.
-/
import Derived.Test.YtecmnmaaopkdfaaGreatCp
namespace Go.Proofs.YtecmnmaaopkdfaaGreat.gen
open Go
theorem aTp {a b : Bool} (ha : a = true) (hb : b = true) : (a && b) = true := by rw [ha, hb]; rfl
set_option maxRecDepth 100000 in
set_option maxHeartbeats 4000000 in
theorem closed : joinedFacts Tryz.pinned.checked.prog 5 Tryz.f5 Rows.fnExactPageLockSpec Rows.fnExactPageLockRow = true := by
  unfold joinedFacts
  repeat' (with_reducible refine aTp ?_ ?_)
  all_goals (first | (with_reducible exact aKu) | (with_reducible exact aM4) | (with_reducible exact aL2) | (with_reducible exact aMg) | (with_reducible exact aMk) | (with_reducible exact aL5) | (with_reducible rw [aMK]; as_aux_lemma => kernel_rfl) | (with_reducible rw [aMw]; as_aux_lemma => kernel_rfl) | (with_reducible rw [aNB]; as_aux_lemma => kernel_rfl) | (as_aux_lemma => kernel_rfl))
end Go.Proofs.YtecmnmaaopkdfaaGreat.gen
