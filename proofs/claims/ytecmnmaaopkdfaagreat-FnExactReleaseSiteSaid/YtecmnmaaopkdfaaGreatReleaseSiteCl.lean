/-
  Helper text. No conditions.
-/
import Derived.Test.YtecmnmaaopkdfaaGreatCp
namespace Go.Proofs.YtecmnmaaopkdfaaGreat.gen
open Go
theorem aTF {a b : Bool} (ha : a = true) (hb : b = true) : (a && b) = true := by rw [ha, hb]; rfl
set_option maxRecDepth 100000 in
set_option maxHeartbeats 4000000 in
theorem closed : joinedFacts Tryz.pinned.checked.prog 3 Tryz.f3 Rows.fnExactReleaseSiteSpec Rows.fnExactReleaseSiteRow = true := by
  unfold joinedFacts
  repeat' (with_reducible refine aTF ?_ ?_)
  all_goals (first | (with_reducible exact aK9) | (with_reducible exact aMu) | (with_reducible exact aMF) | (with_reducible exact aMI) | (with_reducible exact aMH) | (with_reducible exact aMK) | (with_reducible rw [aMG]; as_aux_lemma => kernel_rfl) | (with_reducible rw [aMz]; as_aux_lemma => kernel_rfl) | (with_reducible rw [aMs]; as_aux_lemma => kernel_rfl) | (as_aux_lemma => kernel_rfl))
end Go.Proofs.YtecmnmaaopkdfaaGreat.gen
