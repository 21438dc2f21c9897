/-
  Helper text. No conditions.
-/
import Derived.Test.YtecmnmaaopkdfaaGreatCp
namespace Go.Proofs.YtecmnmaaopkdfaaGreat.gen
open Go
theorem aTi {a b : Bool} (ha : a = true) (hb : b = true) : (a && b) = true := by rw [ha, hb]; rfl
set_option maxRecDepth 100000 in
set_option maxHeartbeats 4000000 in
theorem closed : joinedFacts Tryz.pinned.checked.prog 4 Tryz.f4 Rows.fnExactPageSendSpec Rows.fnExactPageSendRow = true := by
  unfold joinedFacts
  repeat' (with_reducible refine aTi ?_ ?_)
  all_goals (first | (with_reducible exact aKq) | (with_reducible exact aND) | (with_reducible exact aMV) | (with_reducible exact aMP) | (with_reducible exact aMd) | (with_reducible exact aMH) | (with_reducible rw [aMb]; as_aux_lemma => kernel_rfl) | (with_reducible rw [aNE]; as_aux_lemma => kernel_rfl) | (with_reducible rw [aNM]; as_aux_lemma => kernel_rfl) | (as_aux_lemma => kernel_rfl))
end Go.Proofs.YtecmnmaaopkdfaaGreat.gen
