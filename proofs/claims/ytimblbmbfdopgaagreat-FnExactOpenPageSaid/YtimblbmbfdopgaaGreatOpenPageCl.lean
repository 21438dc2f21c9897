/-
  Helper text. No conditions.
-/
import Derived.Test.YtimblbmbfdopgaaGreatCp
namespace Go.Proofs.YtimblbmbfdopgaaGreat.gen
open Go
theorem aYt {a b:Bool} (ha:a=true) (hb:b=true):(a&&b)=true:=by rw [ha,hb];rfl
set_option maxRecDepth 100000 in
set_option maxHeartbeats 4000000 in
theorem closed:joinedFacts Tryz.pinned.checked.prog 9 Tryz.f9 Rows.fnExactOpenPageSpec Rows.fnExactOpenPageRow=true:=by
 unfold joinedFacts
 repeat' (with_reducible refine aYt ?_ ?_)
 all_goals (first | (with_reducible exact aOJ) | (with_reducible exact aQw) | (with_reducible exact aPm) | (with_reducible exact aPq) | (with_reducible exact aPE) | (with_reducible exact aPJ) | (with_reducible rw [aPs];as_aux_lemma=>kernel_rfl) | (with_reducible rw [aQt];as_aux_lemma=>kernel_rfl) | (with_reducible rw [aQj];as_aux_lemma=>kernel_rfl) | (as_aux_lemma=>kernel_rfl))
end Go.Proofs.YtimblbmbfdopgaaGreat.gen
