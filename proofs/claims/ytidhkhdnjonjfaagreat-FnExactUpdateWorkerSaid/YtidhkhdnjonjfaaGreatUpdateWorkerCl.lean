/-
  Helper text. No conditions.
-/
import Derived.Test.YtidhkhdnjonjfaaGreatCp
namespace Go.Proofs.YtidhkhdnjonjfaaGreat.gen
open Go
theorem aY3 {a b:Bool} (ha:a=true) (hb:b=true):(a&&b)=true:=by rw [ha,hb];rfl
set_option maxRecDepth 100000 in
set_option maxHeartbeats 4000000 in
theorem closed:joinedFacts Tryz.pinned.checked.prog 5 Tryz.f5 Rows.fnExactUpdateWorkerSpec Rows.fnExactUpdateWorkerRow=true:=by
 unfold joinedFacts
 repeat' (with_reducible refine aY3 ?_ ?_)
 all_goals (first | (with_reducible exact aOo) | (with_reducible exact aRV) | (with_reducible exact aQO) | (with_reducible exact aQT) | (with_reducible exact aPt) | (with_reducible exact aPy) | (with_reducible rw [aQV];as_aux_lemma=>kernel_rfl) | (with_reducible rw [aRT];as_aux_lemma=>kernel_rfl) | (with_reducible rw [aRI];as_aux_lemma=>kernel_rfl) | (as_aux_lemma=>kernel_rfl))
end Go.Proofs.YtidhkhdnjonjfaaGreat.gen
