/-
  Helper text. No conditions.
-/
import Derived.Test.YtblghjofnielnaaGreatCp
namespace Go.Proofs.YtblghjofnielnaaGreat.gen
open Go
theorem aGG {a b:Bool} (ha:a=true) (hb:b=true):(a&&b)=true:=by rw [ha,hb];rfl
set_option maxRecDepth 100000 in
set_option maxHeartbeats 4000000 in
theorem closed:joinedFacts Tryz.pinned.checked.prog 3 Tryz.f3 Rows.fnSharedLocksSpec Rows.fnSharedLocksRow=true:=by
 unfold joinedFacts
 repeat' (with_reducible refine aGG ?_ ?_)
 all_goals (first | (with_reducible exact aBJ) | (with_reducible exact aCR) | (with_reducible exact aBz) | (with_reducible exact aB1) | (with_reducible exact aBj) | (with_reducible exact aBk) | (with_reducible rw [aB3];as_aux_lemma=>kernel_rfl) | (with_reducible rw [aCQ];as_aux_lemma=>kernel_rfl) | (with_reducible rw [aCL];as_aux_lemma=>kernel_rfl) | (as_aux_lemma=>kernel_rfl))
end Go.Proofs.YtblghjofnielnaaGreat.gen
