/-
  Helper text. No conditions.
-/
import Derived.Test.YtblghjofnielnaaCp
namespace Go.Proofs.Ytblghjofnielnaa.gen
open Go
theorem aBf {a b:Bool} (ha:a=true) (hb:b=true):(a&&b)=true:=by rw [ha,hb];rfl
set_option maxRecDepth 100000 in
set_option maxHeartbeats 4000000 in
theorem closed:joinedFacts Try.pinned.checked.prog 3 Try.f3 Rows.fnChannelsSpec Rows.fnChannelsRow=true:=by
 unfold joinedFacts
 repeat' (with_reducible refine aBf ?_ ?_)
 all_goals (first | (with_reducible exact wY) | (with_reducible exact aAZ) | (with_reducible exact zI) | (with_reducible exact zP) | (with_reducible exact yI) | (with_reducible exact yN) | (with_reducible rw [zS];as_aux_lemma=>kernel_rfl) | (with_reducible rw [aAI];as_aux_lemma=>kernel_rfl) | (with_reducible rw [aAN];as_aux_lemma=>kernel_rfl) | (as_aux_lemma=>kernel_rfl))
end Go.Proofs.Ytblghjofnielnaa.gen
