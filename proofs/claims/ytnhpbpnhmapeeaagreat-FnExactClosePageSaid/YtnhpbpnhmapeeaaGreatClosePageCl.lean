/-
  Helper text. No conditions.
-/
import Derived.Test.YtnhpbpnhmapeeaaGreatCp
namespace Go.Proofs.YtnhpbpnhmapeeaaGreat.gen
open Go
theorem aUv {a b:Bool} (ha:a=true) (hb:b=true):(a&&b)=true:=by rw [ha,hb];rfl
set_option maxRecDepth 100000 in
set_option maxHeartbeats 4000000 in
theorem closed:joinedFacts Tryz.pinned.checked.prog 4 Tryz.f4 Rows.fnExactClosePageSpec Rows.fnExactClosePageRow=true:=by
 unfold joinedFacts
 repeat' (with_reducible refine aUv ?_ ?_)
 all_goals (first | (with_reducible exact aL3) | (with_reducible exact aNz) | (with_reducible exact aNF) | (with_reducible exact aNH) | (with_reducible exact aMt) | (with_reducible exact aMw) | (with_reducible rw [aNJ];as_aux_lemma=>kernel_rfl) | (with_reducible rw [aNy];as_aux_lemma=>kernel_rfl) | (with_reducible rw [aNq];as_aux_lemma=>kernel_rfl) | (as_aux_lemma=>kernel_rfl))
end Go.Proofs.YtnhpbpnhmapeeaaGreat.gen
