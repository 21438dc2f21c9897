/-
  Helper text. No conditions.
-/
import Derived.Test.YtnhpbpnhmapeeaaGreatCp
namespace Go.Proofs.YtnhpbpnhmapeeaaGreat.gen
open Go
theorem aVp {a b:Bool} (ha:a=true) (hb:b=true):(a&&b)=true:=by rw [ha,hb];rfl
set_option maxRecDepth 100000 in
set_option maxHeartbeats 4000000 in
theorem closed:joinedFacts Tryz.pinned.checked.prog 6 Tryz.f6 Rows.fnExactActivateWorkerSpec Rows.fnExactActivateWorkerRow=true:=by
 unfold joinedFacts
 repeat' (with_reducible refine aVp ?_ ?_)
 all_goals (first | (with_reducible exact aMf) | (with_reducible exact aOk) | (with_reducible exact aNp) | (with_reducible exact aNs) | (with_reducible exact aNX) | (with_reducible exact aNa) | (with_reducible rw [aNu];as_aux_lemma=>kernel_rfl) | (with_reducible rw [aOj];as_aux_lemma=>kernel_rfl) | (with_reducible rw [aOb];as_aux_lemma=>kernel_rfl) | (as_aux_lemma=>kernel_rfl))
end Go.Proofs.YtnhpbpnhmapeeaaGreat.gen
