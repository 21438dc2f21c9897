/-
  Helper text. No conditions.
-/
import Derived.Test.YtnhpbpnhmapeeaaGreatCp
namespace Go.Proofs.YtnhpbpnhmapeeaaGreat.gen
open Go
theorem aVI {a b:Bool} (ha:a=true) (hb:b=true):(a&&b)=true:=by rw [ha,hb];rfl
set_option maxRecDepth 100000 in
set_option maxHeartbeats 4000000 in
theorem closed:joinedFacts Tryz.pinned.checked.prog 5 Tryz.f5 Rows.fnExactSendNoteSpec Rows.fnExactSendNoteRow=true:=by
 unfold joinedFacts
 repeat' (with_reducible refine aVI ?_ ?_)
 all_goals (first | (with_reducible exact aMM) | (with_reducible exact aOW) | (with_reducible exact aNa) | (with_reducible exact aNd) | (with_reducible exact aNE) | (with_reducible exact aNJ) | (with_reducible rw [aNf];as_aux_lemma=>kernel_rfl) | (with_reducible rw [aOV];as_aux_lemma=>kernel_rfl) | (with_reducible rw [aON];as_aux_lemma=>kernel_rfl) | (as_aux_lemma=>kernel_rfl))
end Go.Proofs.YtnhpbpnhmapeeaaGreat.gen
