/-
  Helper text. No conditions.
-/
import Derived.Test.YtndidbigdalbnaaGreatCp
namespace Go.Proofs.YtndidbigdalbnaaGreat.gen
open Go
theorem aJt{a b:Bool}(j:a=true)(hb:b=true):(a&&b)=true:=by rw[j,hb];rfl
set_option maxRecDepth 100000 in
set_option maxHeartbeats 4000000 in
theorem closed:joinedFacts Tryz.pinned.checked.prog 3 Tryz.f3 Rows.fnNotesSpec Rows.fnNotesRow=true:=by
 unfold joinedFacts
 repeat' (with_reducible refine aJt ?_ ?_)
 all_goals (first | (with_reducible exact cp_laid) | (with_reducible exact cp_maps) | (with_reducible exact cp_stops) | (with_reducible exact cp_knobs) | (with_reducible exact cp_heard) | (with_reducible exact cp_enter) | (with_reducible rw [cp_lifts];as_aux_lemma=>kernel_rfl) | (with_reducible rw [cp_keys];as_aux_lemma=>kernel_rfl) | (with_reducible rw [cp_make];as_aux_lemma=>kernel_rfl) | (as_aux_lemma=>kernel_rfl))
