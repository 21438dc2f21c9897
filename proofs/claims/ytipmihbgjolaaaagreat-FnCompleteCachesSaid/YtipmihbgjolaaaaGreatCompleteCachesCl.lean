/-
  Helper text. No conditions.
-/
import Derived.Test.YtipmihbgjolaaaaGreatCp
namespace Go.Proofs.YtipmihbgjolaaaaGreat.gen
open Go
theorem aF9 {a b:Bool} (ha:a=true) (hb:b=true):(a&&b)=true:=by rw [ha,hb];rfl
set_option maxRecDepth 100000 in
set_option maxHeartbeats 4000000 in
theorem closed:joinedFacts Tryz.pinned.checked.prog 6 Tryz.f6 Rows.fnCompleteCachesSpec Rows.fnCompleteCachesRow=true:=by
 unfold joinedFacts
 repeat' (with_reducible refine aF9 ?_ ?_)
 all_goals (first | (with_reducible exact cp_laid) | (with_reducible exact cp_maps) | (with_reducible exact cp_stops) | (with_reducible exact cp_knobs) | (with_reducible exact cp_heard) | (with_reducible exact cp_enter) | (with_reducible rw [cp_lifts];as_aux_lemma=>kernel_rfl) | (with_reducible rw [cp_keys];as_aux_lemma=>kernel_rfl) | (with_reducible rw [cp_make];as_aux_lemma=>kernel_rfl) | (as_aux_lemma=>kernel_rfl))
end Go.Proofs.YtipmihbgjolaaaaGreat.gen
