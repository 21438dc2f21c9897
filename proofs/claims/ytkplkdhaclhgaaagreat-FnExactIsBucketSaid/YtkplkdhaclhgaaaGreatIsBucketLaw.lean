/-
  For all arguments the law FnExactIsBucket answers true: the program's function and the reference's agree, and the arguments stay as they were. No conditions.
-/
import Derived.Test.YtkplkdhaclhgaaaGreatIsBucketPi
import Derived.Test.YtkplkdhaclhgaaaGreatIsBucketWlaw
import Derived.Test.YtkplkdhaclhgaaaGreatIsBucketCl
import Derived.Test.YtkplkdhaclhgaaaGreatRows
namespace Go.Proofs.YtkplkdhaclhgaaaGreat.gen
open Go Go.Sh
set_option linter.unusedVariables false
set_option linter.unusedSimpArgs false
theorem p_law (p0 : M.Bucket) (h0 : M.Bucket.ok p0) : m_laws_FnExactIsBucket p0 = some true := by
  unfold m_laws_FnExactIsBucket
  rw [M.Bucket.p_sz p0 h0 _ (by omega) (by omega), Option.bind_some]
  by_cases b0 : ((M.Bucket.sz p0 : Nat) : Int) ≤ 1048576
  rotate_left
  · rw [szOut_no b0, if_pos (by simp)]
  rw [szOut_yes b0, if_neg (by simp; omega)]
  simp [M.Bucket.p_to p0 h0 (by omega), p_spec_IsBucket h0 (show M.Bucket.sz p0 ≤ 1048576 by omega), p_impl_IsBucket h0 (show M.Bucket.sz p0 ≤ 1048576 by omega), M.Bucket.p_eq p0 h0]

theorem own : ownKnob Tryz.prog.godebug = none := by kernel_rfl
theorem laid : laidOutB Tryz.prog = true := cp_laid

set_option maxRecDepth 100000 in
theorem lifted (os : Os) (started : os.Started) (H : Type) (enc : TypeId × Value → H) :
    ReturnsInHanded {} Tryz.checked os 4 .any (Rows.fnExactIsBucketSpec.pre6 enc Tryz.prog Tryz.f4 Rows.fnExactIsBucketRow.domain false) (Rows.fnExactIsBucketSpec.post enc Tryz.prog Tryz.f4 false true false false) := by
  refine returnsInHanded_of_change (C := Tryz.checked) own started (by as_aux_lemma => kernel_rfl) Tryz.func4
    (ChangeSpec.witness6 (enc := enc) (C := Tryz.checked) false ⟨#[], #[.agg #[.string ByteArray.empty, .string ByteArray.empty, .string ByteArray.empty, .int .i64 0, .int .i64 0, .int .i64 0, .slice none 0 0, .string ByteArray.empty, .int .i64 0, .slice none 0 0, .slice none 0 0, .slice none 0 0, .int .i64 0, .string ByteArray.empty, .slice none 0 0, .int .i64 0, .int .i64 0, .int .i64 0, .int .i64 0, .slice none 0 0, .int .i64 0, .int .i64 0, .int .i64 0, .bool false]], []⟩ 8 (by as_aux_lemma => kernel_rfl) (by as_aux_lemma => kernel_rfl) (by as_aux_lemma => kernel_rfl) (by as_aux_lemma => kernel_rfl)) ?_
  intro W base args ds gs before hval hW hcnd _
  refine law_holds (n := 16) (tb := 4) (shs := [M.Bucket.sh]) laid rfl (by kernel_rfl) Tryz.underlying4 ?_ ?_ ?_ ?_ hval hW
  · exact ⟨_, _, rfl, by kernel_rfl, rfl⟩
  · intro t ht
    have : t ∈ [72] := ht
    simp at this
    rcases this with rfl
    all_goals exact ⟨by kernel_rfl, of_decide_eq_true (by kernel_rfl)⟩
  · intro ds hl
    match ds, hl with
    | [_], _ => rfl
  · intro dss hd
    obtain ⟨d0, e0, rfl, k0, r0⟩ := hd
    have : e0 = [] := r0
    subst this
    obtain ⟨x0, rfl, h0⟩ := M.Bucket.of_has _ k0
    exact c_laws_FnExactIsBucket x0 true (p_law x0 h0)

set_option maxRecDepth 100000 in
set_option maxHeartbeats 4000000 in
theorem over : Rows.fnExactIsBucketRow.holds Tryz.pinned (OpenSpec.ofChange Rows.fnExactIsBucketSpec) :=
  OpenClaim.holds_of_wide 4 Tryz.f4 rfl rfl rfl rfl rfl rfl rfl ⟨rfl, rfl, rfl, rfl, rfl⟩ rfl rfl rfl rfl rfl (by as_aux_lemma => kernel_rfl) Tryz.func4 closed
    (by as_aux_lemma => exact of_decide_eq_true (by kernel_rfl)) (by as_aux_lemma => (unfold Func.isWrapper; first | (rw [if_pos (by decide +kernel)]; kernel_rfl) | (rw [if_neg (by decide +kernel)]; exact ⟨rfl, rfl⟩)))
    (fun os started H enc _ => lifted os started H enc)

theorem proved : Rows.FnExactIsBucketSaid := over
#print axioms proved

end Go.Proofs.YtkplkdhaclhgaaaGreat.gen
