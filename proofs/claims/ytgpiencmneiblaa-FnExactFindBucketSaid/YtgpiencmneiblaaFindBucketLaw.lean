/-
  For all arguments the law FnExactFindBucket answers true: the program's function and the reference's agree, and the arguments stay as they were. No conditions.
-/
import Derived.Test.YtgpiencmneiblaaFindBucketPf
import Derived.Test.YtgpiencmneiblaaFindBucketWlaw
import Derived.Test.YtgpiencmneiblaaFindBucketCl
import Derived.Test.YtgpiencmneiblaaRows
namespace Go.Proofs.Ytgpiencmneiblaa.gen
open Go Go.Sh
set_option linter.unusedVariables false
set_option linter.unusedSimpArgs false
theorem p_law (p0 : M.Storage) (p1 : ByteArray) (p2 : ByteArray) (h0 : M.Storage.ok p0) (h1 : p1.size ≤ maxLen) (h2 : p2.size ≤ maxLen) : m_laws_FnExactFindBucket p0 p1 p2 = some true := by
  unfold m_laws_FnExactFindBucket
  by_cases b1 : (p1.size : Int) ≤ 1048576
  rotate_left
  · rw [if_pos (by simp; omega)]
  rw [if_neg (by simp; omega)]
  by_cases b2 : (p2.size : Int) ≤ 1048576
  rotate_left
  · rw [if_pos (by simp; omega)]
  rw [if_neg (by simp; omega)]
  rw [M.Storage.p_sz p0 h0 _ (by omega) (by omega), Option.bind_some]
  by_cases b0 : ((M.Storage.sz p0 : Nat) : Int) ≤ 1048576
  rotate_left
  · rw [szOut_no b0, if_pos (by simp)]
  rw [szOut_yes b0, if_neg (by simp; omega)]
  simp [M.Storage.p_to p0 h0 (by omega), p_spec_FindBucket h0, p_impl_FindBucket h0, M.Storage.p_eq p0 h0]

theorem own : ownKnob Try.prog.godebug = none := by kernel_rfl
theorem laid : laidOutB Try.prog = true := by kernel_rfl

set_option maxRecDepth 100000 in
theorem lifted (os : Os) (started : os.Started) (H : Type) (enc : TypeId × Value → H) :
    ReturnsInHanded {} Try.checked os 3 .any (Rows.fnExactFindBucketSpec.pre6 enc Try.prog Try.f3 Rows.fnExactFindBucketRow.domain false) (Rows.fnExactFindBucketSpec.post enc Try.prog Try.f3 false true false false) := by
  refine returnsInHanded_of_change (C := Try.checked) own started (by as_aux_lemma => kernel_rfl) Try.func3
    (ChangeSpec.witness6 (enc := enc) (C := Try.checked) false ⟨#[], #[.agg #[.slice none 0 0], .string ByteArray.empty, .string ByteArray.empty], []⟩ 8 (by as_aux_lemma => kernel_rfl) (by as_aux_lemma => kernel_rfl) (by as_aux_lemma => kernel_rfl) (by as_aux_lemma => kernel_rfl)) ?_
  intro W base args ds gs before hval hW hcnd _
  refine law_holds (n := 16) (tb := 4) (shs := [M.Storage.sh, [.str], [.str]]) laid rfl (by kernel_rfl) Try.underlying4 ?_ ?_ ?_ ?_ hval hW
  · exact ⟨_, _, rfl, by kernel_rfl, ⟨_, _, rfl, by kernel_rfl, ⟨_, _, rfl, by kernel_rfl, rfl⟩⟩⟩
  · intro t ht
    have : t ∈ [24, 9, 9] := ht
    simp at this
    rcases this with rfl | rfl
    all_goals exact ⟨by kernel_rfl, of_decide_eq_true (by kernel_rfl)⟩
  · intro ds hl
    match ds, hl with
    | [_, _, _], _ => rfl
  · intro dss hd
    obtain ⟨d0, e0, rfl, k0, r0⟩ := hd
    obtain ⟨d1, e1, rfl, k1, r1⟩ := r0
    obtain ⟨d2, e2, rfl, k2, r2⟩ := r1
    have : e2 = [] := r2
    subst this
    obtain ⟨x0, rfl, h0⟩ := M.Storage.of_has _ k0
    obtain ⟨x1, rfl, h1⟩ := has_s _ k1
    obtain ⟨x2, rfl, h2⟩ := has_s _ k2
    exact c_laws_FnExactFindBucket x0 x1 x2 true (p_law x0 x1 x2 h0 h1 h2)

set_option maxRecDepth 100000 in
set_option maxHeartbeats 4000000 in
theorem over : Rows.fnExactFindBucketRow.holds Try.pinned (OpenSpec.ofChange Rows.fnExactFindBucketSpec) :=
  OpenClaim.holds_of_wide 3 Try.f3 rfl rfl rfl rfl rfl rfl rfl ⟨rfl, rfl, rfl, rfl, rfl⟩ rfl rfl rfl rfl rfl (by as_aux_lemma => kernel_rfl) Try.func3 closed
    (by as_aux_lemma => exact of_decide_eq_true (by kernel_rfl)) (by as_aux_lemma => (unfold Func.isWrapper; first | (rw [if_pos (by decide +kernel)]; kernel_rfl) | (rw [if_neg (by decide +kernel)]; exact ⟨rfl, rfl⟩)))
    (fun os started H enc _ => lifted os started H enc)

theorem proved : Rows.FnExactFindBucketSaid := over
#print axioms proved

end Go.Proofs.Ytgpiencmneiblaa.gen
