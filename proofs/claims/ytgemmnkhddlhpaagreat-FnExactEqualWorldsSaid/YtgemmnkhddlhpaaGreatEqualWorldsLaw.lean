/-
  For all arguments the law FnExactEqualWorlds answers true: the program's function and the reference's agree, and the arguments stay as they were. No conditions.
-/
import Derived.Test.YtgemmnkhddlhpaaGreatEqualWorldsPeq
import Derived.Test.YtgemmnkhddlhpaaGreatEqualWorldsWlaw
import Derived.Test.YtgemmnkhddlhpaaGreatEqualWorldsCl
import Derived.Test.YtgemmnkhddlhpaaGreatRows
namespace Go.Proofs.YtgemmnkhddlhpaaGreat.gen
open Go Go.Sh
set_option linter.unusedVariables false
set_option linter.unusedSimpArgs false
theorem p_law (p0 : M.World) (p1 : M.World) (h0 : M.World.ok p0) (h1 : M.World.ok p1) : m_laws_FnExactEqualWorlds p0 p1 = some true := by
  unfold m_laws_FnExactEqualWorlds
  rw [M.World.p_sz p0 h0 _ (by omega) (by omega), Option.bind_some]
  by_cases b0 : ((M.World.sz p0 : Nat) : Int) ≤ 1048576
  rotate_left
  · rw [szOut_no b0, if_pos (by simp)]
  rw [szOut_yes b0, if_neg (by simp; omega)]
  rw [M.World.p_sz p1 h1 _ (by omega) (by omega), Option.bind_some]
  by_cases b1 : ((M.World.sz p1 : Nat) : Int) ≤ 1048576 - ((M.World.sz p0 : Nat) : Int)
  rotate_left
  · rw [szOut_no b1, if_pos (by simp)]
  rw [szOut_yes b1, if_neg (by simp; omega)]
  simp [M.World.p_to p0 h0 (by omega), M.World.p_to p1 h1 (by omega), p_spec_EqualWorlds h0 h1, p_impl_EqualWorlds h0, M.World.p_eq p0 h0, M.World.p_eq p1 h1]

theorem own : ownKnob Tryz.prog.godebug = none := by kernel_rfl
theorem laid : laidOutB Tryz.prog = true := cp_laid

set_option maxRecDepth 100000 in
theorem lifted (os : Os) (started : os.Started) (H : Type) (enc : TypeId × Value → H) :
    ReturnsInHanded {} Tryz.checked os 4 .any (Rows.fnExactEqualWorldsSpec.pre6 enc Tryz.prog Tryz.f4 Rows.fnExactEqualWorldsRow.domain false) (Rows.fnExactEqualWorldsSpec.post enc Tryz.prog Tryz.f4 false true false false) := by
  refine returnsInHanded_of_change (C := Tryz.checked) own started (by as_aux_lemma => kernel_rfl) Tryz.func4
    (ChangeSpec.witness6 (enc := enc) (C := Tryz.checked) false ⟨#[], #[.agg #[.int .i64 0, .bool false, .int .i64 0, .slice none 0 0, .slice none 0 0, .int .i64 0, .slice none 0 0, .slice none 0 0, .slice none 0 0, .slice none 0 0], .agg #[.int .i64 0, .bool false, .int .i64 0, .slice none 0 0, .slice none 0 0, .int .i64 0, .slice none 0 0, .slice none 0 0, .slice none 0 0, .slice none 0 0]], []⟩ 8 (by as_aux_lemma => kernel_rfl) (by as_aux_lemma => kernel_rfl) (by as_aux_lemma => kernel_rfl) (by as_aux_lemma => kernel_rfl)) ?_
  intro W base args ds gs before hval hW hcnd _
  refine law_holds (n := 16) (tb := 4) (shs := [M.World.sh, M.World.sh]) laid rfl (by kernel_rfl) Tryz.underlying4 ?_ ?_ ?_ ?_ hval hW
  · exact ⟨_, _, rfl, by kernel_rfl, ⟨_, _, rfl, by kernel_rfl, rfl⟩⟩
  · intro t ht
    have : t ∈ [64, 64] := ht
    simp at this
    rcases this with rfl
    all_goals exact ⟨by kernel_rfl, of_decide_eq_true (by kernel_rfl)⟩
  · intro ds hl
    match ds, hl with
    | [_, _], _ => rfl
  · intro dss hd
    obtain ⟨d0, e0, rfl, k0, r0⟩ := hd
    obtain ⟨d1, e1, rfl, k1, r1⟩ := r0
    have : e1 = [] := r1
    subst this
    obtain ⟨x0, rfl, h0⟩ := M.World.of_has _ k0
    obtain ⟨x1, rfl, h1⟩ := M.World.of_has _ k1
    exact c_laws_FnExactEqualWorlds x0 x1 true (p_law x0 x1 h0 h1)

set_option maxRecDepth 100000 in
set_option maxHeartbeats 4000000 in
theorem over : Rows.fnExactEqualWorldsRow.holds Tryz.pinned (OpenSpec.ofChange Rows.fnExactEqualWorldsSpec) :=
  OpenClaim.holds_of_wide 4 Tryz.f4 rfl rfl rfl rfl rfl rfl rfl ⟨rfl, rfl, rfl, rfl, rfl⟩ rfl rfl rfl rfl rfl (by as_aux_lemma => kernel_rfl) Tryz.func4 closed
    (by as_aux_lemma => exact of_decide_eq_true (by kernel_rfl)) (by as_aux_lemma => (unfold Func.isWrapper; first | (rw [if_pos (by decide +kernel)]; kernel_rfl) | (rw [if_neg (by decide +kernel)]; exact ⟨rfl, rfl⟩)))
    (fun os started H enc _ => lifted os started H enc)

theorem proved : Rows.FnExactEqualWorldsSaid := over
#print axioms proved

end Go.Proofs.YtgemmnkhddlhpaaGreat.gen
