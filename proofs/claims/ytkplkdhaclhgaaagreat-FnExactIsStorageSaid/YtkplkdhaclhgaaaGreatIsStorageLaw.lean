/-
  For all arguments the law FnExactIsStorage answers true: the program's function and the reference's agree, and the arguments stay as they were. No conditions.
-/
import Derived.Test.YtkplkdhaclhgaaaGreatIsStoragePi
import Derived.Test.YtkplkdhaclhgaaaGreatIsStorageWlaw
import Derived.Test.YtkplkdhaclhgaaaGreatIsStorageCl
import Derived.Test.YtkplkdhaclhgaaaGreatRows
namespace Go.Proofs.YtkplkdhaclhgaaaGreat.gen
open Go Go.Sh
set_option linter.unusedVariables false
set_option linter.unusedSimpArgs false
theorem p_law (p0 : M.Storage) (h0 : M.Storage.ok p0) : m_laws_FnExactIsStorage p0 = some true := by
  unfold m_laws_FnExactIsStorage
  rw [M.Storage.p_sz p0 h0 _ (by omega) (by omega), Option.bind_some]
  by_cases b0 : ((M.Storage.sz p0 : Nat) : Int) ≤ 1048576
  rotate_left
  · rw [szOut_no b0, if_pos (by simp)]
  rw [szOut_yes b0, if_neg (by simp; omega)]
  simp [M.Storage.p_to p0 h0 (by omega), p_spec_IsStorage h0 (show M.Storage.sz p0 ≤ 1048576 by omega), p_impl_IsStorage h0 (show M.Storage.sz p0 ≤ 1048576 by omega), M.Storage.p_eq p0 h0]

theorem own : ownKnob Tryz.prog.godebug = none := by kernel_rfl
theorem laid : laidOutB Tryz.prog = true := cp_laid

set_option maxRecDepth 100000 in
theorem lifted (os : Os) (started : os.Started) (H : Type) (enc : TypeId × Value → H) :
    ReturnsInHanded {} Tryz.checked os 5 .any (Rows.fnExactIsStorageSpec.pre6 enc Tryz.prog Tryz.f5 Rows.fnExactIsStorageRow.domain false) (Rows.fnExactIsStorageSpec.post enc Tryz.prog Tryz.f5 false true false false) := by
  refine returnsInHanded_of_change (C := Tryz.checked) own started (by as_aux_lemma => kernel_rfl) Tryz.func5
    (ChangeSpec.witness6 (enc := enc) (C := Tryz.checked) false ⟨#[], #[.agg #[.slice none 0 0]], []⟩ 8 (by as_aux_lemma => kernel_rfl) (by as_aux_lemma => kernel_rfl) (by as_aux_lemma => kernel_rfl) (by as_aux_lemma => kernel_rfl)) ?_
  intro W base args ds gs before hval hW hcnd _
  refine law_holds (n := 16) (tb := 4) (shs := [M.Storage.sh]) laid rfl (by kernel_rfl) Tryz.underlying4 ?_ ?_ ?_ ?_ hval hW
  · exact ⟨_, _, rfl, by kernel_rfl, rfl⟩
  · intro t ht
    have : t ∈ [79] := ht
    simp at this
    rcases this with rfl
    all_goals exact ⟨by kernel_rfl, of_decide_eq_true (by kernel_rfl)⟩
  · intro ds hl
    match ds, hl with
    | [_], _ => rfl
  · intro dss hd
    obtain ⟨d0, e0, rfl, k0, r0⟩ := hd
    have : e0 = [] := r0
    subst this
    obtain ⟨x0, rfl, h0⟩ := M.Storage.of_has _ k0
    exact c_laws_FnExactIsStorage x0 true (p_law x0 h0)

set_option maxRecDepth 100000 in
set_option maxHeartbeats 4000000 in
theorem over : Rows.fnExactIsStorageRow.holds Tryz.pinned (OpenSpec.ofChange Rows.fnExactIsStorageSpec) :=
  OpenClaim.holds_of_wide 5 Tryz.f5 rfl rfl rfl rfl rfl rfl rfl ⟨rfl, rfl, rfl, rfl, rfl⟩ rfl rfl rfl rfl rfl (by as_aux_lemma => kernel_rfl) Tryz.func5 closed
    (by as_aux_lemma => exact of_decide_eq_true (by kernel_rfl)) (by as_aux_lemma => (unfold Func.isWrapper; first | (rw [if_pos (by decide +kernel)]; kernel_rfl) | (rw [if_neg (by decide +kernel)]; exact ⟨rfl, rfl⟩)))
    (fun os started H enc _ => lifted os started H enc)

theorem proved : Rows.FnExactIsStorageSaid := over
#print axioms proved

end Go.Proofs.YtkplkdhaclhgaaaGreat.gen
