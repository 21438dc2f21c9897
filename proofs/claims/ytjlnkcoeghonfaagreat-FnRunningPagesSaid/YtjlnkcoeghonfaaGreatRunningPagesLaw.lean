/-
  For all arguments the law FnRunningPages answers true: the program's function and the reference's agree, and the arguments stay as they were. No conditions.
-/
import Derived.Test.YtjlnkcoeghonfaaGreatRunningPagesPd11
import Derived.Test.YtjlnkcoeghonfaaGreatRunningPagesWlaw
import Derived.Test.YtjlnkcoeghonfaaGreatRunningPagesCl
import Derived.Test.YtjlnkcoeghonfaaGreatRows
namespace Go.Proofs.YtjlnkcoeghonfaaGreat.gen
open Go Go.Sh
set_option linter.unusedVariables false
set_option linter.unusedSimpArgs false
theorem aE2 (p0 : List Int) (h0 : okB p0) : uT p0 = some true := aDU p0 fun x hx => h0.2 x hx
theorem own : ownKnob Tryz.prog.godebug = none := by kernel_rfl
theorem laid : laidOutB Tryz.prog = true := cp_laid
set_option maxRecDepth 100000 in
theorem lifted (os : Os) (started : os.Started) (H : Type) (enc : TypeId × Value → H) :
    ReturnsInHanded {} Tryz.checked os 5 .any (Rows.fnRunningPagesSpec.pre6 enc Tryz.prog Tryz.f5 Rows.fnRunningPagesRow.domain false) (Rows.fnRunningPagesSpec.post enc Tryz.prog Tryz.f5 false true false false) := by
  refine returnsInHanded_of_change (C := Tryz.checked) own started (by as_aux_lemma => kernel_rfl) Tryz.func5
    (ChangeSpec.witness6 (enc := enc) (C := Tryz.checked) false ⟨#[], #[.slice none 0 0], []⟩ 8 (by as_aux_lemma => kernel_rfl) (by as_aux_lemma => kernel_rfl) (by as_aux_lemma => kernel_rfl) (by as_aux_lemma => kernel_rfl)) ?_
  intro W base args ds gs before hval hW hcnd _
  refine Zv (n := 16) (tb := 4) (shs := [[.sl [.int .u8]]]) laid rfl (by kernel_rfl) Tryz.underlying4 ?_ ?_ ?_ ?_ hval hW
  · exact ⟨_, _, rfl, by kernel_rfl, rfl⟩
  · intro t ht
    have : t ∈ [58] := ht
    simp only [List.mem_cons, List.not_mem_nil, or_false] at this
    rcases this with rfl
    all_goals exact ⟨by kernel_rfl, of_decide_eq_true (by kernel_rfl)⟩
  · intro ds hl
    match ds, hl with
    | [_], _ => rfl
  · intro dss hd
    obtain ⟨d0, e0, rfl, k0, r0⟩ := hd
    have : e0 = [] := r0
    subst this
    simp only [K5, Has] at k0
    obtain ⟨_, _, rfl, ⟨_, rfl, w0, q0⟩, rfl⟩ := k0
    obtain ⟨x0, rfl, y0⟩ := Oq aFb q0
    have h0 : okB x0 := ⟨by simpa using w0, y0⟩
    exact Jq x0 true (aE2 x0 h0)
set_option maxRecDepth 100000 in
set_option maxHeartbeats 4000000 in
theorem over : Rows.fnRunningPagesRow.holds Tryz.pinned (OpenSpec.ofChange Rows.fnRunningPagesSpec) :=
  OpenClaim.holds_of_wide 5 Tryz.f5 rfl rfl rfl rfl rfl rfl rfl ⟨rfl, rfl, rfl, rfl, rfl⟩ rfl rfl rfl rfl rfl (by as_aux_lemma => kernel_rfl) Tryz.func5 closed
    (by as_aux_lemma => exact of_decide_eq_true (by kernel_rfl)) (by as_aux_lemma => (unfold Func.isWrapper; first | (rw [if_pos (by decide +kernel)]; kernel_rfl) | (rw [if_neg (by decide +kernel)]; exact ⟨rfl, rfl⟩)))
    (fun os started H enc _ => lifted os started H enc)
theorem proved : Rows.FnRunningPagesSaid := over
#print axioms proved
end Go.Proofs.YtjlnkcoeghonfaaGreat.gen
