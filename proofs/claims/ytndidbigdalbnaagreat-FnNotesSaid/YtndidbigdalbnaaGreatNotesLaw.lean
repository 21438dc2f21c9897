/-
  For all arguments the law FnNotes answers true: the program's function and the reference's agree, and the arguments stay as they were. No conditions.
-/
import Derived.Test.YtndidbigdalbnaaGreatNotesPd13
import Derived.Test.YtndidbigdalbnaaGreatNotesWlaw
import Derived.Test.YtndidbigdalbnaaGreatNotesCl
import Derived.Test.YtndidbigdalbnaaGreatRows
namespace Go.Proofs.YtndidbigdalbnaaGreat.gen
open Go Go.Sh
set_option linter.unusedVariables false
set_option linter.unusedSimpArgs false
theorem aFG (p0 : List Int) (h0 : okB p0) : Db p0 = some true := aDl p0 fun x hx => h0.2 x hx
theorem own : ownKnob Tryz.prog.godebug = none := by kernel_rfl
theorem laid : laidOutB Tryz.prog = true := cp_laid
set_option maxRecDepth 100000 in
theorem lifted (os : Os) (started : os.Started) (H : Type) (enc : TypeId × Value → H) :
    ReturnsInHanded {} Tryz.checked os 3 .any (Rows.fnNotesSpec.pre6 enc Tryz.prog Tryz.f3 Rows.fnNotesRow.domain false) (Rows.fnNotesSpec.post enc Tryz.prog Tryz.f3 false true false false) := by
  refine returnsInHanded_of_change (C := Tryz.checked) own started (by as_aux_lemma => kernel_rfl) Tryz.func3
    (ChangeSpec.witness6 (enc := enc) (C := Tryz.checked) false ⟨#[], #[.slice none 0 0], []⟩ 8 (by as_aux_lemma => kernel_rfl) (by as_aux_lemma => kernel_rfl) (by as_aux_lemma => kernel_rfl) (by as_aux_lemma => kernel_rfl)) ?_
  intro W base args ds gs before hval hW hcnd _
  refine ZH (n := 16) (tb := 4) (shs := [[.sl [.int .u8]]]) laid rfl (by kernel_rfl) Tryz.underlying4 ?_ ?_ ?_ ?_ hval hW
  · exact ⟨_, _, rfl, by kernel_rfl, rfl⟩
  · intro t ht
    have : t ∈ [22] := ht
    simp only [List.mem_cons, List.not_mem_nil, or_false] at this
    rcases this with rfl
    all_goals exact ⟨by kernel_rfl, of_decide_eq_true (by kernel_rfl)⟩
  · intro ds hl
    match ds, hl with
    | [_], _ => rfl
  · intro dss hd
    obtain ⟨d0, e0, rfl, k0, r0⟩ := hd
    have : e0 = [] := r0
    subst this
    simp only [KR, Has] at k0
    obtain ⟨_, _, rfl, ⟨_, rfl, w0, q0⟩, rfl⟩ := k0
    obtain ⟨x0, rfl, y0⟩ := Ok aFn q0
    have h0 : okB x0 := ⟨by simpa using w0, y0⟩
    exact PU x0 true (aFG x0 h0)
set_option maxRecDepth 100000 in
set_option maxHeartbeats 4000000 in
theorem over : Rows.fnNotesRow.holds Tryz.pinned (OpenSpec.ofChange Rows.fnNotesSpec) :=
  OpenClaim.holds_of_wide 3 Tryz.f3 rfl rfl rfl rfl rfl rfl rfl ⟨rfl, rfl, rfl, rfl, rfl⟩ rfl rfl rfl rfl rfl (by as_aux_lemma => kernel_rfl) Tryz.func3 closed
    (by as_aux_lemma => exact of_decide_eq_true (by kernel_rfl)) (by as_aux_lemma => (unfold Func.isWrapper; first | (rw [if_pos (by decide +kernel)]; kernel_rfl) | (rw [if_neg (by decide +kernel)]; exact ⟨rfl, rfl⟩)))
    (fun os started H enc _ => lifted os started H enc)
theorem proved : Rows.FnNotesSaid := over
#print axioms proved
end Go.Proofs.YtndidbigdalbnaaGreat.gen
