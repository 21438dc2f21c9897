/-
  For all arguments the law FnExactStepPage answers true: the program's function and the reference's agree, and the arguments stay as they were. No conditions.
-/
import Derived.Test.YtjlnkcoeghonfaaGreatStepPagePs
import Derived.Test.YtjlnkcoeghonfaaGreatStepPageWlaw
import Derived.Test.YtjlnkcoeghonfaaGreatStepPageCl
import Derived.Test.YtjlnkcoeghonfaaGreatRows
namespace Go.Proofs.YtjlnkcoeghonfaaGreat.gen
open Go Go.Sh
set_option linter.unusedVariables false
set_option linter.unusedSimpArgs false
theorem aBb (p0 : M.World) (p1 : Int) (h0 : M.World.ok p0) (h1 : inI p1) : sZ p0 p1 = some true := by
  unfold sZ
  rw [M.World.rH p0 h0 _ (by omega) (by omega), Option.bind_some]
  by_cases b0 : ((M.World.sz p0 : Nat) : Int) ≤ 1048576
  rotate_left
  · rw [Xo b0, if_pos (by simp)]
  rw [WZ b0, if_neg (by simp; omega)]
  obtain ⟨R, e1, e2, e3, e4⟩ := UP (i := p1) h0 (show M.World.sz p0 ≤ 1048576 by omega)
  have ce0 := M.World.YG p0
  obtain ⟨u0_0, u0_1, u0_2, u0_3, u0_4, u0_5, ma0, _⟩ := M.World.jV p0 h0 (1) (by omega) (by unfold KB; omega)
  have hk0 : ¬ (1 + ((M.World.Yy p0 : Nat) : Int) < 0) := by omega
  have cr0 : M.World.Yy (R.1) ≤ 1000000000000 := Nat.le_trans (M.World.YG R.1) (by omega)
  obtain ⟨z0_0, z0_1, z0_2, z0_3, z0_4, z0_5, mr0, hr0⟩ := M.World.jV (R.1) e3 (1) (by omega) (by unfold KB; omega)
  have hq0 : ¬ (1 + ((M.World.Yy (R.1) : Nat) : Int) < 0) := by omega
  simp [M.World.pJ p0 h0 (by omega), e1, e2, M.World.pG p0 h0, ma0, hk0, mr0, hr0, M.World.pG (R.1) e3, hq0]
theorem own : ownKnob Tryz.prog.godebug = none := by kernel_rfl
theorem laid : laidOutB Tryz.prog = true := cp_laid
set_option maxRecDepth 100000 in
theorem lifted (os : Os) (started : os.Started) (H : Type) (enc : TypeId × Value → H) :
    ReturnsInHanded {} Tryz.checked os 3 .any (Rows.fnExactStepPageSpec.pre6 enc Tryz.prog Tryz.f3 Rows.fnExactStepPageRow.domain false) (Rows.fnExactStepPageSpec.post enc Tryz.prog Tryz.f3 false true false false) := by
  refine returnsInHanded_of_change (C := Tryz.checked) own started (by as_aux_lemma => kernel_rfl) Tryz.func3
    (ChangeSpec.witness6 (enc := enc) (C := Tryz.checked) false ⟨#[], #[.agg #[.int .i64 0, .bool false, .int .i64 0, .slice none 0 0, .slice none 0 0, .int .i64 0, .slice none 0 0, .slice none 0 0, .slice none 0 0, .slice none 0 0], .int .i64 0], []⟩ 8 (by as_aux_lemma => kernel_rfl) (by as_aux_lemma => kernel_rfl) (by as_aux_lemma => kernel_rfl) (by as_aux_lemma => kernel_rfl)) ?_
  intro W base args ds gs before hval hW hcnd _
  refine WU (n := 16) (tb := 4) (shs := [M.World.sh, [.int .i64]]) laid rfl (by kernel_rfl) Tryz.underlying4 ?_ ?_ ?_ ?_ hval hW
  · exact ⟨_, _, rfl, by kernel_rfl, ⟨_, _, rfl, by kernel_rfl, rfl⟩⟩
  · intro t ht
    have : t ∈ [35, 3] := ht
    simp only [List.mem_cons, List.not_mem_nil, or_false] at this
    rcases this with rfl | rfl
    all_goals exact ⟨by kernel_rfl, of_decide_eq_true (by kernel_rfl)⟩
  · intro ds hl
    match ds, hl with
    | [_, _], _ => rfl
  · intro dss hd
    obtain ⟨d0, e0, rfl, k0, r0⟩ := hd
    obtain ⟨d1, e1, rfl, k1, r1⟩ := r0
    have : e1 = [] := r1
    subst this
    obtain ⟨x0, rfl, h0⟩ := M.World.dJ _ k0
    obtain ⟨x1, rfl, h1⟩ := Zm _ k1
    exact HY x0 x1 true (aBb x0 x1 h0 h1)
set_option maxRecDepth 100000 in
set_option maxHeartbeats 4000000 in
theorem over : Rows.fnExactStepPageRow.holds Tryz.pinned (OpenSpec.ofChange Rows.fnExactStepPageSpec) :=
  OpenClaim.holds_of_wide 3 Tryz.f3 rfl rfl rfl rfl rfl rfl rfl ⟨rfl, rfl, rfl, rfl, rfl⟩ rfl rfl rfl rfl rfl (by as_aux_lemma => kernel_rfl) Tryz.func3 closed
    (by as_aux_lemma => exact of_decide_eq_true (by kernel_rfl)) (by as_aux_lemma => (unfold Func.isWrapper; first | (rw [if_pos (by decide +kernel)]; kernel_rfl) | (rw [if_neg (by decide +kernel)]; exact ⟨rfl, rfl⟩)))
    (fun os started H enc _ => lifted os started H enc)
theorem proved : Rows.FnExactStepPageSaid := over
#print axioms proved
end Go.Proofs.YtjlnkcoeghonfaaGreat.gen
