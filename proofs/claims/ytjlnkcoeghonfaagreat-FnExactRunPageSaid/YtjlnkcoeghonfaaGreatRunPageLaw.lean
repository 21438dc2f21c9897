/-
  For all arguments the law FnExactRunPage answers true: the program's function and the reference's agree, and the arguments stay as they were. No conditions.
-/
import Derived.Test.YtjlnkcoeghonfaaGreatRunPagePt
import Derived.Test.YtjlnkcoeghonfaaGreatRunPageWlaw
import Derived.Test.YtjlnkcoeghonfaaGreatRunPageCl
import Derived.Test.YtjlnkcoeghonfaaGreatRows
namespace Go.Proofs.YtjlnkcoeghonfaaGreat.gen
open Go Go.Sh
set_option linter.unusedVariables false
set_option linter.unusedSimpArgs false
theorem aBj (p0 : M.World) (p1 : Int) (h0 : M.World.ok p0) (h1 : inI p1) : vE p0 p1 = some true := by
  unfold vE
  rw [M.World.rM p0 h0 _ (by omega) (by omega), Option.bind_some]
  by_cases b0 : ((M.World.sz p0 : Nat) : Int) ≤ 1048576
  rotate_left
  · rw [Xu b0, if_pos (by simp)]
  rw [W7 b0, if_neg (by simp; omega)]
  obtain ⟨R, e1, e2, e3, e4⟩ := WV (i := p1) h0 (show M.World.sz p0 ≤ 1048576 by omega)
  have ce0 := M.World.YO p0
  obtain ⟨u0_0, u0_1, u0_2, u0_3, u0_4, u0_5, ma0, _⟩ := M.World.jY p0 h0 (1) (by omega) (by unfold KB; omega)
  have hk0 : ¬ (1 + ((M.World.YF p0 : Nat) : Int) < 0) := by omega
  have cr0 : M.World.YF (R) ≤ 1000000000000 := Nat.le_trans (M.World.YO R) (by omega)
  obtain ⟨z0_0, z0_1, z0_2, z0_3, z0_4, z0_5, mr0, hr0⟩ := M.World.jY (R) e3 (1) (by omega) (by unfold KB; omega)
  have hq0 : ¬ (1 + ((M.World.YF (R) : Nat) : Int) < 0) := by omega
  simp [M.World.pO p0 h0 (by omega), e1, e2, M.World.pL p0 h0, ma0, hk0, mr0, hr0, M.World.pL (R) e3, hq0]
theorem own : ownKnob Tryz.prog.godebug = none := by kernel_rfl
theorem laid : laidOutB Tryz.prog = true := cp_laid
set_option maxRecDepth 100000 in
theorem lifted (os : Os) (started : os.Started) (H : Type) (enc : TypeId × Value → H) :
    ReturnsInHanded {} Tryz.checked os 4 .any (Rows.fnExactRunPageSpec.pre6 enc Tryz.prog Tryz.f4 Rows.fnExactRunPageRow.domain false) (Rows.fnExactRunPageSpec.post enc Tryz.prog Tryz.f4 false true false false) := by
  refine returnsInHanded_of_change (C := Tryz.checked) own started (by as_aux_lemma => kernel_rfl) Tryz.func4
    (ChangeSpec.witness6 (enc := enc) (C := Tryz.checked) false ⟨#[], #[.agg #[.int .i64 0, .bool false, .int .i64 0, .slice none 0 0, .slice none 0 0, .int .i64 0, .slice none 0 0, .slice none 0 0, .slice none 0 0, .slice none 0 0], .int .i64 0], []⟩ 8 (by as_aux_lemma => kernel_rfl) (by as_aux_lemma => kernel_rfl) (by as_aux_lemma => kernel_rfl) (by as_aux_lemma => kernel_rfl)) ?_
  intro W base args ds gs before hval hW hcnd _
  refine W2 (n := 16) (tb := 4) (shs := [M.World.sh, [.int .i64]]) laid rfl (by kernel_rfl) Tryz.underlying4 ?_ ?_ ?_ ?_ hval hW
  · exact ⟨_, _, rfl, by kernel_rfl, ⟨_, _, rfl, by kernel_rfl, rfl⟩⟩
  · intro t ht
    have : t ∈ [35, 3] := ht
    simp only [List.mem_cons, List.not_mem_nil, or_false] at this
    rcases this with rfl | rfl
    all_goals exact ⟨by kernel_rfl, of_decide_eq_true (by kernel_rfl)⟩
  · intro ds hl
    match ds, hl with
    | [_, _], _ => rfl
  · intro dss hd
    obtain ⟨d0, e0, rfl, k0, r0⟩ := hd
    obtain ⟨d1, e1, rfl, k1, r1⟩ := r0
    have : e1 = [] := r1
    subst this
    obtain ⟨x0, rfl, h0⟩ := M.World.dK _ k0
    obtain ⟨x1, rfl, h1⟩ := Zu _ k1
    exact Ih x0 x1 true (aBj x0 x1 h0 h1)
set_option maxRecDepth 100000 in
set_option maxHeartbeats 4000000 in
theorem over : Rows.fnExactRunPageRow.holds Tryz.pinned (OpenSpec.ofChange Rows.fnExactRunPageSpec) :=
  OpenClaim.holds_of_wide 4 Tryz.f4 rfl rfl rfl rfl rfl rfl rfl ⟨rfl, rfl, rfl, rfl, rfl⟩ rfl rfl rfl rfl rfl (by as_aux_lemma => kernel_rfl) Tryz.func4 closed
    (by as_aux_lemma => exact of_decide_eq_true (by kernel_rfl)) (by as_aux_lemma => (unfold Func.isWrapper; first | (rw [if_pos (by decide +kernel)]; kernel_rfl) | (rw [if_neg (by decide +kernel)]; exact ⟨rfl, rfl⟩)))
    (fun os started H enc _ => lifted os started H enc)
theorem proved : Rows.FnExactRunPageSaid := over
#print axioms proved
end Go.Proofs.YtjlnkcoeghonfaaGreat.gen
