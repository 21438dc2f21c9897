/-
  For all arguments the law FnExactNewWorld answers true: the program's function and the reference's agree, and the arguments stay as they were. No conditions.
-/
import Derived.Test.YtcpahpbjjnekkaaGreatNewWorldPw
import Derived.Test.YtcpahpbjjnekkaaGreatNewWorldWlaw
import Derived.Test.YtcpahpbjjnekkaaGreatNewWorldCl
import Derived.Test.YtcpahpbjjnekkaaGreatRows
namespace Go.Proofs.YtcpahpbjjnekkaaGreat.gen
open Go Go.Sh
set_option linter.unusedVariables false
set_option linter.unusedSimpArgs false
theorem p_law (p0 : Int) (h0 : inI p0) : m_laws_FnExactNewWorld p0 = some true := by
  unfold m_laws_FnExactNewWorld
  have cr0 : M.World.cnts ((nNew p0)) ≤ 1000000000000 := by
    unfold nNew M.World.cnts
    split <;> simp [szSum, nNames, M.Site.cnt, M.Server.cnt]
  obtain ⟨z0_0, z0_1, z0_2, z0_3, z0_4, z0_5, mr0, hr0⟩ := M.World.p_mark ((nNew p0)) (nNew_ok p0) (1) (by omega) (by unfold KB; omega)
  have hq0 : ¬ (1 + ((M.World.cnts ((nNew p0)) : Nat) : Int) < 0) := by omega
  simp [p_spec_NewWorld (d := p0), p_impl_NewWorld (d := p0), mr0, hr0, M.World.p_eq ((nNew p0)) (nNew_ok p0), hq0]

theorem own : ownKnob Tryz.prog.godebug = none := by kernel_rfl
theorem laid : laidOutB Tryz.prog = true := cp_laid

set_option maxRecDepth 100000 in
theorem lifted (os : Os) (started : os.Started) (H : Type) (enc : TypeId × Value → H) :
    ReturnsInHanded {} Tryz.checked os 3 .any (Rows.fnExactNewWorldSpec.pre6 enc Tryz.prog Tryz.f3 Rows.fnExactNewWorldRow.domain false) (Rows.fnExactNewWorldSpec.post enc Tryz.prog Tryz.f3 false true false false) := by
  refine returnsInHanded_of_change (C := Tryz.checked) own started (by as_aux_lemma => kernel_rfl) Tryz.func3
    (ChangeSpec.witness6 (enc := enc) (C := Tryz.checked) false ⟨#[], #[.int .i64 0], []⟩ 8 (by as_aux_lemma => kernel_rfl) (by as_aux_lemma => kernel_rfl) (by as_aux_lemma => kernel_rfl) (by as_aux_lemma => kernel_rfl)) ?_
  intro W base args ds gs before hval hW hcnd _
  refine law_holds (n := 16) (tb := 4) (shs := [[.int .i64]]) laid rfl (by kernel_rfl) Tryz.underlying4 ?_ ?_ ?_ ?_ hval hW
  · exact ⟨_, _, rfl, by kernel_rfl, rfl⟩
  · intro t ht
    have : t ∈ [3] := ht
    simp at this
    rcases this with rfl
    all_goals exact ⟨by kernel_rfl, of_decide_eq_true (by kernel_rfl)⟩
  · intro ds hl
    match ds, hl with
    | [_], _ => rfl
  · intro dss hd
    obtain ⟨d0, e0, rfl, k0, r0⟩ := hd
    have : e0 = [] := r0
    subst this
    obtain ⟨x0, rfl, h0⟩ := has_i _ k0
    exact c_laws_FnExactNewWorld x0 true (p_law x0 h0)

set_option maxRecDepth 100000 in
set_option maxHeartbeats 4000000 in
theorem over : Rows.fnExactNewWorldRow.holds Tryz.pinned (OpenSpec.ofChange Rows.fnExactNewWorldSpec) :=
  OpenClaim.holds_of_wide 3 Tryz.f3 rfl rfl rfl rfl rfl rfl rfl ⟨rfl, rfl, rfl, rfl, rfl⟩ rfl rfl rfl rfl rfl (by as_aux_lemma => kernel_rfl) Tryz.func3 closed
    (by as_aux_lemma => exact of_decide_eq_true (by kernel_rfl)) (by as_aux_lemma => (unfold Func.isWrapper; first | (rw [if_pos (by decide +kernel)]; kernel_rfl) | (rw [if_neg (by decide +kernel)]; exact ⟨rfl, rfl⟩)))
    (fun os started H enc _ => lifted os started H enc)

theorem proved : Rows.FnExactNewWorldSaid := over
#print axioms proved

end Go.Proofs.YtcpahpbjjnekkaaGreat.gen
