/-
  For all arguments the law FnExactEvictOld answers true: the program's function and the reference's agree, and the arguments stay as they were. No conditions.
-/
import Derived.Test.YtgpiencmneiblaaGreatEvictOldPe
import Derived.Test.YtgpiencmneiblaaGreatEvictOldWlaw
import Derived.Test.YtgpiencmneiblaaGreatEvictOldCl
import Derived.Test.YtgpiencmneiblaaGreatRows
namespace Go.Proofs.YtgpiencmneiblaaGreat.gen
open Go Go.Sh
set_option linter.unusedVariables false
set_option linter.unusedSimpArgs false
theorem p_law (p0 : M.Storage) (p1 : List M.Page) (p2 : Int) (h0 : M.Storage.ok p0) (h1 : (p1.length ≤ maxLen ∧ ∀ y ∈ p1, M.Page.ok y)) (h2 : inI p2) : m_laws_FnExactEvictOld p0 p1 p2 = some true := by
  unfold m_laws_FnExactEvictOld
  rw [M.Storage.p_sz p0 h0 _ (by omega) (by omega), Option.bind_some]
  by_cases b0 : ((M.Storage.sz p0 : Nat) : Int) ≤ 1048576
  rotate_left
  · rw [szOut_no b0, if_pos (by simp)]
  rw [szOut_yes b0, if_neg (by simp; omega)]
  rw [M.PageS.p_sz p1 h1 _ (by omega) (by omega), Option.bind_some]
  by_cases b1 : (((p1.length + szSum M.Page.sz p1) : Nat) : Int) ≤ 1048576 - ((M.Storage.sz p0 : Nat) : Int)
  rotate_left
  · rw [szOut_no b1, if_pos (by simp)]
  rw [szOut_yes b1, if_neg (by simp; omega)]
  obtain ⟨R, e1, e2, e3, e4, e5, e6⟩ := p_EvictOld (n := p2) h0 h1.1 (by omega)
  have ce0 := M.Storage.cntsle p0
  obtain ⟨u0_0, ma0, _⟩ := M.Storage.p_mark p0 h0 (1) (by omega) (by unfold KB; omega)
  have ce1 := M.PageS.cntle p1
  obtain ⟨u1, ma1⟩ := M.PageS.p_mark p1 h1 (1 + ((M.Storage.cnts p0 : Nat) : Int)) (by omega) (by unfold KB; omega)
  have hk0 : ¬ (1 + ((M.Storage.cnts p0 : Nat) : Int) + ((szSum M.Page.cnt p1 : Nat) : Int) < 0) := by omega
  have cr0 : M.Storage.cnts (R.1) ≤ 1000000000000 := by omega
  obtain ⟨z0_0, mr0, hr0⟩ := M.Storage.p_mark (R.1) e3 (1) (by omega) (by unfold KB; omega)
  have hq0 : ¬ (1 + ((M.Storage.cnts (R.1) : Nat) : Int) < 0) := by omega
  have cr1 : (R.2).length ≤ 1000000000000 := by omega
  obtain ⟨z1, mr1, hr1, _⟩ := M.StringS.p_mark (R.2) e4 (1 + ((M.Storage.cnts (R.1) : Nat) : Int)) (by omega) (by unfold KB; omega)
  have hq1 : ¬ (1 + ((M.Storage.cnts (R.1) : Nat) : Int) + (((R.2).length : Nat) : Int) < 0) := by omega
  simp [M.Storage.p_to p0 h0 (by omega), M.PageS.p_to p1 h1 (by omega), e1, e2, M.Storage.p_eq p0 h0, M.PageS.p_eq p1 h1, ma0, ma1, hk0, mr0, hr0, M.Storage.p_eq (R.1) e3, hq0, mr1, hr1, M.StringS.p_eq (R.2) e4, hq1]

theorem own : ownKnob Tryz.prog.godebug = none := by kernel_rfl
theorem laid : laidOutB Tryz.prog = true := by kernel_rfl

set_option maxRecDepth 100000 in
theorem lifted (os : Os) (started : os.Started) (H : Type) (enc : TypeId × Value → H) :
    ReturnsInHanded {} Tryz.checked os 11 .any (Rows.fnExactEvictOldSpec.pre6 enc Tryz.prog Tryz.f11 Rows.fnExactEvictOldRow.domain false) (Rows.fnExactEvictOldSpec.post enc Tryz.prog Tryz.f11 false true false false) := by
  refine returnsInHanded_of_change (C := Tryz.checked) own started (by as_aux_lemma => kernel_rfl) Tryz.func11
    (ChangeSpec.witness6 (enc := enc) (C := Tryz.checked) false ⟨#[], #[.agg #[.slice none 0 0], .slice none 0 0, .int .i64 0], []⟩ 8 (by as_aux_lemma => kernel_rfl) (by as_aux_lemma => kernel_rfl) (by as_aux_lemma => kernel_rfl) (by as_aux_lemma => kernel_rfl)) ?_
  intro W base args ds gs before hval hW hcnd _
  refine law_holds (n := 16) (tb := 4) (shs := [M.Storage.sh, [.sl M.Page.sh], [.int .i64]]) laid rfl (by kernel_rfl) Tryz.underlying4 ?_ ?_ ?_ ?_ hval hW
  · exact ⟨_, _, rfl, by kernel_rfl, ⟨_, _, rfl, by kernel_rfl, ⟨_, _, rfl, by kernel_rfl, rfl⟩⟩⟩
  · intro t ht
    have : t ∈ [76, 86, 3] := ht
    simp at this
    rcases this with rfl | rfl | rfl
    all_goals exact ⟨by kernel_rfl, of_decide_eq_true (by kernel_rfl)⟩
  · intro ds hl
    match ds, hl with
    | [_, _, _], _ => rfl
  · intro dss hd
    obtain ⟨d0, e0, rfl, k0, r0⟩ := hd
    obtain ⟨d1, e1, rfl, k1, r1⟩ := r0
    obtain ⟨d2, e2, rfl, k2, r2⟩ := r1
    have : e2 = [] := r2
    subst this
    obtain ⟨x0, rfl, h0⟩ := M.Storage.of_has _ k0
    simp only [HasL, Has] at k1
    obtain ⟨_, _, rfl, ⟨_, rfl, w1, q1⟩, rfl⟩ := k1
    obtain ⟨x1, rfl, y1⟩ := list_of_has M.Page.of_has q1
    have h1 : (x1.length ≤ maxLen ∧ ∀ y ∈ x1, M.Page.ok y) := ⟨by simpa using w1, y1⟩
    obtain ⟨x2, rfl, h2⟩ := has_i _ k2
    exact c_laws_FnExactEvictOld x0 x1 x2 true (p_law x0 x1 x2 h0 h1 h2)

set_option maxRecDepth 100000 in
set_option maxHeartbeats 4000000 in
theorem over : Rows.fnExactEvictOldRow.holds Tryz.pinned (OpenSpec.ofChange Rows.fnExactEvictOldSpec) :=
  OpenClaim.holds_of_wide 11 Tryz.f11 rfl rfl rfl rfl rfl rfl rfl ⟨rfl, rfl, rfl, rfl, rfl⟩ rfl rfl rfl rfl rfl (by as_aux_lemma => kernel_rfl) Tryz.func11 closed
    (by as_aux_lemma => exact of_decide_eq_true (by kernel_rfl)) (by as_aux_lemma => (unfold Func.isWrapper; first | (rw [if_pos (by decide +kernel)]; kernel_rfl) | (rw [if_neg (by decide +kernel)]; exact ⟨rfl, rfl⟩)))
    (fun os started H enc _ => lifted os started H enc)

theorem proved : Rows.FnExactEvictOldSaid := over
#print axioms proved

end Go.Proofs.YtgpiencmneiblaaGreat.gen
