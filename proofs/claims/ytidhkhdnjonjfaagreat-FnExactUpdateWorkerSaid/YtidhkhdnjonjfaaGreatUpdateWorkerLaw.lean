/-
  For all arguments the law FnExactUpdateWorker answers true: the program's function and the reference's agree, and the arguments stay as they were. No conditions.
-/
import Derived.Test.YtidhkhdnjonjfaaGreatUpdateWorkerPo2
import Derived.Test.YtidhkhdnjonjfaaGreatUpdateWorkerWlaw
import Derived.Test.YtidhkhdnjonjfaaGreatUpdateWorkerCl
import Derived.Test.YtidhkhdnjonjfaaGreatRows
namespace Go.Proofs.YtidhkhdnjonjfaaGreat.gen
open Go Go.Sh
set_option linter.unusedVariables false
set_option linter.unusedSimpArgs false
theorem aS1 (p0 : M.World) (p1 : ByteArray) (p2 : ByteArray) (h0 : M.World.ok p0) (h1 : p1.size ≤ maxLen) (h2 : p2.size ≤ maxLen) : kG p0 p1 p2 = some true := by
  unfold kG
  by_cases b1 : (p1.size : Int) ≤ 1048576
  rotate_left
  · rw [if_pos (by simp; omega)]
  rw [if_neg (by simp; omega)]
  by_cases b2 : (p2.size : Int) ≤ 1048576
  rotate_left
  · rw [if_pos (by simp; omega)]
  rw [if_neg (by simp; omega)]
  rw [M.World.nB p0 h0 _ (by omega) (by omega), Option.bind_some]
  by_cases b0 : ((M.World.sz p0 : Nat) : Int) ≤ 1048576
  rotate_left
  · rw [aP3 b0, if_pos (by simp)]
  rw [aPk b0, if_neg (by simp; omega)]
  obtain ⟨R, e1, e2, e3, e4⟩ := aJV (a := p1) (b := p2) h0 (show M.World.sz p0 ≤ 1048576 by omega)
  have ce0 := M.World.aQ0 p0
  obtain ⟨u0_0, u0_1, u0_2, u0_3, u0_4, u0_5, ma0, _⟩ := M.World.iD p0 h0 (1) (by omega) (by unfold KB; omega)
  have hk0 : ¬ (1 + ((M.World.aQx p0 : Nat) : Int) < 0) := by omega
  have cr0 : M.World.aQx (R.1) ≤ 1000000000000 := Nat.le_trans (M.World.aQ0 R.1) (by omega)
  obtain ⟨z0_0, z0_1, z0_2, z0_3, z0_4, z0_5, mr0, hr0⟩ := M.World.iD (R.1) e3 (1) (by omega) (by unfold KB; omega)
  have hq0 : ¬ (1 + ((M.World.aQx (R.1) : Nat) : Int) < 0) := by omega
  simp [M.World.lT p0 h0 (by omega), e1, e2, M.World.lP p0 h0, ma0, hk0, mr0, hr0, M.World.lP (R.1) e3, hq0]
theorem own : ownKnob Tryz.prog.godebug = none := by kernel_rfl
theorem laid : laidOutB Tryz.prog = true := aOo
set_option maxRecDepth 100000 in
theorem lifted (os : Os) (started : os.Started) (H : Type) (enc : TypeId × Value → H) :
    ReturnsInHanded {} Tryz.checked os 5 .any (Rows.fnExactUpdateWorkerSpec.pre6 enc Tryz.prog Tryz.f5 Rows.fnExactUpdateWorkerRow.domain false) (Rows.fnExactUpdateWorkerSpec.post enc Tryz.prog Tryz.f5 false true false false) := by
  refine returnsInHanded_of_change (C := Tryz.checked) own started (by as_aux_lemma => kernel_rfl) Tryz.func5
    (ChangeSpec.witness6 (enc := enc) (C := Tryz.checked) false ⟨#[], #[.agg #[.int .i64 0, .bool false, .int .i64 0, .slice none 0 0, .slice none 0 0, .int .i64 0, .slice none 0 0, .slice none 0 0, .slice none 0 0, .slice none 0 0], .string ByteArray.empty, .string ByteArray.empty], []⟩ 8 (by as_aux_lemma => kernel_rfl) (by as_aux_lemma => kernel_rfl) (by as_aux_lemma => kernel_rfl) (by as_aux_lemma => kernel_rfl)) ?_
  intro W base args ds gs before hval hW hcnd _
  refine aPh (n := 16) (tb := 4) (shs := [M.World.sh, [.str], [.str]]) laid rfl (by kernel_rfl) Tryz.underlying4 ?_ ?_ ?_ ?_ hval hW
  · exact ⟨_, _, rfl, by kernel_rfl, ⟨_, _, rfl, by kernel_rfl, ⟨_, _, rfl, by kernel_rfl, rfl⟩⟩⟩
  · intro t ht
    have : t ∈ [72, 9, 9] := ht
    simp only [List.mem_cons, List.not_mem_nil, or_false] at this
    rcases this with rfl | rfl | rfl
    all_goals exact ⟨by kernel_rfl, of_decide_eq_true (by kernel_rfl)⟩
  · intro ds hl
    match ds, hl with
    | [_, _, _], _ => rfl
  · intro dss hd
    obtain ⟨d0, e0, rfl, k0, r0⟩ := hd
    obtain ⟨d1, e1, rfl, k1, r1⟩ := r0
    obtain ⟨d2, e2, rfl, k2, r2⟩ := r1
    have : e2 = [] := r2
    subst this
    obtain ⟨x0, rfl, h0⟩ := M.World.cZ _ k0
    obtain ⟨x1, rfl, h1⟩ := aRx _ k1
    obtain ⟨x2, rfl, h2⟩ := aRx _ k2
    exact aDI x0 x1 x2 true (aS1 x0 x1 x2 h0 h1 h2)
set_option maxRecDepth 100000 in
set_option maxHeartbeats 4000000 in
theorem over : Rows.fnExactUpdateWorkerRow.holds Tryz.pinned (OpenSpec.ofChange Rows.fnExactUpdateWorkerSpec) :=
  OpenClaim.holds_of_wide 5 Tryz.f5 rfl rfl rfl rfl rfl rfl rfl ⟨rfl, rfl, rfl, rfl, rfl⟩ rfl rfl rfl rfl rfl (by as_aux_lemma => kernel_rfl) Tryz.func5 closed
    (by as_aux_lemma => exact of_decide_eq_true (by kernel_rfl)) (by as_aux_lemma => (unfold Func.isWrapper; first | (rw [if_pos (by decide +kernel)]; kernel_rfl) | (rw [if_neg (by decide +kernel)]; exact ⟨rfl, rfl⟩)))
    (fun os started H enc _ => lifted os started H enc)
theorem proved : Rows.FnExactUpdateWorkerSaid := over
#print axioms proved
end Go.Proofs.YtidhkhdnjonjfaaGreat.gen
