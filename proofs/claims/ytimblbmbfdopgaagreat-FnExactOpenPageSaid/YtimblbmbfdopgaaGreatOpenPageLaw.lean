/-
  For all arguments the law FnExactOpenPage answers true: the program's function and the reference's agree, and the arguments stay as they were. No conditions.
-/
import Derived.Test.YtimblbmbfdopgaaGreatOpenPagePn
import Derived.Test.YtimblbmbfdopgaaGreatOpenPageWlaw
import Derived.Test.YtimblbmbfdopgaaGreatOpenPageCl
import Derived.Test.YtimblbmbfdopgaaGreatRows
namespace Go.Proofs.YtimblbmbfdopgaaGreat.gen
open Go Go.Sh
set_option linter.unusedVariables false
set_option linter.unusedSimpArgs false
theorem aSe (p0 : M.World) (p1 : ByteArray) (p2 : ByteArray) (p3 : List M.Instr) (h0 : M.World.ok p0) (h1 : p1.size ≤ maxLen) (h2 : p2.size ≤ maxLen) (h3 : (p3.length ≤ maxLen ∧ ∀ y ∈ p3, M.Instr.ok y)) : oK p0 p1 p2 p3 = some true := by
  unfold oK
  by_cases b1 : (p1.size : Int) ≤ 1048576
  rotate_left
  · rw [if_pos (by simp; omega)]
  rw [if_neg (by simp; omega)]
  by_cases b2 : (p2.size : Int) ≤ 1048576
  rotate_left
  · rw [if_pos (by simp; omega)]
  rw [if_neg (by simp; omega)]
  rw [M.World.mN p0 h0 _ (by omega) (by omega), Option.bind_some]
  by_cases b0 : ((M.World.sz p0 : Nat) : Int) ≤ 1048576
  rotate_left
  · rw [aMC b0, if_pos (by simp)]
  rw [aLM b0, if_neg (by simp; omega)]
  rw [M.aDP.mN p3 h3 _ (by omega) (by omega), Option.bind_some]
  by_cases b3 : (((p3.length + aF M.Instr.sz p3) : Nat) : Int) ≤ 1048576 - ((M.World.sz p0 : Nat) : Int)
  rotate_left
  · rw [aMC b3, if_pos (by simp)]
  rw [aLM b3, if_neg (by simp; omega)]
  obtain ⟨R, e1, e2, e3, e4⟩ := aNV (a := p1) (b := p2) (l := p3) h0 (show M.World.sz p0 ≤ 1048576 by omega) (show p1.size ≤ 1048576 by omega) (show p2.size ≤ 1048576 by omega) h3 (show p3.length + aF M.Instr.sz p3 ≤ 1048576 by omega)
  have ce0 := M.World.aQS p0
  obtain ⟨u0_0, u0_1, u0_2, u0_3, u0_4, u0_5, ma0, _⟩ := M.World.gX p0 h0 (1) (by omega) (by unfold KB; omega)
  have ce3 := M.aDP.gC p3
  obtain ⟨u3, ma3, _, _⟩ := M.aDP.gX p3 h3 (1 + ((M.World.aPB p0 : Nat) : Int)) (by omega) (by unfold KB; omega)
  have hk0 : ¬ (1 + ((M.World.aPB p0 : Nat) : Int) + ((aF M.Instr.cnt p3 : Nat) : Int) < 0) := by omega
  have cr0 : M.World.aPB (R.1) ≤ 1000000000000 := Nat.le_trans (M.World.aQS R.1) (by omega)
  obtain ⟨z0_0, z0_1, z0_2, z0_3, z0_4, z0_5, mr0, hr0⟩ := M.World.gX (R.1) e3 (1) (by omega) (by unfold KB; omega)
  have hq0 : ¬ (1 + ((M.World.aPB (R.1) : Nat) : Int) < 0) := by omega
  simp [M.World.lJ p0 h0 (by omega), M.aDP.lJ p3 h3 (by omega), e1, e2, M.World.lI p0 h0, M.aDP.lI p3 h3, ma0, ma3, hk0, mr0, hr0, M.World.lI (R.1) e3, hq0]
theorem own : ownKnob Tryz.prog.godebug = none := by kernel_rfl
theorem laid : laidOutB Tryz.prog = true := aOJ
set_option maxRecDepth 100000 in
theorem lifted (os : Os) (started : os.Started) (H : Type) (enc : TypeId × Value → H) :
    ReturnsInHanded {} Tryz.checked os 9 .any (Rows.fnExactOpenPageSpec.pre6 enc Tryz.prog Tryz.f9 Rows.fnExactOpenPageRow.domain false) (Rows.fnExactOpenPageSpec.post enc Tryz.prog Tryz.f9 false true false false) := by
  refine returnsInHanded_of_change (C := Tryz.checked) own started (by as_aux_lemma => kernel_rfl) Tryz.func9
    (ChangeSpec.witness6 (enc := enc) (C := Tryz.checked) false ⟨#[], #[.agg #[.int .i64 0, .bool false, .int .i64 0, .slice none 0 0, .slice none 0 0, .int .i64 0, .slice none 0 0, .slice none 0 0, .slice none 0 0, .slice none 0 0], .string ByteArray.empty, .string ByteArray.empty, .slice none 0 0], []⟩ 8 (by as_aux_lemma => kernel_rfl) (by as_aux_lemma => kernel_rfl) (by as_aux_lemma => kernel_rfl) (by as_aux_lemma => kernel_rfl)) ?_
  intro W base args ds gs before hval hW hcnd _
  refine aO2 (n := 16) (tb := 4) (shs := [M.World.sh, [.str], [.str], [.sl M.Instr.sh]]) laid rfl (by kernel_rfl) Tryz.underlying4 ?_ ?_ ?_ ?_ hval hW
  · exact ⟨_, _, rfl, by kernel_rfl, ⟨_, _, rfl, by kernel_rfl, ⟨_, _, rfl, by kernel_rfl, ⟨_, _, rfl, by kernel_rfl, rfl⟩⟩⟩⟩
  · intro t ht
    have : t ∈ [35, 9, 9, 37] := ht
    simp only [List.mem_cons, List.not_mem_nil, or_false] at this
    rcases this with rfl | rfl | rfl | rfl
    all_goals exact ⟨by kernel_rfl, of_decide_eq_true (by kernel_rfl)⟩
  · intro ds hl
    match ds, hl with
    | [_, _, _, _], _ => rfl
  · intro dss hd
    obtain ⟨d0, e0, rfl, k0, r0⟩ := hd
    obtain ⟨d1, e1, rfl, k1, r1⟩ := r0
    obtain ⟨d2, e2, rfl, k2, r2⟩ := r1
    obtain ⟨d3, e3, rfl, k3, r3⟩ := r2
    have : e3 = [] := r3
    subst this
    obtain ⟨x0, rfl, h0⟩ := M.World.cO _ k0
    obtain ⟨x1, rfl, h1⟩ := aRN _ k1
    obtain ⟨x2, rfl, h2⟩ := aRN _ k2
    simp only [nR, Has] at k3
    obtain ⟨_, _, rfl, ⟨_, rfl, w3, q3⟩, rfl⟩ := k3
    obtain ⟨x3, rfl, y3⟩ := bE M.Instr.cO q3
    have h3 : (x3.length ≤ maxLen ∧ ∀ y ∈ x3, M.Instr.ok y) := ⟨by simpa using w3, y3⟩
    exact aEU x0 x1 x2 x3 true (aSe x0 x1 x2 x3 h0 h1 h2 h3)
set_option maxRecDepth 100000 in
set_option maxHeartbeats 4000000 in
theorem aY8 : Rows.fnExactOpenPageRow.holds Tryz.pinned (OpenSpec.ofChange Rows.fnExactOpenPageSpec) :=
  OpenClaim.holds_of_wide 9 Tryz.f9 rfl rfl rfl rfl rfl rfl rfl ⟨rfl, rfl, rfl, rfl, rfl⟩ rfl rfl rfl rfl rfl (by as_aux_lemma => kernel_rfl) Tryz.func9 closed
    (by as_aux_lemma => exact of_decide_eq_true (by kernel_rfl)) (by as_aux_lemma => (unfold Func.isWrapper; first | (rw [if_pos (by decide +kernel)]; kernel_rfl) | (rw [if_neg (by decide +kernel)]; exact ⟨rfl, rfl⟩)))
    (fun os started H enc _ => lifted os started H enc)
theorem proved : Rows.FnExactOpenPageSaid := aY8
#print axioms proved
end Go.Proofs.YtimblbmbfdopgaaGreat.gen
