/-
  For all arguments the law FnExactWriteNote answers true: the program's function and the reference's agree, and the arguments stay as they were. No conditions.
-/
import Derived.Test.YtbpbocchokbggaaGreatWriteNotePq6
import Derived.Test.YtbpbocchokbggaaGreatWriteNoteWlaw
import Derived.Test.YtbpbocchokbggaaGreatWriteNoteCl
import Derived.Test.YtbpbocchokbggaaGreatRows
namespace Go.Proofs.YtbpbocchokbggaaGreat.gen
open Go Go.Sh
set_option linter.unusedVariables false
set_option linter.unusedSimpArgs false
theorem XA (p0 : M.World) (p1 : M.bS) (p2 : Int) (p3 : ByteArray) (p4 : Int) (h0 : M.World.ok p0) (h1 : M.bS.ok p1) (h2 : inI p2) (h3 : p3.size ≤ maxLen) (h4 : inI p4) : nE p0 p1 p2 p3 p4 = some true := by
  unfold nE
  by_cases b3 : (p3.size : Int) ≤ 1048576
  rotate_left
  · rw [if_pos (by simp; omega)]
  rw [if_neg (by simp; omega)]
  rw [M.World.mX p0 h0 _ (by omega) (by omega), Option.bind_some]
  by_cases b0 : ((M.World.sz p0 : Nat) : Int) ≤ 1048576
  rotate_left
  · rw [Pn b0, if_pos (by simp)]
  rw [N4 b0, if_neg (by simp; omega)]
  rw [M.bS.mX p1 h1 _ (by omega) (by omega), Option.bind_some]
  by_cases b1 : ((M.bS.sz p1 : Nat) : Int) ≤ 1048576 - ((M.World.sz p0 : Nat) : Int)
  rotate_left
  · rw [Pn b1, if_pos (by simp)]
  rw [N4 b1, if_neg (by simp; omega)]
  obtain ⟨R, e1, e2, e3, e4⟩ := OT (p := p1) (n := p2) (f := p3) (v := p4) h0 h2 h4 (show p3.size ≤ 1048576 by omega) (show M.World.sz p0 ≤ 1048576 by omega)
  have ce0 := M.World.PD p0
  obtain ⟨u0_0, u0_1, u0_2, u0_3, u0_4, u0_5, ma0, _⟩ := M.World.fM p0 h0 (1) (by omega) (by unfold KB; omega)
  have ce1 := M.bS.PD p1
  obtain ⟨u1_0, u1_1, u1_2, ma1⟩ := M.bS.fM p1 h1 (1 + ((M.World.N6 p0 : Nat) : Int)) (by omega) (by unfold KB; omega)
  have hk0 : ¬ (1 + ((M.World.N6 p0 : Nat) : Int) + ((M.bS.N6 p1 : Nat) : Int) < 0) := by omega
  have cr0 : M.World.N6 (R.1) ≤ 1000000000000 := Nat.le_trans (M.World.PD R.1) (by omega)
  obtain ⟨z0_0, z0_1, z0_2, z0_3, z0_4, z0_5, mr0, hr0⟩ := M.World.fM (R.1) e3 (1) (by omega) (by unfold KB; omega)
  have hq0 : ¬ (1 + ((M.World.N6 (R.1) : Nat) : Int) < 0) := by omega
  simp [M.World.mH p0 h0 (by omega), M.bS.mH p1 h1 (by omega), e1, e2, M.World.mG p0 h0, M.bS.mG p1 h1, ma0, ma1, hk0, mr0, hr0, M.World.mG (R.1) e3, hq0]
theorem own : ownKnob Tryz.prog.godebug = none := by kernel_rfl
theorem laid : laidOutB Tryz.prog = true := cp_laid
set_option maxRecDepth 100000 in
theorem lifted (os : Os) (started : os.Started) (H : Type) (enc : TypeId × Value → H) :
    ReturnsInHanded {} Tryz.checked os 3 .any (Rows.fnExactWriteNoteSpec.pre6 enc Tryz.prog Tryz.f3 Rows.fnExactWriteNoteRow.domain false) (Rows.fnExactWriteNoteSpec.post enc Tryz.prog Tryz.f3 false true false false) := by
  refine returnsInHanded_of_change (C := Tryz.checked) own started (by as_aux_lemma => kernel_rfl) Tryz.func3
    (ChangeSpec.witness6 (enc := enc) (C := Tryz.checked) false ⟨#[], #[.agg #[.int .i64 0, .bool false, .int .i64 0, .slice none 0 0, .slice none 0 0, .int .i64 0, .slice none 0 0, .slice none 0 0, .slice none 0 0, .slice none 0 0], .agg #[.int .i64 0, .string ByteArray.empty, .string ByteArray.empty, .int .i64 0, .slice none 0 0, .slice none 0 0, .int .i64 0, .slice none 0 0, .int .i64 0, .bool false, .bool false], .int .i64 0, .string ByteArray.empty, .int .i64 0], []⟩ 8 (by as_aux_lemma => kernel_rfl) (by as_aux_lemma => kernel_rfl) (by as_aux_lemma => kernel_rfl) (by as_aux_lemma => kernel_rfl)) ?_
  intro W base args ds gs before hval hW hcnd _
  refine SX (n := 16) (tb := 4) (shs := [M.World.sh, M.bS.sh, [.int .i64], [.str], [.int .i64]]) laid rfl (by kernel_rfl) Tryz.underlying4 ?_ ?_ ?_ ?_ hval hW
  · exact ⟨_, _, rfl, by kernel_rfl, ⟨_, _, rfl, by kernel_rfl, ⟨_, _, rfl, by kernel_rfl, ⟨_, _, rfl, by kernel_rfl, ⟨_, _, rfl, by kernel_rfl, rfl⟩⟩⟩⟩⟩
  · intro t ht
    have : t ∈ [35, 42, 3, 9, 3] := ht
    simp only [List.mem_cons, List.not_mem_nil, or_false] at this
    rcases this with rfl | rfl | rfl | rfl | rfl
    all_goals exact ⟨by kernel_rfl, of_decide_eq_true (by kernel_rfl)⟩
  · intro ds hl
    match ds, hl with
    | [_, _, _, _, _], _ => rfl
  · intro dss hd
    obtain ⟨d0, e0, rfl, k0, r0⟩ := hd
    obtain ⟨d1, e1, rfl, k1, r1⟩ := r0
    obtain ⟨d2, e2, rfl, k2, r2⟩ := r1
    obtain ⟨d3, e3, rfl, k3, r3⟩ := r2
    obtain ⟨d4, e4, rfl, k4, r4⟩ := r3
    have : e4 = [] := r4
    subst this
    obtain ⟨x0, rfl, h0⟩ := M.World.cT _ k0
    obtain ⟨x1, rfl, h1⟩ := M.bS.cT _ k1
    obtain ⟨x2, rfl, h2⟩ := Tr _ k2
    obtain ⟨x3, rfl, h3⟩ := WI _ k3
    obtain ⟨x4, rfl, h4⟩ := Tr _ k4
    exact EL x0 x1 x2 x3 x4 true (XA x0 x1 x2 x3 x4 h0 h1 h2 h3 h4)
set_option maxRecDepth 100000 in
set_option maxHeartbeats 4000000 in
theorem over : Rows.fnExactWriteNoteRow.holds Tryz.pinned (OpenSpec.ofChange Rows.fnExactWriteNoteSpec) :=
  OpenClaim.holds_of_wide 3 Tryz.f3 rfl rfl rfl rfl rfl rfl rfl ⟨rfl, rfl, rfl, rfl, rfl⟩ rfl rfl rfl rfl rfl (by as_aux_lemma => kernel_rfl) Tryz.func3 closed
    (by as_aux_lemma => exact of_decide_eq_true (by kernel_rfl)) (by as_aux_lemma => (unfold Func.isWrapper; first | (rw [if_pos (by decide +kernel)]; kernel_rfl) | (rw [if_neg (by decide +kernel)]; exact ⟨rfl, rfl⟩)))
    (fun os started H enc _ => lifted os started H enc)
theorem proved : Rows.FnExactWriteNoteSaid := over
#print axioms proved
end Go.Proofs.YtbpbocchokbggaaGreat.gen
