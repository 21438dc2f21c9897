/-
  For all arguments the law FnExactReadNote answers true: the program's function and the reference's agree, and the arguments stay as they were. No conditions.
-/
import Derived.Test.YtidhkhdnjonjfaaGreatReadNotePq5
import Derived.Test.YtidhkhdnjonjfaaGreatReadNoteWlaw
import Derived.Test.YtidhkhdnjonjfaaGreatReadNoteCl
import Derived.Test.YtidhkhdnjonjfaaGreatRows
namespace Go.Proofs.YtidhkhdnjonjfaaGreat.gen
open Go Go.Sh
set_option linter.unusedVariables false
set_option linter.unusedSimpArgs false
theorem aMt (p0 : M.World) (p1 : M.gX) (p2 : Int) (p3 : ByteArray) (h0 : M.World.ok p0) (h1 : M.gX.ok p1) (h2 : inI p2) (h3 : p3.size ≤ maxLen) : jU p0 p1 p2 p3 = some true := by
  unfold jU
  by_cases b3 : (p3.size : Int) ≤ 1048576
  rotate_left
  · rw [if_pos (by simp; omega)]
  rw [if_neg (by simp; omega)]
  rw [M.World.iR p0 h0 _ (by omega) (by omega), Option.bind_some]
  by_cases b0 : ((M.World.sz p0 : Nat) : Int) ≤ 1048576
  rotate_left
  · rw [aHD b0, if_pos (by simp)]
  rw [aGC b0, if_neg (by simp; omega)]
  rw [M.gX.iR p1 h1 _ (by omega) (by omega), Option.bind_some]
  by_cases b1 : ((M.gX.sz p1 : Nat) : Int) ≤ 1048576 - ((M.World.sz p0 : Nat) : Int)
  rotate_left
  · rw [aHD b1, if_pos (by simp)]
  rw [aGC b1, if_neg (by simp; omega)]
  simp [M.World.hH p0 h0 (by omega), M.gX.hH p1 h1 (by omega), aDF h0 (show M.World.sz p0 ≤ 1048576 by omega), aDN h0 (show M.World.sz p0 ≤ 1048576 by omega), M.World.hJ p0 h0, M.gX.hJ p1 h1]
theorem own : ownKnob Tryz.prog.godebug = none := by kernel_rfl
theorem laid : laidOutB Tryz.prog = true := cp_laid
set_option maxRecDepth 100000 in
theorem lifted (os : Os) (started : os.Started) (H : Type) (enc : TypeId × Value → H) :
    ReturnsInHanded {} Tryz.checked os 4 .any (Rows.fnExactReadNoteSpec.pre6 enc Tryz.prog Tryz.f4 Rows.fnExactReadNoteRow.domain false) (Rows.fnExactReadNoteSpec.post enc Tryz.prog Tryz.f4 false true false false) := by
  refine returnsInHanded_of_change (C := Tryz.checked) own started (by as_aux_lemma => kernel_rfl) Tryz.func4
    (ChangeSpec.witness6 (enc := enc) (C := Tryz.checked) false ⟨#[], #[.agg #[.int .i64 0, .bool false, .int .i64 0, .slice none 0 0, .slice none 0 0, .int .i64 0, .slice none 0 0, .slice none 0 0, .slice none 0 0, .slice none 0 0], .agg #[.int .i64 0, .string ByteArray.empty, .string ByteArray.empty, .int .i64 0, .slice none 0 0, .slice none 0 0, .int .i64 0, .slice none 0 0, .int .i64 0, .bool false, .bool false], .int .i64 0, .string ByteArray.empty], []⟩ 8 (by as_aux_lemma => kernel_rfl) (by as_aux_lemma => kernel_rfl) (by as_aux_lemma => kernel_rfl) (by as_aux_lemma => kernel_rfl)) ?_
  intro W base args ds gs before hval hW hcnd _
  refine aJb (n := 16) (tb := 4) (shs := [M.World.sh, M.gX.sh, [.int .i64], [.str]]) laid rfl (by kernel_rfl) Tryz.underlying4 ?_ ?_ ?_ ?_ hval hW
  · exact ⟨_, _, rfl, by kernel_rfl, ⟨_, _, rfl, by kernel_rfl, ⟨_, _, rfl, by kernel_rfl, ⟨_, _, rfl, by kernel_rfl, rfl⟩⟩⟩⟩
  · intro t ht
    have : t ∈ [72, 79, 3, 9] := ht
    simp only [List.mem_cons, List.not_mem_nil, or_false] at this
    rcases this with rfl | rfl | rfl | rfl
    all_goals exact ⟨by kernel_rfl, of_decide_eq_true (by kernel_rfl)⟩
  · intro ds hl
    match ds, hl with
    | [_, _, _, _], _ => rfl
  · intro dss hd
    obtain ⟨d0, e0, rfl, k0, r0⟩ := hd
    obtain ⟨d1, e1, rfl, k1, r1⟩ := r0
    obtain ⟨d2, e2, rfl, k2, r2⟩ := r1
    obtain ⟨d3, e3, rfl, k3, r3⟩ := r2
    have : e3 = [] := r3
    subst this
    obtain ⟨x0, rfl, h0⟩ := M.World.bV _ k0
    obtain ⟨x1, rfl, h1⟩ := M.gX.bV _ k1
    obtain ⟨x2, rfl, h2⟩ := aLE _ k2
    obtain ⟨x3, rfl, h3⟩ := aMG _ k3
    exact oU x0 x1 x2 x3 true (aMt x0 x1 x2 x3 h0 h1 h2 h3)
set_option maxRecDepth 100000 in
set_option maxHeartbeats 4000000 in
theorem over : Rows.fnExactReadNoteRow.holds Tryz.pinned (OpenSpec.ofChange Rows.fnExactReadNoteSpec) :=
  OpenClaim.holds_of_wide 4 Tryz.f4 rfl rfl rfl rfl rfl rfl rfl ⟨rfl, rfl, rfl, rfl, rfl⟩ rfl rfl rfl rfl rfl (by as_aux_lemma => kernel_rfl) Tryz.func4 closed
    (by as_aux_lemma => exact of_decide_eq_true (by kernel_rfl)) (by as_aux_lemma => (unfold Func.isWrapper; first | (rw [if_pos (by decide +kernel)]; kernel_rfl) | (rw [if_neg (by decide +kernel)]; exact ⟨rfl, rfl⟩)))
    (fun os started H enc _ => lifted os started H enc)
theorem proved : Rows.FnExactReadNoteSaid := over
#print axioms proved
end Go.Proofs.YtidhkhdnjonjfaaGreat.gen
