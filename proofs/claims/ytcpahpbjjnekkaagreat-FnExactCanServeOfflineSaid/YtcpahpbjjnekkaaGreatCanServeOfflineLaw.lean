/-
  For all arguments the law FnExactCanServeOffline answers true: the program's function and the reference's agree, and the arguments stay as they were. No conditions.
-/
import Derived.Test.YtcpahpbjjnekkaaGreatCanServeOfflinePo
import Derived.Test.YtcpahpbjjnekkaaGreatCanServeOfflineWlaw
import Derived.Test.YtcpahpbjjnekkaaGreatCanServeOfflineCl
import Derived.Test.YtcpahpbjjnekkaaGreatRows
namespace Go.Proofs.YtcpahpbjjnekkaaGreat.gen
open Go Go.Sh
set_option linter.unusedVariables false
set_option linter.unusedSimpArgs false
theorem p_law (p0 : M.World) (p1 : M.Page) (p2 : ByteArray) (h0 : M.World.ok p0) (h1 : M.Page.ok p1) (h2 : p2.size ≤ maxLen) : m_laws_FnExactCanServeOffline p0 p1 p2 = some true := by
  unfold m_laws_FnExactCanServeOffline
  by_cases b2 : (p2.size : Int) ≤ 1048576
  rotate_left
  · rw [if_pos (by simp; omega)]
  rw [if_neg (by simp; omega)]
  rw [M.World.p_sz p0 h0 _ (by omega) (by omega), Option.bind_some]
  by_cases b0 : ((M.World.sz p0 : Nat) : Int) ≤ 1048576
  rotate_left
  · rw [szOut_no b0, if_pos (by simp)]
  rw [szOut_yes b0, if_neg (by simp; omega)]
  rw [M.Page.p_sz p1 h1 _ (by omega) (by omega), Option.bind_some]
  by_cases b1 : ((M.Page.sz p1 : Nat) : Int) ≤ 1048576 - ((M.World.sz p0 : Nat) : Int)
  rotate_left
  · rw [szOut_no b1, if_pos (by simp)]
  rw [szOut_yes b1, if_neg (by simp; omega)]
  simp [M.World.p_to p0 h0 (by omega), M.Page.p_to p1 h1 (by omega), p_spec_CanServe h0 (show M.World.sz p0 ≤ 1048576 by omega), p_impl_CanServe h0 (show M.World.sz p0 ≤ 1048576 by omega), M.World.p_eq p0 h0, M.Page.p_eq p1 h1]

theorem own : ownKnob Tryz.prog.godebug = none := by kernel_rfl
theorem laid : laidOutB Tryz.prog = true := cp_laid

set_option maxRecDepth 100000 in
theorem lifted (os : Os) (started : os.Started) (H : Type) (enc : TypeId × Value → H) :
    ReturnsInHanded {} Tryz.checked os 4 .any (Rows.fnExactCanServeOfflineSpec.pre6 enc Tryz.prog Tryz.f4 Rows.fnExactCanServeOfflineRow.domain false) (Rows.fnExactCanServeOfflineSpec.post enc Tryz.prog Tryz.f4 false true false false) := by
  refine returnsInHanded_of_change (C := Tryz.checked) own started (by as_aux_lemma => kernel_rfl) Tryz.func4
    (ChangeSpec.witness6 (enc := enc) (C := Tryz.checked) false ⟨#[], #[.agg #[.int .i64 0, .bool false, .int .i64 0, .slice none 0 0, .slice none 0 0, .int .i64 0, .slice none 0 0, .slice none 0 0, .slice none 0 0, .slice none 0 0], .agg #[.int .i64 0, .string ByteArray.empty, .string ByteArray.empty, .int .i64 0, .slice none 0 0, .slice none 0 0, .int .i64 0, .slice none 0 0, .int .i64 0, .bool false, .bool false], .string ByteArray.empty], []⟩ 8 (by as_aux_lemma => kernel_rfl) (by as_aux_lemma => kernel_rfl) (by as_aux_lemma => kernel_rfl) (by as_aux_lemma => kernel_rfl)) ?_
  intro W base args ds gs before hval hW hcnd _
  refine law_holds (n := 16) (tb := 4) (shs := [M.World.sh, M.Page.sh, [.str]]) laid rfl (by kernel_rfl) Tryz.underlying4 ?_ ?_ ?_ ?_ hval hW
  · exact ⟨_, _, rfl, by kernel_rfl, ⟨_, _, rfl, by kernel_rfl, ⟨_, _, rfl, by kernel_rfl, rfl⟩⟩⟩
  · intro t ht
    have : t ∈ [53, 60, 9] := ht
    simp at this
    rcases this with rfl | rfl | rfl
    all_goals exact ⟨by kernel_rfl, of_decide_eq_true (by kernel_rfl)⟩
  · intro ds hl
    match ds, hl with
    | [_, _, _], _ => rfl
  · intro dss hd
    obtain ⟨d0, e0, rfl, k0, r0⟩ := hd
    obtain ⟨d1, e1, rfl, k1, r1⟩ := r0
    obtain ⟨d2, e2, rfl, k2, r2⟩ := r1
    have : e2 = [] := r2
    subst this
    obtain ⟨x0, rfl, h0⟩ := M.World.of_has _ k0
    obtain ⟨x1, rfl, h1⟩ := M.Page.of_has _ k1
    obtain ⟨x2, rfl, h2⟩ := has_s _ k2
    exact c_laws_FnExactCanServeOffline x0 x1 x2 true (p_law x0 x1 x2 h0 h1 h2)

set_option maxRecDepth 100000 in
set_option maxHeartbeats 4000000 in
theorem over : Rows.fnExactCanServeOfflineRow.holds Tryz.pinned (OpenSpec.ofChange Rows.fnExactCanServeOfflineSpec) :=
  OpenClaim.holds_of_wide 4 Tryz.f4 rfl rfl rfl rfl rfl rfl rfl ⟨rfl, rfl, rfl, rfl, rfl⟩ rfl rfl rfl rfl rfl (by as_aux_lemma => kernel_rfl) Tryz.func4 closed
    (by as_aux_lemma => exact of_decide_eq_true (by kernel_rfl)) (by as_aux_lemma => (unfold Func.isWrapper; first | (rw [if_pos (by decide +kernel)]; kernel_rfl) | (rw [if_neg (by decide +kernel)]; exact ⟨rfl, rfl⟩)))
    (fun os started H enc _ => lifted os started H enc)

theorem proved : Rows.FnExactCanServeOfflineSaid := over
#print axioms proved

end Go.Proofs.YtcpahpbjjnekkaaGreat.gen
