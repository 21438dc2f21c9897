/-
  For all arguments the law FnExactBroadcast answers true: the program's function and the reference's agree, and the arguments stay as they were. No conditions.
-/
import Derived.Test.YtfcfdnmhpdgjfaaBroadcastPf
import Derived.Test.YtfcfdnmhpdgjfaaBroadcastWlaw
import Derived.Test.YtfcfdnmhpdgjfaaBroadcastCl
import Derived.Test.YtfcfdnmhpdgjfaaRows
namespace Go.Proofs.Ytfcfdnmhpdgjfaa.gen
open Go Go.Sh
set_option linter.unusedVariables false
set_option linter.unusedSimpArgs false
theorem p_law (p0 : M.Channel) (p1 : List M.Page) (p2 : Int) (p3 : Int) (h0 : M.Channel.ok p0) (h1 : (p1.length ≤ maxLen ∧ ∀ y ∈ p1, M.Page.ok y)) (h2 : inI p2) (h3 : inI p3) : m_laws_FnExactBroadcast p0 p1 p2 p3 = some true := by
  unfold m_laws_FnExactBroadcast
  rw [M.Channel.p_sz p0 h0 _ (by omega) (by omega), Option.bind_some]
  by_cases b0 : ((M.Channel.sz p0 : Nat) : Int) ≤ 1048576
  rotate_left
  · rw [szOut_no b0, if_pos (by simp)]
  rw [szOut_yes b0, if_neg (by simp; omega)]
  rw [M.PageS.p_sz p1 h1 _ (by omega) (by omega), Option.bind_some]
  by_cases b1 : (((p1.length + szSum M.Page.sz p1) : Nat) : Int) ≤ 1048576 - ((M.Channel.sz p0 : Nat) : Int)
  rotate_left
  · rw [szOut_no b1, if_pos (by simp)]
  rw [szOut_yes b1, if_neg (by simp; omega)]
  have hz0 : p0.Mails.length ≤ M.Channel.sz p0 := by unfold M.Channel.sz; omega
  obtain ⟨e1, e2, e3, e4⟩ := p_Broadcast h0 h1 h2 h3 (by omega)
  have ce0 := M.Channel.cntsle p0
  obtain ⟨u0_0, ma0, _⟩ := M.Channel.p_mark p0 h0 (1) (by omega) (by unfold KB; omega)
  have ce1 := M.PageS.cntle p1
  obtain ⟨u1, ma1⟩ := M.PageS.p_mark p1 h1 (1 + ((M.Channel.cnts p0 : Nat) : Int)) (by omega) (by unfold KB; omega)
  have hk0 : ¬ (1 + ((M.Channel.cnts p0 : Nat) : Int) + ((szSum M.Page.cnt p1 : Nat) : Int) < 0) := by omega
  have cr0 : M.Channel.cnts ((nBroad p0 p1 p2 p3).1) ≤ 1000000000000 := by
    unfold M.Channel.cnts
    have := szSum_const (c := M.Mail.cnt) (A := 40) (xs := (nBroad p0 p1 p2 p3).1.Mails) (fun x _ => by unfold M.Mail.cnt; omega)
    omega
  obtain ⟨z0_0, mr0, hr0⟩ := M.Channel.p_mark ((nBroad p0 p1 p2 p3).1) e3 (1) (by omega) (by unfold KB; omega)
  have hq0 : ¬ (1 + ((M.Channel.cnts ((nBroad p0 p1 p2 p3).1) : Nat) : Int) < 0) := by omega
  simp [M.Channel.p_to p0 h0 (by omega), M.PageS.p_to p1 h1 (by omega), e1, e2, M.Channel.p_eq p0 h0, M.PageS.p_eq p1 h1, ma0, ma1, hk0, mr0, hr0, M.Channel.p_eq ((nBroad p0 p1 p2 p3).1) e3, hq0]

theorem own : ownKnob Try.prog.godebug = none := by kernel_rfl
theorem laid : laidOutB Try.prog = true := by kernel_rfl

set_option maxRecDepth 100000 in
theorem lifted (os : Os) (started : os.Started) (H : Type) (enc : TypeId × Value → H) :
    ReturnsInHanded {} Try.checked os 8 .any (Rows.fnExactBroadcastSpec.pre6 enc Try.prog Try.f8 Rows.fnExactBroadcastRow.domain false) (Rows.fnExactBroadcastSpec.post enc Try.prog Try.f8 false true false false) := by
  refine returnsInHanded_of_change (C := Try.checked) own started (by as_aux_lemma => kernel_rfl) Try.func8
    (ChangeSpec.witness6 (enc := enc) (C := Try.checked) false ⟨#[], #[.agg #[.slice none 0 0], .slice none 0 0, .int .i64 0, .int .i64 0], []⟩ 8 (by as_aux_lemma => kernel_rfl) (by as_aux_lemma => kernel_rfl) (by as_aux_lemma => kernel_rfl) (by as_aux_lemma => kernel_rfl)) ?_
  intro W base args ds gs before hval hW hcnd _
  refine law_holds (n := 16) (tb := 4) (shs := [M.Channel.sh, [.sl M.Page.sh], [.int .i64], [.int .i64]]) laid rfl (by kernel_rfl) Try.underlying4 ?_ ?_ ?_ ?_ hval hW
  · exact ⟨_, _, rfl, by kernel_rfl, ⟨_, _, rfl, by kernel_rfl, ⟨_, _, rfl, by kernel_rfl, ⟨_, _, rfl, by kernel_rfl, rfl⟩⟩⟩⟩
  · intro t ht
    have : t ∈ [26, 84, 3, 3] := ht
    simp at this
    rcases this with rfl | rfl | rfl
    all_goals exact ⟨by kernel_rfl, of_decide_eq_true (by kernel_rfl)⟩
  · intro ds hl
    match ds, hl with
    | [_, _, _, _], _ => rfl
  · intro dss hd
    obtain ⟨d0, e0, rfl, k0, r0⟩ := hd
    obtain ⟨d1, e1, rfl, k1, r1⟩ := r0
    obtain ⟨d2, e2, rfl, k2, r2⟩ := r1
    obtain ⟨d3, e3, rfl, k3, r3⟩ := r2
    have : e3 = [] := r3
    subst this
    obtain ⟨x0, rfl, h0⟩ := M.Channel.of_has _ k0
    simp only [HasL, Has] at k1
    obtain ⟨_, _, rfl, ⟨_, rfl, w1, q1⟩, rfl⟩ := k1
    obtain ⟨x1, rfl, y1⟩ := list_of_has M.Page.of_has q1
    have h1 : (x1.length ≤ maxLen ∧ ∀ y ∈ x1, M.Page.ok y) := ⟨by simpa using w1, y1⟩
    obtain ⟨x2, rfl, h2⟩ := has_i _ k2
    obtain ⟨x3, rfl, h3⟩ := has_i _ k3
    exact c_laws_FnExactBroadcast x0 x1 x2 x3 true (p_law x0 x1 x2 x3 h0 h1 h2 h3)

set_option maxRecDepth 100000 in
set_option maxHeartbeats 4000000 in
theorem over : Rows.fnExactBroadcastRow.holds Try.pinned (OpenSpec.ofChange Rows.fnExactBroadcastSpec) :=
  OpenClaim.holds_of_wide 8 Try.f8 rfl rfl rfl rfl rfl rfl rfl ⟨rfl, rfl, rfl, rfl, rfl⟩ rfl rfl rfl rfl rfl (by as_aux_lemma => kernel_rfl) Try.func8 closed
    (by as_aux_lemma => exact of_decide_eq_true (by kernel_rfl)) (by as_aux_lemma => (unfold Func.isWrapper; first | (rw [if_pos (by decide +kernel)]; kernel_rfl) | (rw [if_neg (by decide +kernel)]; exact ⟨rfl, rfl⟩)))
    (fun os started H enc _ => lifted os started H enc)

theorem proved : Rows.FnExactBroadcastSaid := over
#print axioms proved

end Go.Proofs.Ytfcfdnmhpdgjfaa.gen
