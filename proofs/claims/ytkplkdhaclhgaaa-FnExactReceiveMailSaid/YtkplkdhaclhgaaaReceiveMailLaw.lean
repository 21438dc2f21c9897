/-
  For all arguments the law FnExactReceiveMail answers true: the program's function and the reference's agree, and the arguments stay as they were. No conditions.
-/
import Derived.Test.YtkplkdhaclhgaaaReceiveMailPn
import Derived.Test.YtkplkdhaclhgaaaReceiveMailWlaw
import Derived.Test.YtkplkdhaclhgaaaReceiveMailCl
import Derived.Test.YtkplkdhaclhgaaaRows
namespace Go.Proofs.Ytkplkdhaclhgaaa.gen
open Go Go.Sh
set_option linter.unusedVariables false
set_option linter.unusedSimpArgs false
theorem p_law (p0 : M.Channel) (p1 : Int) (h0 : M.Channel.ok p0) (h1 : inI p1) : m_laws_FnExactReceiveMail p0 p1 = some true := by
  unfold m_laws_FnExactReceiveMail
  rw [M.Channel.p_sz p0 h0 _ (by omega) (by omega), Option.bind_some]
  by_cases b0 : ((M.Channel.sz p0 : Nat) : Int) ≤ 1048576
  rotate_left
  · rw [szOut_no b0, if_pos (by simp)]
  rw [szOut_yes b0, if_neg (by simp; omega)]
  have hz0 : p0.Mails.length ≤ M.Channel.sz p0 := by unfold M.Channel.sz; omega
  obtain ⟨R, e1, e2, e3, e4⟩ := p_ReceiveMail (p := p1) h0 (by omega)
  have em : m_laws_eqMail R.2.1 R.2.1 = some true := by simp [m_laws_eqMail]
  have ce0 := M.Channel.cntsle p0
  obtain ⟨u0_0, ma0, _⟩ := M.Channel.p_mark p0 h0 (1) (by omega) (by unfold KB; omega)
  have hk0 : ¬ (1 + ((M.Channel.cnts p0 : Nat) : Int) < 0) := by omega
  have cr0 : M.Channel.cnts (R.1) ≤ 1000000000000 := by
    unfold M.Channel.cnts
    have := szSum_const (c := M.Mail.cnt) (A := 40) (xs := R.1.Mails) (fun x _ => by unfold M.Mail.cnt; omega)
    omega
  obtain ⟨z0_0, mr0, hr0⟩ := M.Channel.p_mark (R.1) e3 (1) (by omega) (by unfold KB; omega)
  have hq0 : ¬ (1 + ((M.Channel.cnts (R.1) : Nat) : Int) < 0) := by omega
  simp [M.Channel.p_to p0 h0 (by omega), e1, e2, em, M.Channel.p_eq p0 h0, ma0, hk0, mr0, hr0, M.Channel.p_eq (R.1) e3, hq0]

theorem own : ownKnob Try.prog.godebug = none := by kernel_rfl
theorem laid : laidOutB Try.prog = true := cp_laid

set_option maxRecDepth 100000 in
theorem lifted (os : Os) (started : os.Started) (H : Type) (enc : TypeId × Value → H) :
    ReturnsInHanded {} Try.checked os 3 .any (Rows.fnExactReceiveMailSpec.pre6 enc Try.prog Try.f3 Rows.fnExactReceiveMailRow.domain false) (Rows.fnExactReceiveMailSpec.post enc Try.prog Try.f3 false true false false) := by
  refine returnsInHanded_of_change (C := Try.checked) own started (by as_aux_lemma => kernel_rfl) Try.func3
    (ChangeSpec.witness6 (enc := enc) (C := Try.checked) false ⟨#[], #[.agg #[.slice none 0 0], .int .i64 0], []⟩ 8 (by as_aux_lemma => kernel_rfl) (by as_aux_lemma => kernel_rfl) (by as_aux_lemma => kernel_rfl) (by as_aux_lemma => kernel_rfl)) ?_
  intro W base args ds gs before hval hW hcnd _
  refine law_holds (n := 16) (tb := 4) (shs := [M.Channel.sh, [.int .i64]]) laid rfl (by kernel_rfl) Try.underlying4 ?_ ?_ ?_ ?_ hval hW
  · exact ⟨_, _, rfl, by kernel_rfl, ⟨_, _, rfl, by kernel_rfl, rfl⟩⟩
  · intro t ht
    have : t ∈ [24, 3] := ht
    simp at this
    rcases this with rfl | rfl
    all_goals exact ⟨by kernel_rfl, of_decide_eq_true (by kernel_rfl)⟩
  · intro ds hl
    match ds, hl with
    | [_, _], _ => rfl
  · intro dss hd
    obtain ⟨d0, e0, rfl, k0, r0⟩ := hd
    obtain ⟨d1, e1, rfl, k1, r1⟩ := r0
    have : e1 = [] := r1
    subst this
    obtain ⟨x0, rfl, h0⟩ := M.Channel.of_has _ k0
    obtain ⟨x1, rfl, h1⟩ := has_i _ k1
    exact c_laws_FnExactReceiveMail x0 x1 true (p_law x0 x1 h0 h1)

set_option maxRecDepth 100000 in
set_option maxHeartbeats 4000000 in
theorem over : Rows.fnExactReceiveMailRow.holds Try.pinned (OpenSpec.ofChange Rows.fnExactReceiveMailSpec) :=
  OpenClaim.holds_of_wide 3 Try.f3 rfl rfl rfl rfl rfl rfl rfl ⟨rfl, rfl, rfl, rfl, rfl⟩ rfl rfl rfl rfl rfl (by as_aux_lemma => kernel_rfl) Try.func3 closed
    (by as_aux_lemma => exact of_decide_eq_true (by kernel_rfl)) (by as_aux_lemma => (unfold Func.isWrapper; first | (rw [if_pos (by decide +kernel)]; kernel_rfl) | (rw [if_neg (by decide +kernel)]; exact ⟨rfl, rfl⟩)))
    (fun os started H enc _ => lifted os started H enc)

theorem proved : Rows.FnExactReceiveMailSaid := over
#print axioms proved

end Go.Proofs.Ytkplkdhaclhgaaa.gen
