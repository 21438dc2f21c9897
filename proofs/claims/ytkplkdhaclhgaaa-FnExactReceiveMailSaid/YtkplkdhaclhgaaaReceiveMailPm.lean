/-
  Helper text: the plain laws of mark and held. No conditions beyond those of each law.
-/
import Derived.Test.YtkplkdhaclhgaaaReceiveMailPz
namespace Go.Proofs.Ytkplkdhaclhgaaa.gen
open Go Go.Sh
set_option linter.unusedVariables false
set_option linter.unusedSimpArgs false
def M.Mail.cnt (x : M.Mail) : Nat := 3
set_option maxHeartbeats 4000000 in
theorem M.Mail.mstep (x : M.Mail) (hx : M.Mail.ok x) (k : Int) (h0 : 0 ≤ k) (hB : k + ((M.Mail.cnt x : Nat) : Int) ≤ KB) : ∃ x' : M.Mail, (∀ n (pre post : List M.Mail), (pre ++ x :: post).length ≤ maxLen → m_laws_markMailS_L1 (n + 1) k pre.length (pre ++ x :: post) = m_laws_markMailS_L1 n (k + ((M.Mail.cnt x : Nat) : Int)) ((pre.length + 1 : Nat) : Int) (pre ++ x' :: post)) ∧ ∀ n (l : List M.Mail) (i : Nat), l[i]? = some x' → l.length ≤ maxLen → m_laws_heldMailS_L1 l (n + 1) k i = m_laws_heldMailS_L1 l n (k + ((M.Mail.cnt x : Nat) : Int)) ((i + 1 : Nat) : Int) := by
  unfold KB at hB; unfold M.Mail.cnt at hB ⊢
  have A : (0 ≤ k ∧ k ≤ KB) ∧ (0 ≤ k + 1 ∧ k + 1 ≤ KB) ∧ (0 ≤ k + 1 + 1 ∧ k + 1 + 1 ≤ KB) ∧ (0 ≤ k + 1 + 1 + 1 ∧ k + 1 + 1 + 1 ≤ KB) := by
    unfold KB
    refine ⟨?_, ?_, ?_, ?_⟩ <;> omega
  have hE : k + 1 + 1 + 1 = k + ((M.Mail.cnt x : Nat) : Int) := by unfold M.Mail.cnt; omega
  unfold M.Mail.cnt at hE
  obtain ⟨q0, q1, q2, q3⟩ := A
  have w0 := wk2 q0
  have w1 := wk2 q1
  have w2 := wk2 q2
  refine ⟨⟨k, k + 1, k + 1 + 1⟩, fun n pre post hl => ?_, fun n l i hi hl => ?_⟩
  · have hl' := le_max hl
    have hp : pre.length < 9223372036854775807 := by simp at hl'; omega
    simp only [m_laws_markMailS_L1]
    rw [if_pos (lt_mid pre post x)]
    simp (maxSteps := 2000000) only [idx_mid, set_mid, Option.bind_some, wrapn hp, w0, w1, w2]
    rw [hE]
  · have hl' := le_max hl
    have hp : i < 9223372036854775807 := by have := (List.getElem?_eq_some_iff.1 hi).1; omega
    simp only [m_laws_heldMailS_L1]
    rw [if_pos (lt_at hi)]
    simp (maxSteps := 2000000) only [idx_at hi, Option.bind_some, wrapn hp, w0, w1, w2, bne_self_eq_false, beq_self_eq_true, Bool.not_true, Bool.false_eq_true, if_false]
    rw [hE]
theorem M.MailS.p_mark (xs : List M.Mail) (hx : (xs.length ≤ maxLen ∧ ∀ y ∈ xs, M.Mail.ok y)) (k : Int) (h0 : 0 ≤ k) (hB : k + ((szSum M.Mail.cnt xs : Nat) : Int) ≤ KB) : ∃ ys, m_laws_markMailS xs k = some (ys, k + ((szSum M.Mail.cnt xs : Nat) : Int)) ∧ m_laws_heldMailS ys k = some (k + ((szSum M.Mail.cnt xs : Nat) : Int)) ∧ ys.length = xs.length := by
  have hm := le_max hx.1
  obtain ⟨ys, h1, h2, h3⟩ := markHeld (ML := m_laws_markMailS_L1) (HL := m_laws_heldMailS_L1) (c := M.Mail.cnt) (ok := M.Mail.ok) (fun x hx k h0 hB => M.Mail.mstep x hx k h0 hB) (fun n k l => by simp only [m_laws_markMailS_L1]; rw [if_neg (by rw [nlt_nat]; simp)]) (fun n k l => by simp only [m_laws_heldMailS_L1]; rw [if_neg (by rw [nlt_nat]; simp)]) xs [] fuel k (by simpa using hx.1) (by unfold fuel; omega) hx.2 h0 hB
  refine ⟨ys, by unfold m_laws_markMailS; simpa using h2, by unfold m_laws_heldMailS; simpa using h3 fuel (by unfold fuel; omega), h1⟩
def M.Channel.cnts (x : M.Channel) : Nat := (szSum M.Mail.cnt x.Mails)
theorem M.Channel.p_mark (x : M.Channel) (hx : M.Channel.ok x) (k : Int) (h0 : 0 ≤ k) (hB : k + ((M.Channel.cnts x : Nat) : Int) ≤ KB) : ∃ y1, m_laws_markChannel x k = some (y1, k + ((M.Channel.cnts x : Nat) : Int)) ∧ m_laws_heldChannel (⟨y1⟩ : M.Channel) k = some (k + ((M.Channel.cnts x : Nat) : Int)) := by
  unfold KB at hB; unfold M.Channel.cnts at hB ⊢
  obtain ⟨y1, a1, b1, _⟩ := M.MailS.p_mark _ hx.Mails (k) (by omega) (by unfold KB; omega)
  refine ⟨y1, ?_, ?_⟩
  · unfold m_laws_markChannel
    simp only [a1, Option.bind_some]
    try (simp only [Option.some.injEq, Prod.mk.injEq, true_and]; omega)
  · unfold m_laws_heldChannel
    simp (disch := (first | omega | (unfold KB; omega))) only [b1, Option.bind_some, dk, Bool.false_eq_true, if_false]
    try (simp only [Option.some.injEq]; omega)
theorem M.Mail.cntle (x : M.Mail) : M.Mail.cnt x ≤ 40 := by
  unfold M.Mail.cnt
  omega
theorem M.MailS.cntle (xs : List M.Mail) : szSum M.Mail.cnt xs ≤ 40 * (xs.length) := Nat.le_trans (szSum_const (fun x _ => M.Mail.cntle x)) (by omega)
theorem M.Channel.cntsle (x : M.Channel) : M.Channel.cnts x ≤ 40 * M.Channel.sz x := by
  unfold M.Channel.cnts
  simp only [M.Channel.sz]
  have := M.MailS.cntle x.Mails
  omega
end Go.Proofs.Ytkplkdhaclhgaaa.gen
