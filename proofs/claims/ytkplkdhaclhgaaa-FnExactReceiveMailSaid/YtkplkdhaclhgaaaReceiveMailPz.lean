/-
  Helper text: the plain laws of sz, to and eq. No conditions beyond those of each law.
-/
import Derived.Test.YtkplkdhaclhgaaaReceiveMailMod
namespace Go.Proofs.Ytkplkdhaclhgaaa.gen
open Go Go.Sh
set_option linter.unusedVariables false
set_option linter.unusedSimpArgs false
structure M.Mail.ok (x : M.Mail) : Prop where
  To : inI x.To
  From : inI x.From
  N : inI x.N
def M.Mail.sh : List Shp := [.int .i64, .int .i64, .int .i64]
theorem M.Mail.of_has (d : List D) (h : HasL M.Mail.sh d) : ∃ x, d = M.Mail.en x ∧ M.Mail.ok x := by
  simp only [M.Mail.sh, HasL, Has] at h
  obtain ⟨_, _, rfl, ⟨a1, rfl, w1⟩, _, _, rfl, ⟨a2, rfl, w2⟩, _, _, rfl, ⟨a3, rfl, w3⟩, rfl⟩ := h
  exact ⟨⟨a1, a2, a3⟩, rfl, ⟨wf_i64 w1, wf_i64 w2, wf_i64 w3⟩⟩
theorem M.Mail.p_to (x : M.Mail) (hx : M.Mail.ok x) : m_laws_toMail x = some x := by
  unfold m_laws_toMail
  rfl
theorem M.Mail.p_eq (x : M.Mail) (hx : M.Mail.ok x) : m_laws_eqMail x x = some true := by
  simp [m_laws_eqMail]
theorem M.MailS.p_sz (xs : List M.Mail) (hx : (xs.length ≤ maxLen ∧ ∀ y ∈ xs, M.Mail.ok y)) : Sz (m_laws_szMailS xs) (xs.length) := by
  intro l a b
  unfold m_laws_szMailS
  exact (Sz.str hx.1) l a b
theorem M.MailS.p_to (xs : List M.Mail) (hx : (xs.length ≤ maxLen ∧ ∀ y ∈ xs, M.Mail.ok y)) (hs : xs.length ≤ 1048576) : m_laws_toMailS xs = some xs := by
  have hm := le_max hx.1
  unfold m_laws_toMailS
  rw [mkL_ok (by omega) (by omega), Option.bind_some]
  refine toLoop hx.1 (fun n k r hk hr => ?_) (fun n r => ?_) fuel 0 _ (by unfold fuel; omega) (by omega) (by simp) (by simp)
  · simp only [m_laws_toMailS_L1]
    rw [if_pos (lt_nat hk), idx_nat hk, Option.bind_some, M.Mail.p_to _ (hx.2 _ (List.getElem_mem hk)), Option.bind_some, idx_nat (by omega), Option.bind_some, wrapn (by omega), Int.toNat_natCast]
  · simp only [m_laws_toMailS_L1]
    rw [if_neg (by rw [nlt_nat]; simp)]
theorem M.MailS.p_eq (xs : List M.Mail) (hx : (xs.length ≤ maxLen ∧ ∀ y ∈ xs, M.Mail.ok y)) : m_laws_eqMailS xs xs = some true := by
  have hm := le_max hx.1
  unfold m_laws_eqMailS
  rw [if_neg (by simp)]
  refine eqLoop hx.1 (fun n k hk => ?_) (fun n => ?_) fuel 0 (by unfold fuel; omega) (by omega)
  · simp only [m_laws_eqMailS_L1]
    rw [if_pos (lt_nat hk), idx_nat hk]
    simp [wrapn (show k < 9223372036854775807 by omega), M.Mail.p_eq _ (hx.2 _ (List.getElem_mem hk))]
  · simp only [m_laws_eqMailS_L1]
    rw [if_neg (by rw [nlt_nat]; simp)]
structure M.Channel.ok (x : M.Channel) : Prop where
  Mails : (x.Mails.length ≤ maxLen ∧ ∀ y ∈ x.Mails, M.Mail.ok y)
def M.Channel.sh : List Shp := [.sl M.Mail.sh]
theorem M.Channel.of_has (d : List D) (h : HasL M.Channel.sh d) : ∃ x, d = M.Channel.en x ∧ M.Channel.ok x := by
  simp only [M.Channel.sh, HasL, Has] at h
  obtain ⟨_, _, rfl, ⟨_, rfl, w1, q1⟩, rfl⟩ := h
  obtain ⟨a1, rfl, e1⟩ := list_of_has M.Mail.of_has q1
  exact ⟨⟨a1⟩, rfl, ⟨⟨by simpa using w1, e1⟩⟩⟩
def M.Channel.sz (x : M.Channel) : Nat := x.Mails.length
theorem M.Channel.p_sz (x : M.Channel) (hx : M.Channel.ok x) : Sz (m_laws_szChannel x) (M.Channel.sz x) := by
  intro l a b
  unfold m_laws_szChannel M.Channel.sz
  exact (Sz.call (M.MailS.p_sz _ hx.Mails)) l a b
theorem M.Channel.p_to (x : M.Channel) (hx : M.Channel.ok x) (hs : M.Channel.sz x ≤ 1048576) : m_laws_toChannel x = some x := by
  unfold M.Channel.sz at hs
  unfold m_laws_toChannel
  rw [M.MailS.p_to _ hx.Mails (by omega), Option.bind_some]
theorem M.Channel.p_eq (x : M.Channel) (hx : M.Channel.ok x) : m_laws_eqChannel x x = some true := by
  simp [m_laws_eqChannel, M.MailS.p_eq _ hx.Mails]
end Go.Proofs.Ytkplkdhaclhgaaa.gen
