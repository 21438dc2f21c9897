/-
  Helper text: plain laws of the functions. No conditions beyond those of each law.
-/
import Derived.Test.YtkplkdhaclhgaaaReceiveMailPf
namespace Go.Proofs.Ytkplkdhaclhgaaa.gen
open Go Go.Sh
set_option linter.unusedVariables false
set_option linter.unusedSimpArgs false
theorem slcHi_n {α : Type} {l : List α} {k : Nat} (h : k ≤ l.length) : slcHi l (k : Int) = some (l.take k) := by
  unfold slcHi
  rw [if_pos ⟨by omega, by simpa using h⟩, Int.toNat_natCast]
theorem slcLo_n {α : Type} {l : List α} {k : Nat} (h : k ≤ l.length) : slcLo l (k : Int) = some (l.drop k) := by
  unfold slcLo
  rw [if_pos ⟨by omega, by simpa using h⟩, Int.toNat_natCast]
theorem p_spec_l26Copy {x : M.Channel} (hz : x.Mails.length ≤ 1048576) : m_spec_l26Copy x = some x := by
  unfold m_spec_l26Copy
  rw [app0 (by omega) (by omega), Option.bind_some]
theorem p_impl_copyChannel {x : M.Channel} (hz : x.Mails.length ≤ 1048576) : m_impl_copyChannel x = some x := by
  unfold m_impl_copyChannel
  rw [app0 (by omega) (by omega), Option.bind_some]
def nTo (p : Int) (m : M.Mail) : Bool := m.To == p
theorem p_ReceiveMail {x : M.Channel} {p : Int} (hx : x.ok) (hz : x.Mails.length ≤ 1048576) : ∃ R : M.Channel × M.Mail × Bool, m_spec_ReceiveMail x p = some R ∧ m_impl_ReceiveMail x p = some R ∧ R.1.ok ∧ R.1.Mails.length ≤ x.Mails.length := by
  have hs : m_spec_ReceiveMail x p = (match x.Mails.findIdx? (nTo p) with
      | some k => some ((⟨x.Mails.take k ++ x.Mails.drop (k + 1)⟩ : M.Channel), (x.Mails[k]?).getD ⟨0, 0, 0⟩, true)
      | none => some (x, (⟨0, 0, 0⟩ : M.Mail), false)) := by
    unfold m_spec_ReceiveMail
    refine findAll (L := m_spec_ReceiveMail_L1 x p) (f := nTo p) (A := fun k => some ((⟨x.Mails.take k ++ x.Mails.drop (k + 1)⟩ : M.Channel), (x.Mails[k]?).getD ⟨0, 0, 0⟩, true)) (E := some (x, (⟨0, 0, 0⟩ : M.Mail), false)) hx.Mails.1 (fun m k hk => ?_) (fun m => ?_)
    · simp only [m_spec_ReceiveMail_L1]
      rw [if_pos (lt_nat hk), idx_nat hk, Option.bind_some, wrapn (by omega), slcHi_n (by omega), Option.bind_some, slcLo_n (by omega), Option.bind_some]
      simp only [Int.toNat_natCast]
      rw [app_ok (by simp only [List.length_nil, List.length_take]; omega), Option.bind_some, app_ok (by simp only [List.length_take, List.length_drop]; omega), Option.bind_some, List.getElem?_eq_getElem hk, Option.getD_some]
      rfl
    · simp only [m_spec_ReceiveMail_L1]
      rw [if_neg (by rw [nlt_nat]; simp), p_spec_l26Copy hz, Option.bind_some]
  have hi : m_slices_IndexFunc_Mail x.Mails (fun z0 => m_impl_ReceiveMail_1 z0 p) = some (fidx (nTo p) x.Mails) := p_IndexFunc_Mail (f := nTo p) hx.Mails.1 (fun y _ => by simp only [m_impl_ReceiveMail_1]; rfl)
  unfold m_impl_ReceiveMail
  rw [hs, p_impl_copyChannel hz, Option.bind_some, hi, Option.bind_some]
  unfold fidx
  cases hf : x.Mails.findIdx? (nTo p) with
  | none =>
    refine ⟨_, rfl, ?_, hx, Nat.le_refl _⟩
    simp only
    rw [if_pos (by simp)]
  | some k =>
    obtain ⟨hk, _⟩ := List.findIdx?_eq_some_iff_getElem.1 hf
    refine ⟨_, rfl, ?_, ?_, ?_⟩
    · simp only
      rw [if_neg (by simp), wrapn (by omega), delAt_ok ⟨by omega, by omega, by simp only [Int.toNat_natCast]; omega⟩, Option.bind_some, idx_nat hk, Option.bind_some, List.getElem?_eq_getElem hk, Option.getD_some]
      simp only [Int.toNat_natCast]
    · refine ⟨⟨?_, fun y hy => ?_⟩⟩
      · have := hx.Mails.1
        simp only [List.length_append, List.length_take, List.length_drop]
        omega
      · rcases List.mem_append.1 hy with hy | hy
        · exact hx.Mails.2 y (List.mem_of_mem_take hy)
        · exact hx.Mails.2 y (List.mem_of_mem_drop hy)
    · simp only [List.length_append, List.length_take, List.length_drop]
      omega

end Go.Proofs.Ytkplkdhaclhgaaa.gen
