/-
  Helper text: plain laws of the functions. No conditions beyond those of each law.
-/
import Derived.Test.YtmpbibngijnfeaaGreatUPe
namespace Go.Proofs.YtmpbibngijnfeaaGreat.gen
open Go Go.Sh
set_option linter.unusedVariables false
set_option linter.unusedSimpArgs false
theorem reg_some {p : M.Registration} (hs : p.Site.size ≤ maxLen) : ∀ (n k : Nat) (v : Int), k ≤ 3 → 3 - k < n → ∃ r, m_spec_IsRegistration_L1 p n v (k : Int) = some r
  | 0, k, v, _, h => by omega
  | n + 1, k, v, h3, h => by
    simp only [m_spec_IsRegistration_L1]
    have hl : (List.length ([p.Active, p.Waiting, p.Installing])) = 3 := rfl
    by_cases hk : k < 3
    · rw [if_pos (by simp; omega), idx_nat (by rw [hl]; exact hk), Option.bind_some, p_spec_l1In, Option.bind_some, wrapn (by omega)]
      obtain ⟨r1, e1⟩ := reg_some hs n (k + 1) ([p.Active, p.Waiting, p.Installing][k]'(by rw [hl]; exact hk)) (by omega) (by omega)
      obtain ⟨r2, e2⟩ := reg_some hs n (k + 1) v (by omega) (by omega)
      rw [e1, e2]
      repeat' split
      all_goals exact ⟨_, rfl⟩
    · have : k = 3 := by omega
      subst this
      rw [if_neg (by simp), p_spec_IsName hs]
      exact ⟨_, rfl⟩
theorem reg_same {p : M.Registration} (hs : p.Site.size ≤ maxLen) : ∀ (n : Nat) (v k : Int), 0 ≤ v → m_impl_IsRegistration_L1 p n v k = m_spec_IsRegistration_L1 p n v k
  | 0, _, _, _ => rfl
  | n + 1, v, k, hv => by
    simp only [m_impl_IsRegistration_L1, m_spec_IsRegistration_L1]
    rw [p_spec_IsName hs, p_impl_IsName hs]
    cases hx : idx ([p.Active, p.Waiting, p.Installing]) k with
    | none => rfl
    | some x =>
      simp only [Option.bind_some, p_spec_l1In, p_impl_InRange]
      cases hi : inR x 0 1000000000000 with
      | false => rfl
      | true =>
        have h0 : 0 ≤ x := by unfold inR at hi; simp at hi; exact hi.1
        by_cases e0 : x = 0
        · subst e0
          have : (if (0 : Int) > v then (0 : Int) else v) = v := by rw [if_neg (by omega)]
          rw [this, reg_same hs n v _ hv]
          rfl
        · by_cases e1 : x ≤ v
          · have e2 : (decide (x ≤ v)) = true := by simpa using e1
            simp [e0, e1]
          · have : (if x > v then x else v) = x := by rw [if_pos (by omega)]
            rw [this, reg_same hs n x _ h0]
            simp [e0, e1]
def nReg (p : M.Registration) : Bool := (m_spec_IsRegistration p).getD false
theorem p_spec_IsRegistration {p : M.Registration} (hp : p.ok) : m_spec_IsRegistration p = some (nReg p) := by
  obtain ⟨r, e⟩ := reg_some hp.Site fuel 0 0 (by omega) (by unfold fuel; omega)
  have e2 : m_spec_IsRegistration p = some r := e
  unfold nReg
  rw [e2]; rfl
theorem p_impl_IsRegistration {p : M.Registration} (hp : p.ok) : m_impl_IsRegistration p = some (nReg p) := by
  rw [← p_spec_IsRegistration hp]
  exact reg_same hp.Site fuel 0 0 (by omega)

end Go.Proofs.YtmpbibngijnfeaaGreat.gen
