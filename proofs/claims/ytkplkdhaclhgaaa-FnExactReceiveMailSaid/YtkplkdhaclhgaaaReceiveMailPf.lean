/-
  Helper text: plain laws of the functions. No conditions beyond those of each law.
-/
import Derived.Test.YtkplkdhaclhgaaaReceiveMailPm
namespace Go.Proofs.Ytkplkdhaclhgaaa.gen
open Go Go.Sh
set_option linter.unusedVariables false
set_option linter.unusedSimpArgs false
theorem p_IndexFunc_Mail {p : M.Mail → Option Bool} {f : M.Mail → Bool} {xs : List M.Mail} (hx : xs.length ≤ maxLen) (hp : ∀ x ∈ xs, p x = some (f x)) : m_slices_IndexFunc_Mail xs p = some (fidx f xs) := by
  have hm := le_max hx
  unfold m_slices_IndexFunc_Mail
  rw [findAll (L := m_slices_IndexFunc_Mail_L1 xs p) (f := f) (A := fun i => some (i : Int)) (E := some (-1)) hx (fun n k hk => by
    simp only [m_slices_IndexFunc_Mail_L1]
    rw [if_pos (lt_nat hk), idx_nat hk, Option.bind_some, hp _ (List.getElem_mem hk), Option.bind_some, wrapn (by omega)]) (fun n => by
    simp only [m_slices_IndexFunc_Mail_L1]
    rw [if_neg (by rw [nlt_nat]; simp)]), fidx_some]
end Go.Proofs.Ytkplkdhaclhgaaa.gen
