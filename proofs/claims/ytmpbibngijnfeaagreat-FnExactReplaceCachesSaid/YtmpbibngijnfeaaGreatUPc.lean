/-
  Helper text: plain laws of the functions. No conditions beyond those of each law.
-/
import Derived.Test.YtmpbibngijnfeaaGreatUPb
namespace Go.Proofs.YtmpbibngijnfeaaGreat.gen
open Go Go.Sh
set_option linter.unusedVariables false
set_option linter.unusedSimpArgs false
theorem p_IndexFunc_Cached {p : M.Cached → Option Bool} {f : M.Cached → Bool} {xs : List M.Cached} (hx : xs.length ≤ maxLen) (hp : ∀ x ∈ xs, p x = some (f x)) : m_slices_IndexFunc_Cached xs p = some (fidx f xs) := by
  have hm := le_max hx
  unfold m_slices_IndexFunc_Cached
  rw [findAll (L := m_slices_IndexFunc_Cached_L1 xs p) (f := f) (A := fun i => some (i : Int)) (E := some (-1)) hx (fun n k hk => by
    simp only [m_slices_IndexFunc_Cached_L1]
    rw [if_pos (lt_nat hk), idx_nat hk, Option.bind_some, hp _ (List.getElem_mem hk), Option.bind_some, wrapn (by omega)]) (fun n => by
    simp only [m_slices_IndexFunc_Cached_L1]
    rw [if_neg (by rw [nlt_nat]; simp)]), fidx_some]
theorem p_IndexFunc_Store {p : M.Store → Option Bool} {f : M.Store → Bool} {xs : List M.Store} (hx : xs.length ≤ maxLen) (hp : ∀ x ∈ xs, p x = some (f x)) : m_slices_IndexFunc_Store xs p = some (fidx f xs) := by
  have hm := le_max hx
  unfold m_slices_IndexFunc_Store
  rw [findAll (L := m_slices_IndexFunc_Store_L1 xs p) (f := f) (A := fun i => some (i : Int)) (E := some (-1)) hx (fun n k hk => by
    simp only [m_slices_IndexFunc_Store_L1]
    rw [if_pos (lt_nat hk), idx_nat hk, Option.bind_some, hp _ (List.getElem_mem hk), Option.bind_some, wrapn (by omega)]) (fun n => by
    simp only [m_slices_IndexFunc_Store_L1]
    rw [if_neg (by rw [nlt_nat]; simp)]), fidx_some]
theorem p_IndexFunc_Field {p : M.Field → Option Bool} {f : M.Field → Bool} {xs : List M.Field} (hx : xs.length ≤ maxLen) (hp : ∀ x ∈ xs, p x = some (f x)) : m_slices_IndexFunc_Field xs p = some (fidx f xs) := by
  have hm := le_max hx
  unfold m_slices_IndexFunc_Field
  rw [findAll (L := m_slices_IndexFunc_Field_L1 xs p) (f := f) (A := fun i => some (i : Int)) (E := some (-1)) hx (fun n k hk => by
    simp only [m_slices_IndexFunc_Field_L1]
    rw [if_pos (lt_nat hk), idx_nat hk, Option.bind_some, hp _ (List.getElem_mem hk), Option.bind_some, wrapn (by omega)]) (fun n => by
    simp only [m_slices_IndexFunc_Field_L1]
    rw [if_neg (by rw [nlt_nat]; simp)]), fidx_some]
end Go.Proofs.YtmpbibngijnfeaaGreat.gen
