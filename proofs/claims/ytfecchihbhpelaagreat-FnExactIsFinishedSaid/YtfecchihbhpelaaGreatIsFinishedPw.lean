/-
  Helper text: plain laws of the functions. No conditions beyond those of each law.
-/
import Derived.Test.YtfecchihbhpelaaGreatIsFinishedPz
namespace Go.Proofs.YtfecchihbhpelaaGreat.gen
open Go Go.Sh
set_option linter.unusedVariables false
set_option linter.unusedSimpArgs false
theorem p_IndexFunc_Page {p : M.Page → Option Bool} {f : M.Page → Bool} {xs : List M.Page} (hx : xs.length ≤ maxLen) (hp : ∀ x ∈ xs, p x = some (f x)) : m_slices_IndexFunc_Page xs p = some (fidx f xs) := by
  have hm := le_max hx
  unfold m_slices_IndexFunc_Page
  rw [findAll (L := m_slices_IndexFunc_Page_L1 xs p) (f := f) (A := fun i => some (i : Int)) (E := some (-1)) hx (fun n k hk => by
    simp only [m_slices_IndexFunc_Page_L1]
    rw [if_pos (lt_nat hk), idx_nat hk, Option.bind_some, hp _ (List.getElem_mem hk), Option.bind_some, wrapn (by omega)]) (fun n => by
    simp only [m_slices_IndexFunc_Page_L1]
    rw [if_neg (by rw [nlt_nat]; simp)]), fidx_some]
theorem p_l26Page {l : List M.Page} {f : Int} (hl : l.length ≤ maxLen) : m_spec_l26Page l f = some (fidx (fun p : M.Page => p.Id == f) l) := by
  have hm := le_max hl
  unfold m_spec_l26Page
  rw [findAll (L := m_spec_l26Page_L1 l f) (f := fun p : M.Page => p.Id == f) (A := fun i => some (i : Int)) (E := some (-1)) hl (fun m k hk => ?_) (fun m => ?_), fidx_some]
  · simp only [m_spec_l26Page_L1]
    rw [if_pos (lt_nat hk), idx_nat hk, Option.bind_some, wrapn (by omega)]
  · simp only [m_spec_l26Page_L1]
    rw [if_neg (by rw [nlt_nat]; simp)]
def nPageAt (w : M.World) (f : Int) : Int := fidx (fun p : M.Page => p.Id == f) w.Pages
theorem p_spec_PageIndex {w : M.World} {f : Int} (hw : w.ok) : m_spec_PageIndex w f = some (nPageAt w f) := by
  unfold m_spec_PageIndex
  rw [p_l26Page hw.Pages.1, Option.bind_some]
  rfl
theorem p_impl_PageIndex {w : M.World} {f : Int} (hw : w.ok) : m_impl_PageIndex w f = some (nPageAt w f) := by
  unfold m_impl_PageIndex
  rw [p_IndexFunc_Page (p := fun z0 => m_impl_PageIndex_1 z0 f) (f := fun p : M.Page => p.Id == f) hw.Pages.1 (fun x _ => rfl), Option.bind_some]
  rfl
def nFin (w : M.World) (f : Int) : Bool := if nPageAt w f < 0 then false else ((w.Pages[(nPageAt w f).toNat]?).map fun p => p.Machine.Done).getD false
theorem fin_no {w : M.World} {f : Int} (h : nPageAt w f < 0) : nFin w f = false := by unfold nFin; rw [if_pos h]
theorem fin_at {w : M.World} {f : Int} {j : Nat} (hj : nPageAt w f = (j : Int)) (hlt : j < w.Pages.length) : nFin w f = w.Pages[j].Machine.Done := by
  unfold nFin
  rw [if_neg (by omega), hj, Int.toNat_natCast, List.getElem?_eq_getElem hlt]
  rfl
theorem p_spec_IsFinished {w : M.World} {f : Int} (hw : w.ok) : m_spec_IsFinished w f = some (nFin w f) := by
  unfold m_spec_IsFinished
  rw [p_spec_PageIndex hw, Option.bind_some]
  by_cases h : nPageAt w f < 0
  · rw [if_neg (by simp; omega), fin_no h]
  · obtain ⟨j, hj, hlt⟩ := fidx_nat h
    rw [if_pos (by simp; omega), fin_at hj hlt, show nPageAt w f = (j : Int) from hj, idx_nat hlt, Option.bind_some]
theorem p_impl_IsFinished {w : M.World} {f : Int} (hw : w.ok) : m_impl_IsFinished w f = some (nFin w f) := by
  unfold m_impl_IsFinished
  rw [p_impl_PageIndex hw, Option.bind_some]
  by_cases h : nPageAt w f < 0
  · rw [if_neg (by simp; omega), fin_no h]
  · obtain ⟨j, hj, hlt⟩ := fidx_nat h
    rw [if_pos (by simp; omega), fin_at hj hlt, show nPageAt w f = (j : Int) from hj, idx_nat hlt, Option.bind_some]

end Go.Proofs.YtfecchihbhpelaaGreat.gen
