/-
  Helper text: plain laws of the functions. No conditions beyond those of each law.
-/
import Derived.Test.YtcpahpbjjnekkaaGreatPagesOfPm
namespace Go.Proofs.YtcpahpbjjnekkaaGreat.gen
open Go Go.Sh
set_option linter.unusedVariables false
set_option linter.unusedSimpArgs false
theorem p_spec_l14Script (x : List M.Instr) (hs : x.length ≤ 1073741824) : m_spec_l14Script x = some x := by
  unfold m_spec_l14Script
  rw [app0 hs (by omega), Option.bind_some]
theorem p_spec_l14Copy (x : M.Machine) (hs : M.Machine.sz x ≤ 1073741824) : m_spec_l14Copy x = some x := by
  simp only [M.Machine.sz] at hs
  unfold m_spec_l14Copy
  rw [p_spec_l14Script _ (by omega), Option.bind_some, app0 (by omega) (by omega), Option.bind_some]
theorem p_spec_l19Copy (x : M.Page) (hs : M.Page.sz x ≤ 1073741824) : m_spec_l19Copy x = some x := by
  simp only [M.Page.sz] at hs
  unfold m_spec_l19Copy
  rw [app0 (by omega) (by omega), Option.bind_some, p_spec_l14Copy _ (by omega), Option.bind_some]
theorem p_impl_copyMachine (x : M.Machine) (hs : M.Machine.sz x ≤ 1073741824) : m_impl_copyMachine x = some x := by
  simp only [M.Machine.sz] at hs
  unfold m_impl_copyMachine
  rw [app0 (by omega) (by omega), Option.bind_some, app0 (by omega) (by omega), Option.bind_some]
theorem p_impl_copyPage (x : M.Page) (hs : M.Page.sz x ≤ 1073741824) : m_impl_copyPage x = some x := by
  simp only [M.Page.sz] at hs
  unfold m_impl_copyPage
  rw [app0 (by omega) (by omega), Option.bind_some, p_impl_copyMachine _ (by omega), Option.bind_some]
theorem szSum_filter {α : Type} {f : α → Nat} (g : α → Bool) : ∀ xs : List α, szSum f (xs.filter g) ≤ szSum f xs
  | [] => Nat.le_refl _
  | x :: xs => by
    have := szSum_filter g xs (f := f)
    by_cases h : g x = true
    · rw [List.filter_cons_of_pos h]; simp only [szSum]; omega
    · rw [List.filter_cons_of_neg h]; simp only [szSum]; omega
theorem ite3 {α : Type} (a b : Bool) (x y : α) : (if a = true then (if b = true then x else y) else y) = if (a && b) = true then x else y := by cases a <;> cases b <;> rfl
def nOn (a b : ByteArray) (x : M.Page) : Bool := (x.Site.toList == a.toList) && (x.Top.toList == b.toList)
theorem p_spec_PagesOf {w : M.World} {a b : ByteArray} (hz : M.World.sz w ≤ 1048576) : m_spec_PagesOf w a b = some (w.Pages.filter (nOn a b)) := by
  have hl : w.Pages.length ≤ 1048576 := by simp only [M.World.sz] at hz; omega
  unfold m_spec_PagesOf
  refine filterAll (L := m_spec_PagesOf_L1 w a b) (b := 144) (E := some) (by unfold maxLen; omega) (by omega) (fun n r k hk => ?_) (fun n r => ?_)
  · have hz1 := szSum_le (f := M.Page.sz) (List.getElem_mem hk)
    simp only [M.World.sz] at hz
    simp only [m_spec_PagesOf_L1]
    rw [if_pos (lt_nat hk), idx_nat hk, Option.bind_some, p_spec_l19Copy _ (by omega), Option.bind_some, wrapn (by omega), ite3]
    rfl
  · simp only [m_spec_PagesOf_L1]
    rw [if_neg (by rw [nlt_nat]; simp)]
theorem p_impl_PagesOf {w : M.World} {a b : ByteArray} (hz : M.World.sz w ≤ 1048576) : m_impl_PagesOf w a b = some (w.Pages.filter (nOn a b)) := by
  have hl : w.Pages.length ≤ 1048576 := by simp only [M.World.sz] at hz; omega
  unfold m_impl_PagesOf
  refine filterAll (L := m_impl_PagesOf_L1 w a b) (b := 144) (E := some) (by unfold maxLen; omega) (by omega) (fun n r k hk => ?_) (fun n r => ?_)
  · have hz1 := szSum_le (f := M.Page.sz) (List.getElem_mem hk)
    simp only [M.World.sz] at hz
    simp only [m_impl_PagesOf_L1]
    rw [if_pos (lt_nat hk), idx_nat hk, Option.bind_some, p_impl_copyPage _ (by omega), Option.bind_some, wrapn (by omega), ite3]
    rfl
  · simp only [m_impl_PagesOf_L1]
    rw [if_neg (by rw [nlt_nat]; simp)]
theorem pagesOf_ok {w : M.World} (hw : w.ok) (f : M.Page → Bool) : ((w.Pages.filter f).length ≤ maxLen ∧ ∀ y ∈ w.Pages.filter f, M.Page.ok y) := ⟨Nat.le_trans (List.length_filter_le _ _) hw.Pages.1, fun y hy => hw.Pages.2 y (List.mem_filter.1 hy).1⟩
theorem pagesOf_sz {w : M.World} (hz : M.World.sz w ≤ 1048576) (f : M.Page → Bool) : (w.Pages.filter f).length + szSum M.Page.sz (w.Pages.filter f) ≤ 1048576 := by
  have := szSum_filter (f := M.Page.sz) f w.Pages
  have := List.length_filter_le f w.Pages
  simp only [M.World.sz] at hz
  omega
end Go.Proofs.YtcpahpbjjnekkaaGreat.gen
