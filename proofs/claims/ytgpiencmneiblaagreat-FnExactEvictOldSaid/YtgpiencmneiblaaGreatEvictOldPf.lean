/-
  Helper text: plain laws of the functions. No conditions beyond those of each law.
-/
import Derived.Test.YtgpiencmneiblaaGreatEvictOldPm
namespace Go.Proofs.YtgpiencmneiblaaGreat.gen
open Go Go.Sh
set_option linter.unusedVariables false
set_option linter.unusedSimpArgs false
theorem p_IndexFunc_Page {p : M.Page → Option Bool} {f : M.Page → Bool} {xs : List M.Page} (hx : xs.length ≤ maxLen) (hp : ∀ x ∈ xs, p x = some (f x)) : m_slices_IndexFunc_Page xs p = some (fidx f xs) := by
  have hm := le_max hx
  unfold m_slices_IndexFunc_Page
  rw [findAll (L := m_slices_IndexFunc_Page_L1 xs p) (f := f) (A := fun i => some (i : Int)) (E := some (-1)) hx (fun n k hk => by
    simp only [m_slices_IndexFunc_Page_L1]
    rw [if_pos (lt_nat hk), idx_nat hk, Option.bind_some, hp _ (List.getElem_mem hk), Option.bind_some, wrapn (by omega)]) (fun n => by
    simp only [m_slices_IndexFunc_Page_L1]
    rw [if_neg (by rw [nlt_nat]; simp)]), fidx_some]
theorem p_ContainsFunc_Page {p : M.Page → Option Bool} {f : M.Page → Bool} {xs : List M.Page} (hx : xs.length ≤ maxLen) (hp : ∀ x ∈ xs, p x = some (f x)) : m_slices_ContainsFunc_Page xs p = some (xs.any f) := by
  unfold m_slices_ContainsFunc_Page
  rw [p_IndexFunc_Page hx hp, Option.bind_some, fidx_any]
def nBack (n : Int) : Int := if n < -1000000000000 then n else IntKind.i64.wrap (n - 30)
def nSame (b : M.Bucket) (x : M.Page) : Bool := (x.Site.toList == b.Site.toList) && (x.Top.toList == b.Top.toList)
def nEvictable (b : M.Bucket) (l : List M.Page) (n : Int) : Bool := !(l.any (nSame b)) && (decide (b.LastUsed < nBack n) && (!b.Persistent && ((b.Replica.Sync.Outbox.Writes.length : Int) == 0)))
theorem p_spec_IsEvictable {b : M.Bucket} {l : List M.Page} {n : Int} (hl : l.length ≤ maxLen) : m_spec_IsEvictable b l n = some (nEvictable b l n) := by
  have hm := le_max hl
  have hb : m_spec_l28Back n = some (nBack n) := by
    unfold m_spec_l28Back nBack
    by_cases h : n < -1000000000000
    · rw [if_pos (by simpa using h), if_pos h]
    · rw [if_neg (by simpa using h), if_neg h]
  unfold m_spec_IsEvictable
  rw [findAll (L := m_spec_IsEvictable_L1 b l n) (f := nSame b) (A := fun _ => some false) (E := some (decide (b.LastUsed < nBack n) && (!b.Persistent && ((b.Replica.Sync.Outbox.Writes.length : Int) == 0)))) hl (fun m k hk => ?_) (fun m => ?_), find_any]
  · unfold nEvictable
    cases l.any (nSame b) <;> simp
  · simp only [m_spec_IsEvictable_L1]
    rw [if_pos (lt_nat hk), idx_nat hk, Option.bind_some, wrapn (by omega), ite2]
    rfl
  · simp only [m_spec_IsEvictable_L1]
    rw [if_neg (by rw [nlt_nat]; simp), hb, Option.bind_some, ite_and, ite_and]
theorem p_impl_IsEvictable {b : M.Bucket} {l : List M.Page} {n : Int} (hl : l.length ≤ maxLen) : m_impl_IsEvictable b l n = some (nEvictable b l n) := by
  have hc : m_slices_ContainsFunc_Page l (fun z0 => m_impl_IsEvictable_1 z0 b) = some (l.any (nSame b)) :=
    p_ContainsFunc_Page hl (fun x _ => by simp only [m_impl_IsEvictable_1, ite_and]; rfl)
  have key : ∀ L : Int, (if (decide (b.LastUsed ≥ L)) = true then some false else if b.Persistent = true then some false else if (decide ((List.length b.Replica.Sync.Outbox.Writes : Int) > 0)) = true then some false else some (!(l.any (nSame b)))) = some (!(l.any (nSame b)) && (decide (b.LastUsed < L) && (!b.Persistent && ((b.Replica.Sync.Outbox.Writes.length : Int) == 0)))) := by
    intro L
    by_cases h1 : b.LastUsed < L
    · rw [if_neg (by simp; omega)]
      cases b.Persistent with
      | true => simp
      | false =>
        by_cases h2 : b.Replica.Sync.Outbox.Writes.length = 0
        · rw [if_neg (by simp), if_neg (by simp [h2])]; simp [h1, h2]
        · rw [if_neg (by simp), if_pos (by simp; omega)]; simp [h2]
    · rw [if_pos (by simp; omega)]
      simp [h1]
  unfold m_impl_IsEvictable
  rw [hc]
  simp only [Option.bind_some, key]
  unfold nEvictable nBack
  by_cases h : n < -1000000000000
  · rw [if_neg (by simp; omega), if_pos h]
  · rw [if_pos (by simp; omega), if_neg h]
end Go.Proofs.YtgpiencmneiblaaGreat.gen
