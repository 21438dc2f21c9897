/-
  Helper text: plain laws of the functions. No conditions beyond those of each law.
-/
import Derived.Test.YtmpbibngijnfeaaGreatUPd
namespace Go.Proofs.YtmpbibngijnfeaaGreat.gen
open Go Go.Sh
set_option linter.unusedVariables false
set_option linter.unusedSimpArgs false
theorem fidx_first {α : Type} {f : α → Bool} {xs : List α} {k : Nat} (hk : k < xs.length) (hf : f xs[k] = true) : (fidx f xs == (k : Int)) = (List.range k).all (fun j => !((xs[j]?).any f)) := by
  rw [Bool.eq_iff_iff]
  simp only [beq_iff_eq, List.all_eq_true, List.mem_range]
  constructor
  · intro h j hj
    unfold fidx at h
    cases e : xs.findIdx? f with
    | none => rw [e] at h; simp only at h; omega
    | some i =>
      rw [e] at h
      simp only at h
      have : i = k := by omega
      subst this
      have := (List.findIdx?_eq_some_iff_getElem.1 e).2.2 j hj
      rw [List.getElem?_eq_getElem (by omega)]
      simpa using this
  · intro h
    have e : xs.findIdx? f = some k := List.findIdx?_eq_some_iff_getElem.2 ⟨hk, hf, fun j hj => by
      have := h j hj
      rw [List.getElem?_eq_getElem (by omega)] at this
      simpa using this⟩
    unfold fidx
    rw [e]
def nEntry' (a b : ByteArray) (x : M.Cached) : Bool := (x.Site.toList == a.toList) && (x.Path.toList == b.toList)
theorem p_impl_entryAt' {c : M.Cache} {a b : ByteArray} (hc : c.ok) : m_impl_entryAt c a b = some (fidx (nEntry' a b) c.Entries) := by
  unfold m_impl_entryAt
  rw [p_IndexFunc_Cached (f := nEntry' a b) hc.Entries.1 (fun x _ => by simp only [m_impl_entryAt_1, ite_and]; rfl), Option.bind_some]
def nRespOk (r : M.Response) : Bool := inR r.Type_ 1 4 && (inR r.Status 0 999 && (inR r.Version 0 1000000000000 && decide ((List.length r.Body : Int) ≤ 60)))
theorem p_spec_IsResponse (r : M.Response) : m_spec_IsResponse r = some (nRespOk r) := by
  unfold m_spec_IsResponse nRespOk
  simp only [p_spec_l1In, Option.bind_some, ite_and]
theorem p_impl_IsResponse (r : M.Response) : m_impl_IsResponse r = some (nRespOk r) := by
  unfold m_impl_IsResponse nRespOk
  simp only [p_impl_InRange, Option.bind_some, ite_and]
def nUniq (l : List M.Cached) (k : Nat) (x : M.Cached) : Bool := (List.range k).all fun j => !((l[j]?).any (nEntry' x.Site x.Path))
def nEntryAt (l : List M.Cached) (k : Nat) : Bool := (l[k]?).any fun x => nName x.Site && (nName x.Path && (nRespOk x.Response && nUniq l k x))
def nEntries (l : List M.Cached) : Bool := (List.range l.length).all (nEntryAt l) && decide (l.length ≤ 12)
theorem p_spec_l17Entries {l : List M.Cached} (hl : l.length ≤ maxLen ∧ ∀ x ∈ l, M.Cached.ok x) : m_spec_l17Entries l = some (nEntries l) := by
  have hm := le_max hl.1
  unfold m_spec_l17Entries nEntries
  rw [chkAll (L := m_spec_l17Entries_L1 l) (g := nEntryAt l) (F := some false) (E := some (decide (l.length ≤ 12))) hl.1 (fun n k hk => ?_) (fun n => ?_), ite_and]
  · have hf := hl.2 _ (List.getElem_mem hk)
    simp only [m_spec_l17Entries_L1]
    rw [if_pos (lt_nat hk), idx_nat hk, Option.bind_some, wrapn (by omega), p_spec_IsName hf.Site, Option.bind_some, p_spec_IsName hf.Path, Option.bind_some, p_spec_IsResponse, Option.bind_some]
    rw [chkAll (N := k) (L := m_spec_l17Entries_L2 l (k : Int) l[k] (fun _ => m_spec_l17Entries_L1 l n ((k + 1 : Nat) : Int))) (g := fun j => !((l[j]?).any (nEntry' l[k].Site l[k].Path))) (F := some false) (E := m_spec_l17Entries_L1 l n ((k + 1 : Nat) : Int)) (by have := hl.1; omega) (fun n j hj => ?_) (fun n => ?_)]
    · unfold nEntryAt nUniq
      rw [List.getElem?_eq_getElem hk, Option.any_some]
      simp only [flip_not, ite2]
    · have hj2 : j < l.length := by omega
      simp only [m_spec_l17Entries_L2]
      rw [if_pos (lt_nat hj), idx_nat hj2, Option.bind_some, wrapn (by omega), ite2, List.getElem?_eq_getElem hj2, Option.any_some, flip_not]
      rfl
    · simp only [m_spec_l17Entries_L2]
      rw [if_neg (by rw [nlt_nat]; simp)]
  · simp only [m_spec_l17Entries_L1]
    rw [if_neg (by rw [nlt_nat]; simp)]
    simp; omega
theorem p_impl_entriesL2 {c : M.Cache} {Z : Option Bool} (hc : c.ok) : m_impl_IsCacheSet_L2 c (fun _ => Z) fuel 0 = if (List.range c.Entries.length).all (nEntryAt c.Entries) = true then Z else some false := by
  have hm := le_max hc.Entries.1
  refine chkAll (L := m_impl_IsCacheSet_L2 c (fun _ => Z)) hc.Entries.1 (fun n k hk => ?_) (fun n => ?_)
  · have hf := hc.Entries.2 _ (List.getElem_mem hk)
    simp only [m_impl_IsCacheSet_L2]
    rw [if_pos (lt_nat hk), idx_nat hk, Option.bind_some, wrapn (by omega), p_impl_IsName hf.Site, Option.bind_some, p_impl_IsName hf.Path, Option.bind_some, p_impl_entryAt' hc, Option.bind_some, p_impl_IsResponse, Option.bind_some, flip_bne, fidx_first hk (by simp [nEntry'])]
    unfold nEntryAt nUniq
    rw [List.getElem?_eq_getElem hk, Option.any_some]
    generalize m_impl_IsCacheSet_L2 c (fun _ => Z) n ((k + 1 : Nat) : Int) = Y
    generalize nName c.Entries[k].Site = a
    generalize nName c.Entries[k].Path = b
    generalize nRespOk c.Entries[k].Response = d
    generalize (List.range k).all (fun j => !((c.Entries[j]?).any (nEntry' c.Entries[k].Site c.Entries[k].Path))) = e
    cases a <;> cases b <;> cases d <;> cases e <;> rfl
  · simp only [m_impl_IsCacheSet_L2]
    rw [if_neg (by rw [nlt_nat]; simp)]
theorem p_impl_entriesL3 {c : M.Cache} {Z : Option Bool} (hc : c.ok) : m_impl_IsCacheSet_L3 c (fun _ => Z) fuel 0 = if (List.range c.Entries.length).all (nEntryAt c.Entries) = true then Z else some false := by
  have hm := le_max hc.Entries.1
  refine chkAll (L := m_impl_IsCacheSet_L3 c (fun _ => Z)) hc.Entries.1 (fun n k hk => ?_) (fun n => ?_)
  · have hf := hc.Entries.2 _ (List.getElem_mem hk)
    simp only [m_impl_IsCacheSet_L3]
    rw [if_pos (lt_nat hk), idx_nat hk, Option.bind_some, wrapn (by omega), p_impl_IsName hf.Site, Option.bind_some, p_impl_IsName hf.Path, Option.bind_some, p_impl_entryAt' hc, Option.bind_some, p_impl_IsResponse, Option.bind_some, flip_bne, fidx_first hk (by simp [nEntry'])]
    unfold nEntryAt nUniq
    rw [List.getElem?_eq_getElem hk, Option.any_some]
    generalize m_impl_IsCacheSet_L3 c (fun _ => Z) n ((k + 1 : Nat) : Int) = Y
    generalize nName c.Entries[k].Site = a
    generalize nName c.Entries[k].Path = b
    generalize nRespOk c.Entries[k].Response = d
    generalize (List.range k).all (fun j => !((c.Entries[j]?).any (nEntry' c.Entries[k].Site c.Entries[k].Path))) = e
    cases a <;> cases b <;> cases d <;> cases e <;> rfl
  · simp only [m_impl_IsCacheSet_L3]
    rw [if_neg (by rw [nlt_nat]; simp)]
def nCacheAt (l : List M.Cache) (k : Nat) : Bool := (l[k]?).any (fun c => inR c.Version 1 1000000000000 && nEntries c.Entries) && (decide (k = 0) || (l[k - 1]?).any fun d => (l[k]?).any fun c => decide (d.Version < c.Version))
def nCacheSet (s : M.CacheSet) : Bool := (List.range s.Caches.length).all (nCacheAt s.Caches) && decide (s.Caches.length ≤ 4)
theorem p_spec_IsCacheSet {s : M.CacheSet} (hs : s.ok) : m_spec_IsCacheSet s = some (nCacheSet s) := by
  have hm := le_max hs.Caches.1
  unfold m_spec_IsCacheSet nCacheSet
  rw [chkAll (L := m_spec_IsCacheSet_L1 s) (g := nCacheAt s.Caches) (F := some false) (E := some (decide (s.Caches.length ≤ 4))) hs.Caches.1 (fun n k hk => ?_) (fun n => ?_), ite_and]
  · have hf := hs.Caches.2 _ (List.getElem_mem hk)
    simp only [m_spec_IsCacheSet_L1]
    rw [if_pos (lt_nat hk), idx_nat hk, Option.bind_some, wrapn (by omega), p_spec_l1In, Option.bind_some, p_spec_l17Entries hf.Entries]
    simp only [Option.bind_some]
    unfold nCacheAt
    rw [List.getElem?_eq_getElem hk]
    generalize m_spec_IsCacheSet_L1 s n ((k + 1 : Nat) : Int) = Z
    by_cases h0 : k = 0
    · subst h0
      simp only [Option.any_some]
      generalize inR s.Caches[0].Version 1 1000000000000 = a
      generalize nEntries s.Caches[0].Entries = b
      cases a <;> cases b <;> simp
    · have e : IntKind.i64.wrap ((k : Int) - 1) = ((k - 1 : Nat) : Int) := by rw [wrap_ok (by omega) (by omega)]; omega
      have hk1 : k - 1 < s.Caches.length := by omega
      rw [if_pos (c := (decide ((k : Int) > 0)) = true) (by simp; omega), e, idx_nat hk1, Option.bind_some, List.getElem?_eq_getElem hk1]
      simp only [Option.any_some, h0, decide_false, Bool.false_or]
      generalize inR s.Caches[k].Version 1 1000000000000 = a
      generalize nEntries s.Caches[k].Entries = b
      by_cases hc : s.Caches[k - 1].Version < s.Caches[k].Version
      · rw [if_neg (c := (decide (s.Caches[k - 1].Version ≥ s.Caches[k].Version)) = true) (by simp; omega)]
        cases a <;> cases b <;> simp [hc]
      · rw [if_pos (c := (decide (s.Caches[k - 1].Version ≥ s.Caches[k].Version)) = true) (by simp; omega)]
        cases a <;> cases b <;> simp [hc]
  · simp only [m_spec_IsCacheSet_L1]
    rw [if_neg (by rw [nlt_nat]; simp)]
    simp; omega
theorem p_impl_IsCacheSet {s : M.CacheSet} (hs : s.ok) : m_impl_IsCacheSet s = some (nCacheSet s) := by
  have hm := le_max hs.Caches.1
  unfold m_impl_IsCacheSet nCacheSet
  rw [chkAll (L := m_impl_IsCacheSet_L1 s) (g := nCacheAt s.Caches) (F := some false) (E := some (decide (s.Caches.length ≤ 4))) hs.Caches.1 (fun n k hk => ?_) (fun n => ?_), ite_and]
  · have hf := hs.Caches.2 _ (List.getElem_mem hk)
    simp only [m_impl_IsCacheSet_L1]
    rw [if_pos (lt_nat hk), idx_nat hk, Option.bind_some, wrapn (by omega), p_impl_InRange, Option.bind_some, p_impl_entriesL2 hf, p_impl_entriesL3 hf]
    unfold nCacheAt nEntries
    rw [List.getElem?_eq_getElem hk]
    generalize m_impl_IsCacheSet_L1 s n ((k + 1 : Nat) : Int) = Z
    have h12 : (decide ((List.length s.Caches[k].Entries : Int) > 12)) = !decide (s.Caches[k].Entries.length ≤ 12) := by
      by_cases h : s.Caches[k].Entries.length ≤ 12
      · simp [h]; omega
      · simp [h]; omega
    rw [h12]
    by_cases h0 : k = 0
    · subst h0
      simp only [Option.any_some]
      generalize inR s.Caches[0].Version 1 1000000000000 = a
      generalize (List.range s.Caches[0].Entries.length).all (nEntryAt s.Caches[0].Entries) = b
      generalize decide (s.Caches[0].Entries.length ≤ 12) = d
      cases a <;> cases b <;> cases d <;> simp
    · have e : IntKind.i64.wrap ((k : Int) - 1) = ((k - 1 : Nat) : Int) := by rw [wrap_ok (by omega) (by omega)]; omega
      have hk1 : k - 1 < s.Caches.length := by omega
      rw [if_pos (c := (decide ((k : Int) > 0)) = true) (by simp; omega), e, idx_nat hk1, Option.bind_some, List.getElem?_eq_getElem hk1]
      simp only [Option.any_some, h0, decide_false, Bool.false_or]
      generalize inR s.Caches[k].Version 1 1000000000000 = a
      generalize (List.range s.Caches[k].Entries.length).all (nEntryAt s.Caches[k].Entries) = b
      generalize decide (s.Caches[k].Entries.length ≤ 12) = d
      by_cases hc : s.Caches[k - 1].Version < s.Caches[k].Version
      · rw [if_neg (c := (decide (s.Caches[k].Version ≤ s.Caches[k - 1].Version)) = true) (by simp; omega)]
        cases a <;> cases b <;> cases d <;> simp [hc]
      · rw [if_pos (c := (decide (s.Caches[k].Version ≤ s.Caches[k - 1].Version)) = true) (by simp; omega)]
        cases a <;> cases b <;> cases d <;> simp [hc]
  · simp only [m_impl_IsCacheSet_L1]
    rw [if_neg (by rw [nlt_nat]; simp)]
    simp; omega

end Go.Proofs.YtmpbibngijnfeaaGreat.gen
