/-
  Helper text: the plain laws of sz, to and eq. No conditions beyond those of each law.
-/
import Derived.Test.YtfcfdnmhpdgjfaaCacheCompleteMod
namespace Go.Proofs.Ytfcfdnmhpdgjfaa.gen
open Go Go.Sh
set_option linter.unusedVariables false
set_option linter.unusedSimpArgs false
theorem M.ByteS.p_sz (xs : List Int) (hx : okB xs) : Sz (m_laws_szByteS xs) (xs.length) := by
  intro l a b
  unfold m_laws_szByteS
  exact (Sz.str hx.1) l a b
theorem M.ByteS.p_to (xs : List Int) (hx : okB xs) (hs : xs.length ≤ 1048576) : m_laws_toByteS xs = some xs := by
  have hm := le_max hx.1
  unfold m_laws_toByteS
  rw [mkL_ok (by omega) (by omega), Option.bind_some]
  refine toLoop hx.1 (fun n k r hk hr => ?_) (fun n r => ?_) fuel 0 _ (by unfold fuel; omega) (by omega) (by simp) (by simp)
  · simp only [m_laws_toByteS_L1]
    rw [if_pos (lt_nat hk), idx_nat hk, Option.bind_some, idx_nat (by omega), Option.bind_some, wrapn (by omega), Int.toNat_natCast]
  · simp only [m_laws_toByteS_L1]
    rw [if_neg (by rw [nlt_nat]; simp)]
theorem M.ByteS.p_eq (xs : List Int) (hx : okB xs) : m_laws_eqByteS xs xs = some true := by
  have hm := le_max hx.1
  unfold m_laws_eqByteS
  rw [if_neg (by simp)]
  refine eqLoop hx.1 (fun n k hk => ?_) (fun n => ?_) fuel 0 (by unfold fuel; omega) (by omega)
  · simp only [m_laws_eqByteS_L1]
    rw [if_pos (lt_nat hk), idx_nat hk]
    simp [wrapn (show k < 9223372036854775807 by omega)]
  · simp only [m_laws_eqByteS_L1]
    rw [if_neg (by rw [nlt_nat]; simp)]
structure M.Response.ok (x : M.Response) : Prop where
  Type_ : inI x.Type_
  Status : inI x.Status
  Version : inI x.Version
  Body : okB x.Body
def M.Response.sh : List Shp := [.int .i64, .int .i64, .int .i64, .sl [.int .u8], .bool]
theorem M.Response.of_has (d : List D) (h : HasL M.Response.sh d) : ∃ x, d = M.Response.en x ∧ M.Response.ok x := by
  simp only [M.Response.sh, HasL, Has] at h
  obtain ⟨_, _, rfl, ⟨a1, rfl, w1⟩, _, _, rfl, ⟨a2, rfl, w2⟩, _, _, rfl, ⟨a3, rfl, w3⟩, _, _, rfl, ⟨_, rfl, w4, q4⟩, _, _, rfl, ⟨a5, rfl⟩, rfl⟩ := h
  obtain ⟨a4, rfl, e4⟩ := list_of_has has_b q4
  exact ⟨⟨a1, a2, a3, a4, a5⟩, rfl, ⟨wf_i64 w1, wf_i64 w2, wf_i64 w3, ⟨by simpa using w4, e4⟩⟩⟩
def M.Response.sz (x : M.Response) : Nat := x.Body.length
theorem M.Response.p_sz (x : M.Response) (hx : M.Response.ok x) : Sz (m_laws_szResponse x) (M.Response.sz x) := by
  intro l a b
  unfold m_laws_szResponse M.Response.sz
  exact (Sz.call (M.ByteS.p_sz _ hx.Body)) l a b
theorem M.Response.p_to (x : M.Response) (hx : M.Response.ok x) (hs : M.Response.sz x ≤ 1048576) : m_laws_toResponse x = some x := by
  unfold M.Response.sz at hs
  unfold m_laws_toResponse
  rw [M.ByteS.p_to _ hx.Body (by omega), Option.bind_some]
theorem M.Response.p_eq (x : M.Response) (hx : M.Response.ok x) : m_laws_eqResponse x x = some true := by
  simp [m_laws_eqResponse, M.ByteS.p_eq _ hx.Body]
structure M.Cached.ok (x : M.Cached) : Prop where
  Site : x.Site.size ≤ maxLen
  Path : x.Path.size ≤ maxLen
  Response : M.Response.ok x.Response
def M.Cached.sh : List Shp := [.str, .str, .int .i64, .int .i64, .int .i64, .sl [.int .u8], .bool]
theorem M.Cached.of_has (d : List D) (h : HasL M.Cached.sh d) : ∃ x, d = M.Cached.en x ∧ M.Cached.ok x := by
  simp only [M.Cached.sh, HasL, Has] at h
  obtain ⟨_, _, rfl, ⟨a1, rfl, w1⟩, _, _, rfl, ⟨a2, rfl, w2⟩, _, _, rfl, ⟨a3, rfl, w3⟩, _, _, rfl, ⟨a4, rfl, w4⟩, _, _, rfl, ⟨a5, rfl, w5⟩, _, _, rfl, ⟨_, rfl, w6, q6⟩, _, _, rfl, ⟨a7, rfl⟩, rfl⟩ := h
  obtain ⟨a6, rfl, e6⟩ := list_of_has has_b q6
  exact ⟨⟨a1, a2, ⟨a3, a4, a5, a6, a7⟩⟩, rfl, ⟨w1, w2, ⟨wf_i64 w3, wf_i64 w4, wf_i64 w5, ⟨by simpa using w6, e6⟩⟩⟩⟩
def M.Cached.sz (x : M.Cached) : Nat := x.Site.size + (x.Path.size + (M.Response.sz x.Response))
theorem M.Cached.p_sz (x : M.Cached) (hx : M.Cached.ok x) : Sz (m_laws_szCached x) (M.Cached.sz x) := by
  intro l a b
  unfold m_laws_szCached M.Cached.sz
  exact (Sz.seqStr hx.Site (Sz.seqStr hx.Path (Sz.call (M.Response.p_sz _ hx.Response)))) l a b
theorem M.Cached.p_to (x : M.Cached) (hx : M.Cached.ok x) (hs : M.Cached.sz x ≤ 1048576) : m_laws_toCached x = some x := by
  unfold M.Cached.sz at hs
  unfold m_laws_toCached
  rw [M.Response.p_to _ hx.Response (by omega), Option.bind_some]
theorem M.Cached.p_eq (x : M.Cached) (hx : M.Cached.ok x) : m_laws_eqCached x x = some true := by
  simp [m_laws_eqCached, M.Response.p_eq _ hx.Response]
theorem M.CachedS.p_sz (xs : List M.Cached) (hx : (xs.length ≤ maxLen ∧ ∀ y ∈ xs, M.Cached.ok y)) : Sz (m_laws_szCachedS xs) ((xs.length + szSum M.Cached.sz xs)) := by
  intro l a b
  unfold m_laws_szCachedS
  exact (Sz.list' hx.1 (fun x h => M.Cached.p_sz x (hx.2 x h)) (fun _ _ _ => rfl)) l a b
theorem M.CachedS.p_to (xs : List M.Cached) (hx : (xs.length ≤ maxLen ∧ ∀ y ∈ xs, M.Cached.ok y)) (hs : (xs.length + szSum M.Cached.sz xs) ≤ 1048576) : m_laws_toCachedS xs = some xs := by
  have hm := le_max hx.1
  unfold m_laws_toCachedS
  rw [mkL_ok (by omega) (by omega), Option.bind_some]
  refine toLoop hx.1 (fun n k r hk hr => ?_) (fun n r => ?_) fuel 0 _ (by unfold fuel; omega) (by omega) (by simp) (by simp)
  · simp only [m_laws_toCachedS_L1]
    rw [if_pos (lt_nat hk), idx_nat hk, Option.bind_some, M.Cached.p_to _ (hx.2 _ (List.getElem_mem hk)) (by have := szSum_le (f := M.Cached.sz) (List.getElem_mem hk); omega), Option.bind_some, idx_nat (by omega), Option.bind_some, wrapn (by omega), Int.toNat_natCast]
  · simp only [m_laws_toCachedS_L1]
    rw [if_neg (by rw [nlt_nat]; simp)]
theorem M.CachedS.p_eq (xs : List M.Cached) (hx : (xs.length ≤ maxLen ∧ ∀ y ∈ xs, M.Cached.ok y)) : m_laws_eqCachedS xs xs = some true := by
  have hm := le_max hx.1
  unfold m_laws_eqCachedS
  rw [if_neg (by simp)]
  refine eqLoop hx.1 (fun n k hk => ?_) (fun n => ?_) fuel 0 (by unfold fuel; omega) (by omega)
  · simp only [m_laws_eqCachedS_L1]
    rw [if_pos (lt_nat hk), idx_nat hk]
    simp [wrapn (show k < 9223372036854775807 by omega), M.Cached.p_eq _ (hx.2 _ (List.getElem_mem hk))]
  · simp only [m_laws_eqCachedS_L1]
    rw [if_neg (by rw [nlt_nat]; simp)]
structure M.Cache.ok (x : M.Cache) : Prop where
  Version : inI x.Version
  Entries : (x.Entries.length ≤ maxLen ∧ ∀ y ∈ x.Entries, M.Cached.ok y)
def M.Cache.sh : List Shp := [.int .i64, .sl M.Cached.sh]
theorem M.Cache.of_has (d : List D) (h : HasL M.Cache.sh d) : ∃ x, d = M.Cache.en x ∧ M.Cache.ok x := by
  simp only [M.Cache.sh, HasL, Has] at h
  obtain ⟨_, _, rfl, ⟨a1, rfl, w1⟩, _, _, rfl, ⟨_, rfl, w2, q2⟩, rfl⟩ := h
  obtain ⟨a2, rfl, e2⟩ := list_of_has M.Cached.of_has q2
  exact ⟨⟨a1, a2⟩, rfl, ⟨wf_i64 w1, ⟨by simpa using w2, e2⟩⟩⟩
def M.Cache.sz (x : M.Cache) : Nat := (x.Entries.length + szSum M.Cached.sz x.Entries)
theorem M.Cache.p_sz (x : M.Cache) (hx : M.Cache.ok x) : Sz (m_laws_szCache x) (M.Cache.sz x) := by
  intro l a b
  unfold m_laws_szCache M.Cache.sz
  exact (Sz.call (M.CachedS.p_sz _ hx.Entries)) l a b
theorem M.Cache.p_to (x : M.Cache) (hx : M.Cache.ok x) (hs : M.Cache.sz x ≤ 1048576) : m_laws_toCache x = some x := by
  unfold M.Cache.sz at hs
  unfold m_laws_toCache
  rw [M.CachedS.p_to _ hx.Entries (by omega), Option.bind_some]
theorem M.Cache.p_eq (x : M.Cache) (hx : M.Cache.ok x) : m_laws_eqCache x x = some true := by
  simp [m_laws_eqCache, M.CachedS.p_eq _ hx.Entries]
theorem M.CacheS.p_sz (xs : List M.Cache) (hx : (xs.length ≤ maxLen ∧ ∀ y ∈ xs, M.Cache.ok y)) : Sz (m_laws_szCacheS xs) ((xs.length + szSum M.Cache.sz xs)) := by
  intro l a b
  unfold m_laws_szCacheS
  exact (Sz.list' hx.1 (fun x h => M.Cache.p_sz x (hx.2 x h)) (fun _ _ _ => rfl)) l a b
theorem M.CacheS.p_to (xs : List M.Cache) (hx : (xs.length ≤ maxLen ∧ ∀ y ∈ xs, M.Cache.ok y)) (hs : (xs.length + szSum M.Cache.sz xs) ≤ 1048576) : m_laws_toCacheS xs = some xs := by
  have hm := le_max hx.1
  unfold m_laws_toCacheS
  rw [mkL_ok (by omega) (by omega), Option.bind_some]
  refine toLoop hx.1 (fun n k r hk hr => ?_) (fun n r => ?_) fuel 0 _ (by unfold fuel; omega) (by omega) (by simp) (by simp)
  · simp only [m_laws_toCacheS_L1]
    rw [if_pos (lt_nat hk), idx_nat hk, Option.bind_some, M.Cache.p_to _ (hx.2 _ (List.getElem_mem hk)) (by have := szSum_le (f := M.Cache.sz) (List.getElem_mem hk); omega), Option.bind_some, idx_nat (by omega), Option.bind_some, wrapn (by omega), Int.toNat_natCast]
  · simp only [m_laws_toCacheS_L1]
    rw [if_neg (by rw [nlt_nat]; simp)]
theorem M.CacheS.p_eq (xs : List M.Cache) (hx : (xs.length ≤ maxLen ∧ ∀ y ∈ xs, M.Cache.ok y)) : m_laws_eqCacheS xs xs = some true := by
  have hm := le_max hx.1
  unfold m_laws_eqCacheS
  rw [if_neg (by simp)]
  refine eqLoop hx.1 (fun n k hk => ?_) (fun n => ?_) fuel 0 (by unfold fuel; omega) (by omega)
  · simp only [m_laws_eqCacheS_L1]
    rw [if_pos (lt_nat hk), idx_nat hk]
    simp [wrapn (show k < 9223372036854775807 by omega), M.Cache.p_eq _ (hx.2 _ (List.getElem_mem hk))]
  · simp only [m_laws_eqCacheS_L1]
    rw [if_neg (by rw [nlt_nat]; simp)]
structure M.CacheSet.ok (x : M.CacheSet) : Prop where
  Caches : (x.Caches.length ≤ maxLen ∧ ∀ y ∈ x.Caches, M.Cache.ok y)
def M.CacheSet.sh : List Shp := [.sl M.Cache.sh]
theorem M.CacheSet.of_has (d : List D) (h : HasL M.CacheSet.sh d) : ∃ x, d = M.CacheSet.en x ∧ M.CacheSet.ok x := by
  simp only [M.CacheSet.sh, HasL, Has] at h
  obtain ⟨_, _, rfl, ⟨_, rfl, w1, q1⟩, rfl⟩ := h
  obtain ⟨a1, rfl, e1⟩ := list_of_has M.Cache.of_has q1
  exact ⟨⟨a1⟩, rfl, ⟨⟨by simpa using w1, e1⟩⟩⟩
def M.CacheSet.sz (x : M.CacheSet) : Nat := (x.Caches.length + szSum M.Cache.sz x.Caches)
theorem M.CacheSet.p_sz (x : M.CacheSet) (hx : M.CacheSet.ok x) : Sz (m_laws_szCacheSet x) (M.CacheSet.sz x) := by
  intro l a b
  unfold m_laws_szCacheSet M.CacheSet.sz
  exact (Sz.call (M.CacheS.p_sz _ hx.Caches)) l a b
theorem M.CacheSet.p_to (x : M.CacheSet) (hx : M.CacheSet.ok x) (hs : M.CacheSet.sz x ≤ 1048576) : m_laws_toCacheSet x = some x := by
  unfold M.CacheSet.sz at hs
  unfold m_laws_toCacheSet
  rw [M.CacheS.p_to _ hx.Caches (by omega), Option.bind_some]
theorem M.CacheSet.p_eq (x : M.CacheSet) (hx : M.CacheSet.ok x) : m_laws_eqCacheSet x x = some true := by
  simp [m_laws_eqCacheSet, M.CacheS.p_eq _ hx.Caches]
theorem M.StringS.p_sz (xs : List ByteArray) (hx : okS xs) : Sz (m_laws_szStringS xs) ((xs.length + szSum ByteArray.size xs)) := by
  intro l a b
  unfold m_laws_szStringS
  exact (Sz.strs hx (fun _ _ _ => rfl)) l a b
theorem M.StringS.p_to (xs : List ByteArray) (hx : okS xs) (hs : (xs.length + szSum ByteArray.size xs) ≤ 1048576) : m_laws_toStringS xs = some xs := by
  have hm := le_max hx.1
  unfold m_laws_toStringS
  rw [mkL_ok (by omega) (by omega), Option.bind_some]
  refine toLoop hx.1 (fun n k r hk hr => ?_) (fun n r => ?_) fuel 0 _ (by unfold fuel; omega) (by omega) (by simp) (by simp)
  · simp only [m_laws_toStringS_L1]
    rw [if_pos (lt_nat hk), idx_nat hk, Option.bind_some, idx_nat (by omega), Option.bind_some, wrapn (by omega), Int.toNat_natCast]
  · simp only [m_laws_toStringS_L1]
    rw [if_neg (by rw [nlt_nat]; simp)]
theorem M.StringS.p_eq (xs : List ByteArray) (hx : okS xs) : m_laws_eqStringS xs xs = some true := by
  have hm := le_max hx.1
  unfold m_laws_eqStringS
  rw [if_neg (by simp)]
  refine eqLoop hx.1 (fun n k hk => ?_) (fun n => ?_) fuel 0 (by unfold fuel; omega) (by omega)
  · simp only [m_laws_eqStringS_L1]
    rw [if_pos (lt_nat hk), idx_nat hk]
    simp [wrapn (show k < 9223372036854775807 by omega)]
  · simp only [m_laws_eqStringS_L1]
    rw [if_neg (by rw [nlt_nat]; simp)]
structure M.Site.ok (x : M.Site) : Prop where
  Name : x.Name.size ≤ maxLen
  Version : inI x.Version
  Files : okS x.Files
def M.Site.sh : List Shp := [.str, .int .i64, .sl [.str], .bool]
theorem M.Site.of_has (d : List D) (h : HasL M.Site.sh d) : ∃ x, d = M.Site.en x ∧ M.Site.ok x := by
  simp only [M.Site.sh, HasL, Has] at h
  obtain ⟨_, _, rfl, ⟨a1, rfl, w1⟩, _, _, rfl, ⟨a2, rfl, w2⟩, _, _, rfl, ⟨_, rfl, w3, q3⟩, _, _, rfl, ⟨a4, rfl⟩, rfl⟩ := h
  obtain ⟨a3, rfl, e3⟩ := list_of_has has_s q3
  exact ⟨⟨a1, a2, a3, a4⟩, rfl, ⟨w1, wf_i64 w2, ⟨by simpa using w3, e3⟩⟩⟩
def M.Site.sz (x : M.Site) : Nat := x.Name.size + ((x.Files.length + szSum ByteArray.size x.Files))
theorem M.Site.p_sz (x : M.Site) (hx : M.Site.ok x) : Sz (m_laws_szSite x) (M.Site.sz x) := by
  intro l a b
  unfold m_laws_szSite M.Site.sz
  exact (Sz.seqStr hx.Name (Sz.call (M.StringS.p_sz _ hx.Files))) l a b
theorem M.Site.p_to (x : M.Site) (hx : M.Site.ok x) (hs : M.Site.sz x ≤ 1048576) : m_laws_toSite x = some x := by
  unfold M.Site.sz at hs
  unfold m_laws_toSite
  rw [M.StringS.p_to _ hx.Files (by omega), Option.bind_some]
theorem M.Site.p_eq (x : M.Site) (hx : M.Site.ok x) : m_laws_eqSite x x = some true := by
  simp [m_laws_eqSite, M.StringS.p_eq _ hx.Files]
end Go.Proofs.Ytfcfdnmhpdgjfaa.gen
