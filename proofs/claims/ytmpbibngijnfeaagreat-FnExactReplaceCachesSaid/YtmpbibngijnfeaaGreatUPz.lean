/-
  Helper text: the plain laws of sz, to and eq. No conditions beyond those of each law.
-/
import Derived.Test.YtmpbibngijnfeaaGreatUMod
namespace Go.Proofs.YtmpbibngijnfeaaGreat.gen
open Go Go.Sh
set_option linter.unusedVariables false
set_option linter.unusedSimpArgs false
structure M.Registration.ok (x : M.Registration) : Prop where
  Site : x.Site.size ≤ maxLen
  Installing : inI x.Installing
  Waiting : inI x.Waiting
  Active : inI x.Active
def M.Registration.sh : List Shp := [.str, .int .i64, .int .i64, .int .i64]
theorem M.Registration.of_has (d : List D) (h : HasL M.Registration.sh d) : ∃ x, d = M.Registration.en x ∧ M.Registration.ok x := by
  simp only [M.Registration.sh, HasL, Has] at h
  obtain ⟨_, _, rfl, ⟨a1, rfl, w1⟩, _, _, rfl, ⟨a2, rfl, w2⟩, _, _, rfl, ⟨a3, rfl, w3⟩, _, _, rfl, ⟨a4, rfl, w4⟩, rfl⟩ := h
  exact ⟨⟨a1, a2, a3, a4⟩, rfl, ⟨w1, wf_i64 w2, wf_i64 w3, wf_i64 w4⟩⟩
def M.Registration.sz (x : M.Registration) : Nat := x.Site.size
theorem M.Registration.p_sz (x : M.Registration) (hx : M.Registration.ok x) : Sz (m_laws_szRegistration x) (M.Registration.sz x) := by
  intro l a b
  unfold m_laws_szRegistration M.Registration.sz
  exact (Sz.str hx.Site) l a b
theorem M.Registration.p_to (x : M.Registration) (hx : M.Registration.ok x) (hs : M.Registration.sz x ≤ 1048576) : m_laws_toRegistration x = some x := by
  unfold M.Registration.sz at hs
  unfold m_laws_toRegistration
  rfl
theorem M.Registration.p_eq (x : M.Registration) (hx : M.Registration.ok x) : m_laws_eqRegistration x x = some true := by
  simp [m_laws_eqRegistration]
theorem M.ByteS.p_sz (xs : List Int) (hx : okB xs) : Sz (m_laws_szByteS xs) (xs.length) := by
  intro l a b
  unfold m_laws_szByteS
  exact (Sz.str hx.1) l a b
theorem M.ByteS.p_to (xs : List Int) (hx : okB xs) (hs : xs.length ≤ 1048576) : m_laws_toByteS xs = some xs := by
  have hm := le_max hx.1
  unfold m_laws_toByteS
  rw [mkL_ok (by omega) (by omega), Option.bind_some]
  refine toLoop hx.1 (fun n k r hk hr => ?_) (fun n r => ?_) fuel 0 _ (by unfold fuel; omega) (by omega) (by simp) (by simp)
  · simp only [m_laws_toByteS_L1]
    rw [if_pos (lt_nat hk), idx_nat hk, Option.bind_some, idx_nat (by omega), Option.bind_some, wrapn (by omega), Int.toNat_natCast]
  · simp only [m_laws_toByteS_L1]
    rw [if_neg (by rw [nlt_nat]; simp)]
theorem M.ByteS.p_eq (xs : List Int) (hx : okB xs) : m_laws_eqByteS xs xs = some true := by
  have hm := le_max hx.1
  unfold m_laws_eqByteS
  rw [if_neg (by simp)]
  refine eqLoop hx.1 (fun n k hk => ?_) (fun n => ?_) fuel 0 (by unfold fuel; omega) (by omega)
  · simp only [m_laws_eqByteS_L1]
    rw [if_pos (lt_nat hk), idx_nat hk]
    simp [wrapn (show k < 9223372036854775807 by omega)]
  · simp only [m_laws_eqByteS_L1]
    rw [if_neg (by rw [nlt_nat]; simp)]
structure M.Response.ok (x : M.Response) : Prop where
  Type_ : inI x.Type_
  Status : inI x.Status
  Version : inI x.Version
  Body : okB x.Body
def M.Response.sh : List Shp := [.int .i64, .int .i64, .int .i64, .sl [.int .u8], .bool]
theorem M.Response.of_has (d : List D) (h : HasL M.Response.sh d) : ∃ x, d = M.Response.en x ∧ M.Response.ok x := by
  simp only [M.Response.sh, HasL, Has] at h
  obtain ⟨_, _, rfl, ⟨a1, rfl, w1⟩, _, _, rfl, ⟨a2, rfl, w2⟩, _, _, rfl, ⟨a3, rfl, w3⟩, _, _, rfl, ⟨_, rfl, w4, q4⟩, _, _, rfl, ⟨a5, rfl⟩, rfl⟩ := h
  obtain ⟨a4, rfl, e4⟩ := list_of_has has_b q4
  exact ⟨⟨a1, a2, a3, a4, a5⟩, rfl, ⟨wf_i64 w1, wf_i64 w2, wf_i64 w3, ⟨by simpa using w4, e4⟩⟩⟩
def M.Response.sz (x : M.Response) : Nat := x.Body.length
theorem M.Response.p_sz (x : M.Response) (hx : M.Response.ok x) : Sz (m_laws_szResponse x) (M.Response.sz x) := by
  intro l a b
  unfold m_laws_szResponse M.Response.sz
  exact (Sz.call (M.ByteS.p_sz _ hx.Body)) l a b
theorem M.Response.p_to (x : M.Response) (hx : M.Response.ok x) (hs : M.Response.sz x ≤ 1048576) : m_laws_toResponse x = some x := by
  unfold M.Response.sz at hs
  unfold m_laws_toResponse
  rw [M.ByteS.p_to _ hx.Body (by omega), Option.bind_some]
theorem M.Response.p_eq (x : M.Response) (hx : M.Response.ok x) : m_laws_eqResponse x x = some true := by
  simp [m_laws_eqResponse, M.ByteS.p_eq _ hx.Body]
structure M.Cached.ok (x : M.Cached) : Prop where
  Site : x.Site.size ≤ maxLen
  Path : x.Path.size ≤ maxLen
  Response : M.Response.ok x.Response
def M.Cached.sh : List Shp := [.str, .str, .int .i64, .int .i64, .int .i64, .sl [.int .u8], .bool]
theorem M.Cached.of_has (d : List D) (h : HasL M.Cached.sh d) : ∃ x, d = M.Cached.en x ∧ M.Cached.ok x := by
  simp only [M.Cached.sh, HasL, Has] at h
  obtain ⟨_, _, rfl, ⟨a1, rfl, w1⟩, _, _, rfl, ⟨a2, rfl, w2⟩, _, _, rfl, ⟨a3, rfl, w3⟩, _, _, rfl, ⟨a4, rfl, w4⟩, _, _, rfl, ⟨a5, rfl, w5⟩, _, _, rfl, ⟨_, rfl, w6, q6⟩, _, _, rfl, ⟨a7, rfl⟩, rfl⟩ := h
  obtain ⟨a6, rfl, e6⟩ := list_of_has has_b q6
  exact ⟨⟨a1, a2, ⟨a3, a4, a5, a6, a7⟩⟩, rfl, ⟨w1, w2, ⟨wf_i64 w3, wf_i64 w4, wf_i64 w5, ⟨by simpa using w6, e6⟩⟩⟩⟩
def M.Cached.sz (x : M.Cached) : Nat := x.Site.size + (x.Path.size + (M.Response.sz x.Response))
theorem M.Cached.p_sz (x : M.Cached) (hx : M.Cached.ok x) : Sz (m_laws_szCached x) (M.Cached.sz x) := by
  intro l a b
  unfold m_laws_szCached M.Cached.sz
  exact (Sz.seqStr hx.Site (Sz.seqStr hx.Path (Sz.call (M.Response.p_sz _ hx.Response)))) l a b
theorem M.Cached.p_to (x : M.Cached) (hx : M.Cached.ok x) (hs : M.Cached.sz x ≤ 1048576) : m_laws_toCached x = some x := by
  unfold M.Cached.sz at hs
  unfold m_laws_toCached
  rw [M.Response.p_to _ hx.Response (by omega), Option.bind_some]
theorem M.Cached.p_eq (x : M.Cached) (hx : M.Cached.ok x) : m_laws_eqCached x x = some true := by
  simp [m_laws_eqCached, M.Response.p_eq _ hx.Response]
theorem M.CachedS.p_sz (xs : List M.Cached) (hx : (xs.length ≤ maxLen ∧ ∀ y ∈ xs, M.Cached.ok y)) : Sz (m_laws_szCachedS xs) ((xs.length + szSum M.Cached.sz xs)) := by
  intro l a b
  unfold m_laws_szCachedS
  exact (Sz.list' hx.1 (fun x h => M.Cached.p_sz x (hx.2 x h)) (fun _ _ _ => rfl)) l a b
theorem M.CachedS.p_to (xs : List M.Cached) (hx : (xs.length ≤ maxLen ∧ ∀ y ∈ xs, M.Cached.ok y)) (hs : (xs.length + szSum M.Cached.sz xs) ≤ 1048576) : m_laws_toCachedS xs = some xs := by
  have hm := le_max hx.1
  unfold m_laws_toCachedS
  rw [mkL_ok (by omega) (by omega), Option.bind_some]
  refine toLoop hx.1 (fun n k r hk hr => ?_) (fun n r => ?_) fuel 0 _ (by unfold fuel; omega) (by omega) (by simp) (by simp)
  · simp only [m_laws_toCachedS_L1]
    rw [if_pos (lt_nat hk), idx_nat hk, Option.bind_some, M.Cached.p_to _ (hx.2 _ (List.getElem_mem hk)) (by have := szSum_le (f := M.Cached.sz) (List.getElem_mem hk); omega), Option.bind_some, idx_nat (by omega), Option.bind_some, wrapn (by omega), Int.toNat_natCast]
  · simp only [m_laws_toCachedS_L1]
    rw [if_neg (by rw [nlt_nat]; simp)]
theorem M.CachedS.p_eq (xs : List M.Cached) (hx : (xs.length ≤ maxLen ∧ ∀ y ∈ xs, M.Cached.ok y)) : m_laws_eqCachedS xs xs = some true := by
  have hm := le_max hx.1
  unfold m_laws_eqCachedS
  rw [if_neg (by simp)]
  refine eqLoop hx.1 (fun n k hk => ?_) (fun n => ?_) fuel 0 (by unfold fuel; omega) (by omega)
  · simp only [m_laws_eqCachedS_L1]
    rw [if_pos (lt_nat hk), idx_nat hk]
    simp [wrapn (show k < 9223372036854775807 by omega), M.Cached.p_eq _ (hx.2 _ (List.getElem_mem hk))]
  · simp only [m_laws_eqCachedS_L1]
    rw [if_neg (by rw [nlt_nat]; simp)]
structure M.Cache.ok (x : M.Cache) : Prop where
  Version : inI x.Version
  Entries : (x.Entries.length ≤ maxLen ∧ ∀ y ∈ x.Entries, M.Cached.ok y)
def M.Cache.sh : List Shp := [.int .i64, .sl M.Cached.sh]
theorem M.Cache.of_has (d : List D) (h : HasL M.Cache.sh d) : ∃ x, d = M.Cache.en x ∧ M.Cache.ok x := by
  simp only [M.Cache.sh, HasL, Has] at h
  obtain ⟨_, _, rfl, ⟨a1, rfl, w1⟩, _, _, rfl, ⟨_, rfl, w2, q2⟩, rfl⟩ := h
  obtain ⟨a2, rfl, e2⟩ := list_of_has M.Cached.of_has q2
  exact ⟨⟨a1, a2⟩, rfl, ⟨wf_i64 w1, ⟨by simpa using w2, e2⟩⟩⟩
def M.Cache.sz (x : M.Cache) : Nat := (x.Entries.length + szSum M.Cached.sz x.Entries)
theorem M.Cache.p_sz (x : M.Cache) (hx : M.Cache.ok x) : Sz (m_laws_szCache x) (M.Cache.sz x) := by
  intro l a b
  unfold m_laws_szCache M.Cache.sz
  exact (Sz.call (M.CachedS.p_sz _ hx.Entries)) l a b
theorem M.Cache.p_to (x : M.Cache) (hx : M.Cache.ok x) (hs : M.Cache.sz x ≤ 1048576) : m_laws_toCache x = some x := by
  unfold M.Cache.sz at hs
  unfold m_laws_toCache
  rw [M.CachedS.p_to _ hx.Entries (by omega), Option.bind_some]
theorem M.Cache.p_eq (x : M.Cache) (hx : M.Cache.ok x) : m_laws_eqCache x x = some true := by
  simp [m_laws_eqCache, M.CachedS.p_eq _ hx.Entries]
theorem M.CacheS.p_sz (xs : List M.Cache) (hx : (xs.length ≤ maxLen ∧ ∀ y ∈ xs, M.Cache.ok y)) : Sz (m_laws_szCacheS xs) ((xs.length + szSum M.Cache.sz xs)) := by
  intro l a b
  unfold m_laws_szCacheS
  exact (Sz.list' hx.1 (fun x h => M.Cache.p_sz x (hx.2 x h)) (fun _ _ _ => rfl)) l a b
theorem M.CacheS.p_to (xs : List M.Cache) (hx : (xs.length ≤ maxLen ∧ ∀ y ∈ xs, M.Cache.ok y)) (hs : (xs.length + szSum M.Cache.sz xs) ≤ 1048576) : m_laws_toCacheS xs = some xs := by
  have hm := le_max hx.1
  unfold m_laws_toCacheS
  rw [mkL_ok (by omega) (by omega), Option.bind_some]
  refine toLoop hx.1 (fun n k r hk hr => ?_) (fun n r => ?_) fuel 0 _ (by unfold fuel; omega) (by omega) (by simp) (by simp)
  · simp only [m_laws_toCacheS_L1]
    rw [if_pos (lt_nat hk), idx_nat hk, Option.bind_some, M.Cache.p_to _ (hx.2 _ (List.getElem_mem hk)) (by have := szSum_le (f := M.Cache.sz) (List.getElem_mem hk); omega), Option.bind_some, idx_nat (by omega), Option.bind_some, wrapn (by omega), Int.toNat_natCast]
  · simp only [m_laws_toCacheS_L1]
    rw [if_neg (by rw [nlt_nat]; simp)]
theorem M.CacheS.p_eq (xs : List M.Cache) (hx : (xs.length ≤ maxLen ∧ ∀ y ∈ xs, M.Cache.ok y)) : m_laws_eqCacheS xs xs = some true := by
  have hm := le_max hx.1
  unfold m_laws_eqCacheS
  rw [if_neg (by simp)]
  refine eqLoop hx.1 (fun n k hk => ?_) (fun n => ?_) fuel 0 (by unfold fuel; omega) (by omega)
  · simp only [m_laws_eqCacheS_L1]
    rw [if_pos (lt_nat hk), idx_nat hk]
    simp [wrapn (show k < 9223372036854775807 by omega), M.Cache.p_eq _ (hx.2 _ (List.getElem_mem hk))]
  · simp only [m_laws_eqCacheS_L1]
    rw [if_neg (by rw [nlt_nat]; simp)]
structure M.CacheSet.ok (x : M.CacheSet) : Prop where
  Caches : (x.Caches.length ≤ maxLen ∧ ∀ y ∈ x.Caches, M.Cache.ok y)
def M.CacheSet.sh : List Shp := [.sl M.Cache.sh]
theorem M.CacheSet.of_has (d : List D) (h : HasL M.CacheSet.sh d) : ∃ x, d = M.CacheSet.en x ∧ M.CacheSet.ok x := by
  simp only [M.CacheSet.sh, HasL, Has] at h
  obtain ⟨_, _, rfl, ⟨_, rfl, w1, q1⟩, rfl⟩ := h
  obtain ⟨a1, rfl, e1⟩ := list_of_has M.Cache.of_has q1
  exact ⟨⟨a1⟩, rfl, ⟨⟨by simpa using w1, e1⟩⟩⟩
def M.CacheSet.sz (x : M.CacheSet) : Nat := (x.Caches.length + szSum M.Cache.sz x.Caches)
theorem M.CacheSet.p_sz (x : M.CacheSet) (hx : M.CacheSet.ok x) : Sz (m_laws_szCacheSet x) (M.CacheSet.sz x) := by
  intro l a b
  unfold m_laws_szCacheSet M.CacheSet.sz
  exact (Sz.call (M.CacheS.p_sz _ hx.Caches)) l a b
theorem M.CacheSet.p_to (x : M.CacheSet) (hx : M.CacheSet.ok x) (hs : M.CacheSet.sz x ≤ 1048576) : m_laws_toCacheSet x = some x := by
  unfold M.CacheSet.sz at hs
  unfold m_laws_toCacheSet
  rw [M.CacheS.p_to _ hx.Caches (by omega), Option.bind_some]
theorem M.CacheSet.p_eq (x : M.CacheSet) (hx : M.CacheSet.ok x) : m_laws_eqCacheSet x x = some true := by
  simp [m_laws_eqCacheSet, M.CacheS.p_eq _ hx.Caches]
structure M.Key.ok (x : M.Key) : Prop where
  Kind : inI x.Kind
  N : inI x.N
  Text : x.Text.size ≤ maxLen
def M.Key.sh : List Shp := [.int .i64, .int .i64, .str]
theorem M.Key.of_has (d : List D) (h : HasL M.Key.sh d) : ∃ x, d = M.Key.en x ∧ M.Key.ok x := by
  simp only [M.Key.sh, HasL, Has] at h
  obtain ⟨_, _, rfl, ⟨a1, rfl, w1⟩, _, _, rfl, ⟨a2, rfl, w2⟩, _, _, rfl, ⟨a3, rfl, w3⟩, rfl⟩ := h
  exact ⟨⟨a1, a2, a3⟩, rfl, ⟨wf_i64 w1, wf_i64 w2, w3⟩⟩
def M.Key.sz (x : M.Key) : Nat := x.Text.size
theorem M.Key.p_sz (x : M.Key) (hx : M.Key.ok x) : Sz (m_laws_szKey x) (M.Key.sz x) := by
  intro l a b
  unfold m_laws_szKey M.Key.sz
  exact (Sz.str hx.Text) l a b
theorem M.Key.p_to (x : M.Key) (hx : M.Key.ok x) (hs : M.Key.sz x ≤ 1048576) : m_laws_toKey x = some x := by
  unfold M.Key.sz at hs
  unfold m_laws_toKey
  rfl
theorem M.Key.p_eq (x : M.Key) (hx : M.Key.ok x) : m_laws_eqKey x x = some true := by
  simp [m_laws_eqKey]
structure M.Field.ok (x : M.Field) : Prop where
  Name : x.Name.size ≤ maxLen
  N : inI x.N
def M.Field.sh : List Shp := [.str, .int .i64]
theorem M.Field.of_has (d : List D) (h : HasL M.Field.sh d) : ∃ x, d = M.Field.en x ∧ M.Field.ok x := by
  simp only [M.Field.sh, HasL, Has] at h
  obtain ⟨_, _, rfl, ⟨a1, rfl, w1⟩, _, _, rfl, ⟨a2, rfl, w2⟩, rfl⟩ := h
  exact ⟨⟨a1, a2⟩, rfl, ⟨w1, wf_i64 w2⟩⟩
def M.Field.sz (x : M.Field) : Nat := x.Name.size
theorem M.Field.p_sz (x : M.Field) (hx : M.Field.ok x) : Sz (m_laws_szField x) (M.Field.sz x) := by
  intro l a b
  unfold m_laws_szField M.Field.sz
  exact (Sz.str hx.Name) l a b
theorem M.Field.p_to (x : M.Field) (hx : M.Field.ok x) (hs : M.Field.sz x ≤ 1048576) : m_laws_toField x = some x := by
  unfold M.Field.sz at hs
  unfold m_laws_toField
  rfl
theorem M.Field.p_eq (x : M.Field) (hx : M.Field.ok x) : m_laws_eqField x x = some true := by
  simp [m_laws_eqField]
theorem M.FieldS.p_sz (xs : List M.Field) (hx : (xs.length ≤ maxLen ∧ ∀ y ∈ xs, M.Field.ok y)) : Sz (m_laws_szFieldS xs) ((xs.length + szSum M.Field.sz xs)) := by
  intro l a b
  unfold m_laws_szFieldS
  exact (Sz.list' hx.1 (fun x h => M.Field.p_sz x (hx.2 x h)) (fun _ _ _ => rfl)) l a b
theorem M.FieldS.p_to (xs : List M.Field) (hx : (xs.length ≤ maxLen ∧ ∀ y ∈ xs, M.Field.ok y)) (hs : (xs.length + szSum M.Field.sz xs) ≤ 1048576) : m_laws_toFieldS xs = some xs := by
  have hm := le_max hx.1
  unfold m_laws_toFieldS
  rw [mkL_ok (by omega) (by omega), Option.bind_some]
  refine toLoop hx.1 (fun n k r hk hr => ?_) (fun n r => ?_) fuel 0 _ (by unfold fuel; omega) (by omega) (by simp) (by simp)
  · simp only [m_laws_toFieldS_L1]
    rw [if_pos (lt_nat hk), idx_nat hk, Option.bind_some, M.Field.p_to _ (hx.2 _ (List.getElem_mem hk)) (by have := szSum_le (f := M.Field.sz) (List.getElem_mem hk); omega), Option.bind_some, idx_nat (by omega), Option.bind_some, wrapn (by omega), Int.toNat_natCast]
  · simp only [m_laws_toFieldS_L1]
    rw [if_neg (by rw [nlt_nat]; simp)]
theorem M.FieldS.p_eq (xs : List M.Field) (hx : (xs.length ≤ maxLen ∧ ∀ y ∈ xs, M.Field.ok y)) : m_laws_eqFieldS xs xs = some true := by
  have hm := le_max hx.1
  unfold m_laws_eqFieldS
  rw [if_neg (by simp)]
  refine eqLoop hx.1 (fun n k hk => ?_) (fun n => ?_) fuel 0 (by unfold fuel; omega) (by omega)
  · simp only [m_laws_eqFieldS_L1]
    rw [if_pos (lt_nat hk), idx_nat hk]
    simp [wrapn (show k < 9223372036854775807 by omega), M.Field.p_eq _ (hx.2 _ (List.getElem_mem hk))]
  · simp only [m_laws_eqFieldS_L1]
    rw [if_neg (by rw [nlt_nat]; simp)]
structure M.Record.ok (x : M.Record) : Prop where
  Fields : (x.Fields.length ≤ maxLen ∧ ∀ y ∈ x.Fields, M.Field.ok y)
def M.Record.sh : List Shp := [.sl M.Field.sh]
theorem M.Record.of_has (d : List D) (h : HasL M.Record.sh d) : ∃ x, d = M.Record.en x ∧ M.Record.ok x := by
  simp only [M.Record.sh, HasL, Has] at h
  obtain ⟨_, _, rfl, ⟨_, rfl, w1, q1⟩, rfl⟩ := h
  obtain ⟨a1, rfl, e1⟩ := list_of_has M.Field.of_has q1
  exact ⟨⟨a1⟩, rfl, ⟨⟨by simpa using w1, e1⟩⟩⟩
def M.Record.sz (x : M.Record) : Nat := (x.Fields.length + szSum M.Field.sz x.Fields)
theorem M.Record.p_sz (x : M.Record) (hx : M.Record.ok x) : Sz (m_laws_szRecord x) (M.Record.sz x) := by
  intro l a b
  unfold m_laws_szRecord M.Record.sz
  exact (Sz.call (M.FieldS.p_sz _ hx.Fields)) l a b
theorem M.Record.p_to (x : M.Record) (hx : M.Record.ok x) (hs : M.Record.sz x ≤ 1048576) : m_laws_toRecord x = some x := by
  unfold M.Record.sz at hs
  unfold m_laws_toRecord
  rw [M.FieldS.p_to _ hx.Fields (by omega), Option.bind_some]
theorem M.Record.p_eq (x : M.Record) (hx : M.Record.ok x) : m_laws_eqRecord x x = some true := by
  simp [m_laws_eqRecord, M.FieldS.p_eq _ hx.Fields]
structure M.Item.ok (x : M.Item) : Prop where
  Key : M.Key.ok x.Key
  Record : M.Record.ok x.Record
def M.Item.sh : List Shp := [.int .i64, .int .i64, .str, .sl M.Field.sh]
theorem M.Item.of_has (d : List D) (h : HasL M.Item.sh d) : ∃ x, d = M.Item.en x ∧ M.Item.ok x := by
  simp only [M.Item.sh, HasL, Has] at h
  obtain ⟨_, _, rfl, ⟨a1, rfl, w1⟩, _, _, rfl, ⟨a2, rfl, w2⟩, _, _, rfl, ⟨a3, rfl, w3⟩, _, _, rfl, ⟨_, rfl, w4, q4⟩, rfl⟩ := h
  obtain ⟨a4, rfl, e4⟩ := list_of_has M.Field.of_has q4
  exact ⟨⟨⟨a1, a2, a3⟩, ⟨a4⟩⟩, rfl, ⟨⟨wf_i64 w1, wf_i64 w2, w3⟩, ⟨⟨by simpa using w4, e4⟩⟩⟩⟩
def M.Item.sz (x : M.Item) : Nat := M.Key.sz x.Key + (M.Record.sz x.Record)
theorem M.Item.p_sz (x : M.Item) (hx : M.Item.ok x) : Sz (m_laws_szItem x) (M.Item.sz x) := by
  intro l a b
  unfold m_laws_szItem M.Item.sz
  exact (Sz.seqCall (M.Key.p_sz _ hx.Key) (Sz.call (M.Record.p_sz _ hx.Record))) l a b
theorem M.Item.p_to (x : M.Item) (hx : M.Item.ok x) (hs : M.Item.sz x ≤ 1048576) : m_laws_toItem x = some x := by
  unfold M.Item.sz at hs
  unfold m_laws_toItem
  rw [M.Key.p_to _ hx.Key (by omega), Option.bind_some, M.Record.p_to _ hx.Record (by omega), Option.bind_some]
theorem M.Item.p_eq (x : M.Item) (hx : M.Item.ok x) : m_laws_eqItem x x = some true := by
  simp [m_laws_eqItem, M.Key.p_eq _ hx.Key, M.Record.p_eq _ hx.Record]
theorem M.ItemS.p_sz (xs : List M.Item) (hx : (xs.length ≤ maxLen ∧ ∀ y ∈ xs, M.Item.ok y)) : Sz (m_laws_szItemS xs) ((xs.length + szSum M.Item.sz xs)) := by
  intro l a b
  unfold m_laws_szItemS
  exact (Sz.list' hx.1 (fun x h => M.Item.p_sz x (hx.2 x h)) (fun _ _ _ => rfl)) l a b
theorem M.ItemS.p_to (xs : List M.Item) (hx : (xs.length ≤ maxLen ∧ ∀ y ∈ xs, M.Item.ok y)) (hs : (xs.length + szSum M.Item.sz xs) ≤ 1048576) : m_laws_toItemS xs = some xs := by
  have hm := le_max hx.1
  unfold m_laws_toItemS
  rw [mkL_ok (by omega) (by omega), Option.bind_some]
  refine toLoop hx.1 (fun n k r hk hr => ?_) (fun n r => ?_) fuel 0 _ (by unfold fuel; omega) (by omega) (by simp) (by simp)
  · simp only [m_laws_toItemS_L1]
    rw [if_pos (lt_nat hk), idx_nat hk, Option.bind_some, M.Item.p_to _ (hx.2 _ (List.getElem_mem hk)) (by have := szSum_le (f := M.Item.sz) (List.getElem_mem hk); omega), Option.bind_some, idx_nat (by omega), Option.bind_some, wrapn (by omega), Int.toNat_natCast]
  · simp only [m_laws_toItemS_L1]
    rw [if_neg (by rw [nlt_nat]; simp)]
theorem M.ItemS.p_eq (xs : List M.Item) (hx : (xs.length ≤ maxLen ∧ ∀ y ∈ xs, M.Item.ok y)) : m_laws_eqItemS xs xs = some true := by
  have hm := le_max hx.1
  unfold m_laws_eqItemS
  rw [if_neg (by simp)]
  refine eqLoop hx.1 (fun n k hk => ?_) (fun n => ?_) fuel 0 (by unfold fuel; omega) (by omega)
  · simp only [m_laws_eqItemS_L1]
    rw [if_pos (lt_nat hk), idx_nat hk]
    simp [wrapn (show k < 9223372036854775807 by omega), M.Item.p_eq _ (hx.2 _ (List.getElem_mem hk))]
  · simp only [m_laws_eqItemS_L1]
    rw [if_neg (by rw [nlt_nat]; simp)]
structure M.Store.ok (x : M.Store) : Prop where
  Name : x.Name.size ≤ maxLen
  Items : (x.Items.length ≤ maxLen ∧ ∀ y ∈ x.Items, M.Item.ok y)
  Auto : inI x.Auto
def M.Store.sh : List Shp := [.str, .sl M.Item.sh, .int .i64]
theorem M.Store.of_has (d : List D) (h : HasL M.Store.sh d) : ∃ x, d = M.Store.en x ∧ M.Store.ok x := by
  simp only [M.Store.sh, HasL, Has] at h
  obtain ⟨_, _, rfl, ⟨a1, rfl, w1⟩, _, _, rfl, ⟨_, rfl, w2, q2⟩, _, _, rfl, ⟨a3, rfl, w3⟩, rfl⟩ := h
  obtain ⟨a2, rfl, e2⟩ := list_of_has M.Item.of_has q2
  exact ⟨⟨a1, a2, a3⟩, rfl, ⟨w1, ⟨by simpa using w2, e2⟩, wf_i64 w3⟩⟩
def M.Store.sz (x : M.Store) : Nat := x.Name.size + ((x.Items.length + szSum M.Item.sz x.Items))
theorem M.Store.p_sz (x : M.Store) (hx : M.Store.ok x) : Sz (m_laws_szStore x) (M.Store.sz x) := by
  intro l a b
  unfold m_laws_szStore M.Store.sz
  exact (Sz.seqStr hx.Name (Sz.call (M.ItemS.p_sz _ hx.Items))) l a b
theorem M.Store.p_to (x : M.Store) (hx : M.Store.ok x) (hs : M.Store.sz x ≤ 1048576) : m_laws_toStore x = some x := by
  unfold M.Store.sz at hs
  unfold m_laws_toStore
  rw [M.ItemS.p_to _ hx.Items (by omega), Option.bind_some]
theorem M.Store.p_eq (x : M.Store) (hx : M.Store.ok x) : m_laws_eqStore x x = some true := by
  simp [m_laws_eqStore, M.ItemS.p_eq _ hx.Items]
theorem M.StoreS.p_sz (xs : List M.Store) (hx : (xs.length ≤ maxLen ∧ ∀ y ∈ xs, M.Store.ok y)) : Sz (m_laws_szStoreS xs) ((xs.length + szSum M.Store.sz xs)) := by
  intro l a b
  unfold m_laws_szStoreS
  exact (Sz.list' hx.1 (fun x h => M.Store.p_sz x (hx.2 x h)) (fun _ _ _ => rfl)) l a b
theorem M.StoreS.p_to (xs : List M.Store) (hx : (xs.length ≤ maxLen ∧ ∀ y ∈ xs, M.Store.ok y)) (hs : (xs.length + szSum M.Store.sz xs) ≤ 1048576) : m_laws_toStoreS xs = some xs := by
  have hm := le_max hx.1
  unfold m_laws_toStoreS
  rw [mkL_ok (by omega) (by omega), Option.bind_some]
  refine toLoop hx.1 (fun n k r hk hr => ?_) (fun n r => ?_) fuel 0 _ (by unfold fuel; omega) (by omega) (by simp) (by simp)
  · simp only [m_laws_toStoreS_L1]
    rw [if_pos (lt_nat hk), idx_nat hk, Option.bind_some, M.Store.p_to _ (hx.2 _ (List.getElem_mem hk)) (by have := szSum_le (f := M.Store.sz) (List.getElem_mem hk); omega), Option.bind_some, idx_nat (by omega), Option.bind_some, wrapn (by omega), Int.toNat_natCast]
  · simp only [m_laws_toStoreS_L1]
    rw [if_neg (by rw [nlt_nat]; simp)]
theorem M.StoreS.p_eq (xs : List M.Store) (hx : (xs.length ≤ maxLen ∧ ∀ y ∈ xs, M.Store.ok y)) : m_laws_eqStoreS xs xs = some true := by
  have hm := le_max hx.1
  unfold m_laws_eqStoreS
  rw [if_neg (by simp)]
  refine eqLoop hx.1 (fun n k hk => ?_) (fun n => ?_) fuel 0 (by unfold fuel; omega) (by omega)
  · simp only [m_laws_eqStoreS_L1]
    rw [if_pos (lt_nat hk), idx_nat hk]
    simp [wrapn (show k < 9223372036854775807 by omega), M.Store.p_eq _ (hx.2 _ (List.getElem_mem hk))]
  · simp only [m_laws_eqStoreS_L1]
    rw [if_neg (by rw [nlt_nat]; simp)]
structure M.IndexDef.ok (x : M.IndexDef) : Prop where
  Store : x.Store.size ≤ maxLen
  Field : x.Field.size ≤ maxLen
def M.IndexDef.sh : List Shp := [.str, .str]
theorem M.IndexDef.of_has (d : List D) (h : HasL M.IndexDef.sh d) : ∃ x, d = M.IndexDef.en x ∧ M.IndexDef.ok x := by
  simp only [M.IndexDef.sh, HasL, Has] at h
  obtain ⟨_, _, rfl, ⟨a1, rfl, w1⟩, _, _, rfl, ⟨a2, rfl, w2⟩, rfl⟩ := h
  exact ⟨⟨a1, a2⟩, rfl, ⟨w1, w2⟩⟩
def M.IndexDef.sz (x : M.IndexDef) : Nat := x.Store.size + (x.Field.size)
theorem M.IndexDef.p_sz (x : M.IndexDef) (hx : M.IndexDef.ok x) : Sz (m_laws_szIndexDef x) (M.IndexDef.sz x) := by
  intro l a b
  unfold m_laws_szIndexDef M.IndexDef.sz
  exact (Sz.seqStr hx.Store (Sz.str hx.Field)) l a b
theorem M.IndexDef.p_to (x : M.IndexDef) (hx : M.IndexDef.ok x) (hs : M.IndexDef.sz x ≤ 1048576) : m_laws_toIndexDef x = some x := by
  unfold M.IndexDef.sz at hs
  unfold m_laws_toIndexDef
  rfl
theorem M.IndexDef.p_eq (x : M.IndexDef) (hx : M.IndexDef.ok x) : m_laws_eqIndexDef x x = some true := by
  simp [m_laws_eqIndexDef]
theorem M.IndexDefS.p_sz (xs : List M.IndexDef) (hx : (xs.length ≤ maxLen ∧ ∀ y ∈ xs, M.IndexDef.ok y)) : Sz (m_laws_szIndexDefS xs) ((xs.length + szSum M.IndexDef.sz xs)) := by
  intro l a b
  unfold m_laws_szIndexDefS
  exact (Sz.list' hx.1 (fun x h => M.IndexDef.p_sz x (hx.2 x h)) (fun _ _ _ => rfl)) l a b
theorem M.IndexDefS.p_to (xs : List M.IndexDef) (hx : (xs.length ≤ maxLen ∧ ∀ y ∈ xs, M.IndexDef.ok y)) (hs : (xs.length + szSum M.IndexDef.sz xs) ≤ 1048576) : m_laws_toIndexDefS xs = some xs := by
  have hm := le_max hx.1
  unfold m_laws_toIndexDefS
  rw [mkL_ok (by omega) (by omega), Option.bind_some]
  refine toLoop hx.1 (fun n k r hk hr => ?_) (fun n r => ?_) fuel 0 _ (by unfold fuel; omega) (by omega) (by simp) (by simp)
  · simp only [m_laws_toIndexDefS_L1]
    rw [if_pos (lt_nat hk), idx_nat hk, Option.bind_some, M.IndexDef.p_to _ (hx.2 _ (List.getElem_mem hk)) (by have := szSum_le (f := M.IndexDef.sz) (List.getElem_mem hk); omega), Option.bind_some, idx_nat (by omega), Option.bind_some, wrapn (by omega), Int.toNat_natCast]
  · simp only [m_laws_toIndexDefS_L1]
    rw [if_neg (by rw [nlt_nat]; simp)]
theorem M.IndexDefS.p_eq (xs : List M.IndexDef) (hx : (xs.length ≤ maxLen ∧ ∀ y ∈ xs, M.IndexDef.ok y)) : m_laws_eqIndexDefS xs xs = some true := by
  have hm := le_max hx.1
  unfold m_laws_eqIndexDefS
  rw [if_neg (by simp)]
  refine eqLoop hx.1 (fun n k hk => ?_) (fun n => ?_) fuel 0 (by unfold fuel; omega) (by omega)
  · simp only [m_laws_eqIndexDefS_L1]
    rw [if_pos (lt_nat hk), idx_nat hk]
    simp [wrapn (show k < 9223372036854775807 by omega), M.IndexDef.p_eq _ (hx.2 _ (List.getElem_mem hk))]
  · simp only [m_laws_eqIndexDefS_L1]
    rw [if_neg (by rw [nlt_nat]; simp)]
structure M.Database.ok (x : M.Database) : Prop where
  Name : x.Name.size ≤ maxLen
  Version : inI x.Version
  Stores : (x.Stores.length ≤ maxLen ∧ ∀ y ∈ x.Stores, M.Store.ok y)
  Unique : (x.Unique.length ≤ maxLen ∧ ∀ y ∈ x.Unique, M.IndexDef.ok y)
def M.Database.sh : List Shp := [.str, .int .i64, .sl M.Store.sh, .sl M.IndexDef.sh]
theorem M.Database.of_has (d : List D) (h : HasL M.Database.sh d) : ∃ x, d = M.Database.en x ∧ M.Database.ok x := by
  simp only [M.Database.sh, HasL, Has] at h
  obtain ⟨_, _, rfl, ⟨a1, rfl, w1⟩, _, _, rfl, ⟨a2, rfl, w2⟩, _, _, rfl, ⟨_, rfl, w3, q3⟩, _, _, rfl, ⟨_, rfl, w4, q4⟩, rfl⟩ := h
  obtain ⟨a3, rfl, e3⟩ := list_of_has M.Store.of_has q3
  obtain ⟨a4, rfl, e4⟩ := list_of_has M.IndexDef.of_has q4
  exact ⟨⟨a1, a2, a3, a4⟩, rfl, ⟨w1, wf_i64 w2, ⟨by simpa using w3, e3⟩, ⟨by simpa using w4, e4⟩⟩⟩
def M.Database.sz (x : M.Database) : Nat := x.Name.size + ((x.Stores.length + szSum M.Store.sz x.Stores) + ((x.Unique.length + szSum M.IndexDef.sz x.Unique)))
theorem M.Database.p_sz (x : M.Database) (hx : M.Database.ok x) : Sz (m_laws_szDatabase x) (M.Database.sz x) := by
  intro l a b
  unfold m_laws_szDatabase M.Database.sz
  exact (Sz.seqStr hx.Name (Sz.seqCall (M.StoreS.p_sz _ hx.Stores) (Sz.call (M.IndexDefS.p_sz _ hx.Unique)))) l a b
theorem M.Database.p_to (x : M.Database) (hx : M.Database.ok x) (hs : M.Database.sz x ≤ 1048576) : m_laws_toDatabase x = some x := by
  unfold M.Database.sz at hs
  unfold m_laws_toDatabase
  rw [M.StoreS.p_to _ hx.Stores (by omega), Option.bind_some, M.IndexDefS.p_to _ hx.Unique (by omega), Option.bind_some]
theorem M.Database.p_eq (x : M.Database) (hx : M.Database.ok x) : m_laws_eqDatabase x x = some true := by
  simp [m_laws_eqDatabase, M.StoreS.p_eq _ hx.Stores, M.IndexDefS.p_eq _ hx.Unique]
structure M.Disk.ok (x : M.Disk) : Prop where
  Base : M.Database.ok x.Base
  Log : okB x.Log
  Count : inI x.Count
def M.Disk.sh : List Shp := [.str, .int .i64, .sl M.Store.sh, .sl M.IndexDef.sh, .sl [.int .u8], .int .i64]
theorem M.Disk.of_has (d : List D) (h : HasL M.Disk.sh d) : ∃ x, d = M.Disk.en x ∧ M.Disk.ok x := by
  simp only [M.Disk.sh, HasL, Has] at h
  obtain ⟨_, _, rfl, ⟨a1, rfl, w1⟩, _, _, rfl, ⟨a2, rfl, w2⟩, _, _, rfl, ⟨_, rfl, w3, q3⟩, _, _, rfl, ⟨_, rfl, w4, q4⟩, _, _, rfl, ⟨_, rfl, w5, q5⟩, _, _, rfl, ⟨a6, rfl, w6⟩, rfl⟩ := h
  obtain ⟨a3, rfl, e3⟩ := list_of_has M.Store.of_has q3
  obtain ⟨a4, rfl, e4⟩ := list_of_has M.IndexDef.of_has q4
  obtain ⟨a5, rfl, e5⟩ := list_of_has has_b q5
  exact ⟨⟨⟨a1, a2, a3, a4⟩, a5, a6⟩, rfl, ⟨⟨w1, wf_i64 w2, ⟨by simpa using w3, e3⟩, ⟨by simpa using w4, e4⟩⟩, ⟨by simpa using w5, e5⟩, wf_i64 w6⟩⟩
def M.Disk.sz (x : M.Disk) : Nat := M.Database.sz x.Base + (x.Log.length)
theorem M.Disk.p_sz (x : M.Disk) (hx : M.Disk.ok x) : Sz (m_laws_szDisk x) (M.Disk.sz x) := by
  intro l a b
  unfold m_laws_szDisk M.Disk.sz
  exact (Sz.seqCall (M.Database.p_sz _ hx.Base) (Sz.call (M.ByteS.p_sz _ hx.Log))) l a b
theorem M.Disk.p_to (x : M.Disk) (hx : M.Disk.ok x) (hs : M.Disk.sz x ≤ 1048576) : m_laws_toDisk x = some x := by
  unfold M.Disk.sz at hs
  unfold m_laws_toDisk
  rw [M.Database.p_to _ hx.Base (by omega), Option.bind_some, M.ByteS.p_to _ hx.Log (by omega), Option.bind_some]
theorem M.Disk.p_eq (x : M.Disk) (hx : M.Disk.ok x) : m_laws_eqDisk x x = some true := by
  simp [m_laws_eqDisk, M.Database.p_eq _ hx.Base, M.ByteS.p_eq _ hx.Log]
structure M.Write.ok (x : M.Write) : Prop where
  Device : inI x.Device
  Seq : inI x.Seq
  Key : M.Key.ok x.Key
  Field : x.Field.size ≤ maxLen
  N : inI x.N
def M.Write.sh : List Shp := [.int .i64, .int .i64, .int .i64, .int .i64, .str, .str, .int .i64]
theorem M.Write.of_has (d : List D) (h : HasL M.Write.sh d) : ∃ x, d = M.Write.en x ∧ M.Write.ok x := by
  simp only [M.Write.sh, HasL, Has] at h
  obtain ⟨_, _, rfl, ⟨a1, rfl, w1⟩, _, _, rfl, ⟨a2, rfl, w2⟩, _, _, rfl, ⟨a3, rfl, w3⟩, _, _, rfl, ⟨a4, rfl, w4⟩, _, _, rfl, ⟨a5, rfl, w5⟩, _, _, rfl, ⟨a6, rfl, w6⟩, _, _, rfl, ⟨a7, rfl, w7⟩, rfl⟩ := h
  exact ⟨⟨a1, a2, ⟨a3, a4, a5⟩, a6, a7⟩, rfl, ⟨wf_i64 w1, wf_i64 w2, ⟨wf_i64 w3, wf_i64 w4, w5⟩, w6, wf_i64 w7⟩⟩
def M.Write.sz (x : M.Write) : Nat := M.Key.sz x.Key + (x.Field.size)
theorem M.Write.p_sz (x : M.Write) (hx : M.Write.ok x) : Sz (m_laws_szWrite x) (M.Write.sz x) := by
  intro l a b
  unfold m_laws_szWrite M.Write.sz
  exact (Sz.seqCall (M.Key.p_sz _ hx.Key) (Sz.str hx.Field)) l a b
theorem M.Write.p_to (x : M.Write) (hx : M.Write.ok x) (hs : M.Write.sz x ≤ 1048576) : m_laws_toWrite x = some x := by
  unfold M.Write.sz at hs
  unfold m_laws_toWrite
  rw [M.Key.p_to _ hx.Key (by omega), Option.bind_some]
theorem M.Write.p_eq (x : M.Write) (hx : M.Write.ok x) : m_laws_eqWrite x x = some true := by
  simp [m_laws_eqWrite, M.Key.p_eq _ hx.Key]
theorem M.WriteS.p_sz (xs : List M.Write) (hx : (xs.length ≤ maxLen ∧ ∀ y ∈ xs, M.Write.ok y)) : Sz (m_laws_szWriteS xs) ((xs.length + szSum M.Write.sz xs)) := by
  intro l a b
  unfold m_laws_szWriteS
  exact (Sz.list' hx.1 (fun x h => M.Write.p_sz x (hx.2 x h)) (fun _ _ _ => rfl)) l a b
theorem M.WriteS.p_to (xs : List M.Write) (hx : (xs.length ≤ maxLen ∧ ∀ y ∈ xs, M.Write.ok y)) (hs : (xs.length + szSum M.Write.sz xs) ≤ 1048576) : m_laws_toWriteS xs = some xs := by
  have hm := le_max hx.1
  unfold m_laws_toWriteS
  rw [mkL_ok (by omega) (by omega), Option.bind_some]
  refine toLoop hx.1 (fun n k r hk hr => ?_) (fun n r => ?_) fuel 0 _ (by unfold fuel; omega) (by omega) (by simp) (by simp)
  · simp only [m_laws_toWriteS_L1]
    rw [if_pos (lt_nat hk), idx_nat hk, Option.bind_some, M.Write.p_to _ (hx.2 _ (List.getElem_mem hk)) (by have := szSum_le (f := M.Write.sz) (List.getElem_mem hk); omega), Option.bind_some, idx_nat (by omega), Option.bind_some, wrapn (by omega), Int.toNat_natCast]
  · simp only [m_laws_toWriteS_L1]
    rw [if_neg (by rw [nlt_nat]; simp)]
theorem M.WriteS.p_eq (xs : List M.Write) (hx : (xs.length ≤ maxLen ∧ ∀ y ∈ xs, M.Write.ok y)) : m_laws_eqWriteS xs xs = some true := by
  have hm := le_max hx.1
  unfold m_laws_eqWriteS
  rw [if_neg (by simp)]
  refine eqLoop hx.1 (fun n k hk => ?_) (fun n => ?_) fuel 0 (by unfold fuel; omega) (by omega)
  · simp only [m_laws_eqWriteS_L1]
    rw [if_pos (lt_nat hk), idx_nat hk]
    simp [wrapn (show k < 9223372036854775807 by omega), M.Write.p_eq _ (hx.2 _ (List.getElem_mem hk))]
  · simp only [m_laws_eqWriteS_L1]
    rw [if_neg (by rw [nlt_nat]; simp)]
structure M.Outbox.ok (x : M.Outbox) : Prop where
  Device : inI x.Device
  Next : inI x.Next
  Writes : (x.Writes.length ≤ maxLen ∧ ∀ y ∈ x.Writes, M.Write.ok y)
def M.Outbox.sh : List Shp := [.int .i64, .int .i64, .sl M.Write.sh]
theorem M.Outbox.of_has (d : List D) (h : HasL M.Outbox.sh d) : ∃ x, d = M.Outbox.en x ∧ M.Outbox.ok x := by
  simp only [M.Outbox.sh, HasL, Has] at h
  obtain ⟨_, _, rfl, ⟨a1, rfl, w1⟩, _, _, rfl, ⟨a2, rfl, w2⟩, _, _, rfl, ⟨_, rfl, w3, q3⟩, rfl⟩ := h
  obtain ⟨a3, rfl, e3⟩ := list_of_has M.Write.of_has q3
  exact ⟨⟨a1, a2, a3⟩, rfl, ⟨wf_i64 w1, wf_i64 w2, ⟨by simpa using w3, e3⟩⟩⟩
def M.Outbox.sz (x : M.Outbox) : Nat := (x.Writes.length + szSum M.Write.sz x.Writes)
theorem M.Outbox.p_sz (x : M.Outbox) (hx : M.Outbox.ok x) : Sz (m_laws_szOutbox x) (M.Outbox.sz x) := by
  intro l a b
  unfold m_laws_szOutbox M.Outbox.sz
  exact (Sz.call (M.WriteS.p_sz _ hx.Writes)) l a b
theorem M.Outbox.p_to (x : M.Outbox) (hx : M.Outbox.ok x) (hs : M.Outbox.sz x ≤ 1048576) : m_laws_toOutbox x = some x := by
  unfold M.Outbox.sz at hs
  unfold m_laws_toOutbox
  rw [M.WriteS.p_to _ hx.Writes (by omega), Option.bind_some]
theorem M.Outbox.p_eq (x : M.Outbox) (hx : M.Outbox.ok x) : m_laws_eqOutbox x x = some true := by
  simp [m_laws_eqOutbox, M.WriteS.p_eq _ hx.Writes]
structure M.Sync.ok (x : M.Sync) : Prop where
  Outbox : M.Outbox.ok x.Outbox
  Tries : inI x.Tries
  WaitUntil : inI x.WaitUntil
def M.Sync.sh : List Shp := [.int .i64, .int .i64, .sl M.Write.sh, .int .i64, .int .i64]
theorem M.Sync.of_has (d : List D) (h : HasL M.Sync.sh d) : ∃ x, d = M.Sync.en x ∧ M.Sync.ok x := by
  simp only [M.Sync.sh, HasL, Has] at h
  obtain ⟨_, _, rfl, ⟨a1, rfl, w1⟩, _, _, rfl, ⟨a2, rfl, w2⟩, _, _, rfl, ⟨_, rfl, w3, q3⟩, _, _, rfl, ⟨a4, rfl, w4⟩, _, _, rfl, ⟨a5, rfl, w5⟩, rfl⟩ := h
  obtain ⟨a3, rfl, e3⟩ := list_of_has M.Write.of_has q3
  exact ⟨⟨⟨a1, a2, a3⟩, a4, a5⟩, rfl, ⟨⟨wf_i64 w1, wf_i64 w2, ⟨by simpa using w3, e3⟩⟩, wf_i64 w4, wf_i64 w5⟩⟩
def M.Sync.sz (x : M.Sync) : Nat := M.Outbox.sz x.Outbox
theorem M.Sync.p_sz (x : M.Sync) (hx : M.Sync.ok x) : Sz (m_laws_szSync x) (M.Sync.sz x) := by
  intro l a b
  unfold m_laws_szSync M.Sync.sz
  exact (Sz.call (M.Outbox.p_sz _ hx.Outbox)) l a b
theorem M.Sync.p_to (x : M.Sync) (hx : M.Sync.ok x) (hs : M.Sync.sz x ≤ 1048576) : m_laws_toSync x = some x := by
  unfold M.Sync.sz at hs
  unfold m_laws_toSync
  rw [M.Outbox.p_to _ hx.Outbox (by omega), Option.bind_some]
theorem M.Sync.p_eq (x : M.Sync) (hx : M.Sync.ok x) : m_laws_eqSync x x = some true := by
  simp [m_laws_eqSync, M.Outbox.p_eq _ hx.Outbox]
structure M.Replica.ok (x : M.Replica) : Prop where
  Base : M.Store.ok x.Base
  Seen : inI x.Seen
  Sync : M.Sync.ok x.Sync
def M.Replica.sh : List Shp := [.str, .sl M.Item.sh, .int .i64, .int .i64, .int .i64, .int .i64, .sl M.Write.sh, .int .i64, .int .i64]
theorem M.Replica.of_has (d : List D) (h : HasL M.Replica.sh d) : ∃ x, d = M.Replica.en x ∧ M.Replica.ok x := by
  simp only [M.Replica.sh, HasL, Has] at h
  obtain ⟨_, _, rfl, ⟨a1, rfl, w1⟩, _, _, rfl, ⟨_, rfl, w2, q2⟩, _, _, rfl, ⟨a3, rfl, w3⟩, _, _, rfl, ⟨a4, rfl, w4⟩, _, _, rfl, ⟨a5, rfl, w5⟩, _, _, rfl, ⟨a6, rfl, w6⟩, _, _, rfl, ⟨_, rfl, w7, q7⟩, _, _, rfl, ⟨a8, rfl, w8⟩, _, _, rfl, ⟨a9, rfl, w9⟩, rfl⟩ := h
  obtain ⟨a2, rfl, e2⟩ := list_of_has M.Item.of_has q2
  obtain ⟨a7, rfl, e7⟩ := list_of_has M.Write.of_has q7
  exact ⟨⟨⟨a1, a2, a3⟩, a4, ⟨⟨a5, a6, a7⟩, a8, a9⟩⟩, rfl, ⟨⟨w1, ⟨by simpa using w2, e2⟩, wf_i64 w3⟩, wf_i64 w4, ⟨⟨wf_i64 w5, wf_i64 w6, ⟨by simpa using w7, e7⟩⟩, wf_i64 w8, wf_i64 w9⟩⟩⟩
def M.Replica.sz (x : M.Replica) : Nat := M.Store.sz x.Base + (M.Sync.sz x.Sync)
theorem M.Replica.p_sz (x : M.Replica) (hx : M.Replica.ok x) : Sz (m_laws_szReplica x) (M.Replica.sz x) := by
  intro l a b
  unfold m_laws_szReplica M.Replica.sz
  exact (Sz.seqCall (M.Store.p_sz _ hx.Base) (Sz.call (M.Sync.p_sz _ hx.Sync))) l a b
theorem M.Replica.p_to (x : M.Replica) (hx : M.Replica.ok x) (hs : M.Replica.sz x ≤ 1048576) : m_laws_toReplica x = some x := by
  unfold M.Replica.sz at hs
  unfold m_laws_toReplica
  rw [M.Store.p_to _ hx.Base (by omega), Option.bind_some, M.Sync.p_to _ hx.Sync (by omega), Option.bind_some]
theorem M.Replica.p_eq (x : M.Replica) (hx : M.Replica.ok x) : m_laws_eqReplica x x = some true := by
  simp [m_laws_eqReplica, M.Store.p_eq _ hx.Base, M.Sync.p_eq _ hx.Sync]
structure M.Bucket.ok (x : M.Bucket) : Prop where
  Site : x.Site.size ≤ maxLen
  Top : x.Top.size ≤ maxLen
  Registration : M.Registration.ok x.Registration
  Caches : M.CacheSet.ok x.Caches
  Disk : M.Disk.ok x.Disk
  Replica : M.Replica.ok x.Replica
  LastUsed : inI x.LastUsed
def M.Bucket.sh : List Shp := [.str, .str, .str, .int .i64, .int .i64, .int .i64, .sl M.Cache.sh, .str, .int .i64, .sl M.Store.sh, .sl M.IndexDef.sh, .sl [.int .u8], .int .i64, .str, .sl M.Item.sh, .int .i64, .int .i64, .int .i64, .int .i64, .sl M.Write.sh, .int .i64, .int .i64, .int .i64, .bool]
theorem M.Bucket.of_has (d : List D) (h : HasL M.Bucket.sh d) : ∃ x, d = M.Bucket.en x ∧ M.Bucket.ok x := by
  simp only [M.Bucket.sh, HasL, Has] at h
  obtain ⟨_, _, rfl, ⟨a1, rfl, w1⟩, _, _, rfl, ⟨a2, rfl, w2⟩, _, _, rfl, ⟨a3, rfl, w3⟩, _, _, rfl, ⟨a4, rfl, w4⟩, _, _, rfl, ⟨a5, rfl, w5⟩, _, _, rfl, ⟨a6, rfl, w6⟩, _, _, rfl, ⟨_, rfl, w7, q7⟩, _, _, rfl, ⟨a8, rfl, w8⟩, _, _, rfl, ⟨a9, rfl, w9⟩, _, _, rfl, ⟨_, rfl, w10, q10⟩, _, _, rfl, ⟨_, rfl, w11, q11⟩, _, _, rfl, ⟨_, rfl, w12, q12⟩, _, _, rfl, ⟨a13, rfl, w13⟩, _, _, rfl, ⟨a14, rfl, w14⟩, _, _, rfl, ⟨_, rfl, w15, q15⟩, _, _, rfl, ⟨a16, rfl, w16⟩, _, _, rfl, ⟨a17, rfl, w17⟩, _, _, rfl, ⟨a18, rfl, w18⟩, _, _, rfl, ⟨a19, rfl, w19⟩, _, _, rfl, ⟨_, rfl, w20, q20⟩, _, _, rfl, ⟨a21, rfl, w21⟩, _, _, rfl, ⟨a22, rfl, w22⟩, _, _, rfl, ⟨a23, rfl, w23⟩, _, _, rfl, ⟨a24, rfl⟩, rfl⟩ := h
  obtain ⟨a7, rfl, e7⟩ := list_of_has M.Cache.of_has q7
  obtain ⟨a10, rfl, e10⟩ := list_of_has M.Store.of_has q10
  obtain ⟨a11, rfl, e11⟩ := list_of_has M.IndexDef.of_has q11
  obtain ⟨a12, rfl, e12⟩ := list_of_has has_b q12
  obtain ⟨a15, rfl, e15⟩ := list_of_has M.Item.of_has q15
  obtain ⟨a20, rfl, e20⟩ := list_of_has M.Write.of_has q20
  exact ⟨⟨a1, a2, ⟨a3, a4, a5, a6⟩, ⟨a7⟩, ⟨⟨a8, a9, a10, a11⟩, a12, a13⟩, ⟨⟨a14, a15, a16⟩, a17, ⟨⟨a18, a19, a20⟩, a21, a22⟩⟩, a23, a24⟩, rfl, ⟨w1, w2, ⟨w3, wf_i64 w4, wf_i64 w5, wf_i64 w6⟩, ⟨⟨by simpa using w7, e7⟩⟩, ⟨⟨w8, wf_i64 w9, ⟨by simpa using w10, e10⟩, ⟨by simpa using w11, e11⟩⟩, ⟨by simpa using w12, e12⟩, wf_i64 w13⟩, ⟨⟨w14, ⟨by simpa using w15, e15⟩, wf_i64 w16⟩, wf_i64 w17, ⟨⟨wf_i64 w18, wf_i64 w19, ⟨by simpa using w20, e20⟩⟩, wf_i64 w21, wf_i64 w22⟩⟩, wf_i64 w23⟩⟩
def M.Bucket.sz (x : M.Bucket) : Nat := x.Site.size + (x.Top.size + (M.Registration.sz x.Registration + (M.CacheSet.sz x.Caches + (M.Disk.sz x.Disk + (M.Replica.sz x.Replica)))))
theorem M.Bucket.p_sz (x : M.Bucket) (hx : M.Bucket.ok x) : Sz (m_laws_szBucket x) (M.Bucket.sz x) := by
  intro l a b
  unfold m_laws_szBucket M.Bucket.sz
  exact (Sz.seqStr hx.Site (Sz.seqStr hx.Top (Sz.seqCall (M.Registration.p_sz _ hx.Registration) (Sz.seqCall (M.CacheSet.p_sz _ hx.Caches) (Sz.seqCall (M.Disk.p_sz _ hx.Disk) (Sz.call (M.Replica.p_sz _ hx.Replica))))))) l a b
theorem M.Bucket.p_to (x : M.Bucket) (hx : M.Bucket.ok x) (hs : M.Bucket.sz x ≤ 1048576) : m_laws_toBucket x = some x := by
  unfold M.Bucket.sz at hs
  unfold m_laws_toBucket
  rw [M.Registration.p_to _ hx.Registration (by omega), Option.bind_some, M.CacheSet.p_to _ hx.Caches (by omega), Option.bind_some, M.Disk.p_to _ hx.Disk (by omega), Option.bind_some, M.Replica.p_to _ hx.Replica (by omega), Option.bind_some]
theorem M.Bucket.p_eq (x : M.Bucket) (hx : M.Bucket.ok x) : m_laws_eqBucket x x = some true := by
  simp [m_laws_eqBucket, M.Registration.p_eq _ hx.Registration, M.CacheSet.p_eq _ hx.Caches, M.Disk.p_eq _ hx.Disk, M.Replica.p_eq _ hx.Replica]
end Go.Proofs.YtmpbibngijnfeaaGreat.gen
