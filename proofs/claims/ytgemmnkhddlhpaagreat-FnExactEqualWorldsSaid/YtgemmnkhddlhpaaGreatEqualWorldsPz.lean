/-
  Helper text: the plain laws of sz, to and eq. No conditions beyond those of each law.
-/
import Derived.Test.YtgemmnkhddlhpaaGreatEqualWorldsMod
namespace Go.Proofs.YtgemmnkhddlhpaaGreat.gen
open Go Go.Sh
set_option linter.unusedVariables false
set_option linter.unusedSimpArgs false
structure M.Registration.ok (x : M.Registration) : Prop where
  Site : x.Site.size ≤ maxLen
  Installing : inI x.Installing
  Waiting : inI x.Waiting
  Active : inI x.Active
def M.Registration.sh : List Shp := [.str, .int .i64, .int .i64, .int .i64]
theorem M.Registration.of_has (d : List D) (h : HasL M.Registration.sh d) : ∃ x, d = M.Registration.en x ∧ M.Registration.ok x := by
  simp only [M.Registration.sh, HasL, Has] at h
  obtain ⟨_, _, rfl, ⟨a1, rfl, w1⟩, _, _, rfl, ⟨a2, rfl, w2⟩, _, _, rfl, ⟨a3, rfl, w3⟩, _, _, rfl, ⟨a4, rfl, w4⟩, rfl⟩ := h
  exact ⟨⟨a1, a2, a3, a4⟩, rfl, ⟨w1, wf_i64 w2, wf_i64 w3, wf_i64 w4⟩⟩
def M.Registration.sz (x : M.Registration) : Nat := x.Site.size
theorem M.Registration.p_sz (x : M.Registration) (hx : M.Registration.ok x) : Sz (m_laws_szRegistration x) (M.Registration.sz x) := by
  intro l a b
  unfold m_laws_szRegistration M.Registration.sz
  exact (Sz.str hx.Site) l a b
theorem M.Registration.p_to (x : M.Registration) (hx : M.Registration.ok x) (hs : M.Registration.sz x ≤ 1048576) : m_laws_toRegistration x = some x := by
  unfold M.Registration.sz at hs
  unfold m_laws_toRegistration
  rfl
theorem M.Registration.p_eq (x : M.Registration) (hx : M.Registration.ok x) : m_laws_eqRegistration x x = some true := by
  simp [m_laws_eqRegistration]
theorem M.ByteS.p_sz (xs : List Int) (hx : okB xs) : Sz (m_laws_szByteS xs) (xs.length) := by
  intro l a b
  unfold m_laws_szByteS
  exact (Sz.str hx.1) l a b
theorem M.ByteS.p_to (xs : List Int) (hx : okB xs) (hs : xs.length ≤ 1048576) : m_laws_toByteS xs = some xs := by
  have hm := le_max hx.1
  unfold m_laws_toByteS
  rw [mkL_ok (by omega) (by omega), Option.bind_some]
  refine toLoop hx.1 (fun n k r hk hr => ?_) (fun n r => ?_) fuel 0 _ (by unfold fuel; omega) (by omega) (by simp) (by simp)
  · simp only [m_laws_toByteS_L1]
    rw [if_pos (lt_nat hk), idx_nat hk, Option.bind_some, idx_nat (by omega), Option.bind_some, wrapn (by omega), Int.toNat_natCast]
  · simp only [m_laws_toByteS_L1]
    rw [if_neg (by rw [nlt_nat]; simp)]
theorem M.ByteS.p_eq (xs : List Int) (hx : okB xs) : m_laws_eqByteS xs xs = some true := by
  have hm := le_max hx.1
  unfold m_laws_eqByteS
  rw [if_neg (by simp)]
  refine eqLoop hx.1 (fun n k hk => ?_) (fun n => ?_) fuel 0 (by unfold fuel; omega) (by omega)
  · simp only [m_laws_eqByteS_L1]
    rw [if_pos (lt_nat hk), idx_nat hk]
    simp [wrapn (show k < 9223372036854775807 by omega)]
  · simp only [m_laws_eqByteS_L1]
    rw [if_neg (by rw [nlt_nat]; simp)]
structure M.Response.ok (x : M.Response) : Prop where
  Type_ : inI x.Type_
  Status : inI x.Status
  Version : inI x.Version
  Body : okB x.Body
def M.Response.sh : List Shp := [.int .i64, .int .i64, .int .i64, .sl [.int .u8], .bool]
theorem M.Response.of_has (d : List D) (h : HasL M.Response.sh d) : ∃ x, d = M.Response.en x ∧ M.Response.ok x := by
  simp only [M.Response.sh, HasL, Has] at h
  obtain ⟨_, _, rfl, ⟨a1, rfl, w1⟩, _, _, rfl, ⟨a2, rfl, w2⟩, _, _, rfl, ⟨a3, rfl, w3⟩, _, _, rfl, ⟨_, rfl, w4, q4⟩, _, _, rfl, ⟨a5, rfl⟩, rfl⟩ := h
  obtain ⟨a4, rfl, e4⟩ := list_of_has has_b q4
  exact ⟨⟨a1, a2, a3, a4, a5⟩, rfl, ⟨wf_i64 w1, wf_i64 w2, wf_i64 w3, ⟨by simpa using w4, e4⟩⟩⟩
def M.Response.sz (x : M.Response) : Nat := x.Body.length
theorem M.Response.p_sz (x : M.Response) (hx : M.Response.ok x) : Sz (m_laws_szResponse x) (M.Response.sz x) := by
  intro l a b
  unfold m_laws_szResponse M.Response.sz
  exact (Sz.call (M.ByteS.p_sz _ hx.Body)) l a b
theorem M.Response.p_to (x : M.Response) (hx : M.Response.ok x) (hs : M.Response.sz x ≤ 1048576) : m_laws_toResponse x = some x := by
  unfold M.Response.sz at hs
  unfold m_laws_toResponse
  rw [M.ByteS.p_to _ hx.Body (by omega), Option.bind_some]
theorem M.Response.p_eq (x : M.Response) (hx : M.Response.ok x) : m_laws_eqResponse x x = some true := by
  simp [m_laws_eqResponse, M.ByteS.p_eq _ hx.Body]
structure M.Cached.ok (x : M.Cached) : Prop where
  Site : x.Site.size ≤ maxLen
  Path : x.Path.size ≤ maxLen
  Response : M.Response.ok x.Response
def M.Cached.sh : List Shp := [.str, .str, .int .i64, .int .i64, .int .i64, .sl [.int .u8], .bool]
theorem M.Cached.of_has (d : List D) (h : HasL M.Cached.sh d) : ∃ x, d = M.Cached.en x ∧ M.Cached.ok x := by
  simp only [M.Cached.sh, HasL, Has] at h
  obtain ⟨_, _, rfl, ⟨a1, rfl, w1⟩, _, _, rfl, ⟨a2, rfl, w2⟩, _, _, rfl, ⟨a3, rfl, w3⟩, _, _, rfl, ⟨a4, rfl, w4⟩, _, _, rfl, ⟨a5, rfl, w5⟩, _, _, rfl, ⟨_, rfl, w6, q6⟩, _, _, rfl, ⟨a7, rfl⟩, rfl⟩ := h
  obtain ⟨a6, rfl, e6⟩ := list_of_has has_b q6
  exact ⟨⟨a1, a2, ⟨a3, a4, a5, a6, a7⟩⟩, rfl, ⟨w1, w2, ⟨wf_i64 w3, wf_i64 w4, wf_i64 w5, ⟨by simpa using w6, e6⟩⟩⟩⟩
def M.Cached.sz (x : M.Cached) : Nat := x.Site.size + (x.Path.size + (M.Response.sz x.Response))
theorem M.Cached.p_sz (x : M.Cached) (hx : M.Cached.ok x) : Sz (m_laws_szCached x) (M.Cached.sz x) := by
  intro l a b
  unfold m_laws_szCached M.Cached.sz
  exact (Sz.seqStr hx.Site (Sz.seqStr hx.Path (Sz.call (M.Response.p_sz _ hx.Response)))) l a b
theorem M.Cached.p_to (x : M.Cached) (hx : M.Cached.ok x) (hs : M.Cached.sz x ≤ 1048576) : m_laws_toCached x = some x := by
  unfold M.Cached.sz at hs
  unfold m_laws_toCached
  rw [M.Response.p_to _ hx.Response (by omega), Option.bind_some]
theorem M.Cached.p_eq (x : M.Cached) (hx : M.Cached.ok x) : m_laws_eqCached x x = some true := by
  simp [m_laws_eqCached, M.Response.p_eq _ hx.Response]
theorem M.CachedS.p_sz (xs : List M.Cached) (hx : (xs.length ≤ maxLen ∧ ∀ y ∈ xs, M.Cached.ok y)) : Sz (m_laws_szCachedS xs) ((xs.length + szSum M.Cached.sz xs)) := by
  intro l a b
  unfold m_laws_szCachedS
  exact (Sz.list' hx.1 (fun x h => M.Cached.p_sz x (hx.2 x h)) (fun _ _ _ => rfl)) l a b
theorem M.CachedS.p_to (xs : List M.Cached) (hx : (xs.length ≤ maxLen ∧ ∀ y ∈ xs, M.Cached.ok y)) (hs : (xs.length + szSum M.Cached.sz xs) ≤ 1048576) : m_laws_toCachedS xs = some xs := by
  have hm := le_max hx.1
  unfold m_laws_toCachedS
  rw [mkL_ok (by omega) (by omega), Option.bind_some]
  refine toLoop hx.1 (fun n k r hk hr => ?_) (fun n r => ?_) fuel 0 _ (by unfold fuel; omega) (by omega) (by simp) (by simp)
  · simp only [m_laws_toCachedS_L1]
    rw [if_pos (lt_nat hk), idx_nat hk, Option.bind_some, M.Cached.p_to _ (hx.2 _ (List.getElem_mem hk)) (by have := szSum_le (f := M.Cached.sz) (List.getElem_mem hk); omega), Option.bind_some, idx_nat (by omega), Option.bind_some, wrapn (by omega), Int.toNat_natCast]
  · simp only [m_laws_toCachedS_L1]
    rw [if_neg (by rw [nlt_nat]; simp)]
theorem M.CachedS.p_eq (xs : List M.Cached) (hx : (xs.length ≤ maxLen ∧ ∀ y ∈ xs, M.Cached.ok y)) : m_laws_eqCachedS xs xs = some true := by
  have hm := le_max hx.1
  unfold m_laws_eqCachedS
  rw [if_neg (by simp)]
  refine eqLoop hx.1 (fun n k hk => ?_) (fun n => ?_) fuel 0 (by unfold fuel; omega) (by omega)
  · simp only [m_laws_eqCachedS_L1]
    rw [if_pos (lt_nat hk), idx_nat hk]
    simp [wrapn (show k < 9223372036854775807 by omega), M.Cached.p_eq _ (hx.2 _ (List.getElem_mem hk))]
  · simp only [m_laws_eqCachedS_L1]
    rw [if_neg (by rw [nlt_nat]; simp)]
structure M.Cache.ok (x : M.Cache) : Prop where
  Version : inI x.Version
  Entries : (x.Entries.length ≤ maxLen ∧ ∀ y ∈ x.Entries, M.Cached.ok y)
def M.Cache.sh : List Shp := [.int .i64, .sl M.Cached.sh]
theorem M.Cache.of_has (d : List D) (h : HasL M.Cache.sh d) : ∃ x, d = M.Cache.en x ∧ M.Cache.ok x := by
  simp only [M.Cache.sh, HasL, Has] at h
  obtain ⟨_, _, rfl, ⟨a1, rfl, w1⟩, _, _, rfl, ⟨_, rfl, w2, q2⟩, rfl⟩ := h
  obtain ⟨a2, rfl, e2⟩ := list_of_has M.Cached.of_has q2
  exact ⟨⟨a1, a2⟩, rfl, ⟨wf_i64 w1, ⟨by simpa using w2, e2⟩⟩⟩
def M.Cache.sz (x : M.Cache) : Nat := (x.Entries.length + szSum M.Cached.sz x.Entries)
theorem M.Cache.p_sz (x : M.Cache) (hx : M.Cache.ok x) : Sz (m_laws_szCache x) (M.Cache.sz x) := by
  intro l a b
  unfold m_laws_szCache M.Cache.sz
  exact (Sz.call (M.CachedS.p_sz _ hx.Entries)) l a b
theorem M.Cache.p_to (x : M.Cache) (hx : M.Cache.ok x) (hs : M.Cache.sz x ≤ 1048576) : m_laws_toCache x = some x := by
  unfold M.Cache.sz at hs
  unfold m_laws_toCache
  rw [M.CachedS.p_to _ hx.Entries (by omega), Option.bind_some]
theorem M.Cache.p_eq (x : M.Cache) (hx : M.Cache.ok x) : m_laws_eqCache x x = some true := by
  simp [m_laws_eqCache, M.CachedS.p_eq _ hx.Entries]
theorem M.CacheS.p_sz (xs : List M.Cache) (hx : (xs.length ≤ maxLen ∧ ∀ y ∈ xs, M.Cache.ok y)) : Sz (m_laws_szCacheS xs) ((xs.length + szSum M.Cache.sz xs)) := by
  intro l a b
  unfold m_laws_szCacheS
  exact (Sz.list' hx.1 (fun x h => M.Cache.p_sz x (hx.2 x h)) (fun _ _ _ => rfl)) l a b
theorem M.CacheS.p_to (xs : List M.Cache) (hx : (xs.length ≤ maxLen ∧ ∀ y ∈ xs, M.Cache.ok y)) (hs : (xs.length + szSum M.Cache.sz xs) ≤ 1048576) : m_laws_toCacheS xs = some xs := by
  have hm := le_max hx.1
  unfold m_laws_toCacheS
  rw [mkL_ok (by omega) (by omega), Option.bind_some]
  refine toLoop hx.1 (fun n k r hk hr => ?_) (fun n r => ?_) fuel 0 _ (by unfold fuel; omega) (by omega) (by simp) (by simp)
  · simp only [m_laws_toCacheS_L1]
    rw [if_pos (lt_nat hk), idx_nat hk, Option.bind_some, M.Cache.p_to _ (hx.2 _ (List.getElem_mem hk)) (by have := szSum_le (f := M.Cache.sz) (List.getElem_mem hk); omega), Option.bind_some, idx_nat (by omega), Option.bind_some, wrapn (by omega), Int.toNat_natCast]
  · simp only [m_laws_toCacheS_L1]
    rw [if_neg (by rw [nlt_nat]; simp)]
theorem M.CacheS.p_eq (xs : List M.Cache) (hx : (xs.length ≤ maxLen ∧ ∀ y ∈ xs, M.Cache.ok y)) : m_laws_eqCacheS xs xs = some true := by
  have hm := le_max hx.1
  unfold m_laws_eqCacheS
  rw [if_neg (by simp)]
  refine eqLoop hx.1 (fun n k hk => ?_) (fun n => ?_) fuel 0 (by unfold fuel; omega) (by omega)
  · simp only [m_laws_eqCacheS_L1]
    rw [if_pos (lt_nat hk), idx_nat hk]
    simp [wrapn (show k < 9223372036854775807 by omega), M.Cache.p_eq _ (hx.2 _ (List.getElem_mem hk))]
  · simp only [m_laws_eqCacheS_L1]
    rw [if_neg (by rw [nlt_nat]; simp)]
structure M.CacheSet.ok (x : M.CacheSet) : Prop where
  Caches : (x.Caches.length ≤ maxLen ∧ ∀ y ∈ x.Caches, M.Cache.ok y)
def M.CacheSet.sh : List Shp := [.sl M.Cache.sh]
theorem M.CacheSet.of_has (d : List D) (h : HasL M.CacheSet.sh d) : ∃ x, d = M.CacheSet.en x ∧ M.CacheSet.ok x := by
  simp only [M.CacheSet.sh, HasL, Has] at h
  obtain ⟨_, _, rfl, ⟨_, rfl, w1, q1⟩, rfl⟩ := h
  obtain ⟨a1, rfl, e1⟩ := list_of_has M.Cache.of_has q1
  exact ⟨⟨a1⟩, rfl, ⟨⟨by simpa using w1, e1⟩⟩⟩
def M.CacheSet.sz (x : M.CacheSet) : Nat := (x.Caches.length + szSum M.Cache.sz x.Caches)
theorem M.CacheSet.p_sz (x : M.CacheSet) (hx : M.CacheSet.ok x) : Sz (m_laws_szCacheSet x) (M.CacheSet.sz x) := by
  intro l a b
  unfold m_laws_szCacheSet M.CacheSet.sz
  exact (Sz.call (M.CacheS.p_sz _ hx.Caches)) l a b
theorem M.CacheSet.p_to (x : M.CacheSet) (hx : M.CacheSet.ok x) (hs : M.CacheSet.sz x ≤ 1048576) : m_laws_toCacheSet x = some x := by
  unfold M.CacheSet.sz at hs
  unfold m_laws_toCacheSet
  rw [M.CacheS.p_to _ hx.Caches (by omega), Option.bind_some]
theorem M.CacheSet.p_eq (x : M.CacheSet) (hx : M.CacheSet.ok x) : m_laws_eqCacheSet x x = some true := by
  simp [m_laws_eqCacheSet, M.CacheS.p_eq _ hx.Caches]
structure M.Key.ok (x : M.Key) : Prop where
  Kind : inI x.Kind
  N : inI x.N
  Text : x.Text.size ≤ maxLen
def M.Key.sh : List Shp := [.int .i64, .int .i64, .str]
theorem M.Key.of_has (d : List D) (h : HasL M.Key.sh d) : ∃ x, d = M.Key.en x ∧ M.Key.ok x := by
  simp only [M.Key.sh, HasL, Has] at h
  obtain ⟨_, _, rfl, ⟨a1, rfl, w1⟩, _, _, rfl, ⟨a2, rfl, w2⟩, _, _, rfl, ⟨a3, rfl, w3⟩, rfl⟩ := h
  exact ⟨⟨a1, a2, a3⟩, rfl, ⟨wf_i64 w1, wf_i64 w2, w3⟩⟩
def M.Key.sz (x : M.Key) : Nat := x.Text.size
theorem M.Key.p_sz (x : M.Key) (hx : M.Key.ok x) : Sz (m_laws_szKey x) (M.Key.sz x) := by
  intro l a b
  unfold m_laws_szKey M.Key.sz
  exact (Sz.str hx.Text) l a b
theorem M.Key.p_to (x : M.Key) (hx : M.Key.ok x) (hs : M.Key.sz x ≤ 1048576) : m_laws_toKey x = some x := by
  unfold M.Key.sz at hs
  unfold m_laws_toKey
  rfl
theorem M.Key.p_eq (x : M.Key) (hx : M.Key.ok x) : m_laws_eqKey x x = some true := by
  simp [m_laws_eqKey]
structure M.Field.ok (x : M.Field) : Prop where
  Name : x.Name.size ≤ maxLen
  N : inI x.N
def M.Field.sh : List Shp := [.str, .int .i64]
theorem M.Field.of_has (d : List D) (h : HasL M.Field.sh d) : ∃ x, d = M.Field.en x ∧ M.Field.ok x := by
  simp only [M.Field.sh, HasL, Has] at h
  obtain ⟨_, _, rfl, ⟨a1, rfl, w1⟩, _, _, rfl, ⟨a2, rfl, w2⟩, rfl⟩ := h
  exact ⟨⟨a1, a2⟩, rfl, ⟨w1, wf_i64 w2⟩⟩
def M.Field.sz (x : M.Field) : Nat := x.Name.size
theorem M.Field.p_sz (x : M.Field) (hx : M.Field.ok x) : Sz (m_laws_szField x) (M.Field.sz x) := by
  intro l a b
  unfold m_laws_szField M.Field.sz
  exact (Sz.str hx.Name) l a b
theorem M.Field.p_to (x : M.Field) (hx : M.Field.ok x) (hs : M.Field.sz x ≤ 1048576) : m_laws_toField x = some x := by
  unfold M.Field.sz at hs
  unfold m_laws_toField
  rfl
theorem M.Field.p_eq (x : M.Field) (hx : M.Field.ok x) : m_laws_eqField x x = some true := by
  simp [m_laws_eqField]
theorem M.FieldS.p_sz (xs : List M.Field) (hx : (xs.length ≤ maxLen ∧ ∀ y ∈ xs, M.Field.ok y)) : Sz (m_laws_szFieldS xs) ((xs.length + szSum M.Field.sz xs)) := by
  intro l a b
  unfold m_laws_szFieldS
  exact (Sz.list' hx.1 (fun x h => M.Field.p_sz x (hx.2 x h)) (fun _ _ _ => rfl)) l a b
theorem M.FieldS.p_to (xs : List M.Field) (hx : (xs.length ≤ maxLen ∧ ∀ y ∈ xs, M.Field.ok y)) (hs : (xs.length + szSum M.Field.sz xs) ≤ 1048576) : m_laws_toFieldS xs = some xs := by
  have hm := le_max hx.1
  unfold m_laws_toFieldS
  rw [mkL_ok (by omega) (by omega), Option.bind_some]
  refine toLoop hx.1 (fun n k r hk hr => ?_) (fun n r => ?_) fuel 0 _ (by unfold fuel; omega) (by omega) (by simp) (by simp)
  · simp only [m_laws_toFieldS_L1]
    rw [if_pos (lt_nat hk), idx_nat hk, Option.bind_some, M.Field.p_to _ (hx.2 _ (List.getElem_mem hk)) (by have := szSum_le (f := M.Field.sz) (List.getElem_mem hk); omega), Option.bind_some, idx_nat (by omega), Option.bind_some, wrapn (by omega), Int.toNat_natCast]
  · simp only [m_laws_toFieldS_L1]
    rw [if_neg (by rw [nlt_nat]; simp)]
theorem M.FieldS.p_eq (xs : List M.Field) (hx : (xs.length ≤ maxLen ∧ ∀ y ∈ xs, M.Field.ok y)) : m_laws_eqFieldS xs xs = some true := by
  have hm := le_max hx.1
  unfold m_laws_eqFieldS
  rw [if_neg (by simp)]
  refine eqLoop hx.1 (fun n k hk => ?_) (fun n => ?_) fuel 0 (by unfold fuel; omega) (by omega)
  · simp only [m_laws_eqFieldS_L1]
    rw [if_pos (lt_nat hk), idx_nat hk]
    simp [wrapn (show k < 9223372036854775807 by omega), M.Field.p_eq _ (hx.2 _ (List.getElem_mem hk))]
  · simp only [m_laws_eqFieldS_L1]
    rw [if_neg (by rw [nlt_nat]; simp)]
structure M.Record.ok (x : M.Record) : Prop where
  Fields : (x.Fields.length ≤ maxLen ∧ ∀ y ∈ x.Fields, M.Field.ok y)
def M.Record.sh : List Shp := [.sl M.Field.sh]
theorem M.Record.of_has (d : List D) (h : HasL M.Record.sh d) : ∃ x, d = M.Record.en x ∧ M.Record.ok x := by
  simp only [M.Record.sh, HasL, Has] at h
  obtain ⟨_, _, rfl, ⟨_, rfl, w1, q1⟩, rfl⟩ := h
  obtain ⟨a1, rfl, e1⟩ := list_of_has M.Field.of_has q1
  exact ⟨⟨a1⟩, rfl, ⟨⟨by simpa using w1, e1⟩⟩⟩
def M.Record.sz (x : M.Record) : Nat := (x.Fields.length + szSum M.Field.sz x.Fields)
theorem M.Record.p_sz (x : M.Record) (hx : M.Record.ok x) : Sz (m_laws_szRecord x) (M.Record.sz x) := by
  intro l a b
  unfold m_laws_szRecord M.Record.sz
  exact (Sz.call (M.FieldS.p_sz _ hx.Fields)) l a b
theorem M.Record.p_to (x : M.Record) (hx : M.Record.ok x) (hs : M.Record.sz x ≤ 1048576) : m_laws_toRecord x = some x := by
  unfold M.Record.sz at hs
  unfold m_laws_toRecord
  rw [M.FieldS.p_to _ hx.Fields (by omega), Option.bind_some]
theorem M.Record.p_eq (x : M.Record) (hx : M.Record.ok x) : m_laws_eqRecord x x = some true := by
  simp [m_laws_eqRecord, M.FieldS.p_eq _ hx.Fields]
structure M.Item.ok (x : M.Item) : Prop where
  Key : M.Key.ok x.Key
  Record : M.Record.ok x.Record
def M.Item.sh : List Shp := [.int .i64, .int .i64, .str, .sl M.Field.sh]
theorem M.Item.of_has (d : List D) (h : HasL M.Item.sh d) : ∃ x, d = M.Item.en x ∧ M.Item.ok x := by
  simp only [M.Item.sh, HasL, Has] at h
  obtain ⟨_, _, rfl, ⟨a1, rfl, w1⟩, _, _, rfl, ⟨a2, rfl, w2⟩, _, _, rfl, ⟨a3, rfl, w3⟩, _, _, rfl, ⟨_, rfl, w4, q4⟩, rfl⟩ := h
  obtain ⟨a4, rfl, e4⟩ := list_of_has M.Field.of_has q4
  exact ⟨⟨⟨a1, a2, a3⟩, ⟨a4⟩⟩, rfl, ⟨⟨wf_i64 w1, wf_i64 w2, w3⟩, ⟨⟨by simpa using w4, e4⟩⟩⟩⟩
def M.Item.sz (x : M.Item) : Nat := M.Key.sz x.Key + (M.Record.sz x.Record)
theorem M.Item.p_sz (x : M.Item) (hx : M.Item.ok x) : Sz (m_laws_szItem x) (M.Item.sz x) := by
  intro l a b
  unfold m_laws_szItem M.Item.sz
  exact (Sz.seqCall (M.Key.p_sz _ hx.Key) (Sz.call (M.Record.p_sz _ hx.Record))) l a b
theorem M.Item.p_to (x : M.Item) (hx : M.Item.ok x) (hs : M.Item.sz x ≤ 1048576) : m_laws_toItem x = some x := by
  unfold M.Item.sz at hs
  unfold m_laws_toItem
  rw [M.Key.p_to _ hx.Key (by omega), Option.bind_some, M.Record.p_to _ hx.Record (by omega), Option.bind_some]
theorem M.Item.p_eq (x : M.Item) (hx : M.Item.ok x) : m_laws_eqItem x x = some true := by
  simp [m_laws_eqItem, M.Key.p_eq _ hx.Key, M.Record.p_eq _ hx.Record]
theorem M.ItemS.p_sz (xs : List M.Item) (hx : (xs.length ≤ maxLen ∧ ∀ y ∈ xs, M.Item.ok y)) : Sz (m_laws_szItemS xs) ((xs.length + szSum M.Item.sz xs)) := by
  intro l a b
  unfold m_laws_szItemS
  exact (Sz.list' hx.1 (fun x h => M.Item.p_sz x (hx.2 x h)) (fun _ _ _ => rfl)) l a b
theorem M.ItemS.p_to (xs : List M.Item) (hx : (xs.length ≤ maxLen ∧ ∀ y ∈ xs, M.Item.ok y)) (hs : (xs.length + szSum M.Item.sz xs) ≤ 1048576) : m_laws_toItemS xs = some xs := by
  have hm := le_max hx.1
  unfold m_laws_toItemS
  rw [mkL_ok (by omega) (by omega), Option.bind_some]
  refine toLoop hx.1 (fun n k r hk hr => ?_) (fun n r => ?_) fuel 0 _ (by unfold fuel; omega) (by omega) (by simp) (by simp)
  · simp only [m_laws_toItemS_L1]
    rw [if_pos (lt_nat hk), idx_nat hk, Option.bind_some, M.Item.p_to _ (hx.2 _ (List.getElem_mem hk)) (by have := szSum_le (f := M.Item.sz) (List.getElem_mem hk); omega), Option.bind_some, idx_nat (by omega), Option.bind_some, wrapn (by omega), Int.toNat_natCast]
  · simp only [m_laws_toItemS_L1]
    rw [if_neg (by rw [nlt_nat]; simp)]
theorem M.ItemS.p_eq (xs : List M.Item) (hx : (xs.length ≤ maxLen ∧ ∀ y ∈ xs, M.Item.ok y)) : m_laws_eqItemS xs xs = some true := by
  have hm := le_max hx.1
  unfold m_laws_eqItemS
  rw [if_neg (by simp)]
  refine eqLoop hx.1 (fun n k hk => ?_) (fun n => ?_) fuel 0 (by unfold fuel; omega) (by omega)
  · simp only [m_laws_eqItemS_L1]
    rw [if_pos (lt_nat hk), idx_nat hk]
    simp [wrapn (show k < 9223372036854775807 by omega), M.Item.p_eq _ (hx.2 _ (List.getElem_mem hk))]
  · simp only [m_laws_eqItemS_L1]
    rw [if_neg (by rw [nlt_nat]; simp)]
structure M.Store.ok (x : M.Store) : Prop where
  Name : x.Name.size ≤ maxLen
  Items : (x.Items.length ≤ maxLen ∧ ∀ y ∈ x.Items, M.Item.ok y)
  Auto : inI x.Auto
def M.Store.sh : List Shp := [.str, .sl M.Item.sh, .int .i64]
theorem M.Store.of_has (d : List D) (h : HasL M.Store.sh d) : ∃ x, d = M.Store.en x ∧ M.Store.ok x := by
  simp only [M.Store.sh, HasL, Has] at h
  obtain ⟨_, _, rfl, ⟨a1, rfl, w1⟩, _, _, rfl, ⟨_, rfl, w2, q2⟩, _, _, rfl, ⟨a3, rfl, w3⟩, rfl⟩ := h
  obtain ⟨a2, rfl, e2⟩ := list_of_has M.Item.of_has q2
  exact ⟨⟨a1, a2, a3⟩, rfl, ⟨w1, ⟨by simpa using w2, e2⟩, wf_i64 w3⟩⟩
def M.Store.sz (x : M.Store) : Nat := x.Name.size + ((x.Items.length + szSum M.Item.sz x.Items))
theorem M.Store.p_sz (x : M.Store) (hx : M.Store.ok x) : Sz (m_laws_szStore x) (M.Store.sz x) := by
  intro l a b
  unfold m_laws_szStore M.Store.sz
  exact (Sz.seqStr hx.Name (Sz.call (M.ItemS.p_sz _ hx.Items))) l a b
theorem M.Store.p_to (x : M.Store) (hx : M.Store.ok x) (hs : M.Store.sz x ≤ 1048576) : m_laws_toStore x = some x := by
  unfold M.Store.sz at hs
  unfold m_laws_toStore
  rw [M.ItemS.p_to _ hx.Items (by omega), Option.bind_some]
theorem M.Store.p_eq (x : M.Store) (hx : M.Store.ok x) : m_laws_eqStore x x = some true := by
  simp [m_laws_eqStore, M.ItemS.p_eq _ hx.Items]
theorem M.StoreS.p_sz (xs : List M.Store) (hx : (xs.length ≤ maxLen ∧ ∀ y ∈ xs, M.Store.ok y)) : Sz (m_laws_szStoreS xs) ((xs.length + szSum M.Store.sz xs)) := by
  intro l a b
  unfold m_laws_szStoreS
  exact (Sz.list' hx.1 (fun x h => M.Store.p_sz x (hx.2 x h)) (fun _ _ _ => rfl)) l a b
theorem M.StoreS.p_to (xs : List M.Store) (hx : (xs.length ≤ maxLen ∧ ∀ y ∈ xs, M.Store.ok y)) (hs : (xs.length + szSum M.Store.sz xs) ≤ 1048576) : m_laws_toStoreS xs = some xs := by
  have hm := le_max hx.1
  unfold m_laws_toStoreS
  rw [mkL_ok (by omega) (by omega), Option.bind_some]
  refine toLoop hx.1 (fun n k r hk hr => ?_) (fun n r => ?_) fuel 0 _ (by unfold fuel; omega) (by omega) (by simp) (by simp)
  · simp only [m_laws_toStoreS_L1]
    rw [if_pos (lt_nat hk), idx_nat hk, Option.bind_some, M.Store.p_to _ (hx.2 _ (List.getElem_mem hk)) (by have := szSum_le (f := M.Store.sz) (List.getElem_mem hk); omega), Option.bind_some, idx_nat (by omega), Option.bind_some, wrapn (by omega), Int.toNat_natCast]
  · simp only [m_laws_toStoreS_L1]
    rw [if_neg (by rw [nlt_nat]; simp)]
theorem M.StoreS.p_eq (xs : List M.Store) (hx : (xs.length ≤ maxLen ∧ ∀ y ∈ xs, M.Store.ok y)) : m_laws_eqStoreS xs xs = some true := by
  have hm := le_max hx.1
  unfold m_laws_eqStoreS
  rw [if_neg (by simp)]
  refine eqLoop hx.1 (fun n k hk => ?_) (fun n => ?_) fuel 0 (by unfold fuel; omega) (by omega)
  · simp only [m_laws_eqStoreS_L1]
    rw [if_pos (lt_nat hk), idx_nat hk]
    simp [wrapn (show k < 9223372036854775807 by omega), M.Store.p_eq _ (hx.2 _ (List.getElem_mem hk))]
  · simp only [m_laws_eqStoreS_L1]
    rw [if_neg (by rw [nlt_nat]; simp)]
structure M.IndexDef.ok (x : M.IndexDef) : Prop where
  Store : x.Store.size ≤ maxLen
  Field : x.Field.size ≤ maxLen
def M.IndexDef.sh : List Shp := [.str, .str]
theorem M.IndexDef.of_has (d : List D) (h : HasL M.IndexDef.sh d) : ∃ x, d = M.IndexDef.en x ∧ M.IndexDef.ok x := by
  simp only [M.IndexDef.sh, HasL, Has] at h
  obtain ⟨_, _, rfl, ⟨a1, rfl, w1⟩, _, _, rfl, ⟨a2, rfl, w2⟩, rfl⟩ := h
  exact ⟨⟨a1, a2⟩, rfl, ⟨w1, w2⟩⟩
def M.IndexDef.sz (x : M.IndexDef) : Nat := x.Store.size + (x.Field.size)
theorem M.IndexDef.p_sz (x : M.IndexDef) (hx : M.IndexDef.ok x) : Sz (m_laws_szIndexDef x) (M.IndexDef.sz x) := by
  intro l a b
  unfold m_laws_szIndexDef M.IndexDef.sz
  exact (Sz.seqStr hx.Store (Sz.str hx.Field)) l a b
theorem M.IndexDef.p_to (x : M.IndexDef) (hx : M.IndexDef.ok x) (hs : M.IndexDef.sz x ≤ 1048576) : m_laws_toIndexDef x = some x := by
  unfold M.IndexDef.sz at hs
  unfold m_laws_toIndexDef
  rfl
theorem M.IndexDef.p_eq (x : M.IndexDef) (hx : M.IndexDef.ok x) : m_laws_eqIndexDef x x = some true := by
  simp [m_laws_eqIndexDef]
theorem M.IndexDefS.p_sz (xs : List M.IndexDef) (hx : (xs.length ≤ maxLen ∧ ∀ y ∈ xs, M.IndexDef.ok y)) : Sz (m_laws_szIndexDefS xs) ((xs.length + szSum M.IndexDef.sz xs)) := by
  intro l a b
  unfold m_laws_szIndexDefS
  exact (Sz.list' hx.1 (fun x h => M.IndexDef.p_sz x (hx.2 x h)) (fun _ _ _ => rfl)) l a b
theorem M.IndexDefS.p_to (xs : List M.IndexDef) (hx : (xs.length ≤ maxLen ∧ ∀ y ∈ xs, M.IndexDef.ok y)) (hs : (xs.length + szSum M.IndexDef.sz xs) ≤ 1048576) : m_laws_toIndexDefS xs = some xs := by
  have hm := le_max hx.1
  unfold m_laws_toIndexDefS
  rw [mkL_ok (by omega) (by omega), Option.bind_some]
  refine toLoop hx.1 (fun n k r hk hr => ?_) (fun n r => ?_) fuel 0 _ (by unfold fuel; omega) (by omega) (by simp) (by simp)
  · simp only [m_laws_toIndexDefS_L1]
    rw [if_pos (lt_nat hk), idx_nat hk, Option.bind_some, M.IndexDef.p_to _ (hx.2 _ (List.getElem_mem hk)) (by have := szSum_le (f := M.IndexDef.sz) (List.getElem_mem hk); omega), Option.bind_some, idx_nat (by omega), Option.bind_some, wrapn (by omega), Int.toNat_natCast]
  · simp only [m_laws_toIndexDefS_L1]
    rw [if_neg (by rw [nlt_nat]; simp)]
theorem M.IndexDefS.p_eq (xs : List M.IndexDef) (hx : (xs.length ≤ maxLen ∧ ∀ y ∈ xs, M.IndexDef.ok y)) : m_laws_eqIndexDefS xs xs = some true := by
  have hm := le_max hx.1
  unfold m_laws_eqIndexDefS
  rw [if_neg (by simp)]
  refine eqLoop hx.1 (fun n k hk => ?_) (fun n => ?_) fuel 0 (by unfold fuel; omega) (by omega)
  · simp only [m_laws_eqIndexDefS_L1]
    rw [if_pos (lt_nat hk), idx_nat hk]
    simp [wrapn (show k < 9223372036854775807 by omega), M.IndexDef.p_eq _ (hx.2 _ (List.getElem_mem hk))]
  · simp only [m_laws_eqIndexDefS_L1]
    rw [if_neg (by rw [nlt_nat]; simp)]
structure M.Database.ok (x : M.Database) : Prop where
  Name : x.Name.size ≤ maxLen
  Version : inI x.Version
  Stores : (x.Stores.length ≤ maxLen ∧ ∀ y ∈ x.Stores, M.Store.ok y)
  Unique : (x.Unique.length ≤ maxLen ∧ ∀ y ∈ x.Unique, M.IndexDef.ok y)
def M.Database.sh : List Shp := [.str, .int .i64, .sl M.Store.sh, .sl M.IndexDef.sh]
theorem M.Database.of_has (d : List D) (h : HasL M.Database.sh d) : ∃ x, d = M.Database.en x ∧ M.Database.ok x := by
  simp only [M.Database.sh, HasL, Has] at h
  obtain ⟨_, _, rfl, ⟨a1, rfl, w1⟩, _, _, rfl, ⟨a2, rfl, w2⟩, _, _, rfl, ⟨_, rfl, w3, q3⟩, _, _, rfl, ⟨_, rfl, w4, q4⟩, rfl⟩ := h
  obtain ⟨a3, rfl, e3⟩ := list_of_has M.Store.of_has q3
  obtain ⟨a4, rfl, e4⟩ := list_of_has M.IndexDef.of_has q4
  exact ⟨⟨a1, a2, a3, a4⟩, rfl, ⟨w1, wf_i64 w2, ⟨by simpa using w3, e3⟩, ⟨by simpa using w4, e4⟩⟩⟩
def M.Database.sz (x : M.Database) : Nat := x.Name.size + ((x.Stores.length + szSum M.Store.sz x.Stores) + ((x.Unique.length + szSum M.IndexDef.sz x.Unique)))
theorem M.Database.p_sz (x : M.Database) (hx : M.Database.ok x) : Sz (m_laws_szDatabase x) (M.Database.sz x) := by
  intro l a b
  unfold m_laws_szDatabase M.Database.sz
  exact (Sz.seqStr hx.Name (Sz.seqCall (M.StoreS.p_sz _ hx.Stores) (Sz.call (M.IndexDefS.p_sz _ hx.Unique)))) l a b
theorem M.Database.p_to (x : M.Database) (hx : M.Database.ok x) (hs : M.Database.sz x ≤ 1048576) : m_laws_toDatabase x = some x := by
  unfold M.Database.sz at hs
  unfold m_laws_toDatabase
  rw [M.StoreS.p_to _ hx.Stores (by omega), Option.bind_some, M.IndexDefS.p_to _ hx.Unique (by omega), Option.bind_some]
theorem M.Database.p_eq (x : M.Database) (hx : M.Database.ok x) : m_laws_eqDatabase x x = some true := by
  simp [m_laws_eqDatabase, M.StoreS.p_eq _ hx.Stores, M.IndexDefS.p_eq _ hx.Unique]
structure M.Disk.ok (x : M.Disk) : Prop where
  Base : M.Database.ok x.Base
  Log : okB x.Log
  Count : inI x.Count
def M.Disk.sh : List Shp := [.str, .int .i64, .sl M.Store.sh, .sl M.IndexDef.sh, .sl [.int .u8], .int .i64]
theorem M.Disk.of_has (d : List D) (h : HasL M.Disk.sh d) : ∃ x, d = M.Disk.en x ∧ M.Disk.ok x := by
  simp only [M.Disk.sh, HasL, Has] at h
  obtain ⟨_, _, rfl, ⟨a1, rfl, w1⟩, _, _, rfl, ⟨a2, rfl, w2⟩, _, _, rfl, ⟨_, rfl, w3, q3⟩, _, _, rfl, ⟨_, rfl, w4, q4⟩, _, _, rfl, ⟨_, rfl, w5, q5⟩, _, _, rfl, ⟨a6, rfl, w6⟩, rfl⟩ := h
  obtain ⟨a3, rfl, e3⟩ := list_of_has M.Store.of_has q3
  obtain ⟨a4, rfl, e4⟩ := list_of_has M.IndexDef.of_has q4
  obtain ⟨a5, rfl, e5⟩ := list_of_has has_b q5
  exact ⟨⟨⟨a1, a2, a3, a4⟩, a5, a6⟩, rfl, ⟨⟨w1, wf_i64 w2, ⟨by simpa using w3, e3⟩, ⟨by simpa using w4, e4⟩⟩, ⟨by simpa using w5, e5⟩, wf_i64 w6⟩⟩
def M.Disk.sz (x : M.Disk) : Nat := M.Database.sz x.Base + (x.Log.length)
theorem M.Disk.p_sz (x : M.Disk) (hx : M.Disk.ok x) : Sz (m_laws_szDisk x) (M.Disk.sz x) := by
  intro l a b
  unfold m_laws_szDisk M.Disk.sz
  exact (Sz.seqCall (M.Database.p_sz _ hx.Base) (Sz.call (M.ByteS.p_sz _ hx.Log))) l a b
theorem M.Disk.p_to (x : M.Disk) (hx : M.Disk.ok x) (hs : M.Disk.sz x ≤ 1048576) : m_laws_toDisk x = some x := by
  unfold M.Disk.sz at hs
  unfold m_laws_toDisk
  rw [M.Database.p_to _ hx.Base (by omega), Option.bind_some, M.ByteS.p_to _ hx.Log (by omega), Option.bind_some]
theorem M.Disk.p_eq (x : M.Disk) (hx : M.Disk.ok x) : m_laws_eqDisk x x = some true := by
  simp [m_laws_eqDisk, M.Database.p_eq _ hx.Base, M.ByteS.p_eq _ hx.Log]
structure M.Write.ok (x : M.Write) : Prop where
  Device : inI x.Device
  Seq : inI x.Seq
  Key : M.Key.ok x.Key
  Field : x.Field.size ≤ maxLen
  N : inI x.N
def M.Write.sh : List Shp := [.int .i64, .int .i64, .int .i64, .int .i64, .str, .str, .int .i64]
theorem M.Write.of_has (d : List D) (h : HasL M.Write.sh d) : ∃ x, d = M.Write.en x ∧ M.Write.ok x := by
  simp only [M.Write.sh, HasL, Has] at h
  obtain ⟨_, _, rfl, ⟨a1, rfl, w1⟩, _, _, rfl, ⟨a2, rfl, w2⟩, _, _, rfl, ⟨a3, rfl, w3⟩, _, _, rfl, ⟨a4, rfl, w4⟩, _, _, rfl, ⟨a5, rfl, w5⟩, _, _, rfl, ⟨a6, rfl, w6⟩, _, _, rfl, ⟨a7, rfl, w7⟩, rfl⟩ := h
  exact ⟨⟨a1, a2, ⟨a3, a4, a5⟩, a6, a7⟩, rfl, ⟨wf_i64 w1, wf_i64 w2, ⟨wf_i64 w3, wf_i64 w4, w5⟩, w6, wf_i64 w7⟩⟩
def M.Write.sz (x : M.Write) : Nat := M.Key.sz x.Key + (x.Field.size)
theorem M.Write.p_sz (x : M.Write) (hx : M.Write.ok x) : Sz (m_laws_szWrite x) (M.Write.sz x) := by
  intro l a b
  unfold m_laws_szWrite M.Write.sz
  exact (Sz.seqCall (M.Key.p_sz _ hx.Key) (Sz.str hx.Field)) l a b
theorem M.Write.p_to (x : M.Write) (hx : M.Write.ok x) (hs : M.Write.sz x ≤ 1048576) : m_laws_toWrite x = some x := by
  unfold M.Write.sz at hs
  unfold m_laws_toWrite
  rw [M.Key.p_to _ hx.Key (by omega), Option.bind_some]
theorem M.Write.p_eq (x : M.Write) (hx : M.Write.ok x) : m_laws_eqWrite x x = some true := by
  simp [m_laws_eqWrite, M.Key.p_eq _ hx.Key]
theorem M.WriteS.p_sz (xs : List M.Write) (hx : (xs.length ≤ maxLen ∧ ∀ y ∈ xs, M.Write.ok y)) : Sz (m_laws_szWriteS xs) ((xs.length + szSum M.Write.sz xs)) := by
  intro l a b
  unfold m_laws_szWriteS
  exact (Sz.list' hx.1 (fun x h => M.Write.p_sz x (hx.2 x h)) (fun _ _ _ => rfl)) l a b
theorem M.WriteS.p_to (xs : List M.Write) (hx : (xs.length ≤ maxLen ∧ ∀ y ∈ xs, M.Write.ok y)) (hs : (xs.length + szSum M.Write.sz xs) ≤ 1048576) : m_laws_toWriteS xs = some xs := by
  have hm := le_max hx.1
  unfold m_laws_toWriteS
  rw [mkL_ok (by omega) (by omega), Option.bind_some]
  refine toLoop hx.1 (fun n k r hk hr => ?_) (fun n r => ?_) fuel 0 _ (by unfold fuel; omega) (by omega) (by simp) (by simp)
  · simp only [m_laws_toWriteS_L1]
    rw [if_pos (lt_nat hk), idx_nat hk, Option.bind_some, M.Write.p_to _ (hx.2 _ (List.getElem_mem hk)) (by have := szSum_le (f := M.Write.sz) (List.getElem_mem hk); omega), Option.bind_some, idx_nat (by omega), Option.bind_some, wrapn (by omega), Int.toNat_natCast]
  · simp only [m_laws_toWriteS_L1]
    rw [if_neg (by rw [nlt_nat]; simp)]
theorem M.WriteS.p_eq (xs : List M.Write) (hx : (xs.length ≤ maxLen ∧ ∀ y ∈ xs, M.Write.ok y)) : m_laws_eqWriteS xs xs = some true := by
  have hm := le_max hx.1
  unfold m_laws_eqWriteS
  rw [if_neg (by simp)]
  refine eqLoop hx.1 (fun n k hk => ?_) (fun n => ?_) fuel 0 (by unfold fuel; omega) (by omega)
  · simp only [m_laws_eqWriteS_L1]
    rw [if_pos (lt_nat hk), idx_nat hk]
    simp [wrapn (show k < 9223372036854775807 by omega), M.Write.p_eq _ (hx.2 _ (List.getElem_mem hk))]
  · simp only [m_laws_eqWriteS_L1]
    rw [if_neg (by rw [nlt_nat]; simp)]
structure M.Outbox.ok (x : M.Outbox) : Prop where
  Device : inI x.Device
  Next : inI x.Next
  Writes : (x.Writes.length ≤ maxLen ∧ ∀ y ∈ x.Writes, M.Write.ok y)
def M.Outbox.sh : List Shp := [.int .i64, .int .i64, .sl M.Write.sh]
theorem M.Outbox.of_has (d : List D) (h : HasL M.Outbox.sh d) : ∃ x, d = M.Outbox.en x ∧ M.Outbox.ok x := by
  simp only [M.Outbox.sh, HasL, Has] at h
  obtain ⟨_, _, rfl, ⟨a1, rfl, w1⟩, _, _, rfl, ⟨a2, rfl, w2⟩, _, _, rfl, ⟨_, rfl, w3, q3⟩, rfl⟩ := h
  obtain ⟨a3, rfl, e3⟩ := list_of_has M.Write.of_has q3
  exact ⟨⟨a1, a2, a3⟩, rfl, ⟨wf_i64 w1, wf_i64 w2, ⟨by simpa using w3, e3⟩⟩⟩
def M.Outbox.sz (x : M.Outbox) : Nat := (x.Writes.length + szSum M.Write.sz x.Writes)
theorem M.Outbox.p_sz (x : M.Outbox) (hx : M.Outbox.ok x) : Sz (m_laws_szOutbox x) (M.Outbox.sz x) := by
  intro l a b
  unfold m_laws_szOutbox M.Outbox.sz
  exact (Sz.call (M.WriteS.p_sz _ hx.Writes)) l a b
theorem M.Outbox.p_to (x : M.Outbox) (hx : M.Outbox.ok x) (hs : M.Outbox.sz x ≤ 1048576) : m_laws_toOutbox x = some x := by
  unfold M.Outbox.sz at hs
  unfold m_laws_toOutbox
  rw [M.WriteS.p_to _ hx.Writes (by omega), Option.bind_some]
theorem M.Outbox.p_eq (x : M.Outbox) (hx : M.Outbox.ok x) : m_laws_eqOutbox x x = some true := by
  simp [m_laws_eqOutbox, M.WriteS.p_eq _ hx.Writes]
structure M.Sync.ok (x : M.Sync) : Prop where
  Outbox : M.Outbox.ok x.Outbox
  Tries : inI x.Tries
  WaitUntil : inI x.WaitUntil
def M.Sync.sh : List Shp := [.int .i64, .int .i64, .sl M.Write.sh, .int .i64, .int .i64]
theorem M.Sync.of_has (d : List D) (h : HasL M.Sync.sh d) : ∃ x, d = M.Sync.en x ∧ M.Sync.ok x := by
  simp only [M.Sync.sh, HasL, Has] at h
  obtain ⟨_, _, rfl, ⟨a1, rfl, w1⟩, _, _, rfl, ⟨a2, rfl, w2⟩, _, _, rfl, ⟨_, rfl, w3, q3⟩, _, _, rfl, ⟨a4, rfl, w4⟩, _, _, rfl, ⟨a5, rfl, w5⟩, rfl⟩ := h
  obtain ⟨a3, rfl, e3⟩ := list_of_has M.Write.of_has q3
  exact ⟨⟨⟨a1, a2, a3⟩, a4, a5⟩, rfl, ⟨⟨wf_i64 w1, wf_i64 w2, ⟨by simpa using w3, e3⟩⟩, wf_i64 w4, wf_i64 w5⟩⟩
def M.Sync.sz (x : M.Sync) : Nat := M.Outbox.sz x.Outbox
theorem M.Sync.p_sz (x : M.Sync) (hx : M.Sync.ok x) : Sz (m_laws_szSync x) (M.Sync.sz x) := by
  intro l a b
  unfold m_laws_szSync M.Sync.sz
  exact (Sz.call (M.Outbox.p_sz _ hx.Outbox)) l a b
theorem M.Sync.p_to (x : M.Sync) (hx : M.Sync.ok x) (hs : M.Sync.sz x ≤ 1048576) : m_laws_toSync x = some x := by
  unfold M.Sync.sz at hs
  unfold m_laws_toSync
  rw [M.Outbox.p_to _ hx.Outbox (by omega), Option.bind_some]
theorem M.Sync.p_eq (x : M.Sync) (hx : M.Sync.ok x) : m_laws_eqSync x x = some true := by
  simp [m_laws_eqSync, M.Outbox.p_eq _ hx.Outbox]
structure M.Replica.ok (x : M.Replica) : Prop where
  Base : M.Store.ok x.Base
  Seen : inI x.Seen
  Sync : M.Sync.ok x.Sync
def M.Replica.sh : List Shp := [.str, .sl M.Item.sh, .int .i64, .int .i64, .int .i64, .int .i64, .sl M.Write.sh, .int .i64, .int .i64]
theorem M.Replica.of_has (d : List D) (h : HasL M.Replica.sh d) : ∃ x, d = M.Replica.en x ∧ M.Replica.ok x := by
  simp only [M.Replica.sh, HasL, Has] at h
  obtain ⟨_, _, rfl, ⟨a1, rfl, w1⟩, _, _, rfl, ⟨_, rfl, w2, q2⟩, _, _, rfl, ⟨a3, rfl, w3⟩, _, _, rfl, ⟨a4, rfl, w4⟩, _, _, rfl, ⟨a5, rfl, w5⟩, _, _, rfl, ⟨a6, rfl, w6⟩, _, _, rfl, ⟨_, rfl, w7, q7⟩, _, _, rfl, ⟨a8, rfl, w8⟩, _, _, rfl, ⟨a9, rfl, w9⟩, rfl⟩ := h
  obtain ⟨a2, rfl, e2⟩ := list_of_has M.Item.of_has q2
  obtain ⟨a7, rfl, e7⟩ := list_of_has M.Write.of_has q7
  exact ⟨⟨⟨a1, a2, a3⟩, a4, ⟨⟨a5, a6, a7⟩, a8, a9⟩⟩, rfl, ⟨⟨w1, ⟨by simpa using w2, e2⟩, wf_i64 w3⟩, wf_i64 w4, ⟨⟨wf_i64 w5, wf_i64 w6, ⟨by simpa using w7, e7⟩⟩, wf_i64 w8, wf_i64 w9⟩⟩⟩
def M.Replica.sz (x : M.Replica) : Nat := M.Store.sz x.Base + (M.Sync.sz x.Sync)
theorem M.Replica.p_sz (x : M.Replica) (hx : M.Replica.ok x) : Sz (m_laws_szReplica x) (M.Replica.sz x) := by
  intro l a b
  unfold m_laws_szReplica M.Replica.sz
  exact (Sz.seqCall (M.Store.p_sz _ hx.Base) (Sz.call (M.Sync.p_sz _ hx.Sync))) l a b
theorem M.Replica.p_to (x : M.Replica) (hx : M.Replica.ok x) (hs : M.Replica.sz x ≤ 1048576) : m_laws_toReplica x = some x := by
  unfold M.Replica.sz at hs
  unfold m_laws_toReplica
  rw [M.Store.p_to _ hx.Base (by omega), Option.bind_some, M.Sync.p_to _ hx.Sync (by omega), Option.bind_some]
theorem M.Replica.p_eq (x : M.Replica) (hx : M.Replica.ok x) : m_laws_eqReplica x x = some true := by
  simp [m_laws_eqReplica, M.Store.p_eq _ hx.Base, M.Sync.p_eq _ hx.Sync]
structure M.Bucket.ok (x : M.Bucket) : Prop where
  Site : x.Site.size ≤ maxLen
  Top : x.Top.size ≤ maxLen
  Registration : M.Registration.ok x.Registration
  Caches : M.CacheSet.ok x.Caches
  Disk : M.Disk.ok x.Disk
  Replica : M.Replica.ok x.Replica
  LastUsed : inI x.LastUsed
def M.Bucket.sh : List Shp := [.str, .str, .str, .int .i64, .int .i64, .int .i64, .sl M.Cache.sh, .str, .int .i64, .sl M.Store.sh, .sl M.IndexDef.sh, .sl [.int .u8], .int .i64, .str, .sl M.Item.sh, .int .i64, .int .i64, .int .i64, .int .i64, .sl M.Write.sh, .int .i64, .int .i64, .int .i64, .bool]
theorem M.Bucket.of_has (d : List D) (h : HasL M.Bucket.sh d) : ∃ x, d = M.Bucket.en x ∧ M.Bucket.ok x := by
  simp only [M.Bucket.sh, HasL, Has] at h
  obtain ⟨_, _, rfl, ⟨a1, rfl, w1⟩, _, _, rfl, ⟨a2, rfl, w2⟩, _, _, rfl, ⟨a3, rfl, w3⟩, _, _, rfl, ⟨a4, rfl, w4⟩, _, _, rfl, ⟨a5, rfl, w5⟩, _, _, rfl, ⟨a6, rfl, w6⟩, _, _, rfl, ⟨_, rfl, w7, q7⟩, _, _, rfl, ⟨a8, rfl, w8⟩, _, _, rfl, ⟨a9, rfl, w9⟩, _, _, rfl, ⟨_, rfl, w10, q10⟩, _, _, rfl, ⟨_, rfl, w11, q11⟩, _, _, rfl, ⟨_, rfl, w12, q12⟩, _, _, rfl, ⟨a13, rfl, w13⟩, _, _, rfl, ⟨a14, rfl, w14⟩, _, _, rfl, ⟨_, rfl, w15, q15⟩, _, _, rfl, ⟨a16, rfl, w16⟩, _, _, rfl, ⟨a17, rfl, w17⟩, _, _, rfl, ⟨a18, rfl, w18⟩, _, _, rfl, ⟨a19, rfl, w19⟩, _, _, rfl, ⟨_, rfl, w20, q20⟩, _, _, rfl, ⟨a21, rfl, w21⟩, _, _, rfl, ⟨a22, rfl, w22⟩, _, _, rfl, ⟨a23, rfl, w23⟩, _, _, rfl, ⟨a24, rfl⟩, rfl⟩ := h
  obtain ⟨a7, rfl, e7⟩ := list_of_has M.Cache.of_has q7
  obtain ⟨a10, rfl, e10⟩ := list_of_has M.Store.of_has q10
  obtain ⟨a11, rfl, e11⟩ := list_of_has M.IndexDef.of_has q11
  obtain ⟨a12, rfl, e12⟩ := list_of_has has_b q12
  obtain ⟨a15, rfl, e15⟩ := list_of_has M.Item.of_has q15
  obtain ⟨a20, rfl, e20⟩ := list_of_has M.Write.of_has q20
  exact ⟨⟨a1, a2, ⟨a3, a4, a5, a6⟩, ⟨a7⟩, ⟨⟨a8, a9, a10, a11⟩, a12, a13⟩, ⟨⟨a14, a15, a16⟩, a17, ⟨⟨a18, a19, a20⟩, a21, a22⟩⟩, a23, a24⟩, rfl, ⟨w1, w2, ⟨w3, wf_i64 w4, wf_i64 w5, wf_i64 w6⟩, ⟨⟨by simpa using w7, e7⟩⟩, ⟨⟨w8, wf_i64 w9, ⟨by simpa using w10, e10⟩, ⟨by simpa using w11, e11⟩⟩, ⟨by simpa using w12, e12⟩, wf_i64 w13⟩, ⟨⟨w14, ⟨by simpa using w15, e15⟩, wf_i64 w16⟩, wf_i64 w17, ⟨⟨wf_i64 w18, wf_i64 w19, ⟨by simpa using w20, e20⟩⟩, wf_i64 w21, wf_i64 w22⟩⟩, wf_i64 w23⟩⟩
def M.Bucket.sz (x : M.Bucket) : Nat := x.Site.size + (x.Top.size + (M.Registration.sz x.Registration + (M.CacheSet.sz x.Caches + (M.Disk.sz x.Disk + (M.Replica.sz x.Replica)))))
theorem M.Bucket.p_sz (x : M.Bucket) (hx : M.Bucket.ok x) : Sz (m_laws_szBucket x) (M.Bucket.sz x) := by
  intro l a b
  unfold m_laws_szBucket M.Bucket.sz
  exact (Sz.seqStr hx.Site (Sz.seqStr hx.Top (Sz.seqCall (M.Registration.p_sz _ hx.Registration) (Sz.seqCall (M.CacheSet.p_sz _ hx.Caches) (Sz.seqCall (M.Disk.p_sz _ hx.Disk) (Sz.call (M.Replica.p_sz _ hx.Replica))))))) l a b
theorem M.Bucket.p_to (x : M.Bucket) (hx : M.Bucket.ok x) (hs : M.Bucket.sz x ≤ 1048576) : m_laws_toBucket x = some x := by
  unfold M.Bucket.sz at hs
  unfold m_laws_toBucket
  rw [M.Registration.p_to _ hx.Registration (by omega), Option.bind_some, M.CacheSet.p_to _ hx.Caches (by omega), Option.bind_some, M.Disk.p_to _ hx.Disk (by omega), Option.bind_some, M.Replica.p_to _ hx.Replica (by omega), Option.bind_some]
theorem M.Bucket.p_eq (x : M.Bucket) (hx : M.Bucket.ok x) : m_laws_eqBucket x x = some true := by
  simp [m_laws_eqBucket, M.Registration.p_eq _ hx.Registration, M.CacheSet.p_eq _ hx.Caches, M.Disk.p_eq _ hx.Disk, M.Replica.p_eq _ hx.Replica]
theorem M.BucketS.p_sz (xs : List M.Bucket) (hx : (xs.length ≤ maxLen ∧ ∀ y ∈ xs, M.Bucket.ok y)) : Sz (m_laws_szBucketS xs) ((xs.length + szSum M.Bucket.sz xs)) := by
  intro l a b
  unfold m_laws_szBucketS
  exact (Sz.list' hx.1 (fun x h => M.Bucket.p_sz x (hx.2 x h)) (fun _ _ _ => rfl)) l a b
theorem M.BucketS.p_to (xs : List M.Bucket) (hx : (xs.length ≤ maxLen ∧ ∀ y ∈ xs, M.Bucket.ok y)) (hs : (xs.length + szSum M.Bucket.sz xs) ≤ 1048576) : m_laws_toBucketS xs = some xs := by
  have hm := le_max hx.1
  unfold m_laws_toBucketS
  rw [mkL_ok (by omega) (by omega), Option.bind_some]
  refine toLoop hx.1 (fun n k r hk hr => ?_) (fun n r => ?_) fuel 0 _ (by unfold fuel; omega) (by omega) (by simp) (by simp)
  · simp only [m_laws_toBucketS_L1]
    rw [if_pos (lt_nat hk), idx_nat hk, Option.bind_some, M.Bucket.p_to _ (hx.2 _ (List.getElem_mem hk)) (by have := szSum_le (f := M.Bucket.sz) (List.getElem_mem hk); omega), Option.bind_some, idx_nat (by omega), Option.bind_some, wrapn (by omega), Int.toNat_natCast]
  · simp only [m_laws_toBucketS_L1]
    rw [if_neg (by rw [nlt_nat]; simp)]
theorem M.BucketS.p_eq (xs : List M.Bucket) (hx : (xs.length ≤ maxLen ∧ ∀ y ∈ xs, M.Bucket.ok y)) : m_laws_eqBucketS xs xs = some true := by
  have hm := le_max hx.1
  unfold m_laws_eqBucketS
  rw [if_neg (by simp)]
  refine eqLoop hx.1 (fun n k hk => ?_) (fun n => ?_) fuel 0 (by unfold fuel; omega) (by omega)
  · simp only [m_laws_eqBucketS_L1]
    rw [if_pos (lt_nat hk), idx_nat hk]
    simp [wrapn (show k < 9223372036854775807 by omega), M.Bucket.p_eq _ (hx.2 _ (List.getElem_mem hk))]
  · simp only [m_laws_eqBucketS_L1]
    rw [if_neg (by rw [nlt_nat]; simp)]
structure M.Storage.ok (x : M.Storage) : Prop where
  Buckets : (x.Buckets.length ≤ maxLen ∧ ∀ y ∈ x.Buckets, M.Bucket.ok y)
def M.Storage.sh : List Shp := [.sl M.Bucket.sh]
theorem M.Storage.of_has (d : List D) (h : HasL M.Storage.sh d) : ∃ x, d = M.Storage.en x ∧ M.Storage.ok x := by
  simp only [M.Storage.sh, HasL, Has] at h
  obtain ⟨_, _, rfl, ⟨_, rfl, w1, q1⟩, rfl⟩ := h
  obtain ⟨a1, rfl, e1⟩ := list_of_has M.Bucket.of_has q1
  exact ⟨⟨a1⟩, rfl, ⟨⟨by simpa using w1, e1⟩⟩⟩
def M.Storage.sz (x : M.Storage) : Nat := (x.Buckets.length + szSum M.Bucket.sz x.Buckets)
theorem M.Storage.p_sz (x : M.Storage) (hx : M.Storage.ok x) : Sz (m_laws_szStorage x) (M.Storage.sz x) := by
  intro l a b
  unfold m_laws_szStorage M.Storage.sz
  exact (Sz.call (M.BucketS.p_sz _ hx.Buckets)) l a b
theorem M.Storage.p_to (x : M.Storage) (hx : M.Storage.ok x) (hs : M.Storage.sz x ≤ 1048576) : m_laws_toStorage x = some x := by
  unfold M.Storage.sz at hs
  unfold m_laws_toStorage
  rw [M.BucketS.p_to _ hx.Buckets (by omega), Option.bind_some]
theorem M.Storage.p_eq (x : M.Storage) (hx : M.Storage.ok x) : m_laws_eqStorage x x = some true := by
  simp [m_laws_eqStorage, M.BucketS.p_eq _ hx.Buckets]
structure M.Loaded.ok (x : M.Loaded) : Prop where
  Path : x.Path.size ≤ maxLen
  Version : inI x.Version
def M.Loaded.sh : List Shp := [.str, .int .i64]
theorem M.Loaded.of_has (d : List D) (h : HasL M.Loaded.sh d) : ∃ x, d = M.Loaded.en x ∧ M.Loaded.ok x := by
  simp only [M.Loaded.sh, HasL, Has] at h
  obtain ⟨_, _, rfl, ⟨a1, rfl, w1⟩, _, _, rfl, ⟨a2, rfl, w2⟩, rfl⟩ := h
  exact ⟨⟨a1, a2⟩, rfl, ⟨w1, wf_i64 w2⟩⟩
def M.Loaded.sz (x : M.Loaded) : Nat := x.Path.size
theorem M.Loaded.p_sz (x : M.Loaded) (hx : M.Loaded.ok x) : Sz (m_laws_szLoaded x) (M.Loaded.sz x) := by
  intro l a b
  unfold m_laws_szLoaded M.Loaded.sz
  exact (Sz.str hx.Path) l a b
theorem M.Loaded.p_to (x : M.Loaded) (hx : M.Loaded.ok x) (hs : M.Loaded.sz x ≤ 1048576) : m_laws_toLoaded x = some x := by
  unfold M.Loaded.sz at hs
  unfold m_laws_toLoaded
  rfl
theorem M.Loaded.p_eq (x : M.Loaded) (hx : M.Loaded.ok x) : m_laws_eqLoaded x x = some true := by
  simp [m_laws_eqLoaded]
theorem M.LoadedS.p_sz (xs : List M.Loaded) (hx : (xs.length ≤ maxLen ∧ ∀ y ∈ xs, M.Loaded.ok y)) : Sz (m_laws_szLoadedS xs) ((xs.length + szSum M.Loaded.sz xs)) := by
  intro l a b
  unfold m_laws_szLoadedS
  exact (Sz.list' hx.1 (fun x h => M.Loaded.p_sz x (hx.2 x h)) (fun _ _ _ => rfl)) l a b
theorem M.LoadedS.p_to (xs : List M.Loaded) (hx : (xs.length ≤ maxLen ∧ ∀ y ∈ xs, M.Loaded.ok y)) (hs : (xs.length + szSum M.Loaded.sz xs) ≤ 1048576) : m_laws_toLoadedS xs = some xs := by
  have hm := le_max hx.1
  unfold m_laws_toLoadedS
  rw [mkL_ok (by omega) (by omega), Option.bind_some]
  refine toLoop hx.1 (fun n k r hk hr => ?_) (fun n r => ?_) fuel 0 _ (by unfold fuel; omega) (by omega) (by simp) (by simp)
  · simp only [m_laws_toLoadedS_L1]
    rw [if_pos (lt_nat hk), idx_nat hk, Option.bind_some, M.Loaded.p_to _ (hx.2 _ (List.getElem_mem hk)) (by have := szSum_le (f := M.Loaded.sz) (List.getElem_mem hk); omega), Option.bind_some, idx_nat (by omega), Option.bind_some, wrapn (by omega), Int.toNat_natCast]
  · simp only [m_laws_toLoadedS_L1]
    rw [if_neg (by rw [nlt_nat]; simp)]
theorem M.LoadedS.p_eq (xs : List M.Loaded) (hx : (xs.length ≤ maxLen ∧ ∀ y ∈ xs, M.Loaded.ok y)) : m_laws_eqLoadedS xs xs = some true := by
  have hm := le_max hx.1
  unfold m_laws_eqLoadedS
  rw [if_neg (by simp)]
  refine eqLoop hx.1 (fun n k hk => ?_) (fun n => ?_) fuel 0 (by unfold fuel; omega) (by omega)
  · simp only [m_laws_eqLoadedS_L1]
    rw [if_pos (lt_nat hk), idx_nat hk]
    simp [wrapn (show k < 9223372036854775807 by omega), M.Loaded.p_eq _ (hx.2 _ (List.getElem_mem hk))]
  · simp only [m_laws_eqLoadedS_L1]
    rw [if_neg (by rw [nlt_nat]; simp)]
structure M.Instr.ok (x : M.Instr) : Prop where
  Kind : inI x.Kind
  R : inI x.R
  N : inI x.N
  Text : x.Text.size ≤ maxLen
def M.Instr.sh : List Shp := [.int .i64, .int .i64, .int .i64, .str]
theorem M.Instr.of_has (d : List D) (h : HasL M.Instr.sh d) : ∃ x, d = M.Instr.en x ∧ M.Instr.ok x := by
  simp only [M.Instr.sh, HasL, Has] at h
  obtain ⟨_, _, rfl, ⟨a1, rfl, w1⟩, _, _, rfl, ⟨a2, rfl, w2⟩, _, _, rfl, ⟨a3, rfl, w3⟩, _, _, rfl, ⟨a4, rfl, w4⟩, rfl⟩ := h
  exact ⟨⟨a1, a2, a3, a4⟩, rfl, ⟨wf_i64 w1, wf_i64 w2, wf_i64 w3, w4⟩⟩
def M.Instr.sz (x : M.Instr) : Nat := x.Text.size
theorem M.Instr.p_sz (x : M.Instr) (hx : M.Instr.ok x) : Sz (m_laws_szInstr x) (M.Instr.sz x) := by
  intro l a b
  unfold m_laws_szInstr M.Instr.sz
  exact (Sz.str hx.Text) l a b
theorem M.Instr.p_to (x : M.Instr) (hx : M.Instr.ok x) (hs : M.Instr.sz x ≤ 1048576) : m_laws_toInstr x = some x := by
  unfold M.Instr.sz at hs
  unfold m_laws_toInstr
  rfl
theorem M.Instr.p_eq (x : M.Instr) (hx : M.Instr.ok x) : m_laws_eqInstr x x = some true := by
  simp [m_laws_eqInstr]
theorem M.InstrS.p_sz (xs : List M.Instr) (hx : (xs.length ≤ maxLen ∧ ∀ y ∈ xs, M.Instr.ok y)) : Sz (m_laws_szInstrS xs) ((xs.length + szSum M.Instr.sz xs)) := by
  intro l a b
  unfold m_laws_szInstrS
  exact (Sz.list' hx.1 (fun x h => M.Instr.p_sz x (hx.2 x h)) (fun _ _ _ => rfl)) l a b
theorem M.InstrS.p_to (xs : List M.Instr) (hx : (xs.length ≤ maxLen ∧ ∀ y ∈ xs, M.Instr.ok y)) (hs : (xs.length + szSum M.Instr.sz xs) ≤ 1048576) : m_laws_toInstrS xs = some xs := by
  have hm := le_max hx.1
  unfold m_laws_toInstrS
  rw [mkL_ok (by omega) (by omega), Option.bind_some]
  refine toLoop hx.1 (fun n k r hk hr => ?_) (fun n r => ?_) fuel 0 _ (by unfold fuel; omega) (by omega) (by simp) (by simp)
  · simp only [m_laws_toInstrS_L1]
    rw [if_pos (lt_nat hk), idx_nat hk, Option.bind_some, M.Instr.p_to _ (hx.2 _ (List.getElem_mem hk)) (by have := szSum_le (f := M.Instr.sz) (List.getElem_mem hk); omega), Option.bind_some, idx_nat (by omega), Option.bind_some, wrapn (by omega), Int.toNat_natCast]
  · simp only [m_laws_toInstrS_L1]
    rw [if_neg (by rw [nlt_nat]; simp)]
theorem M.InstrS.p_eq (xs : List M.Instr) (hx : (xs.length ≤ maxLen ∧ ∀ y ∈ xs, M.Instr.ok y)) : m_laws_eqInstrS xs xs = some true := by
  have hm := le_max hx.1
  unfold m_laws_eqInstrS
  rw [if_neg (by simp)]
  refine eqLoop hx.1 (fun n k hk => ?_) (fun n => ?_) fuel 0 (by unfold fuel; omega) (by omega)
  · simp only [m_laws_eqInstrS_L1]
    rw [if_pos (lt_nat hk), idx_nat hk]
    simp [wrapn (show k < 9223372036854775807 by omega), M.Instr.p_eq _ (hx.2 _ (List.getElem_mem hk))]
  · simp only [m_laws_eqInstrS_L1]
    rw [if_neg (by rw [nlt_nat]; simp)]
theorem M.IntS.p_sz (xs : List Int) (hx : okI xs) : Sz (m_laws_szIntS xs) (xs.length) := by
  intro l a b
  unfold m_laws_szIntS
  exact (Sz.str hx.1) l a b
theorem M.IntS.p_to (xs : List Int) (hx : okI xs) (hs : xs.length ≤ 1048576) : m_laws_toIntS xs = some xs := by
  have hm := le_max hx.1
  unfold m_laws_toIntS
  rw [mkL_ok (by omega) (by omega), Option.bind_some]
  refine toLoop hx.1 (fun n k r hk hr => ?_) (fun n r => ?_) fuel 0 _ (by unfold fuel; omega) (by omega) (by simp) (by simp)
  · simp only [m_laws_toIntS_L1]
    rw [if_pos (lt_nat hk), idx_nat hk, Option.bind_some, idx_nat (by omega), Option.bind_some, wrapn (by omega), Int.toNat_natCast]
  · simp only [m_laws_toIntS_L1]
    rw [if_neg (by rw [nlt_nat]; simp)]
theorem M.IntS.p_eq (xs : List Int) (hx : okI xs) : m_laws_eqIntS xs xs = some true := by
  have hm := le_max hx.1
  unfold m_laws_eqIntS
  rw [if_neg (by simp)]
  refine eqLoop hx.1 (fun n k hk => ?_) (fun n => ?_) fuel 0 (by unfold fuel; omega) (by omega)
  · simp only [m_laws_eqIntS_L1]
    rw [if_pos (lt_nat hk), idx_nat hk]
    simp [wrapn (show k < 9223372036854775807 by omega)]
  · simp only [m_laws_eqIntS_L1]
    rw [if_neg (by rw [nlt_nat]; simp)]
structure M.Machine.ok (x : M.Machine) : Prop where
  Script : (x.Script.length ≤ maxLen ∧ ∀ y ∈ x.Script, M.Instr.ok y)
  Pc : inI x.Pc
  Regs : okI x.Regs
  Steps : inI x.Steps
def M.Machine.sh : List Shp := [.sl M.Instr.sh, .int .i64, .sl [.int .i64], .int .i64, .bool, .bool]
theorem M.Machine.of_has (d : List D) (h : HasL M.Machine.sh d) : ∃ x, d = M.Machine.en x ∧ M.Machine.ok x := by
  simp only [M.Machine.sh, HasL, Has] at h
  obtain ⟨_, _, rfl, ⟨_, rfl, w1, q1⟩, _, _, rfl, ⟨a2, rfl, w2⟩, _, _, rfl, ⟨_, rfl, w3, q3⟩, _, _, rfl, ⟨a4, rfl, w4⟩, _, _, rfl, ⟨a5, rfl⟩, _, _, rfl, ⟨a6, rfl⟩, rfl⟩ := h
  obtain ⟨a1, rfl, e1⟩ := list_of_has M.Instr.of_has q1
  obtain ⟨a3, rfl, e3⟩ := list_of_has has_i q3
  exact ⟨⟨a1, a2, a3, a4, a5, a6⟩, rfl, ⟨⟨by simpa using w1, e1⟩, wf_i64 w2, ⟨by simpa using w3, e3⟩, wf_i64 w4⟩⟩
def M.Machine.sz (x : M.Machine) : Nat := (x.Script.length + szSum M.Instr.sz x.Script) + (x.Regs.length)
theorem M.Machine.p_sz (x : M.Machine) (hx : M.Machine.ok x) : Sz (m_laws_szMachine x) (M.Machine.sz x) := by
  intro l a b
  unfold m_laws_szMachine M.Machine.sz
  exact (Sz.seqCall (M.InstrS.p_sz _ hx.Script) (Sz.call (M.IntS.p_sz _ hx.Regs))) l a b
theorem M.Machine.p_to (x : M.Machine) (hx : M.Machine.ok x) (hs : M.Machine.sz x ≤ 1048576) : m_laws_toMachine x = some x := by
  unfold M.Machine.sz at hs
  unfold m_laws_toMachine
  rw [M.InstrS.p_to _ hx.Script (by omega), Option.bind_some, M.IntS.p_to _ hx.Regs (by omega), Option.bind_some]
theorem M.Machine.p_eq (x : M.Machine) (hx : M.Machine.ok x) : m_laws_eqMachine x x = some true := by
  simp [m_laws_eqMachine, M.InstrS.p_eq _ hx.Script, M.IntS.p_eq _ hx.Regs]
structure M.Page.ok (x : M.Page) : Prop where
  Id : inI x.Id
  Site : x.Site.size ≤ maxLen
  Top : x.Top.size ≤ maxLen
  Version : inI x.Version
  Loaded : (x.Loaded.length ≤ maxLen ∧ ∀ y ∈ x.Loaded, M.Loaded.ok y)
  Machine : M.Machine.ok x.Machine
def M.Page.sh : List Shp := [.int .i64, .str, .str, .int .i64, .sl M.Loaded.sh, .sl M.Instr.sh, .int .i64, .sl [.int .i64], .int .i64, .bool, .bool]
theorem M.Page.of_has (d : List D) (h : HasL M.Page.sh d) : ∃ x, d = M.Page.en x ∧ M.Page.ok x := by
  simp only [M.Page.sh, HasL, Has] at h
  obtain ⟨_, _, rfl, ⟨a1, rfl, w1⟩, _, _, rfl, ⟨a2, rfl, w2⟩, _, _, rfl, ⟨a3, rfl, w3⟩, _, _, rfl, ⟨a4, rfl, w4⟩, _, _, rfl, ⟨_, rfl, w5, q5⟩, _, _, rfl, ⟨_, rfl, w6, q6⟩, _, _, rfl, ⟨a7, rfl, w7⟩, _, _, rfl, ⟨_, rfl, w8, q8⟩, _, _, rfl, ⟨a9, rfl, w9⟩, _, _, rfl, ⟨a10, rfl⟩, _, _, rfl, ⟨a11, rfl⟩, rfl⟩ := h
  obtain ⟨a5, rfl, e5⟩ := list_of_has M.Loaded.of_has q5
  obtain ⟨a6, rfl, e6⟩ := list_of_has M.Instr.of_has q6
  obtain ⟨a8, rfl, e8⟩ := list_of_has has_i q8
  exact ⟨⟨a1, a2, a3, a4, a5, ⟨a6, a7, a8, a9, a10, a11⟩⟩, rfl, ⟨wf_i64 w1, w2, w3, wf_i64 w4, ⟨by simpa using w5, e5⟩, ⟨⟨by simpa using w6, e6⟩, wf_i64 w7, ⟨by simpa using w8, e8⟩, wf_i64 w9⟩⟩⟩
def M.Page.sz (x : M.Page) : Nat := x.Site.size + (x.Top.size + ((x.Loaded.length + szSum M.Loaded.sz x.Loaded) + (M.Machine.sz x.Machine)))
theorem M.Page.p_sz (x : M.Page) (hx : M.Page.ok x) : Sz (m_laws_szPage x) (M.Page.sz x) := by
  intro l a b
  unfold m_laws_szPage M.Page.sz
  exact (Sz.seqStr hx.Site (Sz.seqStr hx.Top (Sz.seqCall (M.LoadedS.p_sz _ hx.Loaded) (Sz.call (M.Machine.p_sz _ hx.Machine))))) l a b
theorem M.Page.p_to (x : M.Page) (hx : M.Page.ok x) (hs : M.Page.sz x ≤ 1048576) : m_laws_toPage x = some x := by
  unfold M.Page.sz at hs
  unfold m_laws_toPage
  rw [M.LoadedS.p_to _ hx.Loaded (by omega), Option.bind_some, M.Machine.p_to _ hx.Machine (by omega), Option.bind_some]
theorem M.Page.p_eq (x : M.Page) (hx : M.Page.ok x) : m_laws_eqPage x x = some true := by
  simp [m_laws_eqPage, M.LoadedS.p_eq _ hx.Loaded, M.Machine.p_eq _ hx.Machine]
theorem M.PageS.p_sz (xs : List M.Page) (hx : (xs.length ≤ maxLen ∧ ∀ y ∈ xs, M.Page.ok y)) : Sz (m_laws_szPageS xs) ((xs.length + szSum M.Page.sz xs)) := by
  intro l a b
  unfold m_laws_szPageS
  exact (Sz.list' hx.1 (fun x h => M.Page.p_sz x (hx.2 x h)) (fun _ _ _ => rfl)) l a b
theorem M.PageS.p_to (xs : List M.Page) (hx : (xs.length ≤ maxLen ∧ ∀ y ∈ xs, M.Page.ok y)) (hs : (xs.length + szSum M.Page.sz xs) ≤ 1048576) : m_laws_toPageS xs = some xs := by
  have hm := le_max hx.1
  unfold m_laws_toPageS
  rw [mkL_ok (by omega) (by omega), Option.bind_some]
  refine toLoop hx.1 (fun n k r hk hr => ?_) (fun n r => ?_) fuel 0 _ (by unfold fuel; omega) (by omega) (by simp) (by simp)
  · simp only [m_laws_toPageS_L1]
    rw [if_pos (lt_nat hk), idx_nat hk, Option.bind_some, M.Page.p_to _ (hx.2 _ (List.getElem_mem hk)) (by have := szSum_le (f := M.Page.sz) (List.getElem_mem hk); omega), Option.bind_some, idx_nat (by omega), Option.bind_some, wrapn (by omega), Int.toNat_natCast]
  · simp only [m_laws_toPageS_L1]
    rw [if_neg (by rw [nlt_nat]; simp)]
theorem M.PageS.p_eq (xs : List M.Page) (hx : (xs.length ≤ maxLen ∧ ∀ y ∈ xs, M.Page.ok y)) : m_laws_eqPageS xs xs = some true := by
  have hm := le_max hx.1
  unfold m_laws_eqPageS
  rw [if_neg (by simp)]
  refine eqLoop hx.1 (fun n k hk => ?_) (fun n => ?_) fuel 0 (by unfold fuel; omega) (by omega)
  · simp only [m_laws_eqPageS_L1]
    rw [if_pos (lt_nat hk), idx_nat hk]
    simp [wrapn (show k < 9223372036854775807 by omega), M.Page.p_eq _ (hx.2 _ (List.getElem_mem hk))]
  · simp only [m_laws_eqPageS_L1]
    rw [if_neg (by rw [nlt_nat]; simp)]
structure M.Lock.ok (x : M.Lock) : Prop where
  Name : x.Name.size ≤ maxLen
  Page : inI x.Page
def M.Lock.sh : List Shp := [.str, .int .i64, .bool, .bool]
theorem M.Lock.of_has (d : List D) (h : HasL M.Lock.sh d) : ∃ x, d = M.Lock.en x ∧ M.Lock.ok x := by
  simp only [M.Lock.sh, HasL, Has] at h
  obtain ⟨_, _, rfl, ⟨a1, rfl, w1⟩, _, _, rfl, ⟨a2, rfl, w2⟩, _, _, rfl, ⟨a3, rfl⟩, _, _, rfl, ⟨a4, rfl⟩, rfl⟩ := h
  exact ⟨⟨a1, a2, a3, a4⟩, rfl, ⟨w1, wf_i64 w2⟩⟩
def M.Lock.sz (x : M.Lock) : Nat := x.Name.size
theorem M.Lock.p_sz (x : M.Lock) (hx : M.Lock.ok x) : Sz (m_laws_szLock x) (M.Lock.sz x) := by
  intro l a b
  unfold m_laws_szLock M.Lock.sz
  exact (Sz.str hx.Name) l a b
theorem M.Lock.p_to (x : M.Lock) (hx : M.Lock.ok x) (hs : M.Lock.sz x ≤ 1048576) : m_laws_toLock x = some x := by
  unfold M.Lock.sz at hs
  unfold m_laws_toLock
  rfl
theorem M.Lock.p_eq (x : M.Lock) (hx : M.Lock.ok x) : m_laws_eqLock x x = some true := by
  simp [m_laws_eqLock]
theorem M.LockS.p_sz (xs : List M.Lock) (hx : (xs.length ≤ maxLen ∧ ∀ y ∈ xs, M.Lock.ok y)) : Sz (m_laws_szLockS xs) ((xs.length + szSum M.Lock.sz xs)) := by
  intro l a b
  unfold m_laws_szLockS
  exact (Sz.list' hx.1 (fun x h => M.Lock.p_sz x (hx.2 x h)) (fun _ _ _ => rfl)) l a b
theorem M.LockS.p_to (xs : List M.Lock) (hx : (xs.length ≤ maxLen ∧ ∀ y ∈ xs, M.Lock.ok y)) (hs : (xs.length + szSum M.Lock.sz xs) ≤ 1048576) : m_laws_toLockS xs = some xs := by
  have hm := le_max hx.1
  unfold m_laws_toLockS
  rw [mkL_ok (by omega) (by omega), Option.bind_some]
  refine toLoop hx.1 (fun n k r hk hr => ?_) (fun n r => ?_) fuel 0 _ (by unfold fuel; omega) (by omega) (by simp) (by simp)
  · simp only [m_laws_toLockS_L1]
    rw [if_pos (lt_nat hk), idx_nat hk, Option.bind_some, M.Lock.p_to _ (hx.2 _ (List.getElem_mem hk)) (by have := szSum_le (f := M.Lock.sz) (List.getElem_mem hk); omega), Option.bind_some, idx_nat (by omega), Option.bind_some, wrapn (by omega), Int.toNat_natCast]
  · simp only [m_laws_toLockS_L1]
    rw [if_neg (by rw [nlt_nat]; simp)]
theorem M.LockS.p_eq (xs : List M.Lock) (hx : (xs.length ≤ maxLen ∧ ∀ y ∈ xs, M.Lock.ok y)) : m_laws_eqLockS xs xs = some true := by
  have hm := le_max hx.1
  unfold m_laws_eqLockS
  rw [if_neg (by simp)]
  refine eqLoop hx.1 (fun n k hk => ?_) (fun n => ?_) fuel 0 (by unfold fuel; omega) (by omega)
  · simp only [m_laws_eqLockS_L1]
    rw [if_pos (lt_nat hk), idx_nat hk]
    simp [wrapn (show k < 9223372036854775807 by omega), M.Lock.p_eq _ (hx.2 _ (List.getElem_mem hk))]
  · simp only [m_laws_eqLockS_L1]
    rw [if_neg (by rw [nlt_nat]; simp)]
structure M.LockTable.ok (x : M.LockTable) : Prop where
  Locks : (x.Locks.length ≤ maxLen ∧ ∀ y ∈ x.Locks, M.Lock.ok y)
def M.LockTable.sh : List Shp := [.sl M.Lock.sh]
theorem M.LockTable.of_has (d : List D) (h : HasL M.LockTable.sh d) : ∃ x, d = M.LockTable.en x ∧ M.LockTable.ok x := by
  simp only [M.LockTable.sh, HasL, Has] at h
  obtain ⟨_, _, rfl, ⟨_, rfl, w1, q1⟩, rfl⟩ := h
  obtain ⟨a1, rfl, e1⟩ := list_of_has M.Lock.of_has q1
  exact ⟨⟨a1⟩, rfl, ⟨⟨by simpa using w1, e1⟩⟩⟩
def M.LockTable.sz (x : M.LockTable) : Nat := (x.Locks.length + szSum M.Lock.sz x.Locks)
theorem M.LockTable.p_sz (x : M.LockTable) (hx : M.LockTable.ok x) : Sz (m_laws_szLockTable x) (M.LockTable.sz x) := by
  intro l a b
  unfold m_laws_szLockTable M.LockTable.sz
  exact (Sz.call (M.LockS.p_sz _ hx.Locks)) l a b
theorem M.LockTable.p_to (x : M.LockTable) (hx : M.LockTable.ok x) (hs : M.LockTable.sz x ≤ 1048576) : m_laws_toLockTable x = some x := by
  unfold M.LockTable.sz at hs
  unfold m_laws_toLockTable
  rw [M.LockS.p_to _ hx.Locks (by omega), Option.bind_some]
theorem M.LockTable.p_eq (x : M.LockTable) (hx : M.LockTable.ok x) : m_laws_eqLockTable x x = some true := by
  simp [m_laws_eqLockTable, M.LockS.p_eq _ hx.Locks]
structure M.Mail.ok (x : M.Mail) : Prop where
  To : inI x.To
  From : inI x.From
  N : inI x.N
def M.Mail.sh : List Shp := [.int .i64, .int .i64, .int .i64]
theorem M.Mail.of_has (d : List D) (h : HasL M.Mail.sh d) : ∃ x, d = M.Mail.en x ∧ M.Mail.ok x := by
  simp only [M.Mail.sh, HasL, Has] at h
  obtain ⟨_, _, rfl, ⟨a1, rfl, w1⟩, _, _, rfl, ⟨a2, rfl, w2⟩, _, _, rfl, ⟨a3, rfl, w3⟩, rfl⟩ := h
  exact ⟨⟨a1, a2, a3⟩, rfl, ⟨wf_i64 w1, wf_i64 w2, wf_i64 w3⟩⟩
theorem M.Mail.p_to (x : M.Mail) (hx : M.Mail.ok x) : m_laws_toMail x = some x := by
  unfold m_laws_toMail
  rfl
theorem M.Mail.p_eq (x : M.Mail) (hx : M.Mail.ok x) : m_laws_eqMail x x = some true := by
  simp [m_laws_eqMail]
theorem M.MailS.p_sz (xs : List M.Mail) (hx : (xs.length ≤ maxLen ∧ ∀ y ∈ xs, M.Mail.ok y)) : Sz (m_laws_szMailS xs) (xs.length) := by
  intro l a b
  unfold m_laws_szMailS
  exact (Sz.str hx.1) l a b
theorem M.MailS.p_to (xs : List M.Mail) (hx : (xs.length ≤ maxLen ∧ ∀ y ∈ xs, M.Mail.ok y)) (hs : xs.length ≤ 1048576) : m_laws_toMailS xs = some xs := by
  have hm := le_max hx.1
  unfold m_laws_toMailS
  rw [mkL_ok (by omega) (by omega), Option.bind_some]
  refine toLoop hx.1 (fun n k r hk hr => ?_) (fun n r => ?_) fuel 0 _ (by unfold fuel; omega) (by omega) (by simp) (by simp)
  · simp only [m_laws_toMailS_L1]
    rw [if_pos (lt_nat hk), idx_nat hk, Option.bind_some, M.Mail.p_to _ (hx.2 _ (List.getElem_mem hk)), Option.bind_some, idx_nat (by omega), Option.bind_some, wrapn (by omega), Int.toNat_natCast]
  · simp only [m_laws_toMailS_L1]
    rw [if_neg (by rw [nlt_nat]; simp)]
theorem M.MailS.p_eq (xs : List M.Mail) (hx : (xs.length ≤ maxLen ∧ ∀ y ∈ xs, M.Mail.ok y)) : m_laws_eqMailS xs xs = some true := by
  have hm := le_max hx.1
  unfold m_laws_eqMailS
  rw [if_neg (by simp)]
  refine eqLoop hx.1 (fun n k hk => ?_) (fun n => ?_) fuel 0 (by unfold fuel; omega) (by omega)
  · simp only [m_laws_eqMailS_L1]
    rw [if_pos (lt_nat hk), idx_nat hk]
    simp [wrapn (show k < 9223372036854775807 by omega), M.Mail.p_eq _ (hx.2 _ (List.getElem_mem hk))]
  · simp only [m_laws_eqMailS_L1]
    rw [if_neg (by rw [nlt_nat]; simp)]
structure M.Channel.ok (x : M.Channel) : Prop where
  Mails : (x.Mails.length ≤ maxLen ∧ ∀ y ∈ x.Mails, M.Mail.ok y)
def M.Channel.sh : List Shp := [.sl M.Mail.sh]
theorem M.Channel.of_has (d : List D) (h : HasL M.Channel.sh d) : ∃ x, d = M.Channel.en x ∧ M.Channel.ok x := by
  simp only [M.Channel.sh, HasL, Has] at h
  obtain ⟨_, _, rfl, ⟨_, rfl, w1, q1⟩, rfl⟩ := h
  obtain ⟨a1, rfl, e1⟩ := list_of_has M.Mail.of_has q1
  exact ⟨⟨a1⟩, rfl, ⟨⟨by simpa using w1, e1⟩⟩⟩
def M.Channel.sz (x : M.Channel) : Nat := x.Mails.length
theorem M.Channel.p_sz (x : M.Channel) (hx : M.Channel.ok x) : Sz (m_laws_szChannel x) (M.Channel.sz x) := by
  intro l a b
  unfold m_laws_szChannel M.Channel.sz
  exact (Sz.call (M.MailS.p_sz _ hx.Mails)) l a b
theorem M.Channel.p_to (x : M.Channel) (hx : M.Channel.ok x) (hs : M.Channel.sz x ≤ 1048576) : m_laws_toChannel x = some x := by
  unfold M.Channel.sz at hs
  unfold m_laws_toChannel
  rw [M.MailS.p_to _ hx.Mails (by omega), Option.bind_some]
theorem M.Channel.p_eq (x : M.Channel) (hx : M.Channel.ok x) : m_laws_eqChannel x x = some true := by
  simp [m_laws_eqChannel, M.MailS.p_eq _ hx.Mails]
theorem M.StringS.p_sz (xs : List ByteArray) (hx : okS xs) : Sz (m_laws_szStringS xs) ((xs.length + szSum ByteArray.size xs)) := by
  intro l a b
  unfold m_laws_szStringS
  exact (Sz.strs hx (fun _ _ _ => rfl)) l a b
theorem M.StringS.p_to (xs : List ByteArray) (hx : okS xs) (hs : (xs.length + szSum ByteArray.size xs) ≤ 1048576) : m_laws_toStringS xs = some xs := by
  have hm := le_max hx.1
  unfold m_laws_toStringS
  rw [mkL_ok (by omega) (by omega), Option.bind_some]
  refine toLoop hx.1 (fun n k r hk hr => ?_) (fun n r => ?_) fuel 0 _ (by unfold fuel; omega) (by omega) (by simp) (by simp)
  · simp only [m_laws_toStringS_L1]
    rw [if_pos (lt_nat hk), idx_nat hk, Option.bind_some, idx_nat (by omega), Option.bind_some, wrapn (by omega), Int.toNat_natCast]
  · simp only [m_laws_toStringS_L1]
    rw [if_neg (by rw [nlt_nat]; simp)]
theorem M.StringS.p_eq (xs : List ByteArray) (hx : okS xs) : m_laws_eqStringS xs xs = some true := by
  have hm := le_max hx.1
  unfold m_laws_eqStringS
  rw [if_neg (by simp)]
  refine eqLoop hx.1 (fun n k hk => ?_) (fun n => ?_) fuel 0 (by unfold fuel; omega) (by omega)
  · simp only [m_laws_eqStringS_L1]
    rw [if_pos (lt_nat hk), idx_nat hk]
    simp [wrapn (show k < 9223372036854775807 by omega)]
  · simp only [m_laws_eqStringS_L1]
    rw [if_neg (by rw [nlt_nat]; simp)]
structure M.Site.ok (x : M.Site) : Prop where
  Name : x.Name.size ≤ maxLen
  Version : inI x.Version
  Files : okS x.Files
def M.Site.sh : List Shp := [.str, .int .i64, .sl [.str], .bool]
theorem M.Site.of_has (d : List D) (h : HasL M.Site.sh d) : ∃ x, d = M.Site.en x ∧ M.Site.ok x := by
  simp only [M.Site.sh, HasL, Has] at h
  obtain ⟨_, _, rfl, ⟨a1, rfl, w1⟩, _, _, rfl, ⟨a2, rfl, w2⟩, _, _, rfl, ⟨_, rfl, w3, q3⟩, _, _, rfl, ⟨a4, rfl⟩, rfl⟩ := h
  obtain ⟨a3, rfl, e3⟩ := list_of_has has_s q3
  exact ⟨⟨a1, a2, a3, a4⟩, rfl, ⟨w1, wf_i64 w2, ⟨by simpa using w3, e3⟩⟩⟩
def M.Site.sz (x : M.Site) : Nat := x.Name.size + ((x.Files.length + szSum ByteArray.size x.Files))
theorem M.Site.p_sz (x : M.Site) (hx : M.Site.ok x) : Sz (m_laws_szSite x) (M.Site.sz x) := by
  intro l a b
  unfold m_laws_szSite M.Site.sz
  exact (Sz.seqStr hx.Name (Sz.call (M.StringS.p_sz _ hx.Files))) l a b
theorem M.Site.p_to (x : M.Site) (hx : M.Site.ok x) (hs : M.Site.sz x ≤ 1048576) : m_laws_toSite x = some x := by
  unfold M.Site.sz at hs
  unfold m_laws_toSite
  rw [M.StringS.p_to _ hx.Files (by omega), Option.bind_some]
theorem M.Site.p_eq (x : M.Site) (hx : M.Site.ok x) : m_laws_eqSite x x = some true := by
  simp [m_laws_eqSite, M.StringS.p_eq _ hx.Files]
theorem M.SiteS.p_sz (xs : List M.Site) (hx : (xs.length ≤ maxLen ∧ ∀ y ∈ xs, M.Site.ok y)) : Sz (m_laws_szSiteS xs) ((xs.length + szSum M.Site.sz xs)) := by
  intro l a b
  unfold m_laws_szSiteS
  exact (Sz.list' hx.1 (fun x h => M.Site.p_sz x (hx.2 x h)) (fun _ _ _ => rfl)) l a b
theorem M.SiteS.p_to (xs : List M.Site) (hx : (xs.length ≤ maxLen ∧ ∀ y ∈ xs, M.Site.ok y)) (hs : (xs.length + szSum M.Site.sz xs) ≤ 1048576) : m_laws_toSiteS xs = some xs := by
  have hm := le_max hx.1
  unfold m_laws_toSiteS
  rw [mkL_ok (by omega) (by omega), Option.bind_some]
  refine toLoop hx.1 (fun n k r hk hr => ?_) (fun n r => ?_) fuel 0 _ (by unfold fuel; omega) (by omega) (by simp) (by simp)
  · simp only [m_laws_toSiteS_L1]
    rw [if_pos (lt_nat hk), idx_nat hk, Option.bind_some, M.Site.p_to _ (hx.2 _ (List.getElem_mem hk)) (by have := szSum_le (f := M.Site.sz) (List.getElem_mem hk); omega), Option.bind_some, idx_nat (by omega), Option.bind_some, wrapn (by omega), Int.toNat_natCast]
  · simp only [m_laws_toSiteS_L1]
    rw [if_neg (by rw [nlt_nat]; simp)]
theorem M.SiteS.p_eq (xs : List M.Site) (hx : (xs.length ≤ maxLen ∧ ∀ y ∈ xs, M.Site.ok y)) : m_laws_eqSiteS xs xs = some true := by
  have hm := le_max hx.1
  unfold m_laws_eqSiteS
  rw [if_neg (by simp)]
  refine eqLoop hx.1 (fun n k hk => ?_) (fun n => ?_) fuel 0 (by unfold fuel; omega) (by omega)
  · simp only [m_laws_eqSiteS_L1]
    rw [if_pos (lt_nat hk), idx_nat hk]
    simp [wrapn (show k < 9223372036854775807 by omega), M.Site.p_eq _ (hx.2 _ (List.getElem_mem hk))]
  · simp only [m_laws_eqSiteS_L1]
    rw [if_neg (by rw [nlt_nat]; simp)]
structure M.Applied.ok (x : M.Applied) : Prop where
  Device : inI x.Device
  Seq : inI x.Seq
def M.Applied.sh : List Shp := [.int .i64, .int .i64]
theorem M.Applied.of_has (d : List D) (h : HasL M.Applied.sh d) : ∃ x, d = M.Applied.en x ∧ M.Applied.ok x := by
  simp only [M.Applied.sh, HasL, Has] at h
  obtain ⟨_, _, rfl, ⟨a1, rfl, w1⟩, _, _, rfl, ⟨a2, rfl, w2⟩, rfl⟩ := h
  exact ⟨⟨a1, a2⟩, rfl, ⟨wf_i64 w1, wf_i64 w2⟩⟩
theorem M.Applied.p_to (x : M.Applied) (hx : M.Applied.ok x) : m_laws_toApplied x = some x := by
  unfold m_laws_toApplied
  rfl
theorem M.Applied.p_eq (x : M.Applied) (hx : M.Applied.ok x) : m_laws_eqApplied x x = some true := by
  simp [m_laws_eqApplied]
theorem M.AppliedS.p_sz (xs : List M.Applied) (hx : (xs.length ≤ maxLen ∧ ∀ y ∈ xs, M.Applied.ok y)) : Sz (m_laws_szAppliedS xs) (xs.length) := by
  intro l a b
  unfold m_laws_szAppliedS
  exact (Sz.str hx.1) l a b
theorem M.AppliedS.p_to (xs : List M.Applied) (hx : (xs.length ≤ maxLen ∧ ∀ y ∈ xs, M.Applied.ok y)) (hs : xs.length ≤ 1048576) : m_laws_toAppliedS xs = some xs := by
  have hm := le_max hx.1
  unfold m_laws_toAppliedS
  rw [mkL_ok (by omega) (by omega), Option.bind_some]
  refine toLoop hx.1 (fun n k r hk hr => ?_) (fun n r => ?_) fuel 0 _ (by unfold fuel; omega) (by omega) (by simp) (by simp)
  · simp only [m_laws_toAppliedS_L1]
    rw [if_pos (lt_nat hk), idx_nat hk, Option.bind_some, M.Applied.p_to _ (hx.2 _ (List.getElem_mem hk)), Option.bind_some, idx_nat (by omega), Option.bind_some, wrapn (by omega), Int.toNat_natCast]
  · simp only [m_laws_toAppliedS_L1]
    rw [if_neg (by rw [nlt_nat]; simp)]
theorem M.AppliedS.p_eq (xs : List M.Applied) (hx : (xs.length ≤ maxLen ∧ ∀ y ∈ xs, M.Applied.ok y)) : m_laws_eqAppliedS xs xs = some true := by
  have hm := le_max hx.1
  unfold m_laws_eqAppliedS
  rw [if_neg (by simp)]
  refine eqLoop hx.1 (fun n k hk => ?_) (fun n => ?_) fuel 0 (by unfold fuel; omega) (by omega)
  · simp only [m_laws_eqAppliedS_L1]
    rw [if_pos (lt_nat hk), idx_nat hk]
    simp [wrapn (show k < 9223372036854775807 by omega), M.Applied.p_eq _ (hx.2 _ (List.getElem_mem hk))]
  · simp only [m_laws_eqAppliedS_L1]
    rw [if_neg (by rw [nlt_nat]; simp)]
structure M.Server.ok (x : M.Server) : Prop where
  Store : M.Store.ok x.Store
  Applied : (x.Applied.length ≤ maxLen ∧ ∀ y ∈ x.Applied, M.Applied.ok y)
  Changes : (x.Changes.length ≤ maxLen ∧ ∀ y ∈ x.Changes, M.Write.ok y)
def M.Server.sh : List Shp := [.str, .sl M.Item.sh, .int .i64, .sl M.Applied.sh, .sl M.Write.sh]
theorem M.Server.of_has (d : List D) (h : HasL M.Server.sh d) : ∃ x, d = M.Server.en x ∧ M.Server.ok x := by
  simp only [M.Server.sh, HasL, Has] at h
  obtain ⟨_, _, rfl, ⟨a1, rfl, w1⟩, _, _, rfl, ⟨_, rfl, w2, q2⟩, _, _, rfl, ⟨a3, rfl, w3⟩, _, _, rfl, ⟨_, rfl, w4, q4⟩, _, _, rfl, ⟨_, rfl, w5, q5⟩, rfl⟩ := h
  obtain ⟨a2, rfl, e2⟩ := list_of_has M.Item.of_has q2
  obtain ⟨a4, rfl, e4⟩ := list_of_has M.Applied.of_has q4
  obtain ⟨a5, rfl, e5⟩ := list_of_has M.Write.of_has q5
  exact ⟨⟨⟨a1, a2, a3⟩, a4, a5⟩, rfl, ⟨⟨w1, ⟨by simpa using w2, e2⟩, wf_i64 w3⟩, ⟨by simpa using w4, e4⟩, ⟨by simpa using w5, e5⟩⟩⟩
def M.Server.sz (x : M.Server) : Nat := M.Store.sz x.Store + (x.Applied.length + ((x.Changes.length + szSum M.Write.sz x.Changes)))
theorem M.Server.p_sz (x : M.Server) (hx : M.Server.ok x) : Sz (m_laws_szServer x) (M.Server.sz x) := by
  intro l a b
  unfold m_laws_szServer M.Server.sz
  exact (Sz.seqCall (M.Store.p_sz _ hx.Store) (Sz.seqCall (M.AppliedS.p_sz _ hx.Applied) (Sz.call (M.WriteS.p_sz _ hx.Changes)))) l a b
theorem M.Server.p_to (x : M.Server) (hx : M.Server.ok x) (hs : M.Server.sz x ≤ 1048576) : m_laws_toServer x = some x := by
  unfold M.Server.sz at hs
  unfold m_laws_toServer
  rw [M.Store.p_to _ hx.Store (by omega), Option.bind_some, M.AppliedS.p_to _ hx.Applied (by omega), Option.bind_some, M.WriteS.p_to _ hx.Changes (by omega), Option.bind_some]
theorem M.Server.p_eq (x : M.Server) (hx : M.Server.ok x) : m_laws_eqServer x x = some true := by
  simp [m_laws_eqServer, M.Store.p_eq _ hx.Store, M.AppliedS.p_eq _ hx.Applied, M.WriteS.p_eq _ hx.Changes]
theorem M.ServerS.p_sz (xs : List M.Server) (hx : (xs.length ≤ maxLen ∧ ∀ y ∈ xs, M.Server.ok y)) : Sz (m_laws_szServerS xs) ((xs.length + szSum M.Server.sz xs)) := by
  intro l a b
  unfold m_laws_szServerS
  exact (Sz.list' hx.1 (fun x h => M.Server.p_sz x (hx.2 x h)) (fun _ _ _ => rfl)) l a b
theorem M.ServerS.p_to (xs : List M.Server) (hx : (xs.length ≤ maxLen ∧ ∀ y ∈ xs, M.Server.ok y)) (hs : (xs.length + szSum M.Server.sz xs) ≤ 1048576) : m_laws_toServerS xs = some xs := by
  have hm := le_max hx.1
  unfold m_laws_toServerS
  rw [mkL_ok (by omega) (by omega), Option.bind_some]
  refine toLoop hx.1 (fun n k r hk hr => ?_) (fun n r => ?_) fuel 0 _ (by unfold fuel; omega) (by omega) (by simp) (by simp)
  · simp only [m_laws_toServerS_L1]
    rw [if_pos (lt_nat hk), idx_nat hk, Option.bind_some, M.Server.p_to _ (hx.2 _ (List.getElem_mem hk)) (by have := szSum_le (f := M.Server.sz) (List.getElem_mem hk); omega), Option.bind_some, idx_nat (by omega), Option.bind_some, wrapn (by omega), Int.toNat_natCast]
  · simp only [m_laws_toServerS_L1]
    rw [if_neg (by rw [nlt_nat]; simp)]
theorem M.ServerS.p_eq (xs : List M.Server) (hx : (xs.length ≤ maxLen ∧ ∀ y ∈ xs, M.Server.ok y)) : m_laws_eqServerS xs xs = some true := by
  have hm := le_max hx.1
  unfold m_laws_eqServerS
  rw [if_neg (by simp)]
  refine eqLoop hx.1 (fun n k hk => ?_) (fun n => ?_) fuel 0 (by unfold fuel; omega) (by omega)
  · simp only [m_laws_eqServerS_L1]
    rw [if_pos (lt_nat hk), idx_nat hk]
    simp [wrapn (show k < 9223372036854775807 by omega), M.Server.p_eq _ (hx.2 _ (List.getElem_mem hk))]
  · simp only [m_laws_eqServerS_L1]
    rw [if_neg (by rw [nlt_nat]; simp)]
structure M.World.ok (x : M.World) : Prop where
  Now : inI x.Now
  Device : inI x.Device
  Storage : M.Storage.ok x.Storage
  Pages : (x.Pages.length ≤ maxLen ∧ ∀ y ∈ x.Pages, M.Page.ok y)
  NextPage : inI x.NextPage
  Locks : M.LockTable.ok x.Locks
  Channel : M.Channel.ok x.Channel
  Sites : (x.Sites.length ≤ maxLen ∧ ∀ y ∈ x.Sites, M.Site.ok y)
  Servers : (x.Servers.length ≤ maxLen ∧ ∀ y ∈ x.Servers, M.Server.ok y)
def M.World.sh : List Shp := [.int .i64, .bool, .int .i64, .sl M.Bucket.sh, .sl M.Page.sh, .int .i64, .sl M.Lock.sh, .sl M.Mail.sh, .sl M.Site.sh, .sl M.Server.sh]
theorem M.World.of_has (d : List D) (h : HasL M.World.sh d) : ∃ x, d = M.World.en x ∧ M.World.ok x := by
  simp only [M.World.sh, HasL, Has] at h
  obtain ⟨_, _, rfl, ⟨a1, rfl, w1⟩, _, _, rfl, ⟨a2, rfl⟩, _, _, rfl, ⟨a3, rfl, w3⟩, _, _, rfl, ⟨_, rfl, w4, q4⟩, _, _, rfl, ⟨_, rfl, w5, q5⟩, _, _, rfl, ⟨a6, rfl, w6⟩, _, _, rfl, ⟨_, rfl, w7, q7⟩, _, _, rfl, ⟨_, rfl, w8, q8⟩, _, _, rfl, ⟨_, rfl, w9, q9⟩, _, _, rfl, ⟨_, rfl, w10, q10⟩, rfl⟩ := h
  obtain ⟨a4, rfl, e4⟩ := list_of_has M.Bucket.of_has q4
  obtain ⟨a5, rfl, e5⟩ := list_of_has M.Page.of_has q5
  obtain ⟨a7, rfl, e7⟩ := list_of_has M.Lock.of_has q7
  obtain ⟨a8, rfl, e8⟩ := list_of_has M.Mail.of_has q8
  obtain ⟨a9, rfl, e9⟩ := list_of_has M.Site.of_has q9
  obtain ⟨a10, rfl, e10⟩ := list_of_has M.Server.of_has q10
  exact ⟨⟨a1, a2, a3, ⟨a4⟩, a5, a6, ⟨a7⟩, ⟨a8⟩, a9, a10⟩, rfl, ⟨wf_i64 w1, wf_i64 w3, ⟨⟨by simpa using w4, e4⟩⟩, ⟨by simpa using w5, e5⟩, wf_i64 w6, ⟨⟨by simpa using w7, e7⟩⟩, ⟨⟨by simpa using w8, e8⟩⟩, ⟨by simpa using w9, e9⟩, ⟨by simpa using w10, e10⟩⟩⟩
def M.World.sz (x : M.World) : Nat := M.Storage.sz x.Storage + ((x.Pages.length + szSum M.Page.sz x.Pages) + (M.LockTable.sz x.Locks + (M.Channel.sz x.Channel + ((x.Sites.length + szSum M.Site.sz x.Sites) + ((x.Servers.length + szSum M.Server.sz x.Servers))))))
theorem M.World.p_sz (x : M.World) (hx : M.World.ok x) : Sz (m_laws_szWorld x) (M.World.sz x) := by
  intro l a b
  unfold m_laws_szWorld M.World.sz
  exact (Sz.seqCall (M.Storage.p_sz _ hx.Storage) (Sz.seqCall (M.PageS.p_sz _ hx.Pages) (Sz.seqCall (M.LockTable.p_sz _ hx.Locks) (Sz.seqCall (M.Channel.p_sz _ hx.Channel) (Sz.seqCall (M.SiteS.p_sz _ hx.Sites) (Sz.call (M.ServerS.p_sz _ hx.Servers))))))) l a b
theorem M.World.p_to (x : M.World) (hx : M.World.ok x) (hs : M.World.sz x ≤ 1048576) : m_laws_toWorld x = some x := by
  unfold M.World.sz at hs
  unfold m_laws_toWorld
  rw [M.Storage.p_to _ hx.Storage (by omega), Option.bind_some, M.PageS.p_to _ hx.Pages (by omega), Option.bind_some, M.LockTable.p_to _ hx.Locks (by omega), Option.bind_some, M.Channel.p_to _ hx.Channel (by omega), Option.bind_some, M.SiteS.p_to _ hx.Sites (by omega), Option.bind_some, M.ServerS.p_to _ hx.Servers (by omega), Option.bind_some]
theorem M.World.p_eq (x : M.World) (hx : M.World.ok x) : m_laws_eqWorld x x = some true := by
  simp [m_laws_eqWorld, M.Storage.p_eq _ hx.Storage, M.PageS.p_eq _ hx.Pages, M.LockTable.p_eq _ hx.Locks, M.Channel.p_eq _ hx.Channel, M.SiteS.p_eq _ hx.Sites, M.ServerS.p_eq _ hx.Servers]
end Go.Proofs.YtgemmnkhddlhpaaGreat.gen
