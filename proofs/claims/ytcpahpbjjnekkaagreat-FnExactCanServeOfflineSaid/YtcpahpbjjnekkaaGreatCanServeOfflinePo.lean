/-
  Helper text: plain laws of the functions. No conditions beyond those of each law.
-/
import Derived.Test.YtcpahpbjjnekkaaGreatCanServeOfflinePz
namespace Go.Proofs.YtcpahpbjjnekkaaGreat.gen
open Go Go.Sh
set_option linter.unusedVariables false
set_option linter.unusedSimpArgs false
theorem p_IndexFunc_Bucket {p : M.Bucket → Option Bool} {f : M.Bucket → Bool} {xs : List M.Bucket} (hx : xs.length ≤ maxLen) (hp : ∀ x ∈ xs, p x = some (f x)) : m_slices_IndexFunc_Bucket xs p = some (fidx f xs) := by
  have hm := le_max hx
  unfold m_slices_IndexFunc_Bucket
  rw [findAll (L := m_slices_IndexFunc_Bucket_L1 xs p) (f := f) (A := fun i => some (i : Int)) (E := some (-1)) hx (fun n k hk => by
    simp only [m_slices_IndexFunc_Bucket_L1]
    rw [if_pos (lt_nat hk), idx_nat hk, Option.bind_some, hp _ (List.getElem_mem hk), Option.bind_some, wrapn (by omega)]) (fun n => by
    simp only [m_slices_IndexFunc_Bucket_L1]
    rw [if_neg (by rw [nlt_nat]; simp)]), fidx_some]
theorem p_IndexFunc_Cache {p : M.Cache → Option Bool} {f : M.Cache → Bool} {xs : List M.Cache} (hx : xs.length ≤ maxLen) (hp : ∀ x ∈ xs, p x = some (f x)) : m_slices_IndexFunc_Cache xs p = some (fidx f xs) := by
  have hm := le_max hx
  unfold m_slices_IndexFunc_Cache
  rw [findAll (L := m_slices_IndexFunc_Cache_L1 xs p) (f := f) (A := fun i => some (i : Int)) (E := some (-1)) hx (fun n k hk => by
    simp only [m_slices_IndexFunc_Cache_L1]
    rw [if_pos (lt_nat hk), idx_nat hk, Option.bind_some, hp _ (List.getElem_mem hk), Option.bind_some, wrapn (by omega)]) (fun n => by
    simp only [m_slices_IndexFunc_Cache_L1]
    rw [if_neg (by rw [nlt_nat]; simp)]), fidx_some]
theorem p_IndexFunc_Cached {p : M.Cached → Option Bool} {f : M.Cached → Bool} {xs : List M.Cached} (hx : xs.length ≤ maxLen) (hp : ∀ x ∈ xs, p x = some (f x)) : m_slices_IndexFunc_Cached xs p = some (fidx f xs) := by
  have hm := le_max hx
  unfold m_slices_IndexFunc_Cached
  rw [findAll (L := m_slices_IndexFunc_Cached_L1 xs p) (f := f) (A := fun i => some (i : Int)) (E := some (-1)) hx (fun n k hk => by
    simp only [m_slices_IndexFunc_Cached_L1]
    rw [if_pos (lt_nat hk), idx_nat hk, Option.bind_some, hp _ (List.getElem_mem hk), Option.bind_some, wrapn (by omega)]) (fun n => by
    simp only [m_slices_IndexFunc_Cached_L1]
    rw [if_neg (by rw [nlt_nat]; simp)]), fidx_some]
def nAt (a b : ByteArray) (x : M.Bucket) : Bool := (x.Site.toList == a.toList) && (x.Top.toList == b.toList)
theorem p_spec_FindBucket {s : M.Storage} {a b : ByteArray} (hs : s.ok) : m_spec_FindBucket s a b = some (fidx (nAt a b) s.Buckets) := by
  have hm := le_max hs.Buckets.1
  unfold m_spec_FindBucket
  rw [findAll (L := m_spec_FindBucket_L1 s a b) (f := nAt a b) (A := fun i => some (i : Int)) (E := some (-1)) hs.Buckets.1 (fun m k hk => ?_) (fun m => ?_), fidx_some]
  · simp only [m_spec_FindBucket_L1]
    rw [if_pos (lt_nat hk), idx_nat hk, Option.bind_some, wrapn (by omega), ite2]
    rfl
  · simp only [m_spec_FindBucket_L1]
    rw [if_neg (by rw [nlt_nat]; simp)]
theorem p_impl_FindBucket {s : M.Storage} {a b : ByteArray} (hs : s.ok) : m_impl_FindBucket s a b = some (fidx (nAt a b) s.Buckets) := by
  unfold m_impl_FindBucket
  rw [p_IndexFunc_Bucket (f := nAt a b) hs.Buckets.1 (fun x _ => by simp only [m_impl_FindBucket_1, ite_and]; rfl), Option.bind_some]
def noBucket : M.Bucket := (⟨(⟨#[]⟩ : ByteArray), (⟨#[]⟩ : ByteArray), (⟨(⟨#[]⟩ : ByteArray), 0, 0, 0⟩ : M.Registration), (⟨([] : List M.Cache)⟩ : M.CacheSet), (⟨(⟨(⟨#[]⟩ : ByteArray), 0, ([] : List M.Store), ([] : List M.IndexDef)⟩ : M.Database), ([] : List Int), 0⟩ : M.Disk), (⟨(⟨(⟨#[]⟩ : ByteArray), ([] : List M.Item), 0⟩ : M.Store), 0, (⟨(⟨0, 0, ([] : List M.Write)⟩ : M.Outbox), 0, 0⟩ : M.Sync)⟩ : M.Replica), 0, false⟩ : M.Bucket)
theorem bucketOf_no {w : M.World} {a b : ByteArray} (hw : w.ok) (h : fidx (nAt a b) w.Storage.Buckets < 0) : m_impl_bucketOf w a b = some (noBucket, false) := by
  unfold m_impl_bucketOf
  rw [p_impl_FindBucket hw.Storage, Option.bind_some, if_pos (by simpa using h)]
  rfl
theorem bucketOf_at {w : M.World} {a b : ByteArray} {j : Nat} (hw : w.ok) (hj : fidx (nAt a b) w.Storage.Buckets = (j : Int)) (hlt : j < w.Storage.Buckets.length) : m_impl_bucketOf w a b = some (w.Storage.Buckets[j], true) := by
  unfold m_impl_bucketOf
  rw [p_impl_FindBucket hw.Storage, Option.bind_some, hj, if_neg (by simp), idx_nat hlt, Option.bind_some]
theorem p_spec_FindCache {s : M.CacheSet} {v : Int} (hs : s.ok) : m_spec_FindCache s v = some (fidx (fun c : M.Cache => c.Version == v) s.Caches) := by
  have hm := le_max hs.Caches.1
  unfold m_spec_FindCache
  rw [findAll (L := m_spec_FindCache_L1 s v) (f := fun c : M.Cache => c.Version == v) (A := fun i => some (i : Int)) (E := some (-1)) hs.Caches.1 (fun m k hk => ?_) (fun m => ?_), fidx_some]
  · simp only [m_spec_FindCache_L1]
    rw [if_pos (lt_nat hk), idx_nat hk, Option.bind_some, wrapn (by omega)]
  · simp only [m_spec_FindCache_L1]
    rw [if_neg (by rw [nlt_nat]; simp)]
theorem p_impl_FindCache {s : M.CacheSet} {v : Int} (hs : s.ok) : m_impl_FindCache s v = some (fidx (fun c : M.Cache => c.Version == v) s.Caches) := by
  unfold m_impl_FindCache
  rw [p_IndexFunc_Cache (f := fun c : M.Cache => c.Version == v) hs.Caches.1 (fun x _ => by simp only [m_impl_FindCache_1]), Option.bind_some]
def nEntry (a b : ByteArray) (x : M.Cached) : Bool := (x.Site.toList == a.toList) && (x.Path.toList == b.toList)
theorem p_spec_l17Find {c : M.Cache} {a b : ByteArray} (hc : c.ok) : m_spec_l17Find c a b = some (fidx (nEntry a b) c.Entries) := by
  have hm := le_max hc.Entries.1
  unfold m_spec_l17Find
  rw [findAll (L := m_spec_l17Find_L1 c a b) (f := nEntry a b) (A := fun i => some (i : Int)) (E := some (-1)) hc.Entries.1 (fun m k hk => ?_) (fun m => ?_), fidx_some]
  · simp only [m_spec_l17Find_L1]
    rw [if_pos (lt_nat hk), idx_nat hk, Option.bind_some, wrapn (by omega), ite2]
    rfl
  · simp only [m_spec_l17Find_L1]
    rw [if_neg (by rw [nlt_nat]; simp)]
theorem p_impl_entryAt {c : M.Cache} {a b : ByteArray} (hc : c.ok) : m_impl_entryAt c a b = some (fidx (nEntry a b) c.Entries) := by
  unfold m_impl_entryAt
  rw [p_IndexFunc_Cached (f := nEntry a b) hc.Entries.1 (fun x _ => by simp only [m_impl_entryAt_1, ite_and]; rfl), Option.bind_some]
theorem p_MatchCache {s : M.CacheSet} {v : Int} {a b : ByteArray} (hs : s.ok) (hz : s.sz ≤ 1048576) : ∃ r, m_spec_MatchCache s v a b = some r ∧ m_impl_MatchCache s v a b = some r ∧ okB r.1.Body := by
  unfold m_spec_MatchCache m_impl_MatchCache m_spec_ErrorResponse m_impl_ErrorResponse
  rw [p_spec_FindCache hs, p_impl_FindCache hs]
  simp only [Option.bind_some]
  have hnil : okB ([] : List Int) := ⟨by simp [maxLen], by simp⟩
  by_cases h : fidx (fun c : M.Cache => c.Version == v) s.Caches < 0
  · simp only [h, decide_true, if_true]
    exact ⟨_, rfl, rfl, hnil⟩
  · obtain ⟨k, e, hk⟩ := fidx_nat h
    simp only [h, decide_false, Bool.false_eq_true, if_false]
    rw [e, idx_nat hk]
    have hc := hs.Caches.2 _ (List.getElem_mem hk)
    simp only [Option.bind_some]
    rw [p_spec_l17Find hc, p_impl_entryAt hc]
    simp only [Option.bind_some]
    by_cases h2 : fidx (nEntry a b) s.Caches[k].Entries < 0
    · simp only [h2, decide_true, if_true]
      exact ⟨_, rfl, rfl, hnil⟩
    · obtain ⟨j, e2, hj⟩ := fidx_nat h2
      simp only [h2, decide_false, Bool.false_eq_true, if_false]
      rw [e2, idx_nat hj]
      have hx := hc.Entries.2 _ (List.getElem_mem hj)
      have z1 := szSum_le (f := M.Cache.sz) (List.getElem_mem hk)
      have z2 := szSum_le (f := M.Cached.sz) (List.getElem_mem hj)
      unfold M.CacheSet.sz at hz
      have q1 : M.Cache.sz s.Caches[k] = s.Caches[k].Entries.length + szSum M.Cached.sz s.Caches[k].Entries := rfl
      have q2 : M.Cached.sz s.Caches[k].Entries[j] = s.Caches[k].Entries[j].Site.size + (s.Caches[k].Entries[j].Path.size + s.Caches[k].Entries[j].Response.Body.length) := rfl
      have hb : (s.Caches[k].Entries[j].Response.Body).length ≤ 1048576 := by omega
      simp only [Option.bind_some, m_spec_l15Copy, m_impl_copyResponse, m_impl_copyBytes]
      rw [app_ok (by simp; omega)]
      exact ⟨_, rfl, rfl, hx.Response.Body⟩

theorem p_CanServe {w : M.World} {p : M.Page} {f : ByteArray} (hw : w.ok) (hz : M.World.sz w ≤ 1048576) : ∃ r, m_spec_CanServeOffline w p f = some r ∧ m_impl_CanServeOffline w p f = some r := by
  unfold m_spec_CanServeOffline m_impl_CanServeOffline
  rw [p_spec_FindBucket hw.Storage, Option.bind_some]
  by_cases h : fidx (nAt p.Site p.Top) w.Storage.Buckets < 0
  · rw [bucketOf_no hw h, if_pos (by simpa using h), Option.bind_some]
    exact ⟨false, rfl, rfl⟩
  · obtain ⟨j, hj, hlt⟩ := fidx_nat h
    have hz1 := szSum_le (f := M.Bucket.sz) (List.getElem_mem hlt)
    have hz2 : M.CacheSet.sz w.Storage.Buckets[j].Caches ≤ M.Bucket.sz w.Storage.Buckets[j] := by simp only [M.Bucket.sz]; omega
    simp only [M.World.sz, M.Storage.sz] at hz
    obtain ⟨r, e1, e2, _⟩ := p_MatchCache (v := p.Version) (a := p.Site) (b := f) (hw.Storage.Buckets.2 _ (List.getElem_mem hlt)).Caches (by omega)
    rw [bucketOf_at hw hj hlt, if_neg (by simpa using h), Option.bind_some, hj, idx_nat hlt, Option.bind_some, if_neg (by simp), e1, e2]
    exact ⟨r.2, rfl, rfl⟩
def nServe (w : M.World) (p : M.Page) (f : ByteArray) : Bool := (m_spec_CanServeOffline w p f).getD false
theorem p_spec_CanServe {w : M.World} {p : M.Page} {f : ByteArray} (hw : w.ok) (hz : M.World.sz w ≤ 1048576) : m_spec_CanServeOffline w p f = some (nServe w p f) := by
  obtain ⟨r, e1, e2⟩ := p_CanServe (p := p) (f := f) hw hz
  unfold nServe; rw [e1]; rfl
theorem p_impl_CanServe {w : M.World} {p : M.Page} {f : ByteArray} (hw : w.ok) (hz : M.World.sz w ≤ 1048576) : m_impl_CanServeOffline w p f = some (nServe w p f) := by
  obtain ⟨r, e1, e2⟩ := p_CanServe (p := p) (f := f) hw hz
  unfold nServe; rw [e1, e2]; rfl
end Go.Proofs.YtcpahpbjjnekkaaGreat.gen
