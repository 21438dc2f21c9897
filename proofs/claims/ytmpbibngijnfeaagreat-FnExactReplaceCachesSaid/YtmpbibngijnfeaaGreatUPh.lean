/-
  Helper text: plain laws of the functions. No conditions beyond those of each law.
-/
import Derived.Test.YtmpbibngijnfeaaGreatUPg
namespace Go.Proofs.YtmpbibngijnfeaaGreat.gen
open Go Go.Sh
set_option linter.unusedVariables false
set_option linter.unusedSimpArgs false
theorem p_impl_copyBytes (x : List Int) (hs : x.length ≤ 1073741824) : m_impl_copyBytes x = some x := by
  unfold m_impl_copyBytes
  rw [app0 hs (by omega), Option.bind_some]
theorem p_spec_l15Copy (x : M.Response) (hs : M.Response.sz x ≤ 1073741824) : m_spec_l15Copy x = some x := by
  simp only [M.Response.sz] at hs
  unfold m_spec_l15Copy
  rw [app0 (by omega) (by omega), Option.bind_some]
theorem p_impl_copyResponse (x : M.Response) (hs : M.Response.sz x ≤ 1073741824) : m_impl_copyResponse x = some x := by
  simp only [M.Response.sz] at hs
  unfold m_impl_copyResponse
  rw [p_impl_copyBytes _ (by omega), Option.bind_some]
theorem p_spec_l17Cache (x : M.Cache) (hs : M.Cache.sz x ≤ 1073741824) : m_spec_l17Cache x = some x := by
  have hl : x.Entries.length ≤ 1073741824 := by simp only [M.Cache.sz] at hs; omega
  unfold m_spec_l17Cache
  exact copyAll (xs := x.Entries) (L := m_spec_l17Cache_L1 x) (b := 88) (E := fun r => some { x with Entries := r }) hl (by omega) (fun n r k hk => by
    simp only [m_spec_l17Cache_L1]
    rw [if_pos (lt_nat hk), idx_nat hk, Option.bind_some, p_spec_l15Copy _ (by have := szSum_le (f := M.Cached.sz) (List.getElem_mem hk); simp only [M.Cache.sz] at hs; simp only [M.Cached.sz] at this; omega), Option.bind_some, wrapn (by omega)]) (fun n r => by
    simp only [m_spec_l17Cache_L1]
    rw [if_neg (by rw [nlt_nat]; simp)])
theorem p_spec_l17Copy (x : M.CacheSet) (hs : M.CacheSet.sz x ≤ 1073741824) : m_spec_l17Copy x = some x := by
  have hl : x.Caches.length ≤ 1073741824 := by simp only [M.CacheSet.sz] at hs; omega
  unfold m_spec_l17Copy
  exact copyAll (xs := x.Caches) (L := m_spec_l17Copy_L1 x) (b := 32) (E := fun r => some { x with Caches := r }) hl (by omega) (fun n r k hk => by
    simp only [m_spec_l17Copy_L1]
    rw [if_pos (lt_nat hk), idx_nat hk, Option.bind_some, p_spec_l17Cache _ (by have := szSum_le (f := M.Cache.sz) (List.getElem_mem hk); simp only [M.CacheSet.sz] at hs; omega), Option.bind_some, wrapn (by omega)]) (fun n r => by
    simp only [m_spec_l17Copy_L1]
    rw [if_neg (by rw [nlt_nat]; simp)])
theorem p_impl_copyCacheSet (x : M.CacheSet) (hs : M.CacheSet.sz x ≤ 1073741824) : m_impl_copyCacheSet x = some x := by
  have hl : x.Caches.length ≤ 1073741824 := by simp only [M.CacheSet.sz] at hs; omega
  unfold m_impl_copyCacheSet
  exact copyAll (xs := x.Caches) (L := m_impl_copyCacheSet_L1 x) (b := 32) (E := fun r => some { x with Caches := r }) hl (by omega) (fun n r k hk => by
    have hz := szSum_le (f := M.Cache.sz) (List.getElem_mem hk)
    simp only [M.CacheSet.sz] at hs
    have hz2 : x.Caches[k].Entries.length + szSum M.Cached.sz x.Caches[k].Entries ≤ M.Cache.sz x.Caches[k] := by simp only [M.Cache.sz]; omega
    simp only [m_impl_copyCacheSet_L1]
    rw [if_pos (lt_nat hk), idx_nat hk, Option.bind_some, wrapn (by omega)]
    exact copyAll (xs := x.Caches[k].Entries) (b := 88) (L := m_impl_copyCacheSet_L2 x.Caches[k] (fun (v : Int) (q : List M.Cached) => (app 32 r ([(⟨x.Caches[k].Version, q⟩ : M.Cache)])).bind fun _ => (m_impl_copyCacheSet_L1 x n ((k + 1 : Nat) : Int) (r ++ [(⟨x.Caches[k].Version, q⟩ : M.Cache)])))) (by omega) (by omega) (fun m q j hj => by
      have hy := szSum_le (f := M.Cached.sz) (List.getElem_mem hj)
      simp only [m_impl_copyCacheSet_L2]
      rw [if_pos (lt_nat hj), idx_nat hj, Option.bind_some, p_impl_copyResponse _ (by simp only [M.Cached.sz] at hy; omega), Option.bind_some, wrapn (by omega)]) (fun m q => by
      simp only [m_impl_copyCacheSet_L2]
      rw [if_neg (by rw [nlt_nat]; simp)])) (fun n r => by
    simp only [m_impl_copyCacheSet_L1]
    rw [if_neg (by rw [nlt_nat]; simp)])
theorem p_spec_l5Copy (x : M.Record) (hs : M.Record.sz x ≤ 1073741824) : m_spec_l5Copy x = some x := by
  simp only [M.Record.sz] at hs
  unfold m_spec_l5Copy
  rw [app0 (by omega) (by omega), Option.bind_some]
theorem p_spec_l6Item (x : M.Item) (hs : M.Item.sz x ≤ 1073741824) : m_spec_l6Item x = some x := by
  simp only [M.Item.sz] at hs
  unfold m_spec_l6Item
  rw [p_spec_l5Copy _ (by omega), Option.bind_some]
theorem p_spec_l6Copy (x : M.Store) (hs : M.Store.sz x ≤ 1073741824) : m_spec_l6Copy x = some x := by
  have hl : x.Items.length ≤ 1073741824 := by simp only [M.Store.sz] at hs; omega
  unfold m_spec_l6Copy
  exact copyAll (xs := x.Items) (L := m_spec_l6Copy_L1 x) (b := 56) (E := fun r => some { x with Items := r }) hl (by omega) (fun n r k hk => by
    simp only [m_spec_l6Copy_L1]
    rw [if_pos (lt_nat hk), idx_nat hk, Option.bind_some, p_spec_l6Item _ (by have := szSum_le (f := M.Item.sz) (List.getElem_mem hk); simp only [M.Store.sz] at hs; omega), Option.bind_some, wrapn (by omega)]) (fun n r => by
    simp only [m_spec_l6Copy_L1]
    rw [if_neg (by rw [nlt_nat]; simp)])
theorem p_spec_l8Copy (x : M.Database) (hs : M.Database.sz x ≤ 1073741824) : m_spec_l8Copy x = some x := by
  have hl : x.Stores.length ≤ 1073741824 := by simp only [M.Database.sz] at hs; omega
  unfold m_spec_l8Copy
  rw [app0 (by simp only [M.Database.sz] at hs; omega) (by omega), Option.bind_some]
  exact copyAll (xs := x.Stores) (L := m_spec_l8Copy_L1 x) (b := 48) (E := fun r => some { x with Stores := r }) hl (by omega) (fun n r k hk => by
    simp only [m_spec_l8Copy_L1]
    rw [if_pos (lt_nat hk), idx_nat hk, Option.bind_some, p_spec_l6Copy _ (by have := szSum_le (f := M.Store.sz) (List.getElem_mem hk); simp only [M.Database.sz] at hs; omega), Option.bind_some, wrapn (by omega)]) (fun n r => by
    simp only [m_spec_l8Copy_L1]
    rw [if_neg (by rw [nlt_nat]; simp)])
theorem p_spec_l12Copy (x : M.Disk) (hs : M.Disk.sz x ≤ 1073741824) : m_spec_l12Copy x = some x := by
  simp only [M.Disk.sz] at hs
  unfold m_spec_l12Copy
  rw [p_spec_l8Copy _ (by omega), Option.bind_some, app0 (by omega) (by omega), Option.bind_some]
theorem p_spec_l20Copy (x : M.Outbox) (hs : M.Outbox.sz x ≤ 1073741824) : m_spec_l20Copy x = some x := by
  simp only [M.Outbox.sz] at hs
  unfold m_spec_l20Copy
  rw [app0 (by omega) (by omega), Option.bind_some]
theorem p_spec_l22Copy (x : M.Sync) (hs : M.Sync.sz x ≤ 1073741824) : m_spec_l22Copy x = some x := by
  simp only [M.Sync.sz] at hs
  unfold m_spec_l22Copy
  rw [p_spec_l20Copy _ (by omega), Option.bind_some]
theorem p_spec_l23Copy (x : M.Replica) (hs : M.Replica.sz x ≤ 1073741824) : m_spec_l23Copy x = some x := by
  simp only [M.Replica.sz] at hs
  unfold m_spec_l23Copy
  rw [p_spec_l6Copy _ (by omega), Option.bind_some, p_spec_l22Copy _ (by omega), Option.bind_some]
theorem p_spec_l27Copy (x : M.Bucket) (hs : M.Bucket.sz x ≤ 1073741824) : m_spec_l27Copy x = some x := by
  simp only [M.Bucket.sz] at hs
  unfold m_spec_l27Copy
  rw [p_spec_l17Copy _ (by omega), Option.bind_some, p_spec_l12Copy _ (by omega), Option.bind_some, p_spec_l23Copy _ (by omega), Option.bind_some]
theorem p_impl_copyRecord (x : M.Record) (hs : M.Record.sz x ≤ 1073741824) : m_impl_copyRecord x = some x := by
  simp only [M.Record.sz] at hs
  unfold m_impl_copyRecord
  rw [app0 (by omega) (by omega), Option.bind_some]
theorem p_impl_copyItem (x : M.Item) (hs : M.Item.sz x ≤ 1073741824) : m_impl_copyItem x = some x := by
  simp only [M.Item.sz] at hs
  unfold m_impl_copyItem
  rw [p_impl_copyRecord _ (by omega), Option.bind_some]
theorem p_impl_copyStore (x : M.Store) (hs : M.Store.sz x ≤ 1073741824) : m_impl_copyStore x = some x := by
  have hl : x.Items.length ≤ 1073741824 := by simp only [M.Store.sz] at hs; omega
  unfold m_impl_copyStore
  exact copyAll (xs := x.Items) (L := m_impl_copyStore_L1 x) (b := 56) (E := fun r => some { x with Items := r }) hl (by omega) (fun n r k hk => by
    simp only [m_impl_copyStore_L1]
    rw [if_pos (lt_nat hk), idx_nat hk, Option.bind_some, p_impl_copyItem _ (by have := szSum_le (f := M.Item.sz) (List.getElem_mem hk); simp only [M.Store.sz] at hs; omega), Option.bind_some, wrapn (by omega)]) (fun n r => by
    simp only [m_impl_copyStore_L1]
    rw [if_neg (by rw [nlt_nat]; simp)])
theorem p_impl_copyDatabase (x : M.Database) (hs : M.Database.sz x ≤ 1073741824) : m_impl_copyDatabase x = some x := by
  have hl : x.Stores.length ≤ 1073741824 := by simp only [M.Database.sz] at hs; omega
  unfold m_impl_copyDatabase
  rw [app0 (by simp only [M.Database.sz] at hs; omega) (by omega), Option.bind_some]
  exact copyAll (xs := x.Stores) (L := m_impl_copyDatabase_L1 x) (b := 48) (E := fun r => some { x with Stores := r }) hl (by omega) (fun n r k hk => by
    simp only [m_impl_copyDatabase_L1]
    rw [if_pos (lt_nat hk), idx_nat hk, Option.bind_some, p_impl_copyStore _ (by have := szSum_le (f := M.Store.sz) (List.getElem_mem hk); simp only [M.Database.sz] at hs; omega), Option.bind_some, wrapn (by omega)]) (fun n r => by
    simp only [m_impl_copyDatabase_L1]
    rw [if_neg (by rw [nlt_nat]; simp)])
theorem p_impl_copyDisk (x : M.Disk) (hs : M.Disk.sz x ≤ 1073741824) : m_impl_copyDisk x = some x := by
  simp only [M.Disk.sz] at hs
  unfold m_impl_copyDisk
  rw [p_impl_copyDatabase _ (by omega), Option.bind_some, p_impl_copyBytes _ (by omega), Option.bind_some]
theorem p_impl_copyOutbox (x : M.Outbox) (hs : M.Outbox.sz x ≤ 1073741824) : m_impl_copyOutbox x = some x := by
  simp only [M.Outbox.sz] at hs
  unfold m_impl_copyOutbox
  rw [app0 (by omega) (by omega), Option.bind_some]
theorem p_impl_copySync (x : M.Sync) (hs : M.Sync.sz x ≤ 1073741824) : m_impl_copySync x = some x := by
  simp only [M.Sync.sz] at hs
  unfold m_impl_copySync
  rw [p_impl_copyOutbox _ (by omega), Option.bind_some]
theorem p_impl_copyReplica (x : M.Replica) (hs : M.Replica.sz x ≤ 1073741824) : m_impl_copyReplica x = some x := by
  simp only [M.Replica.sz] at hs
  unfold m_impl_copyReplica
  rw [p_impl_copyStore _ (by omega), Option.bind_some, p_impl_copySync _ (by omega), Option.bind_some]
theorem p_impl_copyBucket (x : M.Bucket) (hs : M.Bucket.sz x ≤ 1073741824) : m_impl_copyBucket x = some x := by
  simp only [M.Bucket.sz] at hs
  unfold m_impl_copyBucket
  rw [p_impl_copyCacheSet _ (by omega), Option.bind_some, p_impl_copyDisk _ (by omega), Option.bind_some, p_impl_copyReplica _ (by omega), Option.bind_some]
end Go.Proofs.YtmpbibngijnfeaaGreat.gen
