/-
  Helper text: plain laws of the functions. No conditions beyond those of each law.
-/
import Derived.Test.YtgpiencmneiblaaGreatEqualBucketsPz
namespace Go.Proofs.YtgpiencmneiblaaGreat.gen
open Go Go.Sh
set_option linter.unusedVariables false
set_option linter.unusedSimpArgs false
def nEqbyte (x y : Int) : Bool := x == y
theorem p_Equal_byte {xs ys : List Int} (hx : xs.length ≤ maxLen) : m_slices_Equal_byte xs ys = some (eqL nEqbyte xs ys) := by
  have hm := le_max hx
  unfold m_slices_Equal_byte
  rw [eqAll (f := nEqbyte) hx (E := some true) (fun n k hk hk' => by
    simp only [m_slices_Equal_byte_L1]
    rw [if_pos (lt_nat hk), idx_nat hk, idx_nat hk', Option.bind_some, Option.bind_some, wrapn (by omega)]
    first | rw [flip_not]; rfl | rw [flip_bne]; rfl) (fun n => by
    simp only [m_slices_Equal_byte_L1]
    rw [if_neg (by rw [nlt_nat]; simp)]), ite_and, Bool.and_true]
def nEqField (x y : M.Field) : Bool := ((x.Name.toList == y.Name.toList) && (x.N == y.N))
theorem p_Equal_Field {xs ys : List M.Field} (hx : xs.length ≤ maxLen) : m_slices_Equal_Field xs ys = some (eqL nEqField xs ys) := by
  have hm := le_max hx
  unfold m_slices_Equal_Field
  rw [eqAll (f := nEqField) hx (E := some true) (fun n k hk hk' => by
    simp only [m_slices_Equal_Field_L1]
    rw [if_pos (lt_nat hk), idx_nat hk, idx_nat hk', Option.bind_some, Option.bind_some, wrapn (by omega)]
    first | rw [flip_not]; rfl | rw [flip_bne]; rfl) (fun n => by
    simp only [m_slices_Equal_Field_L1]
    rw [if_neg (by rw [nlt_nat]; simp)]), ite_and, Bool.and_true]
def nEqIndexDef (x y : M.IndexDef) : Bool := ((x.Store.toList == y.Store.toList) && (x.Field.toList == y.Field.toList))
theorem p_Equal_IndexDef {xs ys : List M.IndexDef} (hx : xs.length ≤ maxLen) : m_slices_Equal_IndexDef xs ys = some (eqL nEqIndexDef xs ys) := by
  have hm := le_max hx
  unfold m_slices_Equal_IndexDef
  rw [eqAll (f := nEqIndexDef) hx (E := some true) (fun n k hk hk' => by
    simp only [m_slices_Equal_IndexDef_L1]
    rw [if_pos (lt_nat hk), idx_nat hk, idx_nat hk', Option.bind_some, Option.bind_some, wrapn (by omega)]
    first | rw [flip_not]; rfl | rw [flip_bne]; rfl) (fun n => by
    simp only [m_slices_Equal_IndexDef_L1]
    rw [if_neg (by rw [nlt_nat]; simp)]), ite_and, Bool.and_true]
def nEqWrite (x y : M.Write) : Bool := ((x.Device == y.Device) && ((x.Seq == y.Seq) && ((x.Key.Kind == y.Key.Kind) && ((x.Key.N == y.Key.N) && ((x.Key.Text.toList == y.Key.Text.toList) && ((x.Field.toList == y.Field.toList) && (x.N == y.N)))))))
theorem p_Equal_Write {xs ys : List M.Write} (hx : xs.length ≤ maxLen) : m_slices_Equal_Write xs ys = some (eqL nEqWrite xs ys) := by
  have hm := le_max hx
  unfold m_slices_Equal_Write
  rw [eqAll (f := nEqWrite) hx (E := some true) (fun n k hk hk' => by
    simp only [m_slices_Equal_Write_L1]
    rw [if_pos (lt_nat hk), idx_nat hk, idx_nat hk', Option.bind_some, Option.bind_some, wrapn (by omega)]
    first | rw [flip_not]; rfl | rw [flip_bne]; rfl) (fun n => by
    simp only [m_slices_Equal_Write_L1]
    rw [if_neg (by rw [nlt_nat]; simp)]), ite_and, Bool.and_true]
theorem p_EqualFunc_Cached {p : M.Cached → M.Cached → Option Bool} {f : M.Cached → M.Cached → Bool} {xs ys : List M.Cached} (hx : xs.length ≤ maxLen) (hp : ∀ x ∈ xs, ∀ y ∈ ys, p x y = some (f x y)) : m_slices_EqualFunc_Cached xs ys p = some (eqL f xs ys) := by
  have hm := le_max hx
  unfold m_slices_EqualFunc_Cached
  rw [eqAll (f := f) hx (E := some true) (fun n k hk hk' => by
    simp only [m_slices_EqualFunc_Cached_L1]
    rw [if_pos (lt_nat hk), idx_nat hk, idx_nat hk', Option.bind_some, Option.bind_some, wrapn (by omega)]
    rw [hp _ (List.getElem_mem hk) _ (List.getElem_mem hk'), Option.bind_some, flip_not]) (fun n => by
    simp only [m_slices_EqualFunc_Cached_L1]
    rw [if_neg (by rw [nlt_nat]; simp)]), ite_and, Bool.and_true]
theorem p_EqualFunc_Cache {p : M.Cache → M.Cache → Option Bool} {f : M.Cache → M.Cache → Bool} {xs ys : List M.Cache} (hx : xs.length ≤ maxLen) (hp : ∀ x ∈ xs, ∀ y ∈ ys, p x y = some (f x y)) : m_slices_EqualFunc_Cache xs ys p = some (eqL f xs ys) := by
  have hm := le_max hx
  unfold m_slices_EqualFunc_Cache
  rw [eqAll (f := f) hx (E := some true) (fun n k hk hk' => by
    simp only [m_slices_EqualFunc_Cache_L1]
    rw [if_pos (lt_nat hk), idx_nat hk, idx_nat hk', Option.bind_some, Option.bind_some, wrapn (by omega)]
    rw [hp _ (List.getElem_mem hk) _ (List.getElem_mem hk'), Option.bind_some, flip_not]) (fun n => by
    simp only [m_slices_EqualFunc_Cache_L1]
    rw [if_neg (by rw [nlt_nat]; simp)]), ite_and, Bool.and_true]
theorem p_EqualFunc_Item {p : M.Item → M.Item → Option Bool} {f : M.Item → M.Item → Bool} {xs ys : List M.Item} (hx : xs.length ≤ maxLen) (hp : ∀ x ∈ xs, ∀ y ∈ ys, p x y = some (f x y)) : m_slices_EqualFunc_Item xs ys p = some (eqL f xs ys) := by
  have hm := le_max hx
  unfold m_slices_EqualFunc_Item
  rw [eqAll (f := f) hx (E := some true) (fun n k hk hk' => by
    simp only [m_slices_EqualFunc_Item_L1]
    rw [if_pos (lt_nat hk), idx_nat hk, idx_nat hk', Option.bind_some, Option.bind_some, wrapn (by omega)]
    rw [hp _ (List.getElem_mem hk) _ (List.getElem_mem hk'), Option.bind_some, flip_not]) (fun n => by
    simp only [m_slices_EqualFunc_Item_L1]
    rw [if_neg (by rw [nlt_nat]; simp)]), ite_and, Bool.and_true]
theorem p_EqualFunc_Store {p : M.Store → M.Store → Option Bool} {f : M.Store → M.Store → Bool} {xs ys : List M.Store} (hx : xs.length ≤ maxLen) (hp : ∀ x ∈ xs, ∀ y ∈ ys, p x y = some (f x y)) : m_slices_EqualFunc_Store xs ys p = some (eqL f xs ys) := by
  have hm := le_max hx
  unfold m_slices_EqualFunc_Store
  rw [eqAll (f := f) hx (E := some true) (fun n k hk hk' => by
    simp only [m_slices_EqualFunc_Store_L1]
    rw [if_pos (lt_nat hk), idx_nat hk, idx_nat hk', Option.bind_some, Option.bind_some, wrapn (by omega)]
    rw [hp _ (List.getElem_mem hk) _ (List.getElem_mem hk'), Option.bind_some, flip_not]) (fun n => by
    simp only [m_slices_EqualFunc_Store_L1]
    rw [if_neg (by rw [nlt_nat]; simp)]), ite_and, Bool.and_true]
theorem p_spec_EqualBytes {a b : List Int} (ha : okB a) (hb : okB b) : m_spec_EqualBytes a b = some (eqL nEqbyte a b) := by
  unfold m_spec_EqualBytes
  rw [toStr_ok ha.2, toStr_ok hb.2, Option.bind_some, Option.bind_some, bytesStr_eq ha.2 hb.2]
  rfl
theorem p_impl_EqualBytes {a b : List Int} (ha : okB a) : m_impl_EqualBytes a b = some (eqL nEqbyte a b) := by
  unfold m_impl_EqualBytes
  rw [p_Equal_byte ha.1, Option.bind_some]
def nResponse (x y : M.Response) : Bool := (x.Type_ == y.Type_) && ((x.Status == y.Status) && ((x.Version == y.Version) && ((x.Shares == y.Shares) && eqL nEqbyte x.Body y.Body)))
theorem p_spec_EqualResponses {a b : M.Response} (ha : a.ok) (hb : b.ok) : m_spec_EqualResponses a b = some (nResponse a b) := by
  simp only [m_spec_EqualResponses, p_spec_EqualBytes ha.Body hb.Body, Option.bind_some, ite_and, ite_nt, ite_bne, nResponse]
theorem p_impl_EqualResponses {a b : M.Response} (ha : a.ok) : m_impl_EqualResponses a b = some (nResponse a b) := by
  simp only [m_impl_EqualResponses, p_impl_EqualBytes ha.Body, Option.bind_some, ite_and, ite_nt, ite_bne, nResponse]
  ac_rfl
def nCached (x y : M.Cached) : Bool := (x.Site.toList == y.Site.toList) && ((x.Path.toList == y.Path.toList) && nResponse x.Response y.Response)
def nCache (x y : M.Cache) : Bool := (x.Version == y.Version) && eqL nCached x.Entries y.Entries
def nCacheSet (x y : M.CacheSet) : Bool := eqL nCache x.Caches y.Caches
theorem p_impl_equalCached {a b : M.Cached} (ha : a.ok) : m_impl_equalCached a b = some (nCached a b) := by
  simp only [m_impl_equalCached, p_impl_EqualResponses ha.Response, Option.bind_some, ite_and, ite_nt, ite_bne, nCached]
theorem p_impl_equalCaches {a b : M.Cache} (ha : a.ok) : m_impl_equalCaches a b = some (nCache a b) := by
  simp only [m_impl_equalCaches, p_EqualFunc_Cached (f := nCached) ha.Entries.1 (fun x hx y hy => p_impl_equalCached (ha.Entries.2 x hx)), Option.bind_some, ite_and, ite_nt, ite_bne, nCache]
theorem p_impl_EqualCacheSets {a b : M.CacheSet} (ha : a.ok) : m_impl_EqualCacheSets a b = some (nCacheSet a b) := by
  simp only [m_impl_EqualCacheSets, p_EqualFunc_Cache (f := nCache) ha.Caches.1 (fun x hx y hy => p_impl_equalCaches (ha.Caches.2 x hx)), Option.bind_some, ite_and, ite_nt, ite_bne, nCacheSet]
theorem spec_EqualCaches_in {x y : M.Cache} (hx : x.ok) (hy : y.ok) (E : Int → Option Bool) (E0 : Option Bool) (hE : ∀ v, E v = E0) : (if ((List.length x.Entries : Int) != (List.length y.Entries : Int)) = true then some false else m_spec_EqualCacheSets_L2 x y E fuel 0) = if eqL nCached x.Entries y.Entries = true then E0 else some false := by
  have hm := le_max hx.Entries.1
  refine eqAll (f := nCached) hx.Entries.1 (fun n k hk hk' => ?_) (fun n => ?_)
  · simp only [m_spec_EqualCacheSets_L2]
    rw [if_pos (lt_nat hk), idx_nat hk, idx_nat hk', Option.bind_some, Option.bind_some, wrapn (by omega), p_spec_EqualResponses (hx.Entries.2 _ (List.getElem_mem hk)).Response (hy.Entries.2 _ (List.getElem_mem hk')).Response, Option.bind_some]
    simp only [flip_not, ite2]
    rfl
  · simp only [m_spec_EqualCacheSets_L2]
    rw [if_neg (by rw [nlt_nat]; simp), hE]
theorem p_spec_EqualCacheSets {a b : M.CacheSet} (ha : a.ok) (hb : b.ok) : m_spec_EqualCacheSets a b = some (nCacheSet a b) := by
  have hm := le_max ha.Caches.1
  unfold m_spec_EqualCacheSets
  rw [eqAll (f := nCache) ha.Caches.1 (E := some true) (fun n k hk hk' => ?_) (fun n => ?_), ite_and, Bool.and_true]
  · rfl
  · simp only [m_spec_EqualCacheSets_L1]
    rw [if_pos (lt_nat hk), idx_nat hk, idx_nat hk', Option.bind_some, Option.bind_some, wrapn (by omega), spec_EqualCaches_in (ha.Caches.2 _ (List.getElem_mem hk)) (hb.Caches.2 _ (List.getElem_mem hk')) _ _ (fun v => rfl)]
    simp only [flip_bne, ite2]
    rfl
  · simp only [m_spec_EqualCacheSets_L1]
    rw [if_neg (by rw [nlt_nat]; simp)]
def nRecord (x y : M.Record) : Bool := eqL nEqField x.Fields y.Fields
theorem p_impl_EqualRecords {a b : M.Record} (ha : a.ok) : m_impl_EqualRecords a b = some (nRecord a b) := by
  simp only [m_impl_EqualRecords, p_Equal_Field ha.Fields.1, Option.bind_some, nRecord]
theorem p_spec_EqualRecords {a b : M.Record} (ha : a.ok) : m_spec_EqualRecords a b = some (nRecord a b) := by
  have hm := le_max ha.Fields.1
  unfold m_spec_EqualRecords
  rw [eqAll (f := nEqField) ha.Fields.1 (E := some true) (fun n k hk hk' => ?_) (fun n => ?_), ite_and, Bool.and_true]
  · rfl
  · simp only [m_spec_EqualRecords_L1]
    rw [if_pos (lt_nat hk), idx_nat hk, idx_nat hk', Option.bind_some, Option.bind_some, wrapn (by omega), flip_not]
    rfl
  · simp only [m_spec_EqualRecords_L1]
    rw [if_neg (by rw [nlt_nat]; simp)]
def nKey (x y : M.Key) : Bool := ((x.Kind == y.Kind) && ((x.N == y.N) && (x.Text.toList == y.Text.toList)))
def nItem (x y : M.Item) : Bool := nKey x.Key y.Key && nRecord x.Record y.Record
def nStore (x y : M.Store) : Bool := (x.Name.toList == y.Name.toList) && ((x.Auto == y.Auto) && eqL nItem x.Items y.Items)
theorem p_impl_equalItems {a b : M.Item} (ha : a.ok) : m_impl_equalItems a b = some (nItem a b) := by
  simp only [m_impl_equalItems, p_impl_EqualRecords ha.Record, Option.bind_some, ite_and, ite_nt, ite_bne, nItem, nKey]
theorem p_impl_EqualStores {a b : M.Store} (ha : a.ok) : m_impl_EqualStores a b = some (nStore a b) := by
  simp only [m_impl_EqualStores, p_EqualFunc_Item (f := nItem) ha.Items.1 (fun x hx y hy => p_impl_equalItems (ha.Items.2 x hx)), Option.bind_some, ite_and, ite_nt, ite_bne, nStore]
theorem p_spec_EqualStores {a b : M.Store} (ha : a.ok) : m_spec_EqualStores a b = some (nStore a b) := by
  have hm := le_max ha.Items.1
  unfold m_spec_EqualStores
  rw [eqAll (f := nItem) ha.Items.1 (E := some true) (fun n k hk hk' => ?_) (fun n => ?_), ite_and, Bool.and_true, ite_bne, ite_nt]
  · rfl
  · simp only [m_spec_EqualStores_L1]
    rw [if_pos (lt_nat hk), idx_nat hk, idx_nat hk', Option.bind_some, Option.bind_some, wrapn (by omega), p_spec_EqualRecords (ha.Items.2 _ (List.getElem_mem hk)).Record, Option.bind_some]
    simp only [flip_not, ite2]
    rfl
  · simp only [m_spec_EqualStores_L1]
    rw [if_neg (by rw [nlt_nat]; simp)]
def nDatabase (x y : M.Database) : Bool := (x.Name.toList == y.Name.toList) && ((x.Version == y.Version) && (eqL nStore x.Stores y.Stores && eqL nEqIndexDef x.Unique y.Unique))
theorem p_impl_EqualDatabases {a b : M.Database} (ha : a.ok) : m_impl_EqualDatabases a b = some (nDatabase a b) := by
  simp only [m_impl_EqualDatabases, p_EqualFunc_Store (f := nStore) ha.Stores.1 (fun x hx y hy => p_impl_EqualStores (ha.Stores.2 x hx)), p_Equal_IndexDef ha.Unique.1, Option.bind_some, ite_and, ite_nt, ite_bne, nDatabase]
theorem p_spec_EqualDatabases {a b : M.Database} (ha : a.ok) : m_spec_EqualDatabases a b = some (nDatabase a b) := by
  have hm := le_max ha.Stores.1
  have hm2 := le_max ha.Unique.1
  have h2 : (if ((List.length a.Unique : Int) != (List.length b.Unique : Int)) = true then some false else m_spec_EqualDatabases_L2 a b fuel 0) = if eqL nEqIndexDef a.Unique b.Unique = true then some true else some false := by
    refine eqAll (f := nEqIndexDef) ha.Unique.1 (fun n k hk hk' => ?_) (fun n => ?_)
    · simp only [m_spec_EqualDatabases_L2]
      rw [if_pos (lt_nat hk), idx_nat hk, idx_nat hk', Option.bind_some, Option.bind_some, wrapn (by omega), flip_not]
      rfl
    · simp only [m_spec_EqualDatabases_L2]
      rw [if_neg (by rw [nlt_nat]; simp)]
  have h1 : ∀ E, (∀ n, m_spec_EqualDatabases_L1 a b (n + 1) (a.Stores.length : Int) = E) → (if ((List.length a.Stores : Int) != (List.length b.Stores : Int)) = true then some false else m_spec_EqualDatabases_L1 a b fuel 0) = if eqL nStore a.Stores b.Stores = true then E else some false := by
    intro E hE
    refine eqAll (f := nStore) ha.Stores.1 (fun n k hk hk' => ?_) hE
    simp only [m_spec_EqualDatabases_L1]
    rw [if_pos (lt_nat hk), idx_nat hk, idx_nat hk', Option.bind_some, Option.bind_some, wrapn (by omega), p_spec_EqualStores (ha.Stores.2 _ (List.getElem_mem hk)), Option.bind_some, flip_not]
  unfold m_spec_EqualDatabases
  by_cases hu : a.Unique.length = b.Unique.length
  · rw [if_neg (show ¬ ((List.length a.Unique : Int) != (List.length b.Unique : Int)) = true by simp [hu])] at h2 ⊢
    rw [h1 (m_spec_EqualDatabases_L2 a b fuel 0) (fun n => by
      simp only [m_spec_EqualDatabases_L1]
      rw [if_neg (by rw [nlt_nat]; simp)]), h2, ite_and, ite_and, Bool.and_true, ite_bne, ite_nt]
    rfl
  · rw [if_pos (show ((List.length a.Unique : Int) != (List.length b.Unique : Int)) = true by simp; omega)]
    have : eqL nEqIndexDef a.Unique b.Unique = false := by
      cases h : eqL nEqIndexDef a.Unique b.Unique with
      | false => rfl
      | true => exact absurd (eqL_len h) hu
    simp [nDatabase, this]
def nDisk (x y : M.Disk) : Bool := nDatabase x.Base y.Base && (eqL nEqbyte x.Log y.Log && (x.Count == y.Count))
theorem p_impl_EqualDisks {a b : M.Disk} (ha : a.ok) : m_impl_EqualDisks a b = some (nDisk a b) := by
  simp only [m_impl_EqualDisks, p_impl_EqualDatabases ha.Base, p_impl_EqualBytes ha.Log, Option.bind_some, ite_and, ite_nt, ite_bne, nDisk]
theorem p_spec_EqualDisks {a b : M.Disk} (ha : a.ok) (hb : b.ok) : m_spec_EqualDisks a b = some (nDisk a b) := by
  simp only [m_spec_EqualDisks, p_spec_EqualDatabases ha.Base, p_spec_EqualBytes ha.Log hb.Log, Option.bind_some, ite_and, ite_nt, ite_bne, nDisk]
def nOutbox (x y : M.Outbox) : Bool := (x.Device == y.Device) && ((x.Next == y.Next) && eqL nEqWrite x.Writes y.Writes)
theorem p_impl_EqualOutboxes {a b : M.Outbox} (ha : a.ok) : m_impl_EqualOutboxes a b = some (nOutbox a b) := by
  simp only [m_impl_EqualOutboxes, p_Equal_Write ha.Writes.1, Option.bind_some, ite_and, ite_nt, ite_bne, nOutbox]
theorem p_spec_EqualOutboxes {a b : M.Outbox} (ha : a.ok) : m_spec_EqualOutboxes a b = some (nOutbox a b) := by
  have hm := le_max ha.Writes.1
  unfold m_spec_EqualOutboxes
  rw [eqAll (f := nEqWrite) ha.Writes.1 (E := some true) (fun n k hk hk' => ?_) (fun n => ?_), ite_and, Bool.and_true, ite_bne, ite_bne]
  · rfl
  · simp only [m_spec_EqualOutboxes_L1]
    rw [if_pos (lt_nat hk), idx_nat hk, idx_nat hk', Option.bind_some, Option.bind_some, wrapn (by omega), flip_not]
    rfl
  · simp only [m_spec_EqualOutboxes_L1]
    rw [if_neg (by rw [nlt_nat]; simp)]
def nSync (x y : M.Sync) : Bool := nOutbox x.Outbox y.Outbox && ((x.Tries == y.Tries) && (x.WaitUntil == y.WaitUntil))
theorem p_impl_EqualSyncs {a b : M.Sync} (ha : a.ok) : m_impl_EqualSyncs a b = some (nSync a b) := by
  simp only [m_impl_EqualSyncs, p_impl_EqualOutboxes ha.Outbox, Option.bind_some, ite_and, ite_nt, ite_bne, nSync]
theorem p_spec_EqualSyncs {a b : M.Sync} (ha : a.ok) : m_spec_EqualSyncs a b = some (nSync a b) := by
  simp only [m_spec_EqualSyncs, p_spec_EqualOutboxes ha.Outbox, Option.bind_some, ite_and, ite_nt, ite_bne, nSync]
def nReplica (x y : M.Replica) : Bool := nStore x.Base y.Base && ((x.Seen == y.Seen) && nSync x.Sync y.Sync)
theorem p_impl_EqualReplicas {a b : M.Replica} (ha : a.ok) : m_impl_EqualReplicas a b = some (nReplica a b) := by
  simp only [m_impl_EqualReplicas, p_impl_EqualStores ha.Base, p_impl_EqualSyncs ha.Sync, Option.bind_some, ite_and, ite_nt, ite_bne, nReplica]
theorem p_spec_EqualReplicas {a b : M.Replica} (ha : a.ok) : m_spec_EqualReplicas a b = some (nReplica a b) := by
  simp only [m_spec_EqualReplicas, p_spec_EqualStores ha.Base, p_spec_EqualSyncs ha.Sync, Option.bind_some, ite_and, ite_nt, ite_bne, nReplica]
def nReg (x y : M.Registration) : Bool := ((x.Site.toList == y.Site.toList) && ((x.Installing == y.Installing) && ((x.Waiting == y.Waiting) && (x.Active == y.Active))))
def nBucket (x y : M.Bucket) : Bool := (x.Site.toList == y.Site.toList) && ((x.Top.toList == y.Top.toList) && (nReg x.Registration y.Registration && (nCacheSet x.Caches y.Caches && (nDisk x.Disk y.Disk && (nReplica x.Replica y.Replica && ((x.LastUsed == y.LastUsed) && (x.Persistent == y.Persistent)))))))
theorem p_impl_EqualBuckets {a b : M.Bucket} (ha : a.ok) : m_impl_EqualBuckets a b = some (nBucket a b) := by
  simp only [m_impl_EqualBuckets, p_impl_EqualCacheSets ha.Caches, p_impl_EqualDisks ha.Disk, p_impl_EqualReplicas ha.Replica, Option.bind_some, ite_and, ite_nt, ite_bne, nBucket, nReg]
theorem p_spec_EqualBuckets {a b : M.Bucket} (ha : a.ok) (hb : b.ok) : m_spec_EqualBuckets a b = some (nBucket a b) := by
  simp only [m_spec_EqualBuckets, p_spec_EqualCacheSets ha.Caches hb.Caches, p_spec_EqualDisks ha.Disk hb.Disk, p_spec_EqualReplicas ha.Replica, Option.bind_some, ite_and, ite_nt, ite_bne, nBucket, nReg]
end Go.Proofs.YtgpiencmneiblaaGreat.gen
