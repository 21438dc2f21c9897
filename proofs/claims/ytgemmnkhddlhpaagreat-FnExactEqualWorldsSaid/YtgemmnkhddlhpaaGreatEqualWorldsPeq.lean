/-
  Helper text: plain laws of the functions. No conditions beyond those of each law.
-/
import Derived.Test.YtgemmnkhddlhpaaGreatEqualWorldsPz
namespace Go.Proofs.YtgemmnkhddlhpaaGreat.gen
open Go Go.Sh
set_option linter.unusedVariables false
set_option linter.unusedSimpArgs false
def nEqbyte (x y : Int) : Bool := x == y
theorem p_Equal_byte {xs ys : List Int} (hx : xs.length ≤ maxLen) : m_slices_Equal_byte xs ys = some (eqL nEqbyte xs ys) := by
  have hm := le_max hx
  unfold m_slices_Equal_byte
  rw [eqAll (f := nEqbyte) hx (E := some true) (fun n k hk hk' => by
    simp only [m_slices_Equal_byte_L1]
    rw [if_pos (lt_nat hk), idx_nat hk, idx_nat hk', Option.bind_some, Option.bind_some, wrapn (by omega)]
    first | rw [flip_not]; rfl | rw [flip_bne]; rfl) (fun n => by
    simp only [m_slices_Equal_byte_L1]
    rw [if_neg (by rw [nlt_nat]; simp)]), ite_and, Bool.and_true]
def nEqint (x y : Int) : Bool := x == y
theorem p_Equal_int {xs ys : List Int} (hx : xs.length ≤ maxLen) : m_slices_Equal_int xs ys = some (eqL nEqint xs ys) := by
  have hm := le_max hx
  unfold m_slices_Equal_int
  rw [eqAll (f := nEqint) hx (E := some true) (fun n k hk hk' => by
    simp only [m_slices_Equal_int_L1]
    rw [if_pos (lt_nat hk), idx_nat hk, idx_nat hk', Option.bind_some, Option.bind_some, wrapn (by omega)]
    first | rw [flip_not]; rfl | rw [flip_bne]; rfl) (fun n => by
    simp only [m_slices_Equal_int_L1]
    rw [if_neg (by rw [nlt_nat]; simp)]), ite_and, Bool.and_true]
def nEqstring (x y : ByteArray) : Bool := x.toList == y.toList
theorem p_Equal_string {xs ys : List ByteArray} (hx : xs.length ≤ maxLen) : m_slices_Equal_string xs ys = some (eqL nEqstring xs ys) := by
  have hm := le_max hx
  unfold m_slices_Equal_string
  rw [eqAll (f := nEqstring) hx (E := some true) (fun n k hk hk' => by
    simp only [m_slices_Equal_string_L1]
    rw [if_pos (lt_nat hk), idx_nat hk, idx_nat hk', Option.bind_some, Option.bind_some, wrapn (by omega)]
    first | rw [flip_not]; rfl | rw [flip_bne]; rfl) (fun n => by
    simp only [m_slices_Equal_string_L1]
    rw [if_neg (by rw [nlt_nat]; simp)]), ite_and, Bool.and_true]
def nEqField (x y : M.Field) : Bool := ((x.Name.toList == y.Name.toList) && (x.N == y.N))
theorem p_Equal_Field {xs ys : List M.Field} (hx : xs.length ≤ maxLen) : m_slices_Equal_Field xs ys = some (eqL nEqField xs ys) := by
  have hm := le_max hx
  unfold m_slices_Equal_Field
  rw [eqAll (f := nEqField) hx (E := some true) (fun n k hk hk' => by
    simp only [m_slices_Equal_Field_L1]
    rw [if_pos (lt_nat hk), idx_nat hk, idx_nat hk', Option.bind_some, Option.bind_some, wrapn (by omega)]
    first | rw [flip_not]; rfl | rw [flip_bne]; rfl) (fun n => by
    simp only [m_slices_Equal_Field_L1]
    rw [if_neg (by rw [nlt_nat]; simp)]), ite_and, Bool.and_true]
def nEqIndexDef (x y : M.IndexDef) : Bool := ((x.Store.toList == y.Store.toList) && (x.Field.toList == y.Field.toList))
theorem p_Equal_IndexDef {xs ys : List M.IndexDef} (hx : xs.length ≤ maxLen) : m_slices_Equal_IndexDef xs ys = some (eqL nEqIndexDef xs ys) := by
  have hm := le_max hx
  unfold m_slices_Equal_IndexDef
  rw [eqAll (f := nEqIndexDef) hx (E := some true) (fun n k hk hk' => by
    simp only [m_slices_Equal_IndexDef_L1]
    rw [if_pos (lt_nat hk), idx_nat hk, idx_nat hk', Option.bind_some, Option.bind_some, wrapn (by omega)]
    first | rw [flip_not]; rfl | rw [flip_bne]; rfl) (fun n => by
    simp only [m_slices_Equal_IndexDef_L1]
    rw [if_neg (by rw [nlt_nat]; simp)]), ite_and, Bool.and_true]
def nEqWrite (x y : M.Write) : Bool := ((x.Device == y.Device) && ((x.Seq == y.Seq) && ((x.Key.Kind == y.Key.Kind) && ((x.Key.N == y.Key.N) && ((x.Key.Text.toList == y.Key.Text.toList) && ((x.Field.toList == y.Field.toList) && (x.N == y.N)))))))
theorem p_Equal_Write {xs ys : List M.Write} (hx : xs.length ≤ maxLen) : m_slices_Equal_Write xs ys = some (eqL nEqWrite xs ys) := by
  have hm := le_max hx
  unfold m_slices_Equal_Write
  rw [eqAll (f := nEqWrite) hx (E := some true) (fun n k hk hk' => by
    simp only [m_slices_Equal_Write_L1]
    rw [if_pos (lt_nat hk), idx_nat hk, idx_nat hk', Option.bind_some, Option.bind_some, wrapn (by omega)]
    first | rw [flip_not]; rfl | rw [flip_bne]; rfl) (fun n => by
    simp only [m_slices_Equal_Write_L1]
    rw [if_neg (by rw [nlt_nat]; simp)]), ite_and, Bool.and_true]
def nEqInstr (x y : M.Instr) : Bool := ((x.Kind == y.Kind) && ((x.R == y.R) && ((x.N == y.N) && (x.Text.toList == y.Text.toList))))
theorem p_Equal_Instr {xs ys : List M.Instr} (hx : xs.length ≤ maxLen) : m_slices_Equal_Instr xs ys = some (eqL nEqInstr xs ys) := by
  have hm := le_max hx
  unfold m_slices_Equal_Instr
  rw [eqAll (f := nEqInstr) hx (E := some true) (fun n k hk hk' => by
    simp only [m_slices_Equal_Instr_L1]
    rw [if_pos (lt_nat hk), idx_nat hk, idx_nat hk', Option.bind_some, Option.bind_some, wrapn (by omega)]
    first | rw [flip_not]; rfl | rw [flip_bne]; rfl) (fun n => by
    simp only [m_slices_Equal_Instr_L1]
    rw [if_neg (by rw [nlt_nat]; simp)]), ite_and, Bool.and_true]
def nEqLoaded (x y : M.Loaded) : Bool := ((x.Path.toList == y.Path.toList) && (x.Version == y.Version))
theorem p_Equal_Loaded {xs ys : List M.Loaded} (hx : xs.length ≤ maxLen) : m_slices_Equal_Loaded xs ys = some (eqL nEqLoaded xs ys) := by
  have hm := le_max hx
  unfold m_slices_Equal_Loaded
  rw [eqAll (f := nEqLoaded) hx (E := some true) (fun n k hk hk' => by
    simp only [m_slices_Equal_Loaded_L1]
    rw [if_pos (lt_nat hk), idx_nat hk, idx_nat hk', Option.bind_some, Option.bind_some, wrapn (by omega)]
    first | rw [flip_not]; rfl | rw [flip_bne]; rfl) (fun n => by
    simp only [m_slices_Equal_Loaded_L1]
    rw [if_neg (by rw [nlt_nat]; simp)]), ite_and, Bool.and_true]
def nEqLock (x y : M.Lock) : Bool := ((x.Name.toList == y.Name.toList) && ((x.Page == y.Page) && ((x.Shared == y.Shared) && (x.Held == y.Held))))
theorem p_Equal_Lock {xs ys : List M.Lock} (hx : xs.length ≤ maxLen) : m_slices_Equal_Lock xs ys = some (eqL nEqLock xs ys) := by
  have hm := le_max hx
  unfold m_slices_Equal_Lock
  rw [eqAll (f := nEqLock) hx (E := some true) (fun n k hk hk' => by
    simp only [m_slices_Equal_Lock_L1]
    rw [if_pos (lt_nat hk), idx_nat hk, idx_nat hk', Option.bind_some, Option.bind_some, wrapn (by omega)]
    first | rw [flip_not]; rfl | rw [flip_bne]; rfl) (fun n => by
    simp only [m_slices_Equal_Lock_L1]
    rw [if_neg (by rw [nlt_nat]; simp)]), ite_and, Bool.and_true]
def nEqMail (x y : M.Mail) : Bool := ((x.To == y.To) && ((x.From == y.From) && (x.N == y.N)))
theorem p_Equal_Mail {xs ys : List M.Mail} (hx : xs.length ≤ maxLen) : m_slices_Equal_Mail xs ys = some (eqL nEqMail xs ys) := by
  have hm := le_max hx
  unfold m_slices_Equal_Mail
  rw [eqAll (f := nEqMail) hx (E := some true) (fun n k hk hk' => by
    simp only [m_slices_Equal_Mail_L1]
    rw [if_pos (lt_nat hk), idx_nat hk, idx_nat hk', Option.bind_some, Option.bind_some, wrapn (by omega)]
    first | rw [flip_not]; rfl | rw [flip_bne]; rfl) (fun n => by
    simp only [m_slices_Equal_Mail_L1]
    rw [if_neg (by rw [nlt_nat]; simp)]), ite_and, Bool.and_true]
def nEqApplied (x y : M.Applied) : Bool := ((x.Device == y.Device) && (x.Seq == y.Seq))
theorem p_Equal_Applied {xs ys : List M.Applied} (hx : xs.length ≤ maxLen) : m_slices_Equal_Applied xs ys = some (eqL nEqApplied xs ys) := by
  have hm := le_max hx
  unfold m_slices_Equal_Applied
  rw [eqAll (f := nEqApplied) hx (E := some true) (fun n k hk hk' => by
    simp only [m_slices_Equal_Applied_L1]
    rw [if_pos (lt_nat hk), idx_nat hk, idx_nat hk', Option.bind_some, Option.bind_some, wrapn (by omega)]
    first | rw [flip_not]; rfl | rw [flip_bne]; rfl) (fun n => by
    simp only [m_slices_Equal_Applied_L1]
    rw [if_neg (by rw [nlt_nat]; simp)]), ite_and, Bool.and_true]
theorem p_EqualFunc_Cached {p : M.Cached → M.Cached → Option Bool} {f : M.Cached → M.Cached → Bool} {xs ys : List M.Cached} (hx : xs.length ≤ maxLen) (hp : ∀ x ∈ xs, ∀ y ∈ ys, p x y = some (f x y)) : m_slices_EqualFunc_Cached xs ys p = some (eqL f xs ys) := by
  have hm := le_max hx
  unfold m_slices_EqualFunc_Cached
  rw [eqAll (f := f) hx (E := some true) (fun n k hk hk' => by
    simp only [m_slices_EqualFunc_Cached_L1]
    rw [if_pos (lt_nat hk), idx_nat hk, idx_nat hk', Option.bind_some, Option.bind_some, wrapn (by omega)]
    rw [hp _ (List.getElem_mem hk) _ (List.getElem_mem hk'), Option.bind_some, flip_not]) (fun n => by
    simp only [m_slices_EqualFunc_Cached_L1]
    rw [if_neg (by rw [nlt_nat]; simp)]), ite_and, Bool.and_true]
theorem p_EqualFunc_Cache {p : M.Cache → M.Cache → Option Bool} {f : M.Cache → M.Cache → Bool} {xs ys : List M.Cache} (hx : xs.length ≤ maxLen) (hp : ∀ x ∈ xs, ∀ y ∈ ys, p x y = some (f x y)) : m_slices_EqualFunc_Cache xs ys p = some (eqL f xs ys) := by
  have hm := le_max hx
  unfold m_slices_EqualFunc_Cache
  rw [eqAll (f := f) hx (E := some true) (fun n k hk hk' => by
    simp only [m_slices_EqualFunc_Cache_L1]
    rw [if_pos (lt_nat hk), idx_nat hk, idx_nat hk', Option.bind_some, Option.bind_some, wrapn (by omega)]
    rw [hp _ (List.getElem_mem hk) _ (List.getElem_mem hk'), Option.bind_some, flip_not]) (fun n => by
    simp only [m_slices_EqualFunc_Cache_L1]
    rw [if_neg (by rw [nlt_nat]; simp)]), ite_and, Bool.and_true]
theorem p_EqualFunc_Item {p : M.Item → M.Item → Option Bool} {f : M.Item → M.Item → Bool} {xs ys : List M.Item} (hx : xs.length ≤ maxLen) (hp : ∀ x ∈ xs, ∀ y ∈ ys, p x y = some (f x y)) : m_slices_EqualFunc_Item xs ys p = some (eqL f xs ys) := by
  have hm := le_max hx
  unfold m_slices_EqualFunc_Item
  rw [eqAll (f := f) hx (E := some true) (fun n k hk hk' => by
    simp only [m_slices_EqualFunc_Item_L1]
    rw [if_pos (lt_nat hk), idx_nat hk, idx_nat hk', Option.bind_some, Option.bind_some, wrapn (by omega)]
    rw [hp _ (List.getElem_mem hk) _ (List.getElem_mem hk'), Option.bind_some, flip_not]) (fun n => by
    simp only [m_slices_EqualFunc_Item_L1]
    rw [if_neg (by rw [nlt_nat]; simp)]), ite_and, Bool.and_true]
theorem p_EqualFunc_Store {p : M.Store → M.Store → Option Bool} {f : M.Store → M.Store → Bool} {xs ys : List M.Store} (hx : xs.length ≤ maxLen) (hp : ∀ x ∈ xs, ∀ y ∈ ys, p x y = some (f x y)) : m_slices_EqualFunc_Store xs ys p = some (eqL f xs ys) := by
  have hm := le_max hx
  unfold m_slices_EqualFunc_Store
  rw [eqAll (f := f) hx (E := some true) (fun n k hk hk' => by
    simp only [m_slices_EqualFunc_Store_L1]
    rw [if_pos (lt_nat hk), idx_nat hk, idx_nat hk', Option.bind_some, Option.bind_some, wrapn (by omega)]
    rw [hp _ (List.getElem_mem hk) _ (List.getElem_mem hk'), Option.bind_some, flip_not]) (fun n => by
    simp only [m_slices_EqualFunc_Store_L1]
    rw [if_neg (by rw [nlt_nat]; simp)]), ite_and, Bool.and_true]
theorem p_EqualFunc_Bucket {p : M.Bucket → M.Bucket → Option Bool} {f : M.Bucket → M.Bucket → Bool} {xs ys : List M.Bucket} (hx : xs.length ≤ maxLen) (hp : ∀ x ∈ xs, ∀ y ∈ ys, p x y = some (f x y)) : m_slices_EqualFunc_Bucket xs ys p = some (eqL f xs ys) := by
  have hm := le_max hx
  unfold m_slices_EqualFunc_Bucket
  rw [eqAll (f := f) hx (E := some true) (fun n k hk hk' => by
    simp only [m_slices_EqualFunc_Bucket_L1]
    rw [if_pos (lt_nat hk), idx_nat hk, idx_nat hk', Option.bind_some, Option.bind_some, wrapn (by omega)]
    rw [hp _ (List.getElem_mem hk) _ (List.getElem_mem hk'), Option.bind_some, flip_not]) (fun n => by
    simp only [m_slices_EqualFunc_Bucket_L1]
    rw [if_neg (by rw [nlt_nat]; simp)]), ite_and, Bool.and_true]
theorem p_EqualFunc_Page {p : M.Page → M.Page → Option Bool} {f : M.Page → M.Page → Bool} {xs ys : List M.Page} (hx : xs.length ≤ maxLen) (hp : ∀ x ∈ xs, ∀ y ∈ ys, p x y = some (f x y)) : m_slices_EqualFunc_Page xs ys p = some (eqL f xs ys) := by
  have hm := le_max hx
  unfold m_slices_EqualFunc_Page
  rw [eqAll (f := f) hx (E := some true) (fun n k hk hk' => by
    simp only [m_slices_EqualFunc_Page_L1]
    rw [if_pos (lt_nat hk), idx_nat hk, idx_nat hk', Option.bind_some, Option.bind_some, wrapn (by omega)]
    rw [hp _ (List.getElem_mem hk) _ (List.getElem_mem hk'), Option.bind_some, flip_not]) (fun n => by
    simp only [m_slices_EqualFunc_Page_L1]
    rw [if_neg (by rw [nlt_nat]; simp)]), ite_and, Bool.and_true]
theorem p_EqualFunc_Site {p : M.Site → M.Site → Option Bool} {f : M.Site → M.Site → Bool} {xs ys : List M.Site} (hx : xs.length ≤ maxLen) (hp : ∀ x ∈ xs, ∀ y ∈ ys, p x y = some (f x y)) : m_slices_EqualFunc_Site xs ys p = some (eqL f xs ys) := by
  have hm := le_max hx
  unfold m_slices_EqualFunc_Site
  rw [eqAll (f := f) hx (E := some true) (fun n k hk hk' => by
    simp only [m_slices_EqualFunc_Site_L1]
    rw [if_pos (lt_nat hk), idx_nat hk, idx_nat hk', Option.bind_some, Option.bind_some, wrapn (by omega)]
    rw [hp _ (List.getElem_mem hk) _ (List.getElem_mem hk'), Option.bind_some, flip_not]) (fun n => by
    simp only [m_slices_EqualFunc_Site_L1]
    rw [if_neg (by rw [nlt_nat]; simp)]), ite_and, Bool.and_true]
theorem p_EqualFunc_Server {p : M.Server → M.Server → Option Bool} {f : M.Server → M.Server → Bool} {xs ys : List M.Server} (hx : xs.length ≤ maxLen) (hp : ∀ x ∈ xs, ∀ y ∈ ys, p x y = some (f x y)) : m_slices_EqualFunc_Server xs ys p = some (eqL f xs ys) := by
  have hm := le_max hx
  unfold m_slices_EqualFunc_Server
  rw [eqAll (f := f) hx (E := some true) (fun n k hk hk' => by
    simp only [m_slices_EqualFunc_Server_L1]
    rw [if_pos (lt_nat hk), idx_nat hk, idx_nat hk', Option.bind_some, Option.bind_some, wrapn (by omega)]
    rw [hp _ (List.getElem_mem hk) _ (List.getElem_mem hk'), Option.bind_some, flip_not]) (fun n => by
    simp only [m_slices_EqualFunc_Server_L1]
    rw [if_neg (by rw [nlt_nat]; simp)]), ite_and, Bool.and_true]
theorem p_spec_EqualBytes {a b : List Int} (ha : okB a) (hb : okB b) : m_spec_EqualBytes a b = some (eqL nEqbyte a b) := by
  unfold m_spec_EqualBytes
  rw [toStr_ok ha.2, toStr_ok hb.2, Option.bind_some, Option.bind_some, bytesStr_eq ha.2 hb.2]
  rfl
theorem p_impl_EqualBytes {a b : List Int} (ha : okB a) : m_impl_EqualBytes a b = some (eqL nEqbyte a b) := by
  unfold m_impl_EqualBytes
  rw [p_Equal_byte ha.1, Option.bind_some]
def nResponse (x y : M.Response) : Bool := (x.Type_ == y.Type_) && ((x.Status == y.Status) && ((x.Version == y.Version) && ((x.Shares == y.Shares) && eqL nEqbyte x.Body y.Body)))
theorem p_spec_EqualResponses {a b : M.Response} (ha : a.ok) (hb : b.ok) : m_spec_EqualResponses a b = some (nResponse a b) := by
  simp only [m_spec_EqualResponses, p_spec_EqualBytes ha.Body hb.Body, Option.bind_some, ite_and, ite_nt, ite_bne, nResponse]
theorem p_impl_EqualResponses {a b : M.Response} (ha : a.ok) : m_impl_EqualResponses a b = some (nResponse a b) := by
  simp only [m_impl_EqualResponses, p_impl_EqualBytes ha.Body, Option.bind_some, ite_and, ite_nt, ite_bne, nResponse]
  ac_rfl
def nCached (x y : M.Cached) : Bool := (x.Site.toList == y.Site.toList) && ((x.Path.toList == y.Path.toList) && nResponse x.Response y.Response)
def nCache (x y : M.Cache) : Bool := (x.Version == y.Version) && eqL nCached x.Entries y.Entries
def nCacheSet (x y : M.CacheSet) : Bool := eqL nCache x.Caches y.Caches
theorem p_impl_equalCached {a b : M.Cached} (ha : a.ok) : m_impl_equalCached a b = some (nCached a b) := by
  simp only [m_impl_equalCached, p_impl_EqualResponses ha.Response, Option.bind_some, ite_and, ite_nt, ite_bne, nCached]
theorem p_impl_equalCaches {a b : M.Cache} (ha : a.ok) : m_impl_equalCaches a b = some (nCache a b) := by
  simp only [m_impl_equalCaches, p_EqualFunc_Cached (f := nCached) ha.Entries.1 (fun x hx y hy => p_impl_equalCached (ha.Entries.2 x hx)), Option.bind_some, ite_and, ite_nt, ite_bne, nCache]
theorem p_impl_EqualCacheSets {a b : M.CacheSet} (ha : a.ok) : m_impl_EqualCacheSets a b = some (nCacheSet a b) := by
  simp only [m_impl_EqualCacheSets, p_EqualFunc_Cache (f := nCache) ha.Caches.1 (fun x hx y hy => p_impl_equalCaches (ha.Caches.2 x hx)), Option.bind_some, ite_and, ite_nt, ite_bne, nCacheSet]
theorem spec_EqualCaches_in {x y : M.Cache} (hx : x.ok) (hy : y.ok) (E : Int → Option Bool) (E0 : Option Bool) (hE : ∀ v, E v = E0) : (if ((List.length x.Entries : Int) != (List.length y.Entries : Int)) = true then some false else m_spec_EqualCacheSets_L2 x y E fuel 0) = if eqL nCached x.Entries y.Entries = true then E0 else some false := by
  have hm := le_max hx.Entries.1
  refine eqAll (f := nCached) hx.Entries.1 (fun n k hk hk' => ?_) (fun n => ?_)
  · simp only [m_spec_EqualCacheSets_L2]
    rw [if_pos (lt_nat hk), idx_nat hk, idx_nat hk', Option.bind_some, Option.bind_some, wrapn (by omega), p_spec_EqualResponses (hx.Entries.2 _ (List.getElem_mem hk)).Response (hy.Entries.2 _ (List.getElem_mem hk')).Response, Option.bind_some]
    simp only [flip_not, ite2]
    rfl
  · simp only [m_spec_EqualCacheSets_L2]
    rw [if_neg (by rw [nlt_nat]; simp), hE]
theorem p_spec_EqualCacheSets {a b : M.CacheSet} (ha : a.ok) (hb : b.ok) : m_spec_EqualCacheSets a b = some (nCacheSet a b) := by
  have hm := le_max ha.Caches.1
  unfold m_spec_EqualCacheSets
  rw [eqAll (f := nCache) ha.Caches.1 (E := some true) (fun n k hk hk' => ?_) (fun n => ?_), ite_and, Bool.and_true]
  · rfl
  · simp only [m_spec_EqualCacheSets_L1]
    rw [if_pos (lt_nat hk), idx_nat hk, idx_nat hk', Option.bind_some, Option.bind_some, wrapn (by omega), spec_EqualCaches_in (ha.Caches.2 _ (List.getElem_mem hk)) (hb.Caches.2 _ (List.getElem_mem hk')) _ _ (fun v => rfl)]
    simp only [flip_bne, ite2]
    rfl
  · simp only [m_spec_EqualCacheSets_L1]
    rw [if_neg (by rw [nlt_nat]; simp)]
def nRecord (x y : M.Record) : Bool := eqL nEqField x.Fields y.Fields
theorem p_impl_EqualRecords {a b : M.Record} (ha : a.ok) : m_impl_EqualRecords a b = some (nRecord a b) := by
  simp only [m_impl_EqualRecords, p_Equal_Field ha.Fields.1, Option.bind_some, nRecord]
theorem p_spec_EqualRecords {a b : M.Record} (ha : a.ok) : m_spec_EqualRecords a b = some (nRecord a b) := by
  have hm := le_max ha.Fields.1
  unfold m_spec_EqualRecords
  rw [eqAll (f := nEqField) ha.Fields.1 (E := some true) (fun n k hk hk' => ?_) (fun n => ?_), ite_and, Bool.and_true]
  · rfl
  · simp only [m_spec_EqualRecords_L1]
    rw [if_pos (lt_nat hk), idx_nat hk, idx_nat hk', Option.bind_some, Option.bind_some, wrapn (by omega), flip_not]
    rfl
  · simp only [m_spec_EqualRecords_L1]
    rw [if_neg (by rw [nlt_nat]; simp)]
def nKey (x y : M.Key) : Bool := ((x.Kind == y.Kind) && ((x.N == y.N) && (x.Text.toList == y.Text.toList)))
def nItem (x y : M.Item) : Bool := nKey x.Key y.Key && nRecord x.Record y.Record
def nStore (x y : M.Store) : Bool := (x.Name.toList == y.Name.toList) && ((x.Auto == y.Auto) && eqL nItem x.Items y.Items)
theorem p_impl_equalItems {a b : M.Item} (ha : a.ok) : m_impl_equalItems a b = some (nItem a b) := by
  simp only [m_impl_equalItems, p_impl_EqualRecords ha.Record, Option.bind_some, ite_and, ite_nt, ite_bne, nItem, nKey]
theorem p_impl_EqualStores {a b : M.Store} (ha : a.ok) : m_impl_EqualStores a b = some (nStore a b) := by
  simp only [m_impl_EqualStores, p_EqualFunc_Item (f := nItem) ha.Items.1 (fun x hx y hy => p_impl_equalItems (ha.Items.2 x hx)), Option.bind_some, ite_and, ite_nt, ite_bne, nStore]
theorem p_spec_EqualStores {a b : M.Store} (ha : a.ok) : m_spec_EqualStores a b = some (nStore a b) := by
  have hm := le_max ha.Items.1
  unfold m_spec_EqualStores
  rw [eqAll (f := nItem) ha.Items.1 (E := some true) (fun n k hk hk' => ?_) (fun n => ?_), ite_and, Bool.and_true, ite_bne, ite_nt]
  · rfl
  · simp only [m_spec_EqualStores_L1]
    rw [if_pos (lt_nat hk), idx_nat hk, idx_nat hk', Option.bind_some, Option.bind_some, wrapn (by omega), p_spec_EqualRecords (ha.Items.2 _ (List.getElem_mem hk)).Record, Option.bind_some]
    simp only [flip_not, ite2]
    rfl
  · simp only [m_spec_EqualStores_L1]
    rw [if_neg (by rw [nlt_nat]; simp)]
def nDatabase (x y : M.Database) : Bool := (x.Name.toList == y.Name.toList) && ((x.Version == y.Version) && (eqL nStore x.Stores y.Stores && eqL nEqIndexDef x.Unique y.Unique))
theorem p_impl_EqualDatabases {a b : M.Database} (ha : a.ok) : m_impl_EqualDatabases a b = some (nDatabase a b) := by
  simp only [m_impl_EqualDatabases, p_EqualFunc_Store (f := nStore) ha.Stores.1 (fun x hx y hy => p_impl_EqualStores (ha.Stores.2 x hx)), p_Equal_IndexDef ha.Unique.1, Option.bind_some, ite_and, ite_nt, ite_bne, nDatabase]
theorem p_spec_EqualDatabases {a b : M.Database} (ha : a.ok) : m_spec_EqualDatabases a b = some (nDatabase a b) := by
  have hm := le_max ha.Stores.1
  have hm2 := le_max ha.Unique.1
  have h2 : (if ((List.length a.Unique : Int) != (List.length b.Unique : Int)) = true then some false else m_spec_EqualDatabases_L2 a b fuel 0) = if eqL nEqIndexDef a.Unique b.Unique = true then some true else some false := by
    refine eqAll (f := nEqIndexDef) ha.Unique.1 (fun n k hk hk' => ?_) (fun n => ?_)
    · simp only [m_spec_EqualDatabases_L2]
      rw [if_pos (lt_nat hk), idx_nat hk, idx_nat hk', Option.bind_some, Option.bind_some, wrapn (by omega), flip_not]
      rfl
    · simp only [m_spec_EqualDatabases_L2]
      rw [if_neg (by rw [nlt_nat]; simp)]
  have h1 : ∀ E, (∀ n, m_spec_EqualDatabases_L1 a b (n + 1) (a.Stores.length : Int) = E) → (if ((List.length a.Stores : Int) != (List.length b.Stores : Int)) = true then some false else m_spec_EqualDatabases_L1 a b fuel 0) = if eqL nStore a.Stores b.Stores = true then E else some false := by
    intro E hE
    refine eqAll (f := nStore) ha.Stores.1 (fun n k hk hk' => ?_) hE
    simp only [m_spec_EqualDatabases_L1]
    rw [if_pos (lt_nat hk), idx_nat hk, idx_nat hk', Option.bind_some, Option.bind_some, wrapn (by omega), p_spec_EqualStores (ha.Stores.2 _ (List.getElem_mem hk)), Option.bind_some, flip_not]
  unfold m_spec_EqualDatabases
  by_cases hu : a.Unique.length = b.Unique.length
  · rw [if_neg (show ¬ ((List.length a.Unique : Int) != (List.length b.Unique : Int)) = true by simp [hu])] at h2 ⊢
    rw [h1 (m_spec_EqualDatabases_L2 a b fuel 0) (fun n => by
      simp only [m_spec_EqualDatabases_L1]
      rw [if_neg (by rw [nlt_nat]; simp)]), h2, ite_and, ite_and, Bool.and_true, ite_bne, ite_nt]
    rfl
  · rw [if_pos (show ((List.length a.Unique : Int) != (List.length b.Unique : Int)) = true by simp; omega)]
    have : eqL nEqIndexDef a.Unique b.Unique = false := by
      cases h : eqL nEqIndexDef a.Unique b.Unique with
      | false => rfl
      | true => exact absurd (eqL_len h) hu
    simp [nDatabase, this]
def nDisk (x y : M.Disk) : Bool := nDatabase x.Base y.Base && (eqL nEqbyte x.Log y.Log && (x.Count == y.Count))
theorem p_impl_EqualDisks {a b : M.Disk} (ha : a.ok) : m_impl_EqualDisks a b = some (nDisk a b) := by
  simp only [m_impl_EqualDisks, p_impl_EqualDatabases ha.Base, p_impl_EqualBytes ha.Log, Option.bind_some, ite_and, ite_nt, ite_bne, nDisk]
theorem p_spec_EqualDisks {a b : M.Disk} (ha : a.ok) (hb : b.ok) : m_spec_EqualDisks a b = some (nDisk a b) := by
  simp only [m_spec_EqualDisks, p_spec_EqualDatabases ha.Base, p_spec_EqualBytes ha.Log hb.Log, Option.bind_some, ite_and, ite_nt, ite_bne, nDisk]
def nOutbox (x y : M.Outbox) : Bool := (x.Device == y.Device) && ((x.Next == y.Next) && eqL nEqWrite x.Writes y.Writes)
theorem p_impl_EqualOutboxes {a b : M.Outbox} (ha : a.ok) : m_impl_EqualOutboxes a b = some (nOutbox a b) := by
  simp only [m_impl_EqualOutboxes, p_Equal_Write ha.Writes.1, Option.bind_some, ite_and, ite_nt, ite_bne, nOutbox]
theorem p_spec_EqualOutboxes {a b : M.Outbox} (ha : a.ok) : m_spec_EqualOutboxes a b = some (nOutbox a b) := by
  have hm := le_max ha.Writes.1
  unfold m_spec_EqualOutboxes
  rw [eqAll (f := nEqWrite) ha.Writes.1 (E := some true) (fun n k hk hk' => ?_) (fun n => ?_), ite_and, Bool.and_true, ite_bne, ite_bne]
  · rfl
  · simp only [m_spec_EqualOutboxes_L1]
    rw [if_pos (lt_nat hk), idx_nat hk, idx_nat hk', Option.bind_some, Option.bind_some, wrapn (by omega), flip_not]
    rfl
  · simp only [m_spec_EqualOutboxes_L1]
    rw [if_neg (by rw [nlt_nat]; simp)]
def nSync (x y : M.Sync) : Bool := nOutbox x.Outbox y.Outbox && ((x.Tries == y.Tries) && (x.WaitUntil == y.WaitUntil))
theorem p_impl_EqualSyncs {a b : M.Sync} (ha : a.ok) : m_impl_EqualSyncs a b = some (nSync a b) := by
  simp only [m_impl_EqualSyncs, p_impl_EqualOutboxes ha.Outbox, Option.bind_some, ite_and, ite_nt, ite_bne, nSync]
theorem p_spec_EqualSyncs {a b : M.Sync} (ha : a.ok) : m_spec_EqualSyncs a b = some (nSync a b) := by
  simp only [m_spec_EqualSyncs, p_spec_EqualOutboxes ha.Outbox, Option.bind_some, ite_and, ite_nt, ite_bne, nSync]
def nReplica (x y : M.Replica) : Bool := nStore x.Base y.Base && ((x.Seen == y.Seen) && nSync x.Sync y.Sync)
theorem p_impl_EqualReplicas {a b : M.Replica} (ha : a.ok) : m_impl_EqualReplicas a b = some (nReplica a b) := by
  simp only [m_impl_EqualReplicas, p_impl_EqualStores ha.Base, p_impl_EqualSyncs ha.Sync, Option.bind_some, ite_and, ite_nt, ite_bne, nReplica]
theorem p_spec_EqualReplicas {a b : M.Replica} (ha : a.ok) : m_spec_EqualReplicas a b = some (nReplica a b) := by
  simp only [m_spec_EqualReplicas, p_spec_EqualStores ha.Base, p_spec_EqualSyncs ha.Sync, Option.bind_some, ite_and, ite_nt, ite_bne, nReplica]
def nReg (x y : M.Registration) : Bool := ((x.Site.toList == y.Site.toList) && ((x.Installing == y.Installing) && ((x.Waiting == y.Waiting) && (x.Active == y.Active))))
def nBucket (x y : M.Bucket) : Bool := (x.Site.toList == y.Site.toList) && ((x.Top.toList == y.Top.toList) && (nReg x.Registration y.Registration && (nCacheSet x.Caches y.Caches && (nDisk x.Disk y.Disk && (nReplica x.Replica y.Replica && ((x.LastUsed == y.LastUsed) && (x.Persistent == y.Persistent)))))))
theorem p_impl_EqualBuckets {a b : M.Bucket} (ha : a.ok) : m_impl_EqualBuckets a b = some (nBucket a b) := by
  simp only [m_impl_EqualBuckets, p_impl_EqualCacheSets ha.Caches, p_impl_EqualDisks ha.Disk, p_impl_EqualReplicas ha.Replica, Option.bind_some, ite_and, ite_nt, ite_bne, nBucket, nReg]
theorem p_spec_EqualBuckets {a b : M.Bucket} (ha : a.ok) (hb : b.ok) : m_spec_EqualBuckets a b = some (nBucket a b) := by
  simp only [m_spec_EqualBuckets, p_spec_EqualCacheSets ha.Caches hb.Caches, p_spec_EqualDisks ha.Disk hb.Disk, p_spec_EqualReplicas ha.Replica, Option.bind_some, ite_and, ite_nt, ite_bne, nBucket, nReg]
def nStorage (x y : M.Storage) : Bool := eqL nBucket x.Buckets y.Buckets
theorem p_impl_EqualStorages {a b : M.Storage} (ha : a.ok) : m_impl_EqualStorages a b = some (nStorage a b) := by
  simp only [m_impl_EqualStorages, p_EqualFunc_Bucket (f := nBucket) ha.Buckets.1 (fun x hx y hy => p_impl_EqualBuckets (ha.Buckets.2 x hx)), Option.bind_some, ite_and, ite_nt, ite_bne, nStorage]
theorem p_spec_EqualStorages {a b : M.Storage} (ha : a.ok) (hb : b.ok) : m_spec_EqualStorages a b = some (nStorage a b) := by
  have hm := le_max ha.Buckets.1
  unfold m_spec_EqualStorages
  rw [eqAll (f := nBucket) ha.Buckets.1 (E := some true) (fun n k hk hk' => ?_) (fun n => ?_), ite_and, Bool.and_true]
  · rfl
  · simp only [m_spec_EqualStorages_L1]
    rw [if_pos (lt_nat hk), idx_nat hk, idx_nat hk', Option.bind_some, Option.bind_some, wrapn (by omega), p_spec_EqualBuckets (ha.Buckets.2 _ (List.getElem_mem hk)) (hb.Buckets.2 _ (List.getElem_mem hk')), Option.bind_some, flip_not]
  · simp only [m_spec_EqualStorages_L1]
    rw [if_neg (by rw [nlt_nat]; simp)]
theorem eqL_ne {α : Type} {f : α → α → Bool} {xs ys : List α} (h : xs.length ≠ ys.length) : eqL f xs ys = false := by
  cases e : eqL f xs ys with
  | false => rfl
  | true => exact absurd (eqL_len e) h
theorem len_ne {α : Type} {xs ys : List α} (h : xs.length ≠ ys.length) : ((xs.length : Int) != (ys.length : Int)) = true := by simp; omega
theorem len_eq {α : Type} {xs ys : List α} (h : xs.length = ys.length) : ¬ ((xs.length : Int) != (ys.length : Int)) = true := by simp [h]
theorem eqAllE {α : Type} {f : α → α → Bool} {xs ys : List α} {L : Nat → Int → Option Bool} {E : Option Bool} (he : xs.length = ys.length) (hx : xs.length ≤ maxLen) (h1 : ∀ n k (hk : k < xs.length) (hk' : k < ys.length), L (n + 1) (k : Int) = if f xs[k] ys[k] = true then L n ((k + 1 : Nat) : Int) else some false) (h2 : ∀ n, L (n + 1) (xs.length : Int) = E) : L fuel 0 = if eqL f xs ys = true then E else some false := by
  have := eqAll (f := f) (L := L) (E := E) hx h1 h2
  rwa [if_neg (len_eq he)] at this
theorem p_spec_EqualInts {a b : List Int} (ha : a.length ≤ maxLen) : m_spec_EqualInts a b = some (eqL nEqint a b) := by
  have hm := le_max ha
  unfold m_spec_EqualInts
  rw [eqAll (f := nEqint) ha (E := some true) (fun n k hk hk' => ?_) (fun n => ?_), ite_and, Bool.and_true]
  · simp only [m_spec_EqualInts_L1]
    rw [if_pos (lt_nat hk), idx_nat hk, idx_nat hk', Option.bind_some, Option.bind_some, wrapn (by omega), flip_bne]
    rfl
  · simp only [m_spec_EqualInts_L1]
    rw [if_neg (by rw [nlt_nat]; simp)]
def nMachine (x y : M.Machine) : Bool := eqL nEqInstr x.Script y.Script && ((x.Pc == y.Pc) && (eqL nEqint x.Regs y.Regs && ((x.Steps == y.Steps) && ((x.Done == y.Done) && (x.Wait == y.Wait)))))
theorem p_impl_EqualMachines {a b : M.Machine} (ha : a.ok) : m_impl_EqualMachines a b = some (nMachine a b) := by
  simp only [m_impl_EqualMachines, p_Equal_Instr ha.Script.1, p_Equal_int ha.Regs.1, Option.bind_some, ite_and, ite_nt, ite_bne, nMachine]
theorem p_spec_EqualMachines {a b : M.Machine} (ha : a.ok) : m_spec_EqualMachines a b = some (nMachine a b) := by
  have hm := le_max ha.Script.1
  unfold m_spec_EqualMachines
  by_cases hu : a.Script.length = b.Script.length
  · rw [if_neg (len_eq hu), eqAllE (L := m_spec_EqualMachines_L1 a b) (f := nEqInstr) (E := some true) hu ha.Script.1 (fun n k hk hk' => ?_) (fun n => ?_), p_spec_EqualInts ha.Regs.1, Option.bind_some]
    · simp only [Option.bind_some, ite_and, ite_nt, ite_bne, Bool.and_true, nMachine]
      ac_rfl
    · simp only [m_spec_EqualMachines_L1]
      rw [if_pos (lt_nat hk), idx_nat hk, idx_nat hk', Option.bind_some, Option.bind_some, wrapn (by omega), flip_not]
      rfl
    · simp only [m_spec_EqualMachines_L1]
      rw [if_neg (by rw [nlt_nat]; simp)]
  · rw [if_pos (len_ne hu)]
    simp [nMachine, eqL_ne hu]
def nPage (x y : M.Page) : Bool := (x.Id == y.Id) && ((x.Site.toList == y.Site.toList) && ((x.Top.toList == y.Top.toList) && ((x.Version == y.Version) && (eqL nEqLoaded x.Loaded y.Loaded && nMachine x.Machine y.Machine))))
theorem p_impl_equalPage {a b : M.Page} (ha : a.ok) : m_impl_equalPage a b = some (nPage a b) := by
  simp only [m_impl_equalPage, p_Equal_Loaded ha.Loaded.1, p_impl_EqualMachines ha.Machine, Option.bind_some, ite_and, ite_nt, ite_bne, nPage]
theorem p_spec_EqualPages {a b : M.Page} (ha : a.ok) : m_spec_EqualPages a b = some (nPage a b) := by
  have hm := le_max ha.Loaded.1
  unfold m_spec_EqualPages
  rw [eqAll (f := nEqLoaded) ha.Loaded.1 (E := some (nMachine a.Machine b.Machine)) (fun n k hk hk' => ?_) (fun n => ?_)]
  · simp only [Option.bind_some, ite_and, ite_nt, ite_bne, nPage]
  · simp only [m_spec_EqualPages_L1]
    rw [if_pos (lt_nat hk), idx_nat hk, idx_nat hk', Option.bind_some, Option.bind_some, wrapn (by omega), flip_not]
    rfl
  · simp only [m_spec_EqualPages_L1]
    rw [if_neg (by rw [nlt_nat]; simp), p_spec_EqualMachines ha.Machine, Option.bind_some]
def nServer (x y : M.Server) : Bool := nStore x.Store y.Store && (eqL nEqApplied x.Applied y.Applied && eqL nEqWrite x.Changes y.Changes)
theorem p_impl_EqualServers {a b : M.Server} (ha : a.ok) : m_impl_EqualServers a b = some (nServer a b) := by
  simp only [m_impl_EqualServers, p_impl_EqualStores ha.Store, p_Equal_Applied ha.Applied.1, p_Equal_Write ha.Changes.1, Option.bind_some, ite_and, ite_nt, ite_bne, nServer]
theorem p_spec_EqualServers {a b : M.Server} (ha : a.ok) : m_spec_EqualServers a b = some (nServer a b) := by
  have hm := le_max ha.Applied.1
  have hm2 := le_max ha.Changes.1
  unfold m_spec_EqualServers
  rw [p_spec_EqualStores ha.Store, Option.bind_some]
  by_cases hu : a.Applied.length = b.Applied.length
  · by_cases hv : a.Changes.length = b.Changes.length
    · rw [if_neg (len_eq hu), if_neg (len_eq hv), eqAllE (L := m_spec_EqualServers_L1 a b) (f := nEqApplied) (E := if eqL nEqWrite a.Changes b.Changes = true then some true else some false) hu ha.Applied.1 (fun n k hk hk' => ?_) (fun n => ?_)]
      · simp only [Option.bind_some, ite_and, ite_nt, ite_bne, Bool.and_true, nServer]
      · simp only [m_spec_EqualServers_L1]
        rw [if_pos (lt_nat hk), idx_nat hk, idx_nat hk', Option.bind_some, Option.bind_some, wrapn (by omega), flip_not]
        rfl
      · simp only [m_spec_EqualServers_L1]
        rw [if_neg (by rw [nlt_nat]; simp)]
        refine eqAllE (f := nEqWrite) (E := some true) hv ha.Changes.1 (fun n k hk hk' => ?_) (fun n => ?_)
        · simp only [m_spec_EqualServers_L2]
          rw [if_pos (lt_nat hk), idx_nat hk, idx_nat hk', Option.bind_some, Option.bind_some, wrapn (by omega), flip_not]
          rfl
        · simp only [m_spec_EqualServers_L2]
          rw [if_neg (by rw [nlt_nat]; simp)]
    · rw [if_neg (len_eq hu), if_pos (len_ne hv)]
      simp [nServer, eqL_ne hv]
  · rw [if_pos (len_ne hu)]
    simp [nServer, eqL_ne hu]
def nSite (x y : M.Site) : Bool := (x.Name.toList == y.Name.toList) && ((x.Version == y.Version) && (eqL nEqstring x.Files y.Files && (x.Shared == y.Shared)))
def nSiteS (x y : M.Site) : Bool := (x.Name.toList == y.Name.toList) && ((x.Version == y.Version) && ((x.Shared == y.Shared) && eqL nEqstring x.Files y.Files))
theorem nSiteS_eq : nSiteS = nSite := by
  funext x y
  unfold nSiteS nSite
  rw [Bool.and_comm (x.Shared == y.Shared)]
theorem p_impl_equalSites {a b : M.Site} (ha : a.ok) : m_impl_equalSites a b = some (nSite a b) := by
  simp only [m_impl_equalSites, p_Equal_string ha.Files.1, Option.bind_some, ite_and, ite_nt, ite_bne, nSite]
theorem spec_site_in {x y : M.Site} (hx : x.ok) (E : Int → Option Bool) (E0 : Option Bool) (hE : ∀ v, E v = E0) : (if ((List.length x.Files : Int) != (List.length y.Files : Int)) = true then some false else m_spec_l29Sites_L2 x y E fuel 0) = if eqL nEqstring x.Files y.Files = true then E0 else some false := by
  have hm := le_max hx.Files.1
  refine eqAll (f := nEqstring) hx.Files.1 (fun n k hk hk' => ?_) (fun n => ?_)
  · simp only [m_spec_l29Sites_L2]
    rw [if_pos (lt_nat hk), idx_nat hk, idx_nat hk', Option.bind_some, Option.bind_some, wrapn (by omega), flip_not]
    rfl
  · simp only [m_spec_l29Sites_L2]
    rw [if_neg (by rw [nlt_nat]; simp), hE]
theorem p_spec_l29Sites {a b : List M.Site} (ha : a.length ≤ maxLen ∧ ∀ x ∈ a, M.Site.ok x) : m_spec_l29Sites a b = some (eqL nSite a b) := by
  have hm := le_max ha.1
  unfold m_spec_l29Sites
  rw [← nSiteS_eq, eqAll (f := nSiteS) ha.1 (E := some true) (fun n k hk hk' => ?_) (fun n => ?_), ite_and, Bool.and_true]
  · simp only [m_spec_l29Sites_L1]
    rw [if_pos (lt_nat hk), idx_nat hk, idx_nat hk', Option.bind_some, Option.bind_some, wrapn (by omega), spec_site_in (ha.2 _ (List.getElem_mem hk)) _ _ (fun v => rfl)]
    simp only [flip_bne, flip_not, ite2]
    rfl
  · simp only [m_spec_l29Sites_L1]
    rw [if_neg (by rw [nlt_nat]; simp)]
def nVolatile (x y : M.World) : Bool := eqL nPage x.Pages y.Pages && (eqL nEqLock x.Locks.Locks y.Locks.Locks && eqL nEqMail x.Channel.Mails y.Channel.Mails)
def nWorld (x y : M.World) : Bool := (x.Now == y.Now) && ((x.Online == y.Online) && ((x.Device == y.Device) && (nStorage x.Storage y.Storage && (eqL nPage x.Pages y.Pages && ((x.NextPage == y.NextPage) && (eqL nEqLock x.Locks.Locks y.Locks.Locks && (eqL nEqMail x.Channel.Mails y.Channel.Mails && (eqL nSite x.Sites y.Sites && eqL nServer x.Servers y.Servers))))))))
theorem p_impl_EqualWorlds {a b : M.World} (ha : a.ok) : m_impl_EqualWorlds a b = some (nWorld a b) := by
  simp only [m_impl_EqualWorlds, p_impl_EqualStorages ha.Storage, p_EqualFunc_Page (f := nPage) ha.Pages.1 (fun x hx y hy => p_impl_equalPage (ha.Pages.2 x hx)), p_Equal_Lock ha.Locks.Locks.1, p_Equal_Mail ha.Channel.Mails.1, p_EqualFunc_Site (f := nSite) ha.Sites.1 (fun x hx y hy => p_impl_equalSites (ha.Sites.2 x hx)), p_EqualFunc_Server (f := nServer) ha.Servers.1 (fun x hx y hy => p_impl_EqualServers (ha.Servers.2 x hx)), Option.bind_some, ite_and, ite_nt, ite_bne, nWorld]
theorem p_spec_l29Volatile {a b : M.World} (ha : a.ok) : m_spec_l29Volatile a b = some (nVolatile a b) := by
  have hm := le_max ha.Pages.1
  have hm2 := le_max ha.Locks.Locks.1
  have hm3 := le_max ha.Channel.Mails.1
  unfold m_spec_l29Volatile
  by_cases hp : a.Pages.length = b.Pages.length
  · by_cases hk : a.Locks.Locks.length = b.Locks.Locks.length
    · by_cases hc : a.Channel.Mails.length = b.Channel.Mails.length
      · have e3 : m_spec_l29Volatile_L3 a b fuel 0 = if eqL nEqMail a.Channel.Mails b.Channel.Mails = true then some true else some false := by
          refine eqAllE (f := nEqMail) hc ha.Channel.Mails.1 (fun n k hk hk' => ?_) (fun n => ?_)
          · simp only [m_spec_l29Volatile_L3]
            rw [if_pos (lt_nat hk), idx_nat hk, idx_nat hk', Option.bind_some, Option.bind_some, wrapn (by omega), flip_not]
            rfl
          · simp only [m_spec_l29Volatile_L3]
            rw [if_neg (by rw [nlt_nat]; simp)]
        have e2 : m_spec_l29Volatile_L2 a b fuel 0 = if eqL nEqLock a.Locks.Locks b.Locks.Locks = true then m_spec_l29Volatile_L3 a b fuel 0 else some false := by
          refine eqAllE (f := nEqLock) hk ha.Locks.Locks.1 (fun n k hk hk' => ?_) (fun n => ?_)
          · simp only [m_spec_l29Volatile_L2]
            rw [if_pos (lt_nat hk), idx_nat hk, idx_nat hk', Option.bind_some, Option.bind_some, wrapn (by omega), flip_not]
            rfl
          · simp only [m_spec_l29Volatile_L2]
            rw [if_neg (by rw [nlt_nat]; simp)]
        rw [if_neg (len_eq hp), if_neg (len_eq hk), if_neg (len_eq hc), eqAllE (L := m_spec_l29Volatile_L1 a b) (f := nPage) (E := m_spec_l29Volatile_L2 a b fuel 0) hp ha.Pages.1 (fun n k hk hk' => ?_) (fun n => ?_), e2, e3]
        · simp only [Option.bind_some, ite_and, ite_nt, ite_bne, Bool.and_true, nVolatile]
        · simp only [m_spec_l29Volatile_L1]
          rw [if_pos (lt_nat hk), idx_nat hk, idx_nat hk', Option.bind_some, Option.bind_some, wrapn (by omega), p_spec_EqualPages (ha.Pages.2 _ (List.getElem_mem hk)), Option.bind_some, flip_not]
        · simp only [m_spec_l29Volatile_L1]
          rw [if_neg (by rw [nlt_nat]; simp)]
      · rw [if_neg (len_eq hp), if_neg (len_eq hk), if_pos (len_ne hc)]
        simp [nVolatile, eqL_ne hc]
    · rw [if_neg (len_eq hp), if_pos (len_ne hk)]
      simp [nVolatile, eqL_ne hk]
  · rw [if_pos (len_ne hp)]
    simp [nVolatile, eqL_ne hp]
theorem p_spec_EqualWorlds {a b : M.World} (ha : a.ok) (hb : b.ok) : m_spec_EqualWorlds a b = some (nWorld a b) := by
  have hm := le_max ha.Servers.1
  unfold m_spec_EqualWorlds
  rw [eqAll (f := nServer) ha.Servers.1 (E := some (nStorage a.Storage b.Storage && (nVolatile a b && eqL nSite a.Sites b.Sites))) (fun n k hk hk' => ?_) (fun n => ?_)]
  · simp only [Option.bind_some, ite_and, ite_nt, ite_bne, nWorld, nVolatile]
    ac_rfl
  · simp only [m_spec_EqualWorlds_L1]
    rw [if_pos (lt_nat hk), idx_nat hk, idx_nat hk', Option.bind_some, Option.bind_some, wrapn (by omega), p_spec_EqualServers (ha.Servers.2 _ (List.getElem_mem hk)), Option.bind_some, flip_not]
  · simp only [m_spec_EqualWorlds_L1]
    rw [if_neg (by rw [nlt_nat]; simp), p_spec_EqualStorages ha.Storage hb.Storage, p_spec_l29Volatile ha, p_spec_l29Sites ha.Sites]
    simp only [Option.bind_some, ite_and, ite_nt, ite_bne]
end Go.Proofs.YtgemmnkhddlhpaaGreat.gen
