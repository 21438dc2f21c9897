/-
  Helper text: plain Lean models of the functions that the law reaches. No conditions.
-/
import Derived.Test.YtmpbibngijnfeaaGreatShS
namespace Go.Proofs.YtmpbibngijnfeaaGreat.gen
open Go Go.Sh
set_option linter.unusedVariables false
set_option linter.unusedSimpArgs false
structure M.Registration where
  Site : ByteArray
  Installing : Int
  Waiting : Int
  Active : Int
def M.Registration.en (x : M.Registration) : List D := [.str x.Site, .int .i64 x.Installing, .int .i64 x.Waiting, .int .i64 x.Active]
theorem M.Registration.en.fl (l : List M.Registration) : (List.map M.Registration.en l).all (fun y => y.all D.flat) = true := flatL (fun _ => rfl) l
structure M.Response where
  Type_ : Int
  Status : Int
  Version : Int
  Body : List Int
  Shares : Bool
def M.Response.en (x : M.Response) : List D := [.int .i64 x.Type_, .int .i64 x.Status, .int .i64 x.Version, .sl (List.map enB x.Body), .bool x.Shares]
structure M.Cached where
  Site : ByteArray
  Path : ByteArray
  Response : M.Response
def M.Cached.en (x : M.Cached) : List D := [.str x.Site, .str x.Path, .int .i64 x.Response.Type_, .int .i64 x.Response.Status, .int .i64 x.Response.Version, .sl (List.map enB x.Response.Body), .bool x.Response.Shares]
structure M.Cache where
  Version : Int
  Entries : List M.Cached
def M.Cache.en (x : M.Cache) : List D := [.int .i64 x.Version, .sl (List.map M.Cached.en x.Entries)]
structure M.CacheSet where
  Caches : List M.Cache
def M.CacheSet.en (x : M.CacheSet) : List D := [.sl (List.map M.Cache.en x.Caches)]
structure M.Key where
  Kind : Int
  N : Int
  Text : ByteArray
def M.Key.en (x : M.Key) : List D := [.int .i64 x.Kind, .int .i64 x.N, .str x.Text]
theorem M.Key.en.fl (l : List M.Key) : (List.map M.Key.en l).all (fun y => y.all D.flat) = true := flatL (fun _ => rfl) l
structure M.Field where
  Name : ByteArray
  N : Int
def M.Field.en (x : M.Field) : List D := [.str x.Name, .int .i64 x.N]
theorem M.Field.en.fl (l : List M.Field) : (List.map M.Field.en l).all (fun y => y.all D.flat) = true := flatL (fun _ => rfl) l
structure M.Record where
  Fields : List M.Field
def M.Record.en (x : M.Record) : List D := [.sl (List.map M.Field.en x.Fields)]
structure M.Item where
  Key : M.Key
  Record : M.Record
def M.Item.en (x : M.Item) : List D := [.int .i64 x.Key.Kind, .int .i64 x.Key.N, .str x.Key.Text, .sl (List.map M.Field.en x.Record.Fields)]
structure M.Store where
  Name : ByteArray
  Items : List M.Item
  Auto : Int
def M.Store.en (x : M.Store) : List D := [.str x.Name, .sl (List.map M.Item.en x.Items), .int .i64 x.Auto]
structure M.IndexDef where
  Store : ByteArray
  Field : ByteArray
def M.IndexDef.en (x : M.IndexDef) : List D := [.str x.Store, .str x.Field]
theorem M.IndexDef.en.fl (l : List M.IndexDef) : (List.map M.IndexDef.en l).all (fun y => y.all D.flat) = true := flatL (fun _ => rfl) l
structure M.Database where
  Name : ByteArray
  Version : Int
  Stores : List M.Store
  Unique : List M.IndexDef
def M.Database.en (x : M.Database) : List D := [.str x.Name, .int .i64 x.Version, .sl (List.map M.Store.en x.Stores), .sl (List.map M.IndexDef.en x.Unique)]
structure M.Disk where
  Base : M.Database
  Log : List Int
  Count : Int
def M.Disk.en (x : M.Disk) : List D := [.str x.Base.Name, .int .i64 x.Base.Version, .sl (List.map M.Store.en x.Base.Stores), .sl (List.map M.IndexDef.en x.Base.Unique), .sl (List.map enB x.Log), .int .i64 x.Count]
structure M.Write where
  Device : Int
  Seq : Int
  Key : M.Key
  Field : ByteArray
  N : Int
def M.Write.en (x : M.Write) : List D := [.int .i64 x.Device, .int .i64 x.Seq, .int .i64 x.Key.Kind, .int .i64 x.Key.N, .str x.Key.Text, .str x.Field, .int .i64 x.N]
theorem M.Write.en.fl (l : List M.Write) : (List.map M.Write.en l).all (fun y => y.all D.flat) = true := flatL (fun _ => rfl) l
structure M.Outbox where
  Device : Int
  Next : Int
  Writes : List M.Write
def M.Outbox.en (x : M.Outbox) : List D := [.int .i64 x.Device, .int .i64 x.Next, .sl (List.map M.Write.en x.Writes)]
structure M.Sync where
  Outbox : M.Outbox
  Tries : Int
  WaitUntil : Int
def M.Sync.en (x : M.Sync) : List D := [.int .i64 x.Outbox.Device, .int .i64 x.Outbox.Next, .sl (List.map M.Write.en x.Outbox.Writes), .int .i64 x.Tries, .int .i64 x.WaitUntil]
structure M.Replica where
  Base : M.Store
  Seen : Int
  Sync : M.Sync
def M.Replica.en (x : M.Replica) : List D := [.str x.Base.Name, .sl (List.map M.Item.en x.Base.Items), .int .i64 x.Base.Auto, .int .i64 x.Seen, .int .i64 x.Sync.Outbox.Device, .int .i64 x.Sync.Outbox.Next, .sl (List.map M.Write.en x.Sync.Outbox.Writes), .int .i64 x.Sync.Tries, .int .i64 x.Sync.WaitUntil]
structure M.Bucket where
  Site : ByteArray
  Top : ByteArray
  Registration : M.Registration
  Caches : M.CacheSet
  Disk : M.Disk
  Replica : M.Replica
  LastUsed : Int
  Persistent : Bool
def M.Bucket.en (x : M.Bucket) : List D := [.str x.Site, .str x.Top, .str x.Registration.Site, .int .i64 x.Registration.Installing, .int .i64 x.Registration.Waiting, .int .i64 x.Registration.Active, .sl (List.map M.Cache.en x.Caches.Caches), .str x.Disk.Base.Name, .int .i64 x.Disk.Base.Version, .sl (List.map M.Store.en x.Disk.Base.Stores), .sl (List.map M.IndexDef.en x.Disk.Base.Unique), .sl (List.map enB x.Disk.Log), .int .i64 x.Disk.Count, .str x.Replica.Base.Name, .sl (List.map M.Item.en x.Replica.Base.Items), .int .i64 x.Replica.Base.Auto, .int .i64 x.Replica.Seen, .int .i64 x.Replica.Sync.Outbox.Device, .int .i64 x.Replica.Sync.Outbox.Next, .sl (List.map M.Write.en x.Replica.Sync.Outbox.Writes), .int .i64 x.Replica.Sync.Tries, .int .i64 x.Replica.Sync.WaitUntil, .int .i64 x.LastUsed, .bool x.Persistent]
def m_laws_szRegistration (p0 : M.Registration) (p1 : Int) : Option Int :=
  if (decide ((IntKind.i64.wrap (p1 - (p0.Site.size : Int))) < 0)) = true then (some (-1)) else (some (IntKind.i64.wrap (p1 - (p0.Site.size : Int))))
def m_laws_szByteS (p0 : List Int) (p1 : Int) : Option Int :=
  if (decide ((IntKind.i64.wrap (p1 - (List.length p0 : Int))) < 0)) = true then (some (-1)) else (some (IntKind.i64.wrap (p1 - (List.length p0 : Int))))
def m_laws_szResponse (p0 : M.Response) (p1 : Int) : Option Int :=
  (m_laws_szByteS p0.Body p1).bind fun x1 => (if (decide (x1 < 0)) = true then (some (-1)) else (some x1))
def m_laws_szCached (p0 : M.Cached) (p1 : Int) : Option Int :=
  if (decide ((IntKind.i64.wrap (p1 - (p0.Site.size : Int))) < 0)) = true then (some (-1)) else (if (decide ((IntKind.i64.wrap ((IntKind.i64.wrap (p1 - (p0.Site.size : Int))) - (p0.Path.size : Int))) < 0)) = true then (some (-1)) else ((m_laws_szResponse p0.Response (IntKind.i64.wrap ((IntKind.i64.wrap (p1 - (p0.Site.size : Int))) - (p0.Path.size : Int)))).bind fun x3 => (if (decide (x3 < 0)) = true then (some (-1)) else (some x3))))
def m_laws_szCachedS_L1 (p0 : List M.Cached) : Nat → Int → Int → Option Int
  | 0, _, _ => none
  | nL1 + 1, v1, v5 => if (decide (v5 < (List.length p0 : Int))) = true then ((idx p0 v5).bind fun x7 => ((m_laws_szCached x7 v1).bind fun x12 => (if (decide (x12 < 0)) = true then (some (-1)) else (m_laws_szCachedS_L1 p0 nL1 x12 (IntKind.i64.wrap (v5 + 1)))))) else (some v1)
def m_laws_szCachedS (p0 : List M.Cached) (p1 : Int) : Option Int :=
  if (decide ((IntKind.i64.wrap (p1 - (List.length p0 : Int))) < 0)) = true then (some (-1)) else (m_laws_szCachedS_L1 p0 fuel (IntKind.i64.wrap (p1 - (List.length p0 : Int))) 0)
def m_laws_szCache (p0 : M.Cache) (p1 : Int) : Option Int :=
  (m_laws_szCachedS p0.Entries p1).bind fun x1 => (if (decide (x1 < 0)) = true then (some (-1)) else (some x1))
def m_laws_szCacheS_L1 (p0 : List M.Cache) : Nat → Int → Int → Option Int
  | 0, _, _ => none
  | nL1 + 1, v1, v5 => if (decide (v5 < (List.length p0 : Int))) = true then ((idx p0 v5).bind fun x7 => ((m_laws_szCache x7 v1).bind fun x12 => (if (decide (x12 < 0)) = true then (some (-1)) else (m_laws_szCacheS_L1 p0 nL1 x12 (IntKind.i64.wrap (v5 + 1)))))) else (some v1)
def m_laws_szCacheS (p0 : List M.Cache) (p1 : Int) : Option Int :=
  if (decide ((IntKind.i64.wrap (p1 - (List.length p0 : Int))) < 0)) = true then (some (-1)) else (m_laws_szCacheS_L1 p0 fuel (IntKind.i64.wrap (p1 - (List.length p0 : Int))) 0)
def m_laws_szCacheSet (p0 : M.CacheSet) (p1 : Int) : Option Int :=
  (m_laws_szCacheS p0.Caches p1).bind fun x1 => (if (decide (x1 < 0)) = true then (some (-1)) else (some x1))
def m_laws_szKey (p0 : M.Key) (p1 : Int) : Option Int :=
  if (decide ((IntKind.i64.wrap (p1 - (p0.Text.size : Int))) < 0)) = true then (some (-1)) else (some (IntKind.i64.wrap (p1 - (p0.Text.size : Int))))
def m_laws_szField (p0 : M.Field) (p1 : Int) : Option Int :=
  if (decide ((IntKind.i64.wrap (p1 - (p0.Name.size : Int))) < 0)) = true then (some (-1)) else (some (IntKind.i64.wrap (p1 - (p0.Name.size : Int))))
def m_laws_szFieldS_L1 (p0 : List M.Field) : Nat → Int → Int → Option Int
  | 0, _, _ => none
  | nL1 + 1, v1, v5 => if (decide (v5 < (List.length p0 : Int))) = true then ((idx p0 v5).bind fun x7 => ((m_laws_szField x7 v1).bind fun x12 => (if (decide (x12 < 0)) = true then (some (-1)) else (m_laws_szFieldS_L1 p0 nL1 x12 (IntKind.i64.wrap (v5 + 1)))))) else (some v1)
def m_laws_szFieldS (p0 : List M.Field) (p1 : Int) : Option Int :=
  if (decide ((IntKind.i64.wrap (p1 - (List.length p0 : Int))) < 0)) = true then (some (-1)) else (m_laws_szFieldS_L1 p0 fuel (IntKind.i64.wrap (p1 - (List.length p0 : Int))) 0)
def m_laws_szRecord (p0 : M.Record) (p1 : Int) : Option Int :=
  (m_laws_szFieldS p0.Fields p1).bind fun x1 => (if (decide (x1 < 0)) = true then (some (-1)) else (some x1))
def m_laws_szItem (p0 : M.Item) (p1 : Int) : Option Int :=
  (m_laws_szKey p0.Key p1).bind fun x1 => (if (decide (x1 < 0)) = true then (some (-1)) else ((m_laws_szRecord p0.Record x1).bind fun x4 => (if (decide (x4 < 0)) = true then (some (-1)) else (some x4))))
def m_laws_szItemS_L1 (p0 : List M.Item) : Nat → Int → Int → Option Int
  | 0, _, _ => none
  | nL1 + 1, v1, v5 => if (decide (v5 < (List.length p0 : Int))) = true then ((idx p0 v5).bind fun x7 => ((m_laws_szItem x7 v1).bind fun x12 => (if (decide (x12 < 0)) = true then (some (-1)) else (m_laws_szItemS_L1 p0 nL1 x12 (IntKind.i64.wrap (v5 + 1)))))) else (some v1)
def m_laws_szItemS (p0 : List M.Item) (p1 : Int) : Option Int :=
  if (decide ((IntKind.i64.wrap (p1 - (List.length p0 : Int))) < 0)) = true then (some (-1)) else (m_laws_szItemS_L1 p0 fuel (IntKind.i64.wrap (p1 - (List.length p0 : Int))) 0)
def m_laws_szStore (p0 : M.Store) (p1 : Int) : Option Int :=
  if (decide ((IntKind.i64.wrap (p1 - (p0.Name.size : Int))) < 0)) = true then (some (-1)) else ((m_laws_szItemS p0.Items (IntKind.i64.wrap (p1 - (p0.Name.size : Int)))).bind fun x2 => (if (decide (x2 < 0)) = true then (some (-1)) else (some x2)))
def m_laws_szStoreS_L1 (p0 : List M.Store) : Nat → Int → Int → Option Int
  | 0, _, _ => none
  | nL1 + 1, v1, v5 => if (decide (v5 < (List.length p0 : Int))) = true then ((idx p0 v5).bind fun x7 => ((m_laws_szStore x7 v1).bind fun x12 => (if (decide (x12 < 0)) = true then (some (-1)) else (m_laws_szStoreS_L1 p0 nL1 x12 (IntKind.i64.wrap (v5 + 1)))))) else (some v1)
def m_laws_szStoreS (p0 : List M.Store) (p1 : Int) : Option Int :=
  if (decide ((IntKind.i64.wrap (p1 - (List.length p0 : Int))) < 0)) = true then (some (-1)) else (m_laws_szStoreS_L1 p0 fuel (IntKind.i64.wrap (p1 - (List.length p0 : Int))) 0)
def m_laws_szIndexDef (p0 : M.IndexDef) (p1 : Int) : Option Int :=
  if (decide ((IntKind.i64.wrap (p1 - (p0.Store.size : Int))) < 0)) = true then (some (-1)) else (if (decide ((IntKind.i64.wrap ((IntKind.i64.wrap (p1 - (p0.Store.size : Int))) - (p0.Field.size : Int))) < 0)) = true then (some (-1)) else (some (IntKind.i64.wrap ((IntKind.i64.wrap (p1 - (p0.Store.size : Int))) - (p0.Field.size : Int)))))
def m_laws_szIndexDefS_L1 (p0 : List M.IndexDef) : Nat → Int → Int → Option Int
  | 0, _, _ => none
  | nL1 + 1, v1, v5 => if (decide (v5 < (List.length p0 : Int))) = true then ((idx p0 v5).bind fun x7 => ((m_laws_szIndexDef x7 v1).bind fun x12 => (if (decide (x12 < 0)) = true then (some (-1)) else (m_laws_szIndexDefS_L1 p0 nL1 x12 (IntKind.i64.wrap (v5 + 1)))))) else (some v1)
def m_laws_szIndexDefS (p0 : List M.IndexDef) (p1 : Int) : Option Int :=
  if (decide ((IntKind.i64.wrap (p1 - (List.length p0 : Int))) < 0)) = true then (some (-1)) else (m_laws_szIndexDefS_L1 p0 fuel (IntKind.i64.wrap (p1 - (List.length p0 : Int))) 0)
def m_laws_szDatabase (p0 : M.Database) (p1 : Int) : Option Int :=
  if (decide ((IntKind.i64.wrap (p1 - (p0.Name.size : Int))) < 0)) = true then (some (-1)) else ((m_laws_szStoreS p0.Stores (IntKind.i64.wrap (p1 - (p0.Name.size : Int)))).bind fun x2 => (if (decide (x2 < 0)) = true then (some (-1)) else ((m_laws_szIndexDefS p0.Unique x2).bind fun x5 => (if (decide (x5 < 0)) = true then (some (-1)) else (some x5)))))
def m_laws_szDisk (p0 : M.Disk) (p1 : Int) : Option Int :=
  (m_laws_szDatabase p0.Base p1).bind fun x1 => (if (decide (x1 < 0)) = true then (some (-1)) else ((m_laws_szByteS p0.Log x1).bind fun x4 => (if (decide (x4 < 0)) = true then (some (-1)) else (some x4))))
def m_laws_szWrite (p0 : M.Write) (p1 : Int) : Option Int :=
  (m_laws_szKey p0.Key p1).bind fun x1 => (if (decide (x1 < 0)) = true then (some (-1)) else (if (decide ((IntKind.i64.wrap (x1 - (p0.Field.size : Int))) < 0)) = true then (some (-1)) else (some (IntKind.i64.wrap (x1 - (p0.Field.size : Int))))))
def m_laws_szWriteS_L1 (p0 : List M.Write) : Nat → Int → Int → Option Int
  | 0, _, _ => none
  | nL1 + 1, v1, v5 => if (decide (v5 < (List.length p0 : Int))) = true then ((idx p0 v5).bind fun x7 => ((m_laws_szWrite x7 v1).bind fun x12 => (if (decide (x12 < 0)) = true then (some (-1)) else (m_laws_szWriteS_L1 p0 nL1 x12 (IntKind.i64.wrap (v5 + 1)))))) else (some v1)
def m_laws_szWriteS (p0 : List M.Write) (p1 : Int) : Option Int :=
  if (decide ((IntKind.i64.wrap (p1 - (List.length p0 : Int))) < 0)) = true then (some (-1)) else (m_laws_szWriteS_L1 p0 fuel (IntKind.i64.wrap (p1 - (List.length p0 : Int))) 0)
def m_laws_szOutbox (p0 : M.Outbox) (p1 : Int) : Option Int :=
  (m_laws_szWriteS p0.Writes p1).bind fun x1 => (if (decide (x1 < 0)) = true then (some (-1)) else (some x1))
def m_laws_szSync (p0 : M.Sync) (p1 : Int) : Option Int :=
  (m_laws_szOutbox p0.Outbox p1).bind fun x1 => (if (decide (x1 < 0)) = true then (some (-1)) else (some x1))
def m_laws_szReplica (p0 : M.Replica) (p1 : Int) : Option Int :=
  (m_laws_szStore p0.Base p1).bind fun x1 => (if (decide (x1 < 0)) = true then (some (-1)) else ((m_laws_szSync p0.Sync x1).bind fun x4 => (if (decide (x4 < 0)) = true then (some (-1)) else (some x4))))
def m_laws_szBucket (p0 : M.Bucket) (p1 : Int) : Option Int :=
  if (decide ((IntKind.i64.wrap (p1 - (p0.Site.size : Int))) < 0)) = true then (some (-1)) else (if (decide ((IntKind.i64.wrap ((IntKind.i64.wrap (p1 - (p0.Site.size : Int))) - (p0.Top.size : Int))) < 0)) = true then (some (-1)) else ((m_laws_szRegistration p0.Registration (IntKind.i64.wrap ((IntKind.i64.wrap (p1 - (p0.Site.size : Int))) - (p0.Top.size : Int)))).bind fun x3 => (if (decide (x3 < 0)) = true then (some (-1)) else ((m_laws_szCacheSet p0.Caches x3).bind fun x6 => (if (decide (x6 < 0)) = true then (some (-1)) else ((m_laws_szDisk p0.Disk x6).bind fun x9 => (if (decide (x9 < 0)) = true then (some (-1)) else ((m_laws_szReplica p0.Replica x9).bind fun x12 => (if (decide (x12 < 0)) = true then (some (-1)) else (some x12))))))))))
def m_laws_toRegistration (p0 : M.Registration) : Option M.Registration :=
  some p0
def m_laws_toByteS_L1 (p0 : List Int) : Nat → Int → List Int → Option (List Int)
  | 0, _, _ => none
  | nL1 + 1, v4, r7 => if (decide (v4 < (List.length p0 : Int))) = true then ((idx p0 v4).bind fun x13 => ((idx r7 v4).bind fun x18 => (m_laws_toByteS_L1 p0 nL1 (IntKind.i64.wrap (v4 + 1)) (List.set r7 v4.toNat x13)))) else (some r7)
def m_laws_toByteS (p0 : List Int) : Option (List Int) :=
  (mkL 1 (List.length p0 : Int) 0).bind fun x1 => (m_laws_toByteS_L1 p0 fuel 0 (List.replicate (List.length p0 : Int).toNat 0))
def m_laws_toResponse (p0 : M.Response) : Option M.Response :=
  (m_laws_toByteS p0.Body).bind fun x1 => (some (⟨p0.Type_, p0.Status, p0.Version, x1, p0.Shares⟩ : M.Response))
def m_laws_toCached (p0 : M.Cached) : Option M.Cached :=
  (m_laws_toResponse p0.Response).bind fun x1 => (some (⟨p0.Site, p0.Path, x1⟩ : M.Cached))
def m_laws_toCachedS_L1 (p0 : List M.Cached) : Nat → Int → List M.Cached → Option (List M.Cached)
  | 0, _, _ => none
  | nL1 + 1, v4, r7 => if (decide (v4 < (List.length p0 : Int))) = true then ((idx p0 v4).bind fun x13 => ((m_laws_toCached x13).bind fun x18 => ((idx r7 v4).bind fun x20 => (m_laws_toCachedS_L1 p0 nL1 (IntKind.i64.wrap (v4 + 1)) (List.set r7 v4.toNat x18))))) else (some r7)
def m_laws_toCachedS (p0 : List M.Cached) : Option (List M.Cached) :=
  (mkL 88 (List.length p0 : Int) (⟨(⟨#[]⟩ : ByteArray), (⟨#[]⟩ : ByteArray), (⟨0, 0, 0, ([] : List Int), false⟩ : M.Response)⟩ : M.Cached)).bind fun x1 => (m_laws_toCachedS_L1 p0 fuel 0 (List.replicate (List.length p0 : Int).toNat (⟨(⟨#[]⟩ : ByteArray), (⟨#[]⟩ : ByteArray), (⟨0, 0, 0, ([] : List Int), false⟩ : M.Response)⟩ : M.Cached)))
def m_laws_toCache (p0 : M.Cache) : Option M.Cache :=
  (m_laws_toCachedS p0.Entries).bind fun x1 => (some (⟨p0.Version, x1⟩ : M.Cache))
def m_laws_toCacheS_L1 (p0 : List M.Cache) : Nat → Int → List M.Cache → Option (List M.Cache)
  | 0, _, _ => none
  | nL1 + 1, v4, r7 => if (decide (v4 < (List.length p0 : Int))) = true then ((idx p0 v4).bind fun x13 => ((m_laws_toCache x13).bind fun x18 => ((idx r7 v4).bind fun x20 => (m_laws_toCacheS_L1 p0 nL1 (IntKind.i64.wrap (v4 + 1)) (List.set r7 v4.toNat x18))))) else (some r7)
def m_laws_toCacheS (p0 : List M.Cache) : Option (List M.Cache) :=
  (mkL 32 (List.length p0 : Int) (⟨0, ([] : List M.Cached)⟩ : M.Cache)).bind fun x1 => (m_laws_toCacheS_L1 p0 fuel 0 (List.replicate (List.length p0 : Int).toNat (⟨0, ([] : List M.Cached)⟩ : M.Cache)))
def m_laws_toCacheSet (p0 : M.CacheSet) : Option M.CacheSet :=
  (m_laws_toCacheS p0.Caches).bind fun x1 => (some (⟨x1⟩ : M.CacheSet))
def m_laws_toKey (p0 : M.Key) : Option M.Key :=
  some p0
def m_laws_toField (p0 : M.Field) : Option M.Field :=
  some p0
def m_laws_toFieldS_L1 (p0 : List M.Field) : Nat → Int → List M.Field → Option (List M.Field)
  | 0, _, _ => none
  | nL1 + 1, v4, r7 => if (decide (v4 < (List.length p0 : Int))) = true then ((idx p0 v4).bind fun x13 => ((m_laws_toField x13).bind fun x18 => ((idx r7 v4).bind fun x20 => (m_laws_toFieldS_L1 p0 nL1 (IntKind.i64.wrap (v4 + 1)) (List.set r7 v4.toNat x18))))) else (some r7)
def m_laws_toFieldS (p0 : List M.Field) : Option (List M.Field) :=
  (mkL 24 (List.length p0 : Int) (⟨(⟨#[]⟩ : ByteArray), 0⟩ : M.Field)).bind fun x1 => (m_laws_toFieldS_L1 p0 fuel 0 (List.replicate (List.length p0 : Int).toNat (⟨(⟨#[]⟩ : ByteArray), 0⟩ : M.Field)))
def m_laws_toRecord (p0 : M.Record) : Option M.Record :=
  (m_laws_toFieldS p0.Fields).bind fun x1 => (some (⟨x1⟩ : M.Record))
def m_laws_toItem (p0 : M.Item) : Option M.Item :=
  (m_laws_toKey p0.Key).bind fun x1 => ((m_laws_toRecord p0.Record).bind fun x3 => (some (⟨x1, x3⟩ : M.Item)))
def m_laws_toItemS_L1 (p0 : List M.Item) : Nat → Int → List M.Item → Option (List M.Item)
  | 0, _, _ => none
  | nL1 + 1, v4, r7 => if (decide (v4 < (List.length p0 : Int))) = true then ((idx p0 v4).bind fun x13 => ((m_laws_toItem x13).bind fun x18 => ((idx r7 v4).bind fun x20 => (m_laws_toItemS_L1 p0 nL1 (IntKind.i64.wrap (v4 + 1)) (List.set r7 v4.toNat x18))))) else (some r7)
def m_laws_toItemS (p0 : List M.Item) : Option (List M.Item) :=
  (mkL 56 (List.length p0 : Int) (⟨(⟨0, 0, (⟨#[]⟩ : ByteArray)⟩ : M.Key), (⟨([] : List M.Field)⟩ : M.Record)⟩ : M.Item)).bind fun x1 => (m_laws_toItemS_L1 p0 fuel 0 (List.replicate (List.length p0 : Int).toNat (⟨(⟨0, 0, (⟨#[]⟩ : ByteArray)⟩ : M.Key), (⟨([] : List M.Field)⟩ : M.Record)⟩ : M.Item)))
def m_laws_toStore (p0 : M.Store) : Option M.Store :=
  (m_laws_toItemS p0.Items).bind fun x1 => (some (⟨p0.Name, x1, p0.Auto⟩ : M.Store))
def m_laws_toStoreS_L1 (p0 : List M.Store) : Nat → Int → List M.Store → Option (List M.Store)
  | 0, _, _ => none
  | nL1 + 1, v4, r7 => if (decide (v4 < (List.length p0 : Int))) = true then ((idx p0 v4).bind fun x13 => ((m_laws_toStore x13).bind fun x18 => ((idx r7 v4).bind fun x20 => (m_laws_toStoreS_L1 p0 nL1 (IntKind.i64.wrap (v4 + 1)) (List.set r7 v4.toNat x18))))) else (some r7)
def m_laws_toStoreS (p0 : List M.Store) : Option (List M.Store) :=
  (mkL 48 (List.length p0 : Int) (⟨(⟨#[]⟩ : ByteArray), ([] : List M.Item), 0⟩ : M.Store)).bind fun x1 => (m_laws_toStoreS_L1 p0 fuel 0 (List.replicate (List.length p0 : Int).toNat (⟨(⟨#[]⟩ : ByteArray), ([] : List M.Item), 0⟩ : M.Store)))
def m_laws_toIndexDef (p0 : M.IndexDef) : Option M.IndexDef :=
  some p0
def m_laws_toIndexDefS_L1 (p0 : List M.IndexDef) : Nat → Int → List M.IndexDef → Option (List M.IndexDef)
  | 0, _, _ => none
  | nL1 + 1, v4, r7 => if (decide (v4 < (List.length p0 : Int))) = true then ((idx p0 v4).bind fun x13 => ((m_laws_toIndexDef x13).bind fun x18 => ((idx r7 v4).bind fun x20 => (m_laws_toIndexDefS_L1 p0 nL1 (IntKind.i64.wrap (v4 + 1)) (List.set r7 v4.toNat x18))))) else (some r7)
def m_laws_toIndexDefS (p0 : List M.IndexDef) : Option (List M.IndexDef) :=
  (mkL 32 (List.length p0 : Int) (⟨(⟨#[]⟩ : ByteArray), (⟨#[]⟩ : ByteArray)⟩ : M.IndexDef)).bind fun x1 => (m_laws_toIndexDefS_L1 p0 fuel 0 (List.replicate (List.length p0 : Int).toNat (⟨(⟨#[]⟩ : ByteArray), (⟨#[]⟩ : ByteArray)⟩ : M.IndexDef)))
def m_laws_toDatabase (p0 : M.Database) : Option M.Database :=
  (m_laws_toStoreS p0.Stores).bind fun x1 => ((m_laws_toIndexDefS p0.Unique).bind fun x3 => (some (⟨p0.Name, p0.Version, x1, x3⟩ : M.Database)))
def m_laws_toDisk (p0 : M.Disk) : Option M.Disk :=
  (m_laws_toDatabase p0.Base).bind fun x1 => ((m_laws_toByteS p0.Log).bind fun x3 => (some (⟨x1, x3, p0.Count⟩ : M.Disk)))
def m_laws_toWrite (p0 : M.Write) : Option M.Write :=
  (m_laws_toKey p0.Key).bind fun x1 => (some (⟨p0.Device, p0.Seq, x1, p0.Field, p0.N⟩ : M.Write))
def m_laws_toWriteS_L1 (p0 : List M.Write) : Nat → Int → List M.Write → Option (List M.Write)
  | 0, _, _ => none
  | nL1 + 1, v4, r7 => if (decide (v4 < (List.length p0 : Int))) = true then ((idx p0 v4).bind fun x13 => ((m_laws_toWrite x13).bind fun x18 => ((idx r7 v4).bind fun x20 => (m_laws_toWriteS_L1 p0 nL1 (IntKind.i64.wrap (v4 + 1)) (List.set r7 v4.toNat x18))))) else (some r7)
def m_laws_toWriteS (p0 : List M.Write) : Option (List M.Write) :=
  (mkL 72 (List.length p0 : Int) (⟨0, 0, (⟨0, 0, (⟨#[]⟩ : ByteArray)⟩ : M.Key), (⟨#[]⟩ : ByteArray), 0⟩ : M.Write)).bind fun x1 => (m_laws_toWriteS_L1 p0 fuel 0 (List.replicate (List.length p0 : Int).toNat (⟨0, 0, (⟨0, 0, (⟨#[]⟩ : ByteArray)⟩ : M.Key), (⟨#[]⟩ : ByteArray), 0⟩ : M.Write)))
def m_laws_toOutbox (p0 : M.Outbox) : Option M.Outbox :=
  (m_laws_toWriteS p0.Writes).bind fun x1 => (some (⟨p0.Device, p0.Next, x1⟩ : M.Outbox))
def m_laws_toSync (p0 : M.Sync) : Option M.Sync :=
  (m_laws_toOutbox p0.Outbox).bind fun x1 => (some (⟨x1, p0.Tries, p0.WaitUntil⟩ : M.Sync))
def m_laws_toReplica (p0 : M.Replica) : Option M.Replica :=
  (m_laws_toStore p0.Base).bind fun x1 => ((m_laws_toSync p0.Sync).bind fun x3 => (some (⟨x1, p0.Seen, x3⟩ : M.Replica)))
def m_laws_toBucket (p0 : M.Bucket) : Option M.Bucket :=
  (m_laws_toRegistration p0.Registration).bind fun x1 => ((m_laws_toCacheSet p0.Caches).bind fun x3 => ((m_laws_toDisk p0.Disk).bind fun x5 => ((m_laws_toReplica p0.Replica).bind fun x7 => (some (⟨p0.Site, p0.Top, x1, x3, x5, x7, p0.LastUsed, p0.Persistent⟩ : M.Bucket)))))
def m_spec_l15Copy (p0 : M.Response) : Option M.Response :=
  (app 1 ([] : List Int) p0.Body).bind fun x1 => (some p0)
def m_spec_l17Cache_L1 (p0 : M.Cache) : Nat → Int → List M.Cached → Option M.Cache
  | 0, _, _ => none
  | nL1 + 1, v4, r50000 => if (decide (v4 < (List.length p0.Entries : Int))) = true then ((idx p0.Entries v4).bind fun x11 => ((m_spec_l15Copy x11.Response).bind fun x16 => ((app 88 r50000 ([(⟨x11.Site, x11.Path, x16⟩ : M.Cached)])).bind fun x18 => (m_spec_l17Cache_L1 p0 nL1 (IntKind.i64.wrap (v4 + 1)) (r50000 ++ [(⟨x11.Site, x11.Path, x16⟩ : M.Cached)]))))) else (some (⟨p0.Version, r50000⟩ : M.Cache))
def m_spec_l17Cache (p0 : M.Cache) : Option M.Cache :=
  m_spec_l17Cache_L1 p0 fuel 0 ([] : List M.Cached)
def m_spec_l17Copy_L1 (p0 : M.CacheSet) : Nat → Int → List M.Cache → Option M.CacheSet
  | 0, _, _ => none
  | nL1 + 1, v4, r50000 => if (decide (v4 < (List.length p0.Caches : Int))) = true then ((idx p0.Caches v4).bind fun x11 => ((m_spec_l17Cache x11).bind fun x16 => ((app 32 r50000 ([x16])).bind fun x18 => (m_spec_l17Copy_L1 p0 nL1 (IntKind.i64.wrap (v4 + 1)) (r50000 ++ [x16]))))) else (some (⟨r50000⟩ : M.CacheSet))
def m_spec_l17Copy (p0 : M.CacheSet) : Option M.CacheSet :=
  m_spec_l17Copy_L1 p0 fuel 0 ([] : List M.Cache)
def m_spec_l5Copy (p0 : M.Record) : Option M.Record :=
  (app 24 ([] : List M.Field) p0.Fields).bind fun x1 => (some p0)
def m_spec_l6Item (p0 : M.Item) : Option M.Item :=
  (m_spec_l5Copy p0.Record).bind fun x1 => (some (⟨p0.Key, x1⟩ : M.Item))
def m_spec_l6Copy_L1 (p0 : M.Store) : Nat → Int → List M.Item → Option M.Store
  | 0, _, _ => none
  | nL1 + 1, v4, r50000 => if (decide (v4 < (List.length p0.Items : Int))) = true then ((idx p0.Items v4).bind fun x11 => ((m_spec_l6Item x11).bind fun x16 => ((app 56 r50000 ([x16])).bind fun x18 => (m_spec_l6Copy_L1 p0 nL1 (IntKind.i64.wrap (v4 + 1)) (r50000 ++ [x16]))))) else (some (⟨p0.Name, r50000, p0.Auto⟩ : M.Store))
def m_spec_l6Copy (p0 : M.Store) : Option M.Store :=
  m_spec_l6Copy_L1 p0 fuel 0 ([] : List M.Item)
def m_spec_l8Copy_L1 (p0 : M.Database) : Nat → Int → List M.Store → Option M.Database
  | 0, _, _ => none
  | nL1 + 1, v4, r50000 => if (decide (v4 < (List.length p0.Stores : Int))) = true then ((idx p0.Stores v4).bind fun x22 => ((m_spec_l6Copy x22).bind fun x27 => ((app 48 r50000 ([x27])).bind fun x29 => (m_spec_l8Copy_L1 p0 nL1 (IntKind.i64.wrap (v4 + 1)) (r50000 ++ [x27]))))) else (some (⟨p0.Name, p0.Version, r50000, p0.Unique⟩ : M.Database))
def m_spec_l8Copy (p0 : M.Database) : Option M.Database :=
  (app 32 ([] : List M.IndexDef) p0.Unique).bind fun x1 => (m_spec_l8Copy_L1 p0 fuel 0 ([] : List M.Store))
def m_spec_l12Copy (p0 : M.Disk) : Option M.Disk :=
  (m_spec_l8Copy p0.Base).bind fun x1 => ((app 1 ([] : List Int) p0.Log).bind fun x3 => (some (⟨x1, p0.Log, p0.Count⟩ : M.Disk)))
def m_spec_l20Copy (p0 : M.Outbox) : Option M.Outbox :=
  (app 72 ([] : List M.Write) p0.Writes).bind fun x1 => (some p0)
def m_spec_l22Copy (p0 : M.Sync) : Option M.Sync :=
  (m_spec_l20Copy p0.Outbox).bind fun x1 => (some (⟨x1, p0.Tries, p0.WaitUntil⟩ : M.Sync))
def m_spec_l23Copy (p0 : M.Replica) : Option M.Replica :=
  (m_spec_l6Copy p0.Base).bind fun x1 => ((m_spec_l22Copy p0.Sync).bind fun x3 => (some (⟨x1, p0.Seen, x3⟩ : M.Replica)))
def m_spec_l27Copy (p0 : M.Bucket) : Option M.Bucket :=
  (m_spec_l17Copy p0.Caches).bind fun x1 => ((m_spec_l12Copy p0.Disk).bind fun x3 => ((m_spec_l23Copy p0.Replica).bind fun x5 => (some (⟨p0.Site, p0.Top, p0.Registration, x1, x3, x5, p0.LastUsed, p0.Persistent⟩ : M.Bucket))))
def m_spec_l1In (p0 : Int) (p1 : Int) (p2 : Int) : Option Bool :=
  if (decide (p0 ≥ p1)) = true then (some (decide (p0 ≤ p2))) else (some false)
def m_spec_IsName_L1 (p0 : ByteArray) : Nat → Int → Option Bool
  | 0, _ => none
  | nL1 + 1, v3 => if (decide (v3 < (p0.size : Int))) = true then ((sidx p0 v3).bind fun x5 => (if (decide ((x5.toNat : Int) < 97)) = true then (some false) else (if (decide ((x5.toNat : Int) > 122)) = true then (some false) else (m_spec_IsName_L1 p0 nL1 (IntKind.i64.wrap (v3 + 1)))))) else ((m_spec_l1In (p0.size : Int) 1 8).bind fun x11 => (some x11))
def m_spec_IsName (p0 : ByteArray) : Option Bool :=
  m_spec_IsName_L1 p0 fuel 0
def m_spec_IsRegistration_L1 (p0 : M.Registration) : Nat → Int → Int → Option Bool
  | 0, _, _ => none
  | nL1 + 1, v3, v5 => if (decide (v5 < ((3 : Nat) : Int))) = true then ((idx ([p0.Active, p0.Waiting, p0.Installing]) v5).bind fun x15 => ((m_spec_l1In x15 0 1000000000000).bind fun x20 => (if (!x20) = true then (some false) else (if (x15 != 0) = true then (if (decide (x15 ≤ v3)) = true then (some false) else (m_spec_IsRegistration_L1 p0 nL1 x15 (IntKind.i64.wrap (v5 + 1)))) else (m_spec_IsRegistration_L1 p0 nL1 v3 (IntKind.i64.wrap (v5 + 1))))))) else ((m_spec_IsName p0.Site).bind fun x25 => (some x25))
def m_spec_IsRegistration (p0 : M.Registration) : Option Bool :=
  m_spec_IsRegistration_L1 p0 fuel 0 0
def m_spec_IsResponse (p0 : M.Response) : Option Bool :=
  (m_spec_l1In p0.Type_ 1 4).bind fun x1 => (if x1 = true then ((m_spec_l1In p0.Status 0 999).bind fun x4 => (if x4 = true then ((m_spec_l1In p0.Version 0 1000000000000).bind fun x7 => (if x7 = true then (some (decide ((List.length p0.Body : Int) ≤ 60))) else (some false))) else (some false))) else (some false))
def m_spec_l17Entries_L2 (p0 : List M.Cached) (v3 : Int) (x5 : M.Cached) (k20 : Int → Option Bool) : Nat → Int → Option Bool
  | 0, _ => none
  | nL2 + 1, v4_L2 => if (decide (v4_L2 < v3)) = true then ((idx p0 v4_L2).bind fun x26 => (if (x26.Site.toList == x5.Site.toList) = true then (if (x26.Path.toList == x5.Path.toList) = true then (some false) else (m_spec_l17Entries_L2 p0 v3 x5 k20 nL2 (IntKind.i64.wrap (v4_L2 + 1)))) else (m_spec_l17Entries_L2 p0 v3 x5 k20 nL2 (IntKind.i64.wrap (v4_L2 + 1))))) else (k20 v4_L2)
def m_spec_l17Entries_L1 (p0 : List M.Cached) : Nat → Int → Option Bool
  | 0, _ => none
  | nL1 + 1, v3 => if (decide (v3 < (List.length p0 : Int))) = true then ((idx p0 v3).bind fun x5 => ((m_spec_IsName x5.Site).bind fun x10 => (if (!x10) = true then (some false) else ((m_spec_IsName x5.Path).bind fun x13 => (if (!x13) = true then (some false) else ((m_spec_IsResponse x5.Response).bind fun x16 => (if (!x16) = true then (some false) else (m_spec_l17Entries_L2 p0 v3 x5 (fun (v4_L2 : Int) => m_spec_l17Entries_L1 p0 nL1 (IntKind.i64.wrap (v3 + 1))) fuel 0)))))))) else (some (decide ((List.length p0 : Int) ≤ 12)))
def m_spec_l17Entries (p0 : List M.Cached) : Option Bool :=
  m_spec_l17Entries_L1 p0 fuel 0
def m_spec_IsCacheSet_L1 (p0 : M.CacheSet) : Nat → Int → Option Bool
  | 0, _ => none
  | nL1 + 1, v3 => if (decide (v3 < (List.length p0.Caches : Int))) = true then ((idx p0.Caches v3).bind fun x6 => ((m_spec_l1In x6.Version 1 1000000000000).bind fun x11 => (if (!x11) = true then (some false) else (if (decide (v3 > 0)) = true then ((idx p0.Caches (IntKind.i64.wrap (v3 - 1))).bind fun x15 => (if (decide (x15.Version ≥ x6.Version)) = true then (some false) else ((m_spec_l17Entries x6.Entries).bind fun x21 => (if (!x21) = true then (some false) else (m_spec_IsCacheSet_L1 p0 nL1 (IntKind.i64.wrap (v3 + 1))))))) else ((m_spec_l17Entries x6.Entries).bind fun x24 => (if (!x24) = true then (some false) else (m_spec_IsCacheSet_L1 p0 nL1 (IntKind.i64.wrap (v3 + 1))))))))) else (some (decide ((List.length p0.Caches : Int) ≤ 4)))
def m_spec_IsCacheSet (p0 : M.CacheSet) : Option Bool :=
  m_spec_IsCacheSet_L1 p0 fuel 0
def m_spec_l4Text_L1 (p0 : ByteArray) : Nat → Int → Option Bool
  | 0, _ => none
  | nL1 + 1, v3 => if (decide (v3 < (p0.size : Int))) = true then ((sidx p0 v3).bind fun x5 => (if (decide ((x5.toNat : Int) < 97)) = true then (if (decide ((x5.toNat : Int) < 48)) = true then (some false) else (if (decide ((x5.toNat : Int) > 57)) = true then (some false) else (m_spec_l4Text_L1 p0 nL1 (IntKind.i64.wrap (v3 + 1))))) else (if (decide ((x5.toNat : Int) > 122)) = true then (if (decide ((x5.toNat : Int) < 48)) = true then (some false) else (if (decide ((x5.toNat : Int) > 57)) = true then (some false) else (m_spec_l4Text_L1 p0 nL1 (IntKind.i64.wrap (v3 + 1))))) else (m_spec_l4Text_L1 p0 nL1 (IntKind.i64.wrap (v3 + 1)))))) else (some (decide ((p0.size : Int) ≤ 12)))
def m_spec_l4Text (p0 : ByteArray) : Option Bool :=
  m_spec_l4Text_L1 p0 fuel 0
def m_spec_IsKey (p0 : M.Key) : Option Bool :=
  (m_spec_l1In p0.Kind 1 3).bind fun x1 => (if x1 = true then ((m_spec_l1In p0.N (-1000000000000) 1000000000000).bind fun x4 => (if x4 = true then (if (p0.Kind != 2) = true then ((m_spec_l4Text p0.Text).bind fun x8 => (if x8 = true then (if (p0.Kind != 1) = true then (some true) else (some (p0.Text.toList == (⟨#[]⟩ : ByteArray).toList))) else (some false))) else (if (p0.N == 0) = true then ((m_spec_l4Text p0.Text).bind fun x13 => (if x13 = true then (if (p0.Kind != 1) = true then (some true) else (some (p0.Text.toList == (⟨#[]⟩ : ByteArray).toList))) else (some false))) else (some false))) else (some false))) else (some false))
def m_spec_IsRecord_L1 (p0 : M.Record) : Nat → Int → Option Bool
  | 0, _ => none
  | nL1 + 1, v3 => if (decide (v3 < (List.length p0.Fields : Int))) = true then ((idx p0.Fields v3).bind fun x6 => ((m_spec_IsName x6.Name).bind fun x11 => (if (!x11) = true then (some false) else ((m_spec_l1In x6.N 0 1000000000).bind fun x14 => (if (!x14) = true then (some false) else (if (decide (v3 > 0)) = true then ((idx p0.Fields (IntKind.i64.wrap (v3 - 1))).bind fun x18 => (if (!(Op.bytesLess x18.Name.toList x6.Name.toList)) = true then (some false) else (m_spec_IsRecord_L1 p0 nL1 (IntKind.i64.wrap (v3 + 1))))) else (m_spec_IsRecord_L1 p0 nL1 (IntKind.i64.wrap (v3 + 1))))))))) else (some (decide ((List.length p0.Fields : Int) ≤ 6)))
def m_spec_IsRecord (p0 : M.Record) : Option Bool :=
  m_spec_IsRecord_L1 p0 fuel 0
def m_spec_l4Sign (p0 : Bool) (p1 : Bool) : Option Int :=
  if p0 = true then (some (-1)) else (if p1 = true then (some 1) else (some 0))
def m_spec_CompareKeys (p0 : M.Key) (p1 : M.Key) : Option Int :=
  (m_spec_IsKey p0).bind fun x1 => (if (!x1) = true then (some 0) else ((m_spec_IsKey p1).bind fun x4 => (if (!x4) = true then (some 0) else (if (p0.Kind != p1.Kind) = true then ((m_spec_l4Sign (decide (p0.Kind < p1.Kind)) true).bind fun x8 => (some x8)) else (if (p0.N != p1.N) = true then ((m_spec_l4Sign (decide (p0.N < p1.N)) true).bind fun x11 => (some x11)) else ((m_spec_l4Sign (Op.bytesLess p0.Text.toList p1.Text.toList) (!(Op.bytesLess p0.Text.toList p1.Text.toList || p0.Text.toList == p1.Text.toList))).bind fun x13 => (some x13)))))))
def m_spec_IsStore_L1 (p0 : M.Store) : Nat → Int → Option Bool
  | 0, _ => none
  | nL1 + 1, v3 => if (decide (v3 < (List.length p0.Items : Int))) = true then ((idx p0.Items v3).bind fun x6 => ((m_spec_IsKey x6.Key).bind fun x11 => (if (!x11) = true then (some false) else ((m_spec_IsRecord x6.Record).bind fun x14 => (if (!x14) = true then (some false) else (if (decide (v3 > 0)) = true then ((idx p0.Items (IntKind.i64.wrap (v3 - 1))).bind fun x18 => ((m_spec_CompareKeys x18.Key x6.Key).bind fun x23 => (if (decide (x23 ≥ 0)) = true then (some false) else (m_spec_IsStore_L1 p0 nL1 (IntKind.i64.wrap (v3 + 1)))))) else (m_spec_IsStore_L1 p0 nL1 (IntKind.i64.wrap (v3 + 1))))))))) else ((m_spec_IsName p0.Name).bind fun x26 => (if x26 = true then (if (decide ((List.length p0.Items : Int) ≤ 16)) = true then ((m_spec_l1In p0.Auto 0 1000000).bind fun x30 => (some x30)) else (some false)) else (some false)))
def m_spec_IsStore (p0 : M.Store) : Option Bool :=
  m_spec_IsStore_L1 p0 fuel 0
def m_spec_FindStore_L1 (p0 : M.Database) (p1 : ByteArray) : Nat → Int → Option Int
  | 0, _ => none
  | nL1 + 1, v5 => if (decide (v5 < (List.length p0.Stores : Int))) = true then ((idx p0.Stores v5).bind fun x7 => (if (x7.Name.toList == p1.toList) = true then (some v5) else (m_spec_FindStore_L1 p0 p1 nL1 (IntKind.i64.wrap (v5 + 1))))) else (some (-1))
def m_spec_FindStore (p0 : M.Database) (p1 : ByteArray) : Option Int :=
  m_spec_FindStore_L1 p0 p1 fuel 0
def m_spec_GetField_L1 (p0 : M.Record) (p1 : ByteArray) : Nat → Int → Option (Int × Bool)
  | 0, _ => none
  | nL1 + 1, v6 => if (decide (v6 < (List.length p0.Fields : Int))) = true then ((idx p0.Fields v6).bind fun x7 => (if (x7.Name.toList == p1.toList) = true then (some (x7.N, true)) else (m_spec_GetField_L1 p0 p1 nL1 (IntKind.i64.wrap (v6 + 1))))) else (some (0, false))
def m_spec_GetField (p0 : M.Record) (p1 : ByteArray) : Option (Int × Bool) :=
  m_spec_GetField_L1 p0 p1 fuel 0
def m_spec_l7Less (p0 : M.Item) (p1 : M.Item) (p2 : ByteArray) : Option Bool :=
  (m_spec_GetField p0.Record p2).bind fun x1 => ((m_spec_GetField p1.Record p2).bind fun x3 => (if (decide (x1.1 < x3.1)) = true then (some true) else (if (x1.1 == x3.1) = true then ((m_spec_CompareKeys p0.Key p1.Key).bind fun x7 => (some (decide (x7 < 0)))) else (some false))))
def m_spec_IndexOn_L2 (p1 : ByteArray) (r50000 : List M.Item) (x15 : M.Item) (k24 : Int → Option (List M.Item)) : Nat → Int → Option (List M.Item)
  | 0, _ => none
  | nL2 + 1, v9_L2 => if (decide (v9_L2 > 0)) = true then ((idx r50000 (IntKind.i64.wrap (v9_L2 - 1))).bind fun x34 => ((m_spec_l7Less x15 x34 p1).bind fun x39 => (if x39 = true then (m_spec_IndexOn_L2 p1 r50000 x15 k24 nL2 (IntKind.i64.wrap (v9_L2 - 1))) else (k24 v9_L2)))) else (k24 v9_L2)
def m_spec_IndexOn_L1 (p0 : M.Store) (p1 : ByteArray) : Nat → Int → List M.Item → Option (List M.Item)
  | 0, _, _ => none
  | nL1 + 1, v6, r50000 => if (decide (v6 < (List.length p0.Items : Int))) = true then ((idx p0.Items v6).bind fun x15 => ((m_spec_GetField x15.Record p1).bind fun x20 => (if (!x20.2) = true then (m_spec_IndexOn_L1 p0 p1 nL1 (IntKind.i64.wrap (v6 + 1)) r50000) else (m_spec_IndexOn_L2 p1 r50000 x15 (fun (v9_L2 : Int) => (slcHi r50000 v9_L2).bind fun x79 => ((app 56 ([] : List M.Item) (List.take v9_L2.toNat r50000)).bind fun x81 => ((m_spec_l6Item x15).bind fun x93 => ((app 56 (List.take v9_L2.toNat r50000) ([x93])).bind fun x95 => ((app 56 ((List.take v9_L2.toNat r50000) ++ [x93]) (List.drop v9_L2.toNat r50000)).bind fun x107 => (m_spec_IndexOn_L1 p0 p1 nL1 (IntKind.i64.wrap (v6 + 1)) (((List.take v9_L2.toNat r50000) ++ [x93]) ++ (List.drop v9_L2.toNat r50000)))))))) fuel (List.length r50000 : Int))))) else (some r50000)
def m_spec_IndexOn (p0 : M.Store) (p1 : ByteArray) : Option (List M.Item) :=
  m_spec_IndexOn_L1 p0 p1 fuel 0 ([] : List M.Item)
def m_spec_UniqueFault_L1 (p1 : ByteArray) (x1 : (List M.Item)) : Nat → Int → Option (M.Key × M.Key × Bool)
  | 0, _ => none
  | nL1 + 1, v8 => if (decide (v8 < (List.length x1 : Int))) = true then ((idx x1 (IntKind.i64.wrap (v8 - 1))).bind fun x13 => ((m_spec_GetField x13.Record p1).bind fun x18 => ((idx x1 v8).bind fun x20 => ((m_spec_GetField x20.Record p1).bind fun x25 => (if (x18.1 == x25.1) = true then (some (x13.Key, x20.Key, true)) else (m_spec_UniqueFault_L1 p1 x1 nL1 (IntKind.i64.wrap (v8 + 1)))))))) else (some ((⟨0, 0, (⟨#[]⟩ : ByteArray)⟩ : M.Key), (⟨0, 0, (⟨#[]⟩ : ByteArray)⟩ : M.Key), false))
def m_spec_UniqueFault (p0 : M.Store) (p1 : ByteArray) : Option (M.Key × M.Key × Bool) :=
  (m_spec_IndexOn p0 p1).bind fun x1 => (m_spec_UniqueFault_L1 p1 x1 fuel 1)
def m_spec_IsDatabase_L3 (p0 : M.Database) (v4 : Int) (x26 : M.IndexDef) (k46 : Int → Option Bool) : Nat → Int → Option Bool
  | 0, _ => none
  | nL3 + 1, v9_L3 => if (decide (v9_L3 < v4)) = true then ((idx p0.Unique v9_L3).bind fun x53 => (if ((x53.Store.toList == x26.Store.toList) && (x53.Field.toList == x26.Field.toList)) = true then (some false) else (m_spec_IsDatabase_L3 p0 v4 x26 k46 nL3 (IntKind.i64.wrap (v9_L3 + 1))))) else (k46 v9_L3)
def m_spec_IsDatabase_L2 (p0 : M.Database) : Nat → Int → Option Bool
  | 0, _ => none
  | nL2 + 1, v4 => if (decide (v4 < (List.length p0.Unique : Int))) = true then ((idx p0.Unique v4).bind fun x26 => ((m_spec_FindStore p0 x26.Store).bind fun x31 => (if (decide (x31 < 0)) = true then (some false) else ((m_spec_IsName x26.Field).bind fun x34 => (if (!x34) = true then (some false) else ((idx p0.Stores x31).bind fun x37 => ((m_spec_UniqueFault x37 x26.Field).bind fun x42 => (if x42.2.2 = true then (some false) else (m_spec_IsDatabase_L3 p0 v4 x26 (fun (v9_L3 : Int) => m_spec_IsDatabase_L2 p0 nL2 (IntKind.i64.wrap (v4 + 1))) fuel 0))))))))) else ((m_spec_IsName p0.Name).bind fun x59 => (if x59 = true then ((m_spec_l1In p0.Version 0 1000).bind fun x62 => (if x62 = true then (if (decide ((List.length p0.Stores : Int) ≤ 4)) = true then (some (decide ((List.length p0.Unique : Int) ≤ 4))) else (some false)) else (some false))) else (some false)))
def m_spec_IsDatabase_L1 (p0 : M.Database) : Nat → Int → Option Bool
  | 0, _ => none
  | nL1 + 1, v3 => if (decide (v3 < (List.length p0.Stores : Int))) = true then ((idx p0.Stores v3).bind fun x6 => ((m_spec_IsStore x6).bind fun x11 => (if (!x11) = true then (some false) else (if (decide (v3 > 0)) = true then ((idx p0.Stores (IntKind.i64.wrap (v3 - 1))).bind fun x15 => (if (!(Op.bytesLess x15.Name.toList x6.Name.toList)) = true then (some false) else (m_spec_IsDatabase_L1 p0 nL1 (IntKind.i64.wrap (v3 + 1))))) else (m_spec_IsDatabase_L1 p0 nL1 (IntKind.i64.wrap (v3 + 1))))))) else (m_spec_IsDatabase_L2 p0 fuel 0)
def m_spec_IsDatabase (p0 : M.Database) : Option Bool :=
  m_spec_IsDatabase_L1 p0 fuel 0
def m_spec_IsQueuedWrite (p0 : M.Write) : Option Bool :=
  (m_spec_l1In p0.Device 1 1000000).bind fun x1 => (if x1 = true then ((m_spec_l1In p0.Seq 1 1000000).bind fun x4 => (if x4 = true then ((m_spec_IsKey p0.Key).bind fun x7 => (if x7 = true then ((m_spec_IsName p0.Field).bind fun x10 => (if x10 = true then ((m_spec_l1In p0.N 0 1000000000).bind fun x13 => (some x13)) else (some false))) else (some false))) else (some false))) else (some false))
def m_spec_IsOutbox_L1 (p0 : M.Outbox) : Nat → Int → Option Bool
  | 0, _ => none
  | nL1 + 1, v4 => if (decide (v4 < (List.length p0.Writes : Int))) = true then ((idx p0.Writes v4).bind fun x14 => ((m_spec_IsQueuedWrite x14).bind fun x19 => (if (!x19) = true then (some false) else (if (x14.Device != p0.Device) = true then (some false) else (if (x14.Seq != (IntKind.i64.wrap ((IntKind.i64.wrap (p0.Next - (List.length p0.Writes : Int))) + v4))) = true then (some false) else (m_spec_IsOutbox_L1 p0 nL1 (IntKind.i64.wrap (v4 + 1)))))))) else (some true)
def m_spec_IsOutbox (p0 : M.Outbox) : Option Bool :=
  (m_spec_l1In p0.Device 1 1000000).bind fun x1 => (if (!x1) = true then (some false) else ((m_spec_l1In p0.Next 1 1000000).bind fun x4 => (if (!x4) = true then (some false) else (if (decide ((List.length p0.Writes : Int) > 20)) = true then (some false) else (m_spec_IsOutbox_L1 p0 fuel 0)))))
def m_spec_IsReplica (p0 : M.Replica) : Option Bool :=
  (m_spec_IsStore p0.Base).bind fun x1 => (if x1 = true then (if (p0.Base.Name.toList == (⟨#[110, 111, 116, 101, 115]⟩ : ByteArray).toList) = true then ((m_spec_l1In p0.Seen 0 1000000000000).bind fun x5 => (if x5 = true then ((m_spec_IsOutbox p0.Sync.Outbox).bind fun x8 => (some x8)) else (some false))) else (some false)) else (some false))
def m_spec_StoredSize (p0 : M.Response) (p1 : Bool) : Option Int :=
  if p1 = true then (some 76) else (some (IntKind.i64.wrap (16 + (List.length p0.Body : Int))))
def m_spec_SizeCaches_L2 (p0 : M.CacheSet) (v4 : Int) (k8 : Int → Int → Option Int) : Nat → Int → Int → Option Int
  | 0, _, _ => none
  | nL2 + 1, v3_L2, v5_L2 => (idx p0.Caches v4).bind fun x15 => (if (decide (v5_L2 < (List.length x15.Entries : Int))) = true then ((idx x15.Entries v5_L2).bind fun x21 => ((m_spec_StoredSize x21.Response (x21.Response.Type_ == 3)).bind fun x26 => (m_spec_SizeCaches_L2 p0 v4 k8 nL2 (IntKind.i64.wrap (v3_L2 + x26)) (IntKind.i64.wrap (v5_L2 + 1))))) else (k8 v3_L2 v5_L2))
def m_spec_SizeCaches_L1 (p0 : M.CacheSet) : Nat → Int → Int → Option Int
  | 0, _, _ => none
  | nL1 + 1, v3, v4 => if (decide (v4 < (List.length p0.Caches : Int))) = true then (m_spec_SizeCaches_L2 p0 v4 (fun (v3_L2 : Int) (v5_L2 : Int) => m_spec_SizeCaches_L1 p0 nL1 v3_L2 (IntKind.i64.wrap (v4 + 1))) fuel v3 0) else (some v3)
def m_spec_SizeCaches (p0 : M.CacheSet) : Option Int :=
  m_spec_SizeCaches_L1 p0 fuel 0 0
def m_spec_EncodeKey_L1 (p0 : M.Key) : Nat → Int → List Int → Option (List Int)
  | 0, _, _ => none
  | nL1 + 1, v4, r12 => if (decide (v4 ≥ 0)) = true then (if (p0.Kind != 2) = true then (if (decide (0 ≤ (IntKind.i64.wrap (8 * v4)))) = true then ((app 1 r12 ([(IntKind.u8.wrap (IntKind.i64.wrap (BitVec.ofInt (IntKind.i64.bits) (Int.fdiv (IntKind.i64.wrap (p0.N + 1000000000000)) (2 ^ (min (IntKind.i64.wrap (8 * v4)).toNat IntKind.i64.bits))) &&& BitVec.ofInt (IntKind.i64.bits) 255).toNat))])).bind fun x18 => (m_spec_EncodeKey_L1 p0 nL1 (IntKind.i64.wrap (v4 - 1)) (r12 ++ [(IntKind.u8.wrap (IntKind.i64.wrap (BitVec.ofInt (IntKind.i64.bits) (Int.fdiv (IntKind.i64.wrap (p0.N + 1000000000000)) (2 ^ (min (IntKind.i64.wrap (8 * v4)).toNat IntKind.i64.bits))) &&& BitVec.ofInt (IntKind.i64.bits) 255).toNat))]))) else none) else ((app 1 r12 (strBytes p0.Text)).bind fun x26 => (some (r12 ++ (strBytes p0.Text))))) else ((app 1 r12 (strBytes p0.Text)).bind fun x28 => (some (r12 ++ (strBytes p0.Text))))
def m_spec_EncodeKey (p0 : M.Key) : Option (List Int) :=
  (m_spec_IsKey p0).bind fun x1 => (if (!x1) = true then (some ([] : List Int)) else (m_spec_EncodeKey_L1 p0 fuel 5 ([(IntKind.u8.wrap p0.Kind)])))
def m_spec_AppendUvarint_L1  : Nat → Int → List Int → Option (List Int)
  | 0, _, _ => none
  | nL1 + 1, v1, r6 => if (decide (v1 > 127)) = true then ((app 1 r6 ([(IntKind.u8.wrap (IntKind.i64.wrap (BitVec.ofInt (IntKind.i64.bits) (IntKind.i64.wrap (BitVec.ofInt (IntKind.i64.bits) v1 &&& BitVec.ofInt (IntKind.i64.bits) 127).toNat) ||| BitVec.ofInt (IntKind.i64.bits) 128).toNat))])).bind fun x15 => (m_spec_AppendUvarint_L1 nL1 (Int.fdiv v1 (2 ^ (min (7 : Int).toNat IntKind.i64.bits))) (r6 ++ [(IntKind.u8.wrap (IntKind.i64.wrap (BitVec.ofInt (IntKind.i64.bits) (IntKind.i64.wrap (BitVec.ofInt (IntKind.i64.bits) v1 &&& BitVec.ofInt (IntKind.i64.bits) 127).toNat) ||| BitVec.ofInt (IntKind.i64.bits) 128).toNat))]))) else ((app 1 r6 ([(IntKind.u8.wrap v1)])).bind fun x21 => (some (r6 ++ [(IntKind.u8.wrap v1)])))
def m_spec_AppendUvarint (p0 : List Int) (p1 : Int) : Option (List Int) :=
  (app 1 ([] : List Int) p0).bind fun x1 => ((m_spec_l1In p1 0 1000000000000).bind fun x7 => (if (!x7) = true then (some p0) else (m_spec_AppendUvarint_L1 fuel p1 p0)))
def m_spec_AppendBytes (p0 : List Int) (p1 : List Int) : Option (List Int) :=
  (m_spec_AppendUvarint p0 (List.length p1 : Int)).bind fun x1 => ((app 1 x1 p1).bind fun x3 => (some (x1 ++ p1)))
def m_spec_EncodeRecord_L1 (p0 : M.Record) : Nat → Int → List Int → Option (List Int)
  | 0, _, _ => none
  | nL1 + 1, v4, r50000 => if (decide (v4 < (List.length p0.Fields : Int))) = true then ((idx p0.Fields v4).bind fun x18 => ((m_spec_AppendBytes r50000 (strBytes x18.Name)).bind fun x23 => ((m_spec_AppendUvarint x23 x18.N).bind fun x25 => (m_spec_EncodeRecord_L1 p0 nL1 (IntKind.i64.wrap (v4 + 1)) x25)))) else (some r50000)
def m_spec_EncodeRecord (p0 : M.Record) : Option (List Int) :=
  (m_spec_IsRecord p0).bind fun x1 => (if (!x1) = true then (some ([] : List Int)) else ((m_spec_AppendUvarint ([] : List Int) (List.length p0.Fields : Int)).bind fun x4 => (m_spec_EncodeRecord_L1 p0 fuel 0 x4)))
def m_spec_SizeStore_L1 (p0 : M.Store) : Nat → Int → Int → Option Int
  | 0, _, _ => none
  | nL1 + 1, v3, v4 => if (decide (v4 < (List.length p0.Items : Int))) = true then ((idx p0.Items v4).bind fun x7 => ((m_spec_EncodeKey x7.Key).bind fun x12 => ((m_spec_EncodeRecord x7.Record).bind fun x14 => (m_spec_SizeStore_L1 p0 nL1 (IntKind.i64.wrap ((IntKind.i64.wrap (v3 + (List.length x12 : Int))) + (List.length x14 : Int))) (IntKind.i64.wrap (v4 + 1)))))) else (some v3)
def m_spec_SizeStore (p0 : M.Store) : Option Int :=
  m_spec_SizeStore_L1 p0 fuel 0 0
def m_spec_SizeDatabase_L1 (p0 : M.Database) : Nat → Int → Int → Option Int
  | 0, _, _ => none
  | nL1 + 1, v3, v4 => if (decide (v4 < (List.length p0.Stores : Int))) = true then ((idx p0.Stores v4).bind fun x7 => ((m_spec_SizeStore x7).bind fun x12 => (m_spec_SizeDatabase_L1 p0 nL1 (IntKind.i64.wrap (v3 + x12)) (IntKind.i64.wrap (v4 + 1))))) else (some v3)
def m_spec_SizeDatabase (p0 : M.Database) : Option Int :=
  m_spec_SizeDatabase_L1 p0 fuel 0 0
def m_spec_SizeDisk (p0 : M.Disk) : Option Int :=
  (m_spec_SizeDatabase p0.Base).bind fun x1 => (some (IntKind.i64.wrap (x1 + (List.length p0.Log : Int))))
def m_spec_UsageOf (p0 : M.Bucket) : Option Int :=
  (m_spec_SizeCaches p0.Caches).bind fun x1 => ((m_spec_SizeDisk p0.Disk).bind fun x3 => ((m_spec_SizeStore p0.Replica.Base).bind fun x5 => (some (IntKind.i64.wrap ((IntKind.i64.wrap ((IntKind.i64.wrap (x1 + x3)) + x5)) + (IntKind.i64.wrap (40 * (List.length p0.Replica.Sync.Outbox.Writes : Int))))))))
def m_spec_IsBucket (p0 : M.Bucket) : Option Bool :=
  (m_spec_IsName p0.Site).bind fun x1 => (if x1 = true then ((m_spec_IsName p0.Top).bind fun x4 => (if x4 = true then ((m_spec_IsRegistration p0.Registration).bind fun x7 => (if x7 = true then (if (p0.Registration.Site.toList == p0.Site.toList) = true then ((m_spec_IsCacheSet p0.Caches).bind fun x11 => (if x11 = true then ((m_spec_IsDatabase p0.Disk.Base).bind fun x14 => (if x14 = true then ((m_spec_IsReplica p0.Replica).bind fun x17 => (if x17 = true then ((m_spec_l1In p0.LastUsed 0 1000000000000).bind fun x20 => (if x20 = true then ((m_spec_UsageOf p0).bind fun x23 => (some (decide (x23 ≤ 2500)))) else (some false))) else (some false))) else (some false))) else (some false))) else (some false)) else (some false))) else (some false))) else (some false))
def m_spec_l27Change (p0 : M.Bucket) (p1 : M.Bucket) : Option (M.Bucket × Bool) :=
  (m_spec_IsBucket p0).bind fun x1 => (if (!x1) = true then ((m_spec_l27Copy p0).bind fun x4 => (some (x4, false))) else ((m_spec_IsBucket p1).bind fun x6 => (if (!x6) = true then ((m_spec_l27Copy p0).bind fun x9 => (some (x9, false))) else (some (p1, true)))))
def m_spec_ReplaceDisk (p0 : M.Bucket) (p1 : M.Disk) : Option (M.Bucket × Bool) :=
  (m_spec_l27Copy p0).bind fun x1 => ((m_spec_l12Copy p1).bind fun x3 => ((m_spec_l27Change p0 (⟨x1.Site, x1.Top, x1.Registration, x1.Caches, x3, x1.Replica, x1.LastUsed, x1.Persistent⟩ : M.Bucket)).bind fun x5 => (if x5.2 = true then (some ((⟨x1.Site, x1.Top, x1.Registration, x1.Caches, x3, x1.Replica, x1.LastUsed, x1.Persistent⟩ : M.Bucket), true)) else (some (x5.1, false)))))
def m_impl_InRange (p0 : Int) (p1 : Int) (p2 : Int) : Option Bool :=
  if (decide (p1 ≤ p0)) = true then (some (decide (p0 ≤ p2))) else (some false)
def m_impl_isWord_L1 (p0 : ByteArray) (p1 : Int) (p2 : Bool) : Nat → Int → Option Bool
  | 0, _ => none
  | nL1 + 1, v7 => if (decide (v7 < (p0.size : Int))) = true then ((sidx p0 v7).bind fun x7 => (if (decide ((x7.toNat : Int) ≥ 97)) = true then (if (decide ((x7.toNat : Int) ≤ 122)) = true then (m_impl_isWord_L1 p0 p1 p2 nL1 (IntKind.i64.wrap (v7 + 1))) else (if p2 = true then (if (!((x7.toNat : Int) == 47)) = true then (some false) else (m_impl_isWord_L1 p0 p1 p2 nL1 (IntKind.i64.wrap (v7 + 1)))) else (some false))) else (if p2 = true then (if (!((x7.toNat : Int) == 47)) = true then (some false) else (m_impl_isWord_L1 p0 p1 p2 nL1 (IntKind.i64.wrap (v7 + 1)))) else (some false)))) else ((m_impl_InRange (p0.size : Int) 1 p1).bind fun x17 => (some x17))
def m_impl_isWord (p0 : ByteArray) (p1 : Int) (p2 : Bool) : Option Bool :=
  m_impl_isWord_L1 p0 p1 p2 fuel 0
def m_impl_IsName (p0 : ByteArray) : Option Bool :=
  (m_impl_isWord p0 8 false).bind fun x1 => (some x1)
def m_impl_IsRegistration_L1 (p0 : M.Registration) : Nat → Int → Int → Option Bool
  | 0, _, _ => none
  | nL1 + 1, v3, v14 => if (decide (v14 < ((3 : Nat) : Int))) = true then ((idx ([p0.Active, p0.Waiting, p0.Installing]) v14).bind fun x18 => ((m_impl_InRange x18 0 1000000000000).bind fun x23 => (if (!x23) = true then (some false) else (if (x18 != 0) = true then (if (decide (x18 ≤ v3)) = true then (some false) else (m_impl_IsRegistration_L1 p0 nL1 (if x18 > v3 then x18 else v3) (IntKind.i64.wrap (v14 + 1)))) else (m_impl_IsRegistration_L1 p0 nL1 (if x18 > v3 then x18 else v3) (IntKind.i64.wrap (v14 + 1))))))) else ((m_impl_IsName p0.Site).bind fun x28 => (some x28))
def m_impl_IsRegistration (p0 : M.Registration) : Option Bool :=
  m_impl_IsRegistration_L1 p0 fuel 0 0
def m_impl_entryAt_1 (p0 : M.Cached) (c0 : ByteArray) (c1 : ByteArray) : Option Bool :=
  if (p0.Site.toList == c0.toList) = true then (some (p0.Path.toList == c1.toList)) else (some false)
def m_slices_IndexFunc_Cached_L1 (p0 : List M.Cached) (p1 : M.Cached → Option Bool) : Nat → Int → Option Int
  | 0, _ => none
  | nL1 + 1, v8 => if (decide (v8 < (List.length p0 : Int))) = true then ((idx p0 v8).bind fun x7 => ((p1 x7).bind fun x12 => (if x12 = true then (some v8) else (m_slices_IndexFunc_Cached_L1 p0 p1 nL1 (IntKind.i64.wrap (v8 + 1)))))) else (some (-1))
def m_slices_IndexFunc_Cached (p0 : List M.Cached) (p1 : M.Cached → Option Bool) : Option Int :=
  m_slices_IndexFunc_Cached_L1 p0 p1 fuel 0
def m_impl_entryAt (p0 : M.Cache) (p1 : ByteArray) (p2 : ByteArray) : Option Int :=
  (m_slices_IndexFunc_Cached p0.Entries (fun z0 => m_impl_entryAt_1 z0 p1 p2)).bind fun x1 => (some x1)
def m_impl_IsResponse (p0 : M.Response) : Option Bool :=
  (m_impl_InRange p0.Type_ 1 4).bind fun x1 => (if x1 = true then ((m_impl_InRange p0.Status 0 999).bind fun x4 => (if x4 = true then ((m_impl_InRange p0.Version 0 1000000000000).bind fun x7 => (if x7 = true then (some (decide ((List.length p0.Body : Int) ≤ 60))) else (some false))) else (some false))) else (some false))
def m_impl_IsCacheSet_L2 (x8 : M.Cache) (k25 : Int → Option Bool) : Nat → Int → Option Bool
  | 0, _ => none
  | nL2 + 1, v44_L2 => if (decide (v44_L2 < (List.length x8.Entries : Int))) = true then ((idx x8.Entries v44_L2).bind fun x38 => ((m_impl_IsName x38.Site).bind fun x43 => (if (!x43) = true then (some false) else ((m_impl_IsName x38.Path).bind fun x46 => (if (!x46) = true then (some false) else ((m_impl_entryAt x8 x38.Site x38.Path).bind fun x49 => (if (x49 != v44_L2) = true then (some false) else ((m_impl_IsResponse x38.Response).bind fun x52 => (if (!x52) = true then (some false) else (m_impl_IsCacheSet_L2 x8 k25 nL2 (IntKind.i64.wrap (v44_L2 + 1)))))))))))) else (k25 v44_L2)
def m_impl_IsCacheSet_L3 (x8 : M.Cache) (k57 : Int → Option Bool) : Nat → Int → Option Bool
  | 0, _ => none
  | nL3 + 1, v44_L3 => if (decide (v44_L3 < (List.length x8.Entries : Int))) = true then ((idx x8.Entries v44_L3).bind fun x70 => ((m_impl_IsName x70.Site).bind fun x75 => (if (!x75) = true then (some false) else ((m_impl_IsName x70.Path).bind fun x78 => (if (!x78) = true then (some false) else ((m_impl_entryAt x8 x70.Site x70.Path).bind fun x81 => (if (x81 != v44_L3) = true then (some false) else ((m_impl_IsResponse x70.Response).bind fun x84 => (if (!x84) = true then (some false) else (m_impl_IsCacheSet_L3 x8 k57 nL3 (IntKind.i64.wrap (v44_L3 + 1)))))))))))) else (k57 v44_L3)
def m_impl_IsCacheSet_L1 (p0 : M.CacheSet) : Nat → Int → Option Bool
  | 0, _ => none
  | nL1 + 1, v10 => if (decide (v10 < (List.length p0.Caches : Int))) = true then ((idx p0.Caches v10).bind fun x8 => ((m_impl_InRange x8.Version 1 1000000000000).bind fun x13 => (if (!x13) = true then (some false) else (if (decide (v10 > 0)) = true then ((idx p0.Caches (IntKind.i64.wrap (v10 - 1))).bind fun x17 => (if (decide (x8.Version ≤ x17.Version)) = true then (some false) else (if (decide ((List.length x8.Entries : Int) > 12)) = true then (some false) else (m_impl_IsCacheSet_L2 x8 (fun (v44_L2 : Int) => m_impl_IsCacheSet_L1 p0 nL1 (IntKind.i64.wrap (v10 + 1))) fuel 0)))) else (if (decide ((List.length x8.Entries : Int) > 12)) = true then (some false) else (m_impl_IsCacheSet_L3 x8 (fun (v44_L3 : Int) => m_impl_IsCacheSet_L1 p0 nL1 (IntKind.i64.wrap (v10 + 1))) fuel 0)))))) else (some (decide ((List.length p0.Caches : Int) ≤ 4)))
def m_impl_IsCacheSet (p0 : M.CacheSet) : Option Bool :=
  m_impl_IsCacheSet_L1 p0 fuel 0
def m_impl_isKeyText_L1 (p0 : ByteArray) : Nat → Int → Option Bool
  | 0, _ => none
  | nL1 + 1, v3 => if (decide (v3 < (p0.size : Int))) = true then ((sidx p0 v3).bind fun x5 => (if (decide ((x5.toNat : Int) ≥ 97)) = true then (if (decide ((x5.toNat : Int) ≤ 122)) = true then (m_impl_isKeyText_L1 p0 nL1 (IntKind.i64.wrap (v3 + 1))) else (if (decide ((x5.toNat : Int) ≥ 48)) = true then (if (!(decide ((x5.toNat : Int) ≤ 57))) = true then (some false) else (m_impl_isKeyText_L1 p0 nL1 (IntKind.i64.wrap (v3 + 1)))) else (some false))) else (if (decide ((x5.toNat : Int) ≥ 48)) = true then (if (!(decide ((x5.toNat : Int) ≤ 57))) = true then (some false) else (m_impl_isKeyText_L1 p0 nL1 (IntKind.i64.wrap (v3 + 1)))) else (some false)))) else (some (decide ((p0.size : Int) ≤ 12)))
def m_impl_isKeyText (p0 : ByteArray) : Option Bool :=
  m_impl_isKeyText_L1 p0 fuel 0
def m_impl_IsKey (p0 : M.Key) : Option Bool :=
  (m_impl_InRange p0.Kind 1 3).bind fun x1 => (if (!x1) = true then (some false) else ((m_impl_InRange p0.N (-1000000000000) 1000000000000).bind fun x4 => (if (!x4) = true then (some false) else ((m_impl_isKeyText p0.Text).bind fun x7 => (if (!x7) = true then (some false) else (if (p0.Kind == 2) = true then (if (!(p0.N != 0)) = true then (if (p0.Kind == 1) = true then (some (!(!(p0.Text.toList == (⟨#[]⟩ : ByteArray).toList)))) else (some true)) else (some false)) else (if (p0.Kind == 1) = true then (some (!(!(p0.Text.toList == (⟨#[]⟩ : ByteArray).toList)))) else (some true))))))))
def m_impl_IsRecord_L1 (p0 : M.Record) : Nat → Int → Option Bool
  | 0, _ => none
  | nL1 + 1, v8 => if (decide (v8 < (List.length p0.Fields : Int))) = true then ((idx p0.Fields v8).bind fun x8 => ((m_impl_IsName x8.Name).bind fun x13 => (if (!x13) = true then (some false) else ((m_impl_InRange x8.N 0 1000000000).bind fun x16 => (if (!x16) = true then (some false) else (if (decide (v8 > 0)) = true then ((idx p0.Fields (IntKind.i64.wrap (v8 - 1))).bind fun x20 => (if (Op.bytesLess x8.Name.toList x20.Name.toList || x8.Name.toList == x20.Name.toList) = true then (some false) else (m_impl_IsRecord_L1 p0 nL1 (IntKind.i64.wrap (v8 + 1))))) else (m_impl_IsRecord_L1 p0 nL1 (IntKind.i64.wrap (v8 + 1))))))))) else (some (decide ((List.length p0.Fields : Int) ≤ 6)))
def m_impl_IsRecord (p0 : M.Record) : Option Bool :=
  m_impl_IsRecord_L1 p0 fuel 0
def m_impl_compareInts (p0 : Int) (p1 : Int) : Option Int :=
  if (decide (p0 < p1)) = true then (some (-1)) else (if (decide (p0 > p1)) = true then (some 1) else (some 0))
def m_internal_bytealg_CompareString (p0 : ByteArray) (p1 : ByteArray) : Option Int := some (Lib.compareBytes p0.data.toList p1.data.toList)
def m_strings_Compare (p0 : ByteArray) (p1 : ByteArray) : Option Int :=
  (m_internal_bytealg_CompareString p0 p1).bind fun x1 => (some x1)
def m_impl_CompareKeys (p0 : M.Key) (p1 : M.Key) : Option Int :=
  (m_impl_IsKey p0).bind fun x1 => (if (!x1) = true then (some 0) else ((m_impl_IsKey p1).bind fun x4 => (if (!x4) = true then (some 0) else ((m_impl_compareInts p0.Kind p1.Kind).bind fun x7 => (if (x7 != 0) = true then (some x7) else ((m_impl_compareInts p0.N p1.N).bind fun x10 => (if (x10 != 0) = true then (some x10) else ((m_strings_Compare p0.Text p1.Text).bind fun x13 => (some x13)))))))))
def m_impl_IsStore_L1 (p0 : M.Store) : Nat → Int → Option Bool
  | 0, _ => none
  | nL1 + 1, v8 => if (decide (v8 < (List.length p0.Items : Int))) = true then ((idx p0.Items v8).bind fun x8 => ((m_impl_IsKey x8.Key).bind fun x13 => (if (!x13) = true then (some false) else ((m_impl_IsRecord x8.Record).bind fun x16 => (if (!x16) = true then (some false) else (if (decide (v8 > 0)) = true then ((idx p0.Items (IntKind.i64.wrap (v8 - 1))).bind fun x20 => ((m_impl_CompareKeys x20.Key x8.Key).bind fun x25 => (if (decide (x25 ≥ 0)) = true then (some false) else (m_impl_IsStore_L1 p0 nL1 (IntKind.i64.wrap (v8 + 1)))))) else (m_impl_IsStore_L1 p0 nL1 (IntKind.i64.wrap (v8 + 1))))))))) else ((m_impl_IsName p0.Name).bind fun x28 => (if x28 = true then (if (decide ((List.length p0.Items : Int) ≤ 16)) = true then ((m_impl_InRange p0.Auto 0 1000000).bind fun x32 => (some x32)) else (some false)) else (some false)))
def m_impl_IsStore (p0 : M.Store) : Option Bool :=
  m_impl_IsStore_L1 p0 fuel 0
def m_impl_FindStore_1 (p0 : M.Store) (c0 : ByteArray) : Option Bool :=
  some (p0.Name.toList == c0.toList)
def m_slices_IndexFunc_Store_L1 (p0 : List M.Store) (p1 : M.Store → Option Bool) : Nat → Int → Option Int
  | 0, _ => none
  | nL1 + 1, v8 => if (decide (v8 < (List.length p0 : Int))) = true then ((idx p0 v8).bind fun x7 => ((p1 x7).bind fun x12 => (if x12 = true then (some v8) else (m_slices_IndexFunc_Store_L1 p0 p1 nL1 (IntKind.i64.wrap (v8 + 1)))))) else (some (-1))
def m_slices_IndexFunc_Store (p0 : List M.Store) (p1 : M.Store → Option Bool) : Option Int :=
  m_slices_IndexFunc_Store_L1 p0 p1 fuel 0
def m_impl_FindStore (p0 : M.Database) (p1 : ByteArray) : Option Int :=
  (m_slices_IndexFunc_Store p0.Stores (fun z0 => m_impl_FindStore_1 z0 p1)).bind fun x1 => (some x1)
def m_slices_Index_IndexDef_L1 (p0 : List M.IndexDef) (p1 : M.IndexDef) : Nat → Int → Option Int
  | 0, _ => none
  | nL1 + 1, v8 => if (decide (v8 < (List.length p0 : Int))) = true then ((idx p0 v8).bind fun x8 => (if ((p1.Store.toList == x8.Store.toList) && (p1.Field.toList == x8.Field.toList)) = true then (some v8) else (m_slices_Index_IndexDef_L1 p0 p1 nL1 (IntKind.i64.wrap (v8 + 1))))) else (some (-1))
def m_slices_Index_IndexDef (p0 : List M.IndexDef) (p1 : M.IndexDef) : Option Int :=
  m_slices_Index_IndexDef_L1 p0 p1 fuel 0
def m_slices_Contains_IndexDef (p0 : List M.IndexDef) (p1 : M.IndexDef) : Option Bool :=
  (m_slices_Index_IndexDef p0 p1).bind fun x1 => (some (decide (x1 ≥ 0)))
def m_impl_fieldAt_1 (p0 : M.Field) (c0 : ByteArray) : Option Bool :=
  some (p0.Name.toList == c0.toList)
def m_slices_IndexFunc_Field_L1 (p0 : List M.Field) (p1 : M.Field → Option Bool) : Nat → Int → Option Int
  | 0, _ => none
  | nL1 + 1, v8 => if (decide (v8 < (List.length p0 : Int))) = true then ((idx p0 v8).bind fun x7 => ((p1 x7).bind fun x12 => (if x12 = true then (some v8) else (m_slices_IndexFunc_Field_L1 p0 p1 nL1 (IntKind.i64.wrap (v8 + 1)))))) else (some (-1))
def m_slices_IndexFunc_Field (p0 : List M.Field) (p1 : M.Field → Option Bool) : Option Int :=
  m_slices_IndexFunc_Field_L1 p0 p1 fuel 0
def m_impl_fieldAt (p0 : M.Record) (p1 : ByteArray) : Option Int :=
  (m_slices_IndexFunc_Field p0.Fields (fun z0 => m_impl_fieldAt_1 z0 p1)).bind fun x1 => (some x1)
def m_impl_GetField (p0 : M.Record) (p1 : ByteArray) : Option (Int × Bool) :=
  (m_impl_fieldAt p0 p1).bind fun x1 => (if (decide (x1 < 0)) = true then (some (0, false)) else ((idx p0.Fields x1).bind fun x4 => (some (x4.N, true))))
def m_impl_fieldBefore (p0 : M.Item) (p1 : M.Item) (p2 : ByteArray) : Option Bool :=
  (m_impl_GetField p0.Record p2).bind fun x1 => ((m_impl_GetField p1.Record p2).bind fun x3 => (if (decide (x1.1 < x3.1)) = true then (some true) else (if (x1.1 == x3.1) = true then ((m_impl_CompareKeys p0.Key p1.Key).bind fun x7 => (some (decide (x7 < 0)))) else (some false))))
def m_impl_copyRecord (p0 : M.Record) : Option M.Record :=
  (app 24 ([] : List M.Field) p0.Fields).bind fun x1 => (some p0)
def m_impl_copyItem (p0 : M.Item) : Option M.Item :=
  (m_impl_copyRecord p0.Record).bind fun x1 => (some (⟨p0.Key, x1⟩ : M.Item))

def m_impl_IndexOn_L2 (p1 : ByteArray) (r11 : List M.Item) (x15 : M.Item) (k24 : Int → Option (List M.Item)) : Nat → Int → Option (List M.Item)
  | 0, _ => none
  | nL2 + 1, v10_L2 => if (decide (v10_L2 > 0)) = true then ((idx r11 (IntKind.i64.wrap (v10_L2 - 1))).bind fun x36 => ((m_impl_fieldBefore x15 x36 p1).bind fun x41 => (if x41 = true then (m_impl_IndexOn_L2 p1 r11 x15 k24 nL2 (IntKind.i64.wrap (v10_L2 - 1))) else (k24 v10_L2)))) else (k24 v10_L2)
def m_impl_IndexOn_L1 (p0 : M.Store) (p1 : ByteArray) : Nat → Int → List M.Item → Option (List M.Item)
  | 0, _, _ => none
  | nL1 + 1, v15, r11 => if (decide (v15 < (List.length p0.Items : Int))) = true then ((idx p0.Items v15).bind fun x15 => ((m_impl_GetField x15.Record p1).bind fun x20 => (if (!x20.2) = true then (m_impl_IndexOn_L1 p0 p1 nL1 (IntKind.i64.wrap (v15 + 1)) r11) else (m_impl_IndexOn_L2 p1 r11 x15 (fun (v10_L2 : Int) => (m_impl_copyItem x15).bind fun x55 => ((insAt 56 r11 v10_L2 ([x55])).bind fun x57 => (m_impl_IndexOn_L1 p0 p1 nL1 (IntKind.i64.wrap (v15 + 1)) (List.take v10_L2.toNat r11 ++ ([x55] ++ List.drop v10_L2.toNat r11))))) fuel (List.length r11 : Int))))) else (some r11)
def m_impl_IndexOn (p0 : M.Store) (p1 : ByteArray) : Option (List M.Item) :=
  m_impl_IndexOn_L1 p0 p1 fuel 0 ([] : List M.Item)
def m_impl_UniqueFault_L1 (p1 : ByteArray) (x1 : (List M.Item)) : Nat → Int → Option (M.Key × M.Key × Bool)
  | 0, _ => none
  | nL1 + 1, v8 => if (decide (v8 < (List.length x1 : Int))) = true then ((idx x1 (IntKind.i64.wrap (v8 - 1))).bind fun x13 => ((m_impl_GetField x13.Record p1).bind fun x18 => ((idx x1 v8).bind fun x20 => ((m_impl_GetField x20.Record p1).bind fun x25 => (if (x18.1 == x25.1) = true then (some (x13.Key, x20.Key, true)) else (m_impl_UniqueFault_L1 p1 x1 nL1 (IntKind.i64.wrap (v8 + 1)))))))) else (some ((⟨0, 0, (⟨#[]⟩ : ByteArray)⟩ : M.Key), (⟨0, 0, (⟨#[]⟩ : ByteArray)⟩ : M.Key), false))
def m_impl_UniqueFault (p0 : M.Store) (p1 : ByteArray) : Option (M.Key × M.Key × Bool) :=
  (m_impl_IndexOn p0 p1).bind fun x1 => (m_impl_UniqueFault_L1 p1 x1 fuel 1)
def m_impl_IsDatabase_L2 (p0 : M.Database) : Nat → Int → Option Bool
  | 0, _ => none
  | nL2 + 1, v64 => if (decide (v64 < (List.length p0.Unique : Int))) = true then ((idx p0.Unique v64).bind fun x38 => ((m_impl_FindStore p0 x38.Store).bind fun x43 => (if (decide (x43 < 0)) = true then (some false) else ((m_impl_IsName x38.Field).bind fun x46 => (if (!x46) = true then (some false) else ((slcHi p0.Unique v64).bind fun x49 => ((m_slices_Contains_IndexDef (List.take v64.toNat p0.Unique) x38).bind fun x51 => (if x51 = true then (some false) else ((idx p0.Stores x43).bind fun x54 => ((m_impl_UniqueFault x54 x38.Field).bind fun x59 => (if x59.2.2 = true then (some false) else (m_impl_IsDatabase_L2 p0 nL2 (IntKind.i64.wrap (v64 + 1)))))))))))))) else (some true)
def m_impl_IsDatabase_L1 (p0 : M.Database) : Nat → Int → Option Bool
  | 0, _ => none
  | nL1 + 1, v36 => if (decide (v36 < (List.length p0.Stores : Int))) = true then ((idx p0.Stores v36).bind fun x16 => ((m_impl_IsStore x16).bind fun x21 => (if (!x21) = true then (some false) else (if (decide (v36 > 0)) = true then ((idx p0.Stores (IntKind.i64.wrap (v36 - 1))).bind fun x25 => (if (Op.bytesLess x16.Name.toList x25.Name.toList || x16.Name.toList == x25.Name.toList) = true then (some false) else (m_impl_IsDatabase_L1 p0 nL1 (IntKind.i64.wrap (v36 + 1))))) else (m_impl_IsDatabase_L1 p0 nL1 (IntKind.i64.wrap (v36 + 1))))))) else (m_impl_IsDatabase_L2 p0 fuel 0)
def m_impl_IsDatabase (p0 : M.Database) : Option Bool :=
  (m_impl_IsName p0.Name).bind fun x1 => (if (!x1) = true then (some false) else ((m_impl_InRange p0.Version 0 1000).bind fun x4 => (if (!x4) = true then (some false) else (if (decide ((List.length p0.Stores : Int) > 4)) = true then (some false) else (if (decide ((List.length p0.Unique : Int) > 4)) = true then (some false) else (m_impl_IsDatabase_L1 p0 fuel 0))))))
def m_impl_IsQueuedWrite (p0 : M.Write) : Option Bool :=
  (m_impl_InRange p0.Device 1 1000000).bind fun x1 => (if x1 = true then ((m_impl_InRange p0.Seq 1 1000000).bind fun x4 => (if x4 = true then ((m_impl_IsKey p0.Key).bind fun x7 => (if x7 = true then ((m_impl_IsName p0.Field).bind fun x10 => (if x10 = true then ((m_impl_InRange p0.N 0 1000000000).bind fun x13 => (some x13)) else (some false))) else (some false))) else (some false))) else (some false))
def m_impl_IsOutbox_L1 (p0 : M.Outbox) : Nat → Int → Option Bool
  | 0, _ => none
  | nL1 + 1, v12 => if (decide (v12 < (List.length p0.Writes : Int))) = true then ((idx p0.Writes v12).bind fun x9 => ((m_impl_IsQueuedWrite x9).bind fun x14 => (if (!x14) = true then (some false) else (if (x9.Device != p0.Device) = true then (some false) else (if (x9.Seq != (IntKind.i64.wrap ((IntKind.i64.wrap (p0.Next - (List.length p0.Writes : Int))) + v12))) = true then (some false) else (m_impl_IsOutbox_L1 p0 nL1 (IntKind.i64.wrap (v12 + 1)))))))) else ((m_impl_InRange p0.Device 1 1000000).bind fun x19 => (if x19 = true then ((m_impl_InRange p0.Next 1 1000000).bind fun x22 => (if x22 = true then (some (decide ((List.length p0.Writes : Int) ≤ 20))) else (some false))) else (some false)))
def m_impl_IsOutbox (p0 : M.Outbox) : Option Bool :=
  m_impl_IsOutbox_L1 p0 fuel 0
def m_impl_IsReplica (p0 : M.Replica) : Option Bool :=
  (m_impl_IsStore p0.Base).bind fun x1 => (if x1 = true then (if (p0.Base.Name.toList == (⟨#[110, 111, 116, 101, 115]⟩ : ByteArray).toList) = true then ((m_impl_InRange p0.Seen 0 1000000000000).bind fun x5 => (if x5 = true then ((m_impl_IsOutbox p0.Sync.Outbox).bind fun x8 => (some x8)) else (some false))) else (some false)) else (some false))
def m_impl_StoredSize (p0 : M.Response) (p1 : Bool) : Option Int :=
  if p1 = true then (some 76) else (some (IntKind.i64.wrap (16 + (List.length p0.Body : Int))))
def m_impl_SizeCaches_L2 (x7 : M.Cache) (k13 : Int → Int → Option Int) : Nat → Int → Int → Option Int
  | 0, _, _ => none
  | nL2 + 1, v3_L2, v18_L2 => if (decide (v18_L2 < (List.length x7.Entries : Int))) = true then ((idx x7.Entries v18_L2).bind fun x23 => ((m_impl_StoredSize x23.Response (x23.Response.Type_ == 3)).bind fun x28 => (m_impl_SizeCaches_L2 x7 k13 nL2 (IntKind.i64.wrap (v3_L2 + x28)) (IntKind.i64.wrap (v18_L2 + 1))))) else (k13 v3_L2 v18_L2)
def m_impl_SizeCaches_L1 (p0 : M.CacheSet) : Nat → Int → Int → Option Int
  | 0, _, _ => none
  | nL1 + 1, v3, v11 => if (decide (v11 < (List.length p0.Caches : Int))) = true then ((idx p0.Caches v11).bind fun x7 => (m_impl_SizeCaches_L2 x7 (fun (v3_L2 : Int) (v18_L2 : Int) => m_impl_SizeCaches_L1 p0 nL1 v3_L2 (IntKind.i64.wrap (v11 + 1))) fuel v3 0)) else (some v3)
def m_impl_SizeCaches (p0 : M.CacheSet) : Option Int :=
  m_impl_SizeCaches_L1 p0 fuel 0 0
def m_impl_EncodeKey_L1 (p0 : M.Key) : Nat → Int → List Int → Option (List Int)
  | 0, _, _ => none
  | nL1 + 1, v4, r12 => if (decide (v4 ≥ 0)) = true then (if (decide (0 ≤ (IntKind.i64.wrap (8 * v4)))) = true then ((app 1 r12 ([(IntKind.u8.wrap (Int.fdiv (IntKind.i64.wrap (p0.N + 1000000000000)) (2 ^ (min (IntKind.i64.wrap (8 * v4)).toNat IntKind.i64.bits))))])).bind fun x18 => (m_impl_EncodeKey_L1 p0 nL1 (IntKind.i64.wrap (v4 - 1)) (r12 ++ [(IntKind.u8.wrap (Int.fdiv (IntKind.i64.wrap (p0.N + 1000000000000)) (2 ^ (min (IntKind.i64.wrap (8 * v4)).toNat IntKind.i64.bits))))]))) else none) else ((app 1 r12 (strBytes p0.Text)).bind fun x26 => (some (r12 ++ strBytes p0.Text)))
def m_impl_EncodeKey (p0 : M.Key) : Option (List Int) :=
  (m_impl_IsKey p0).bind fun x1 => (if (!x1) = true then (some ([] : List Int)) else (if (p0.Kind != 2) = true then (m_impl_EncodeKey_L1 p0 fuel 5 ([(IntKind.u8.wrap p0.Kind)])) else ((app 1 ([(IntKind.u8.wrap p0.Kind)]) (strBytes p0.Text)).bind fun x28 => (some ([(IntKind.u8.wrap p0.Kind)] ++ strBytes p0.Text)))))
def m_impl_copyBytes (p0 : List Int) : Option (List Int) :=
  (app 1 ([] : List Int) p0).bind fun x1 => (some p0)
def m_impl_AppendUvarint_L1  : Nat → Int → List Int → Option (List Int)
  | 0, _, _ => none
  | nL1 + 1, v1, r7 => if (decide (v1 ≥ 128)) = true then ((app 1 r7 ([(IntKind.u8.wrap (IntKind.i64.wrap ((Int.tmod v1 128) + 128)))])).bind fun x11 => (m_impl_AppendUvarint_L1 nL1 (IntKind.i64.wrap (Int.tdiv v1 128)) (r7 ++ [(IntKind.u8.wrap (IntKind.i64.wrap ((Int.tmod v1 128) + 128)))]))) else ((app 1 r7 ([(IntKind.u8.wrap v1)])).bind fun x17 => (some (r7 ++ [(IntKind.u8.wrap v1)])))
def m_impl_AppendUvarint (p0 : List Int) (p1 : Int) : Option (List Int) :=
  (m_impl_copyBytes p0).bind fun x1 => ((m_impl_InRange p1 0 1000000000000).bind fun x3 => (if (!x3) = true then (some x1) else (m_impl_AppendUvarint_L1 fuel p1 x1)))
def m_impl_AppendBytes (p0 : List Int) (p1 : List Int) : Option (List Int) :=
  (m_impl_AppendUvarint p0 (List.length p1 : Int)).bind fun x1 => ((app 1 x1 p1).bind fun x3 => (some (x1 ++ p1)))
def m_impl_EncodeRecord_L1 (p0 : M.Record) : Nat → Int → List Int → Option (List Int)
  | 0, _, _ => none
  | nL1 + 1, v17, r50000 => if (decide (v17 < (List.length p0.Fields : Int))) = true then ((idx p0.Fields v17).bind fun x13 => ((m_impl_AppendBytes r50000 (strBytes x13.Name)).bind fun x18 => ((m_impl_AppendUvarint x18 x13.N).bind fun x20 => (m_impl_EncodeRecord_L1 p0 nL1 (IntKind.i64.wrap (v17 + 1)) x20)))) else (some r50000)
def m_impl_EncodeRecord (p0 : M.Record) : Option (List Int) :=
  (m_impl_IsRecord p0).bind fun x1 => (if (!x1) = true then (some ([] : List Int)) else ((m_impl_AppendUvarint ([] : List Int) (List.length p0.Fields : Int)).bind fun x4 => (m_impl_EncodeRecord_L1 p0 fuel 0 x4)))
def m_impl_SizeStore_L1 (p0 : M.Store) : Nat → Int → Int → Option Int
  | 0, _, _ => none
  | nL1 + 1, v3, v9 => if (decide (v9 < (List.length p0.Items : Int))) = true then ((idx p0.Items v9).bind fun x7 => ((m_impl_EncodeKey x7.Key).bind fun x12 => ((m_impl_EncodeRecord x7.Record).bind fun x14 => (m_impl_SizeStore_L1 p0 nL1 (IntKind.i64.wrap (v3 + (IntKind.i64.wrap ((List.length x12 : Int) + (List.length x14 : Int))))) (IntKind.i64.wrap (v9 + 1)))))) else (some v3)
def m_impl_SizeStore (p0 : M.Store) : Option Int :=
  m_impl_SizeStore_L1 p0 fuel 0 0
def m_impl_SizeDatabase_L1 (p0 : M.Database) : Nat → Int → Int → Option Int
  | 0, _, _ => none
  | nL1 + 1, v3, v9 => if (decide (v9 < (List.length p0.Stores : Int))) = true then ((idx p0.Stores v9).bind fun x7 => ((m_impl_SizeStore x7).bind fun x12 => (m_impl_SizeDatabase_L1 p0 nL1 (IntKind.i64.wrap (v3 + x12)) (IntKind.i64.wrap (v9 + 1))))) else (some v3)
def m_impl_SizeDatabase (p0 : M.Database) : Option Int :=
  m_impl_SizeDatabase_L1 p0 fuel 0 0
def m_impl_SizeDisk (p0 : M.Disk) : Option Int :=
  (m_impl_SizeDatabase p0.Base).bind fun x1 => (some (IntKind.i64.wrap (x1 + (List.length p0.Log : Int))))
def m_impl_UsageOf (p0 : M.Bucket) : Option Int :=
  (m_impl_SizeCaches p0.Caches).bind fun x1 => ((m_impl_SizeDisk p0.Disk).bind fun x3 => ((m_impl_SizeStore p0.Replica.Base).bind fun x5 => (some (IntKind.i64.wrap ((IntKind.i64.wrap ((IntKind.i64.wrap (x1 + x3)) + x5)) + (IntKind.i64.wrap (40 * (List.length p0.Replica.Sync.Outbox.Writes : Int))))))))
def m_impl_IsBucket (p0 : M.Bucket) : Option Bool :=
  (m_impl_IsName p0.Site).bind fun x1 => (if x1 = true then ((m_impl_IsName p0.Top).bind fun x4 => (if x4 = true then ((m_impl_IsRegistration p0.Registration).bind fun x7 => (if x7 = true then (if (p0.Registration.Site.toList == p0.Site.toList) = true then ((m_impl_IsCacheSet p0.Caches).bind fun x11 => (if x11 = true then ((m_impl_IsDatabase p0.Disk.Base).bind fun x14 => (if x14 = true then ((m_impl_IsReplica p0.Replica).bind fun x17 => (if x17 = true then ((m_impl_InRange p0.LastUsed 0 1000000000000).bind fun x20 => (if x20 = true then ((m_impl_UsageOf p0).bind fun x23 => (some (decide (x23 ≤ 2500)))) else (some false))) else (some false))) else (some false))) else (some false))) else (some false)) else (some false))) else (some false))) else (some false))
def m_impl_copyResponse (p0 : M.Response) : Option M.Response :=
  (m_impl_copyBytes p0.Body).bind fun x1 => (some (⟨p0.Type_, p0.Status, p0.Version, x1, p0.Shares⟩ : M.Response))
def m_impl_copyCacheSet_L2 (x11 : M.Cache) (k17 : Int → List M.Cached → Option M.CacheSet) : Nat → Int → List M.Cached → Option M.CacheSet
  | 0, _, _ => none
  | nL2 + 1, v23_L2, r50000_L2 => if (decide (v23_L2 < (List.length x11.Entries : Int))) = true then ((idx x11.Entries v23_L2).bind fun x34 => ((m_impl_copyResponse x34.Response).bind fun x39 => ((app 88 r50000_L2 ([(⟨x34.Site, x34.Path, x39⟩ : M.Cached)])).bind fun x41 => (m_impl_copyCacheSet_L2 x11 k17 nL2 (IntKind.i64.wrap (v23_L2 + 1)) (r50000_L2 ++ [(⟨x34.Site, x34.Path, x39⟩ : M.Cached)]))))) else (k17 v23_L2 r50000_L2)
def m_impl_copyCacheSet_L1 (p0 : M.CacheSet) : Nat → Int → List M.Cache → Option M.CacheSet
  | 0, _, _ => none
  | nL1 + 1, v13, r50100 => if (decide (v13 < (List.length p0.Caches : Int))) = true then ((idx p0.Caches v13).bind fun x11 => (m_impl_copyCacheSet_L2 x11 (fun (v23_L2 : Int) (r50000_L2 : List M.Cached) => (app 32 r50100 ([(⟨x11.Version, r50000_L2⟩ : M.Cache)])).bind fun x58 => (m_impl_copyCacheSet_L1 p0 nL1 (IntKind.i64.wrap (v13 + 1)) (r50100 ++ [(⟨x11.Version, r50000_L2⟩ : M.Cache)]))) fuel 0 ([] : List M.Cached))) else (some (⟨r50100⟩ : M.CacheSet))
def m_impl_copyCacheSet (p0 : M.CacheSet) : Option M.CacheSet :=
  m_impl_copyCacheSet_L1 p0 fuel 0 ([] : List M.Cache)
def m_impl_copyStore_L1 (p0 : M.Store) : Nat → Int → List M.Item → Option M.Store
  | 0, _, _ => none
  | nL1 + 1, v14, r50000 => if (decide (v14 < (List.length p0.Items : Int))) = true then ((idx p0.Items v14).bind fun x11 => ((m_impl_copyItem x11).bind fun x16 => ((app 56 r50000 ([x16])).bind fun x18 => (m_impl_copyStore_L1 p0 nL1 (IntKind.i64.wrap (v14 + 1)) (r50000 ++ [x16]))))) else (some (⟨p0.Name, r50000, p0.Auto⟩ : M.Store))
def m_impl_copyStore (p0 : M.Store) : Option M.Store :=
  m_impl_copyStore_L1 p0 fuel 0 ([] : List M.Item)
def m_impl_copyDatabase_L1 (p0 : M.Database) : Nat → Int → List M.Store → Option M.Database
  | 0, _, _ => none
  | nL1 + 1, v18, r50000 => if (decide (v18 < (List.length p0.Stores : Int))) = true then ((idx p0.Stores v18).bind fun x22 => ((m_impl_copyStore x22).bind fun x27 => ((app 48 r50000 ([x27])).bind fun x29 => (m_impl_copyDatabase_L1 p0 nL1 (IntKind.i64.wrap (v18 + 1)) (r50000 ++ [x27]))))) else (some (⟨p0.Name, p0.Version, r50000, p0.Unique⟩ : M.Database))
def m_impl_copyDatabase (p0 : M.Database) : Option M.Database :=
  (app 32 ([] : List M.IndexDef) p0.Unique).bind fun x1 => (m_impl_copyDatabase_L1 p0 fuel 0 ([] : List M.Store))
def m_impl_copyDisk (p0 : M.Disk) : Option M.Disk :=
  (m_impl_copyDatabase p0.Base).bind fun x1 => ((m_impl_copyBytes p0.Log).bind fun x3 => (some (⟨x1, x3, p0.Count⟩ : M.Disk)))
def m_impl_copyOutbox (p0 : M.Outbox) : Option M.Outbox :=
  (app 72 ([] : List M.Write) p0.Writes).bind fun x1 => (some p0)
def m_impl_copySync (p0 : M.Sync) : Option M.Sync :=
  (m_impl_copyOutbox p0.Outbox).bind fun x1 => (some (⟨x1, p0.Tries, p0.WaitUntil⟩ : M.Sync))
def m_impl_copyReplica (p0 : M.Replica) : Option M.Replica :=
  (m_impl_copyStore p0.Base).bind fun x1 => ((m_impl_copySync p0.Sync).bind fun x3 => (some (⟨x1, p0.Seen, x3⟩ : M.Replica)))
def m_impl_copyBucket (p0 : M.Bucket) : Option M.Bucket :=
  (m_impl_copyCacheSet p0.Caches).bind fun x1 => ((m_impl_copyDisk p0.Disk).bind fun x3 => ((m_impl_copyReplica p0.Replica).bind fun x5 => (some (⟨p0.Site, p0.Top, p0.Registration, x1, x3, x5, p0.LastUsed, p0.Persistent⟩ : M.Bucket))))
def m_impl_changedBucket (p0 : M.Bucket) (p1 : M.Bucket) : Option (M.Bucket × Bool) :=
  (m_impl_IsBucket p0).bind fun x1 => (if (!x1) = true then ((m_impl_copyBucket p0).bind fun x4 => (some (x4, false))) else ((m_impl_IsBucket p1).bind fun x6 => (if (!x6) = true then ((m_impl_copyBucket p0).bind fun x9 => (some (x9, false))) else ((m_impl_copyBucket p1).bind fun x11 => (some (x11, true))))))
def m_impl_ReplaceDisk (p0 : M.Bucket) (p1 : M.Disk) : Option (M.Bucket × Bool) :=
  (m_impl_changedBucket p0 (⟨p0.Site, p0.Top, p0.Registration, p0.Caches, p1, p0.Replica, p0.LastUsed, p0.Persistent⟩ : M.Bucket)).bind fun x1 => (some (x1.1, x1.2))
def m_laws_eqRegistration (p0 : M.Registration) (p1 : M.Registration) : Option Bool :=
  if (!(p0.Site.toList == p1.Site.toList)) = true then (some false) else (if (p0.Installing != p1.Installing) = true then (some false) else (if (p0.Waiting != p1.Waiting) = true then (some false) else (if (p0.Active != p1.Active) = true then (some false) else (some true))))
def m_laws_eqByteS_L1 (p0 : List Int) (p1 : List Int) : Nat → Int → Option Bool
  | 0, _ => none
  | nL1 + 1, v5 => if (decide (v5 < (List.length p0 : Int))) = true then ((idx p0 v5).bind fun x7 => ((idx p1 v5).bind fun x12 => (if (x7 != x12) = true then (some false) else (m_laws_eqByteS_L1 p0 p1 nL1 (IntKind.i64.wrap (v5 + 1)))))) else (some true)
def m_laws_eqByteS (p0 : List Int) (p1 : List Int) : Option Bool :=
  if ((List.length p0 : Int) != (List.length p1 : Int)) = true then (some false) else (m_laws_eqByteS_L1 p0 p1 fuel 0)
def m_laws_eqResponse (p0 : M.Response) (p1 : M.Response) : Option Bool :=
  if (p0.Type_ != p1.Type_) = true then (some false) else (if (p0.Status != p1.Status) = true then (some false) else (if (p0.Version != p1.Version) = true then (some false) else ((m_laws_eqByteS p0.Body p1.Body).bind fun x4 => (if (!x4) = true then (some false) else (if (!(p0.Shares == p1.Shares)) = true then (some false) else (some true))))))
def m_laws_eqCached (p0 : M.Cached) (p1 : M.Cached) : Option Bool :=
  if (!(p0.Site.toList == p1.Site.toList)) = true then (some false) else (if (!(p0.Path.toList == p1.Path.toList)) = true then (some false) else ((m_laws_eqResponse p0.Response p1.Response).bind fun x3 => (if (!x3) = true then (some false) else (some true))))
def m_laws_eqCachedS_L1 (p0 : List M.Cached) (p1 : List M.Cached) : Nat → Int → Option Bool
  | 0, _ => none
  | nL1 + 1, v5 => if (decide (v5 < (List.length p0 : Int))) = true then ((idx p0 v5).bind fun x7 => ((idx p1 v5).bind fun x12 => ((m_laws_eqCached x7 x12).bind fun x17 => (if (!x17) = true then (some false) else (m_laws_eqCachedS_L1 p0 p1 nL1 (IntKind.i64.wrap (v5 + 1))))))) else (some true)
def m_laws_eqCachedS (p0 : List M.Cached) (p1 : List M.Cached) : Option Bool :=
  if ((List.length p0 : Int) != (List.length p1 : Int)) = true then (some false) else (m_laws_eqCachedS_L1 p0 p1 fuel 0)
def m_laws_eqCache (p0 : M.Cache) (p1 : M.Cache) : Option Bool :=
  if (p0.Version != p1.Version) = true then (some false) else ((m_laws_eqCachedS p0.Entries p1.Entries).bind fun x2 => (if (!x2) = true then (some false) else (some true)))
def m_laws_eqCacheS_L1 (p0 : List M.Cache) (p1 : List M.Cache) : Nat → Int → Option Bool
  | 0, _ => none
  | nL1 + 1, v5 => if (decide (v5 < (List.length p0 : Int))) = true then ((idx p0 v5).bind fun x7 => ((idx p1 v5).bind fun x12 => ((m_laws_eqCache x7 x12).bind fun x17 => (if (!x17) = true then (some false) else (m_laws_eqCacheS_L1 p0 p1 nL1 (IntKind.i64.wrap (v5 + 1))))))) else (some true)
def m_laws_eqCacheS (p0 : List M.Cache) (p1 : List M.Cache) : Option Bool :=
  if ((List.length p0 : Int) != (List.length p1 : Int)) = true then (some false) else (m_laws_eqCacheS_L1 p0 p1 fuel 0)
def m_laws_eqCacheSet (p0 : M.CacheSet) (p1 : M.CacheSet) : Option Bool :=
  (m_laws_eqCacheS p0.Caches p1.Caches).bind fun x1 => (if (!x1) = true then (some false) else (some true))
def m_laws_eqKey (p0 : M.Key) (p1 : M.Key) : Option Bool :=
  if (p0.Kind != p1.Kind) = true then (some false) else (if (p0.N != p1.N) = true then (some false) else (if (!(p0.Text.toList == p1.Text.toList)) = true then (some false) else (some true)))
def m_laws_eqField (p0 : M.Field) (p1 : M.Field) : Option Bool :=
  if (!(p0.Name.toList == p1.Name.toList)) = true then (some false) else (if (p0.N != p1.N) = true then (some false) else (some true))
def m_laws_eqFieldS_L1 (p0 : List M.Field) (p1 : List M.Field) : Nat → Int → Option Bool
  | 0, _ => none
  | nL1 + 1, v5 => if (decide (v5 < (List.length p0 : Int))) = true then ((idx p0 v5).bind fun x7 => ((idx p1 v5).bind fun x12 => ((m_laws_eqField x7 x12).bind fun x17 => (if (!x17) = true then (some false) else (m_laws_eqFieldS_L1 p0 p1 nL1 (IntKind.i64.wrap (v5 + 1))))))) else (some true)
def m_laws_eqFieldS (p0 : List M.Field) (p1 : List M.Field) : Option Bool :=
  if ((List.length p0 : Int) != (List.length p1 : Int)) = true then (some false) else (m_laws_eqFieldS_L1 p0 p1 fuel 0)
def m_laws_eqRecord (p0 : M.Record) (p1 : M.Record) : Option Bool :=
  (m_laws_eqFieldS p0.Fields p1.Fields).bind fun x1 => (if (!x1) = true then (some false) else (some true))
def m_laws_eqItem (p0 : M.Item) (p1 : M.Item) : Option Bool :=
  (m_laws_eqKey p0.Key p1.Key).bind fun x1 => (if (!x1) = true then (some false) else ((m_laws_eqRecord p0.Record p1.Record).bind fun x4 => (if (!x4) = true then (some false) else (some true))))
def m_laws_eqItemS_L1 (p0 : List M.Item) (p1 : List M.Item) : Nat → Int → Option Bool
  | 0, _ => none
  | nL1 + 1, v5 => if (decide (v5 < (List.length p0 : Int))) = true then ((idx p0 v5).bind fun x7 => ((idx p1 v5).bind fun x12 => ((m_laws_eqItem x7 x12).bind fun x17 => (if (!x17) = true then (some false) else (m_laws_eqItemS_L1 p0 p1 nL1 (IntKind.i64.wrap (v5 + 1))))))) else (some true)
def m_laws_eqItemS (p0 : List M.Item) (p1 : List M.Item) : Option Bool :=
  if ((List.length p0 : Int) != (List.length p1 : Int)) = true then (some false) else (m_laws_eqItemS_L1 p0 p1 fuel 0)
def m_laws_eqStore (p0 : M.Store) (p1 : M.Store) : Option Bool :=
  if (!(p0.Name.toList == p1.Name.toList)) = true then (some false) else ((m_laws_eqItemS p0.Items p1.Items).bind fun x2 => (if (!x2) = true then (some false) else (if (p0.Auto != p1.Auto) = true then (some false) else (some true))))
def m_laws_eqStoreS_L1 (p0 : List M.Store) (p1 : List M.Store) : Nat → Int → Option Bool
  | 0, _ => none
  | nL1 + 1, v5 => if (decide (v5 < (List.length p0 : Int))) = true then ((idx p0 v5).bind fun x7 => ((idx p1 v5).bind fun x12 => ((m_laws_eqStore x7 x12).bind fun x17 => (if (!x17) = true then (some false) else (m_laws_eqStoreS_L1 p0 p1 nL1 (IntKind.i64.wrap (v5 + 1))))))) else (some true)
def m_laws_eqStoreS (p0 : List M.Store) (p1 : List M.Store) : Option Bool :=
  if ((List.length p0 : Int) != (List.length p1 : Int)) = true then (some false) else (m_laws_eqStoreS_L1 p0 p1 fuel 0)
def m_laws_eqIndexDef (p0 : M.IndexDef) (p1 : M.IndexDef) : Option Bool :=
  if (!(p0.Store.toList == p1.Store.toList)) = true then (some false) else (if (!(p0.Field.toList == p1.Field.toList)) = true then (some false) else (some true))
def m_laws_eqIndexDefS_L1 (p0 : List M.IndexDef) (p1 : List M.IndexDef) : Nat → Int → Option Bool
  | 0, _ => none
  | nL1 + 1, v5 => if (decide (v5 < (List.length p0 : Int))) = true then ((idx p0 v5).bind fun x7 => ((idx p1 v5).bind fun x12 => ((m_laws_eqIndexDef x7 x12).bind fun x17 => (if (!x17) = true then (some false) else (m_laws_eqIndexDefS_L1 p0 p1 nL1 (IntKind.i64.wrap (v5 + 1))))))) else (some true)
def m_laws_eqIndexDefS (p0 : List M.IndexDef) (p1 : List M.IndexDef) : Option Bool :=
  if ((List.length p0 : Int) != (List.length p1 : Int)) = true then (some false) else (m_laws_eqIndexDefS_L1 p0 p1 fuel 0)
def m_laws_eqDatabase (p0 : M.Database) (p1 : M.Database) : Option Bool :=
  if (!(p0.Name.toList == p1.Name.toList)) = true then (some false) else (if (p0.Version != p1.Version) = true then (some false) else ((m_laws_eqStoreS p0.Stores p1.Stores).bind fun x3 => (if (!x3) = true then (some false) else ((m_laws_eqIndexDefS p0.Unique p1.Unique).bind fun x6 => (if (!x6) = true then (some false) else (some true))))))
def m_laws_eqDisk (p0 : M.Disk) (p1 : M.Disk) : Option Bool :=
  (m_laws_eqDatabase p0.Base p1.Base).bind fun x1 => (if (!x1) = true then (some false) else ((m_laws_eqByteS p0.Log p1.Log).bind fun x4 => (if (!x4) = true then (some false) else (if (p0.Count != p1.Count) = true then (some false) else (some true)))))
def m_laws_eqWrite (p0 : M.Write) (p1 : M.Write) : Option Bool :=
  if (p0.Device != p1.Device) = true then (some false) else (if (p0.Seq != p1.Seq) = true then (some false) else ((m_laws_eqKey p0.Key p1.Key).bind fun x3 => (if (!x3) = true then (some false) else (if (!(p0.Field.toList == p1.Field.toList)) = true then (some false) else (if (p0.N != p1.N) = true then (some false) else (some true))))))
def m_laws_eqWriteS_L1 (p0 : List M.Write) (p1 : List M.Write) : Nat → Int → Option Bool
  | 0, _ => none
  | nL1 + 1, v5 => if (decide (v5 < (List.length p0 : Int))) = true then ((idx p0 v5).bind fun x7 => ((idx p1 v5).bind fun x12 => ((m_laws_eqWrite x7 x12).bind fun x17 => (if (!x17) = true then (some false) else (m_laws_eqWriteS_L1 p0 p1 nL1 (IntKind.i64.wrap (v5 + 1))))))) else (some true)
def m_laws_eqWriteS (p0 : List M.Write) (p1 : List M.Write) : Option Bool :=
  if ((List.length p0 : Int) != (List.length p1 : Int)) = true then (some false) else (m_laws_eqWriteS_L1 p0 p1 fuel 0)
def m_laws_eqOutbox (p0 : M.Outbox) (p1 : M.Outbox) : Option Bool :=
  if (p0.Device != p1.Device) = true then (some false) else (if (p0.Next != p1.Next) = true then (some false) else ((m_laws_eqWriteS p0.Writes p1.Writes).bind fun x3 => (if (!x3) = true then (some false) else (some true))))
def m_laws_eqSync (p0 : M.Sync) (p1 : M.Sync) : Option Bool :=
  (m_laws_eqOutbox p0.Outbox p1.Outbox).bind fun x1 => (if (!x1) = true then (some false) else (if (p0.Tries != p1.Tries) = true then (some false) else (if (p0.WaitUntil != p1.WaitUntil) = true then (some false) else (some true))))
def m_laws_eqReplica (p0 : M.Replica) (p1 : M.Replica) : Option Bool :=
  (m_laws_eqStore p0.Base p1.Base).bind fun x1 => (if (!x1) = true then (some false) else (if (p0.Seen != p1.Seen) = true then (some false) else ((m_laws_eqSync p0.Sync p1.Sync).bind fun x5 => (if (!x5) = true then (some false) else (some true)))))
def m_laws_eqBucket (p0 : M.Bucket) (p1 : M.Bucket) : Option Bool :=
  if (!(p0.Site.toList == p1.Site.toList)) = true then (some false) else (if (!(p0.Top.toList == p1.Top.toList)) = true then (some false) else ((m_laws_eqRegistration p0.Registration p1.Registration).bind fun x3 => (if (!x3) = true then (some false) else ((m_laws_eqCacheSet p0.Caches p1.Caches).bind fun x6 => (if (!x6) = true then (some false) else ((m_laws_eqDisk p0.Disk p1.Disk).bind fun x9 => (if (!x9) = true then (some false) else ((m_laws_eqReplica p0.Replica p1.Replica).bind fun x12 => (if (!x12) = true then (some false) else (if (p0.LastUsed != p1.LastUsed) = true then (some false) else (if (!(p0.Persistent == p1.Persistent)) = true then (some false) else (some true))))))))))))
def m_laws_markText_L1  : Nat → Int → ByteArray → Option ByteArray
  | 0, _, _ => none
  | nL1 + 1, v0, v3 => if (decide (v0 > 0)) = true then ((toStr ([(IntKind.u8.wrap (IntKind.i64.wrap (48 + (Int.tmod v0 10))))])).bind fun x6 => ((cat (bytesStr ([(IntKind.u8.wrap (IntKind.i64.wrap (48 + (Int.tmod v0 10))))])) v3).bind fun x8 => (m_laws_markText_L1 nL1 (IntKind.i64.wrap (Int.tdiv v0 10)) ((bytesStr ([(IntKind.u8.wrap (IntKind.i64.wrap (48 + (Int.tmod v0 10))))])) ++ v3)))) else ((cat (⟨#[109]⟩ : ByteArray) v3).bind fun x13 => (some ((⟨#[109]⟩ : ByteArray) ++ v3)))
def m_laws_markText (p0 : Int) : Option ByteArray :=
  if (decide (p0 ≤ 0)) = true then (some (⟨#[109, 48]⟩ : ByteArray)) else (m_laws_markText_L1 fuel p0 (⟨#[]⟩ : ByteArray))
def m_laws_markByteS_L1  : Nat → Int → Int → List Int → Option (List Int × Int)
  | 0, _, _, _ => none
  | nL1 + 1, v1, v5, r99 => if (decide (v5 < (List.length r99 : Int))) = true then ((idx r99 v5).bind fun x8 => ((some (List.set r99 v5.toNat (IntKind.u8.wrap v1))).bind fun y13 => (m_laws_markByteS_L1 nL1 (IntKind.i64.wrap (v1 + 1)) (IntKind.i64.wrap (v5 + 1)) y13))) else (some (r99, v1))
def m_laws_markByteS (p0 : List Int) (p1 : Int) : Option (List Int × Int) :=
  m_laws_markByteS_L1 fuel p1 0 p0
def m_laws_markCachedS_L1  : Nat → Int → Int → List M.Cached → Option (List M.Cached × Int)
  | 0, _, _, _ => none
  | nL1 + 1, v1, v5, r99 => if (decide (v5 < (List.length r99 : Int))) = true then ((m_laws_markText v1).bind fun x8 => ((idx r99 v5).bind fun x10 => ((some (List.set r99 v5.toNat (⟨x8, x10.Path, x10.Response⟩ : M.Cached))).bind fun y15 => ((m_laws_markText (IntKind.i64.wrap (v1 + 1))).bind fun x23 => ((idx y15 v5).bind fun x25 => ((some (List.set y15 v5.toNat (⟨x25.Site, x23, x25.Response⟩ : M.Cached))).bind fun y30 => ((idx y30 v5).bind fun x38 => ((some (List.set y30 v5.toNat (⟨x38.Site, x38.Path, (⟨(IntKind.i64.wrap ((IntKind.i64.wrap (v1 + 1)) + 1)), x38.Response.Status, x38.Response.Version, x38.Response.Body, x38.Response.Shares⟩ : M.Response)⟩ : M.Cached))).bind fun y43 => ((idx y43 v5).bind fun x51 => ((some (List.set y43 v5.toNat (⟨x51.Site, x51.Path, (⟨x51.Response.Type_, (IntKind.i64.wrap ((IntKind.i64.wrap ((IntKind.i64.wrap (v1 + 1)) + 1)) + 1)), x51.Response.Version, x51.Response.Body, x51.Response.Shares⟩ : M.Response)⟩ : M.Cached))).bind fun y56 => ((idx y56 v5).bind fun x64 => ((some (List.set y56 v5.toNat (⟨x64.Site, x64.Path, (⟨x64.Response.Type_, x64.Response.Status, (IntKind.i64.wrap ((IntKind.i64.wrap ((IntKind.i64.wrap ((IntKind.i64.wrap (v1 + 1)) + 1)) + 1)) + 1)), x64.Response.Body, x64.Response.Shares⟩ : M.Response)⟩ : M.Cached))).bind fun y69 => ((idx y69 v5).bind fun x77 => ((m_laws_markByteS x77.Response.Body (IntKind.i64.wrap ((IntKind.i64.wrap ((IntKind.i64.wrap ((IntKind.i64.wrap ((IntKind.i64.wrap (v1 + 1)) + 1)) + 1)) + 1)) + 1))).bind fun x82 => ((some (List.set y69 v5.toNat (⟨x77.Site, x77.Path, (⟨x77.Response.Type_, x77.Response.Status, x77.Response.Version, x82.1, x77.Response.Shares⟩ : M.Response)⟩ : M.Cached))).bind fun y84 => ((idx y84 v5).bind fun x92 => ((some (List.set y84 v5.toNat (⟨x92.Site, x92.Path, (⟨x92.Response.Type_, x92.Response.Status, x92.Response.Version, x92.Response.Body, ((Int.tmod x82.2 3) == 0)⟩ : M.Response)⟩ : M.Cached))).bind fun y97 => (m_laws_markCachedS_L1 nL1 (IntKind.i64.wrap (x82.2 + 1)) (IntKind.i64.wrap (v5 + 1)) y97)))))))))))))))))) else (some (r99, v1))
def m_laws_markCachedS (p0 : List M.Cached) (p1 : Int) : Option (List M.Cached × Int) :=
  m_laws_markCachedS_L1 fuel p1 0 p0
def m_laws_markCacheS_L1  : Nat → Int → Int → List M.Cache → Option (List M.Cache × Int)
  | 0, _, _, _ => none
  | nL1 + 1, v1, v5, r99 => if (decide (v5 < (List.length r99 : Int))) = true then ((idx r99 v5).bind fun x8 => ((some (List.set r99 v5.toNat (⟨v1, x8.Entries⟩ : M.Cache))).bind fun y13 => ((idx y13 v5).bind fun x21 => ((m_laws_markCachedS x21.Entries (IntKind.i64.wrap (v1 + 1))).bind fun x26 => ((some (List.set y13 v5.toNat (⟨x21.Version, x26.1⟩ : M.Cache))).bind fun y28 => (m_laws_markCacheS_L1 nL1 x26.2 (IntKind.i64.wrap (v5 + 1)) y28)))))) else (some (r99, v1))
def m_laws_markCacheS (p0 : List M.Cache) (p1 : Int) : Option (List M.Cache × Int) :=
  m_laws_markCacheS_L1 fuel p1 0 p0
def m_laws_markCacheSet (p0 : M.CacheSet) (p1 : Int) : Option (List M.Cache × Int) :=
  (m_laws_markCacheS p0.Caches p1).bind fun x1 => (some (x1.1, x1.2))
def m_laws_markFieldS_L1  : Nat → Int → Int → List M.Field → Option (List M.Field × Int)
  | 0, _, _, _ => none
  | nL1 + 1, v1, v5, r99 => if (decide (v5 < (List.length r99 : Int))) = true then ((m_laws_markText v1).bind fun x8 => ((idx r99 v5).bind fun x10 => ((some (List.set r99 v5.toNat (⟨x8, x10.N⟩ : M.Field))).bind fun y15 => ((idx y15 v5).bind fun x23 => ((some (List.set y15 v5.toNat (⟨x23.Name, (IntKind.i64.wrap (v1 + 1))⟩ : M.Field))).bind fun y28 => (m_laws_markFieldS_L1 nL1 (IntKind.i64.wrap ((IntKind.i64.wrap (v1 + 1)) + 1)) (IntKind.i64.wrap (v5 + 1)) y28)))))) else (some (r99, v1))
def m_laws_markFieldS (p0 : List M.Field) (p1 : Int) : Option (List M.Field × Int) :=
  m_laws_markFieldS_L1 fuel p1 0 p0
def m_laws_markItemS_L1  : Nat → Int → Int → List M.Item → Option (List M.Item × Int)
  | 0, _, _, _ => none
  | nL1 + 1, v1, v5, r99 => if (decide (v5 < (List.length r99 : Int))) = true then ((idx r99 v5).bind fun x8 => ((some (List.set r99 v5.toNat (⟨(⟨v1, x8.Key.N, x8.Key.Text⟩ : M.Key), x8.Record⟩ : M.Item))).bind fun y13 => ((idx y13 v5).bind fun x21 => ((some (List.set y13 v5.toNat (⟨(⟨x21.Key.Kind, (IntKind.i64.wrap (v1 + 1)), x21.Key.Text⟩ : M.Key), x21.Record⟩ : M.Item))).bind fun y26 => ((m_laws_markText (IntKind.i64.wrap ((IntKind.i64.wrap (v1 + 1)) + 1))).bind fun x34 => ((idx y26 v5).bind fun x36 => ((some (List.set y26 v5.toNat (⟨(⟨x36.Key.Kind, x36.Key.N, x34⟩ : M.Key), x36.Record⟩ : M.Item))).bind fun y41 => ((idx y41 v5).bind fun x49 => ((m_laws_markFieldS x49.Record.Fields (IntKind.i64.wrap ((IntKind.i64.wrap ((IntKind.i64.wrap (v1 + 1)) + 1)) + 1))).bind fun x54 => ((some (List.set y41 v5.toNat (⟨x49.Key, (⟨x54.1⟩ : M.Record)⟩ : M.Item))).bind fun y56 => (m_laws_markItemS_L1 nL1 x54.2 (IntKind.i64.wrap (v5 + 1)) y56))))))))))) else (some (r99, v1))
def m_laws_markItemS (p0 : List M.Item) (p1 : Int) : Option (List M.Item × Int) :=
  m_laws_markItemS_L1 fuel p1 0 p0
def m_laws_markStoreS_L1  : Nat → Int → Int → List M.Store → Option (List M.Store × Int)
  | 0, _, _, _ => none
  | nL1 + 1, v1, v5, r99 => if (decide (v5 < (List.length r99 : Int))) = true then ((m_laws_markText v1).bind fun x8 => ((idx r99 v5).bind fun x10 => ((some (List.set r99 v5.toNat (⟨x8, x10.Items, x10.Auto⟩ : M.Store))).bind fun y15 => ((idx y15 v5).bind fun x23 => ((m_laws_markItemS x23.Items (IntKind.i64.wrap (v1 + 1))).bind fun x28 => ((some (List.set y15 v5.toNat (⟨x23.Name, x28.1, x23.Auto⟩ : M.Store))).bind fun y30 => ((idx y30 v5).bind fun x38 => ((some (List.set y30 v5.toNat (⟨x38.Name, x38.Items, x28.2⟩ : M.Store))).bind fun y43 => (m_laws_markStoreS_L1 nL1 (IntKind.i64.wrap (x28.2 + 1)) (IntKind.i64.wrap (v5 + 1)) y43))))))))) else (some (r99, v1))
def m_laws_markStoreS (p0 : List M.Store) (p1 : Int) : Option (List M.Store × Int) :=
  m_laws_markStoreS_L1 fuel p1 0 p0
def m_laws_markIndexDefS_L1  : Nat → Int → Int → List M.IndexDef → Option (List M.IndexDef × Int)
  | 0, _, _, _ => none
  | nL1 + 1, v1, v5, r99 => if (decide (v5 < (List.length r99 : Int))) = true then ((m_laws_markText v1).bind fun x8 => ((idx r99 v5).bind fun x10 => ((some (List.set r99 v5.toNat (⟨x8, x10.Field⟩ : M.IndexDef))).bind fun y15 => ((m_laws_markText (IntKind.i64.wrap (v1 + 1))).bind fun x23 => ((idx y15 v5).bind fun x25 => ((some (List.set y15 v5.toNat (⟨x25.Store, x23⟩ : M.IndexDef))).bind fun y30 => (m_laws_markIndexDefS_L1 nL1 (IntKind.i64.wrap ((IntKind.i64.wrap (v1 + 1)) + 1)) (IntKind.i64.wrap (v5 + 1)) y30))))))) else (some (r99, v1))
def m_laws_markIndexDefS (p0 : List M.IndexDef) (p1 : Int) : Option (List M.IndexDef × Int) :=
  m_laws_markIndexDefS_L1 fuel p1 0 p0
def m_laws_markDatabase (p0 : M.Database) (p1 : Int) : Option (List M.Store × List M.IndexDef × Int) :=
  (m_laws_markStoreS p0.Stores p1).bind fun x1 => ((m_laws_markIndexDefS p0.Unique x1.2).bind fun x8 => (some (x1.1, x8.1, x8.2)))
def m_laws_markDisk (p0 : M.Disk) (p1 : Int) : Option (List M.Store × List M.IndexDef × List Int × Int) :=
  (m_laws_markDatabase p0.Base p1).bind fun x1 => ((m_laws_markByteS p0.Log x1.2.2).bind fun x8 => (some (x1.1, x1.2.1, x8.1, x8.2)))
def m_laws_markStore (p0 : M.Store) (p1 : Int) : Option (List M.Item × Int) :=
  (m_laws_markItemS p0.Items p1).bind fun x1 => (some (x1.1, x1.2))
def m_laws_markWriteS_L1  : Nat → Int → Int → List M.Write → Option (List M.Write × Int)
  | 0, _, _, _ => none
  | nL1 + 1, v1, v5, r99 => if (decide (v5 < (List.length r99 : Int))) = true then ((idx r99 v5).bind fun x8 => ((some (List.set r99 v5.toNat (⟨v1, x8.Seq, x8.Key, x8.Field, x8.N⟩ : M.Write))).bind fun y13 => ((idx y13 v5).bind fun x21 => ((some (List.set y13 v5.toNat (⟨x21.Device, (IntKind.i64.wrap (v1 + 1)), x21.Key, x21.Field, x21.N⟩ : M.Write))).bind fun y26 => ((idx y26 v5).bind fun x34 => ((some (List.set y26 v5.toNat (⟨x34.Device, x34.Seq, (⟨(IntKind.i64.wrap ((IntKind.i64.wrap (v1 + 1)) + 1)), x34.Key.N, x34.Key.Text⟩ : M.Key), x34.Field, x34.N⟩ : M.Write))).bind fun y39 => ((idx y39 v5).bind fun x47 => ((some (List.set y39 v5.toNat (⟨x47.Device, x47.Seq, (⟨x47.Key.Kind, (IntKind.i64.wrap ((IntKind.i64.wrap ((IntKind.i64.wrap (v1 + 1)) + 1)) + 1)), x47.Key.Text⟩ : M.Key), x47.Field, x47.N⟩ : M.Write))).bind fun y52 => ((m_laws_markText (IntKind.i64.wrap ((IntKind.i64.wrap ((IntKind.i64.wrap ((IntKind.i64.wrap (v1 + 1)) + 1)) + 1)) + 1))).bind fun x60 => ((idx y52 v5).bind fun x62 => ((some (List.set y52 v5.toNat (⟨x62.Device, x62.Seq, (⟨x62.Key.Kind, x62.Key.N, x60⟩ : M.Key), x62.Field, x62.N⟩ : M.Write))).bind fun y67 => ((m_laws_markText (IntKind.i64.wrap ((IntKind.i64.wrap ((IntKind.i64.wrap ((IntKind.i64.wrap ((IntKind.i64.wrap (v1 + 1)) + 1)) + 1)) + 1)) + 1))).bind fun x75 => ((idx y67 v5).bind fun x77 => ((some (List.set y67 v5.toNat (⟨x77.Device, x77.Seq, x77.Key, x75, x77.N⟩ : M.Write))).bind fun y82 => ((idx y82 v5).bind fun x90 => ((some (List.set y82 v5.toNat (⟨x90.Device, x90.Seq, x90.Key, x90.Field, (IntKind.i64.wrap ((IntKind.i64.wrap ((IntKind.i64.wrap ((IntKind.i64.wrap ((IntKind.i64.wrap ((IntKind.i64.wrap (v1 + 1)) + 1)) + 1)) + 1)) + 1)) + 1))⟩ : M.Write))).bind fun y95 => (m_laws_markWriteS_L1 nL1 (IntKind.i64.wrap ((IntKind.i64.wrap ((IntKind.i64.wrap ((IntKind.i64.wrap ((IntKind.i64.wrap ((IntKind.i64.wrap ((IntKind.i64.wrap (v1 + 1)) + 1)) + 1)) + 1)) + 1)) + 1)) + 1)) (IntKind.i64.wrap (v5 + 1)) y95))))))))))))))))) else (some (r99, v1))
def m_laws_markWriteS (p0 : List M.Write) (p1 : Int) : Option (List M.Write × Int) :=
  m_laws_markWriteS_L1 fuel p1 0 p0
def m_laws_markOutbox (p0 : M.Outbox) (p1 : Int) : Option (List M.Write × Int) :=
  (m_laws_markWriteS p0.Writes p1).bind fun x1 => (some (x1.1, x1.2))
def m_laws_markSync (p0 : M.Sync) (p1 : Int) : Option (List M.Write × Int) :=
  (m_laws_markOutbox p0.Outbox p1).bind fun x1 => (some (x1.1, x1.2))
def m_laws_markReplica (p0 : M.Replica) (p1 : Int) : Option (List M.Item × List M.Write × Int) :=
  (m_laws_markStore p0.Base p1).bind fun x1 => ((m_laws_markSync p0.Sync x1.2).bind fun x8 => (some (x1.1, x8.1, x8.2)))
def m_laws_markBucket (p0 : M.Bucket) (p1 : Int) : Option (List M.Cache × List M.Store × List M.IndexDef × List Int × List M.Item × List M.Write × Int) :=
  (m_laws_markCacheSet p0.Caches p1).bind fun x1 => ((m_laws_markDisk p0.Disk x1.2).bind fun x8 => ((m_laws_markReplica p0.Replica x8.2.2.2).bind fun x15 => (some (x1.1, x8.1, x8.2.1, x8.2.2.1, x15.1, x15.2.1, x15.2.2))))
def m_laws_heldByteS_L1 (p0 : List Int) : Nat → Int → Int → Option Int
  | 0, _, _ => none
  | nL1 + 1, v1, v5 => if (decide (v5 < (List.length p0 : Int))) = true then ((idx p0 v5).bind fun x6 => (if (x6 != (IntKind.u8.wrap v1)) = true then (some (-1)) else (m_laws_heldByteS_L1 p0 nL1 (IntKind.i64.wrap (v1 + 1)) (IntKind.i64.wrap (v5 + 1))))) else (some v1)
def m_laws_heldByteS (p0 : List Int) (p1 : Int) : Option Int :=
  m_laws_heldByteS_L1 p0 fuel p1 0
def m_laws_heldCachedS_L1 (p0 : List M.Cached) : Nat → Int → Int → Option Int
  | 0, _, _ => none
  | nL1 + 1, v1, v5 => if (decide (v5 < (List.length p0 : Int))) = true then ((idx p0 v5).bind fun x6 => ((m_laws_markText v1).bind fun x11 => (if (!(x6.Site.toList == x11.toList)) = true then (some (-1)) else ((m_laws_markText (IntKind.i64.wrap (v1 + 1))).bind fun x14 => (if (!(x6.Path.toList == x14.toList)) = true then (some (-1)) else (if (x6.Response.Type_ != (IntKind.i64.wrap ((IntKind.i64.wrap (v1 + 1)) + 1))) = true then (some (-1)) else (if (x6.Response.Status != (IntKind.i64.wrap ((IntKind.i64.wrap ((IntKind.i64.wrap (v1 + 1)) + 1)) + 1))) = true then (some (-1)) else (if (x6.Response.Version != (IntKind.i64.wrap ((IntKind.i64.wrap ((IntKind.i64.wrap ((IntKind.i64.wrap (v1 + 1)) + 1)) + 1)) + 1))) = true then (some (-1)) else ((m_laws_heldByteS x6.Response.Body (IntKind.i64.wrap ((IntKind.i64.wrap ((IntKind.i64.wrap ((IntKind.i64.wrap ((IntKind.i64.wrap (v1 + 1)) + 1)) + 1)) + 1)) + 1))).bind fun x20 => (if (decide (x20 < 0)) = true then (some (-1)) else (if (!(x6.Response.Shares == ((Int.tmod x20 3) == 0))) = true then (some (-1)) else (m_laws_heldCachedS_L1 p0 nL1 (IntKind.i64.wrap (x20 + 1)) (IntKind.i64.wrap (v5 + 1)))))))))))))) else (some v1)
def m_laws_heldCachedS (p0 : List M.Cached) (p1 : Int) : Option Int :=
  m_laws_heldCachedS_L1 p0 fuel p1 0
def m_laws_heldCacheS_L1 (p0 : List M.Cache) : Nat → Int → Int → Option Int
  | 0, _, _ => none
  | nL1 + 1, v1, v5 => if (decide (v5 < (List.length p0 : Int))) = true then ((idx p0 v5).bind fun x6 => (if (x6.Version != v1) = true then (some (-1)) else ((m_laws_heldCachedS x6.Entries (IntKind.i64.wrap (v1 + 1))).bind fun x12 => (if (decide (x12 < 0)) = true then (some (-1)) else (m_laws_heldCacheS_L1 p0 nL1 x12 (IntKind.i64.wrap (v5 + 1))))))) else (some v1)
def m_laws_heldCacheS (p0 : List M.Cache) (p1 : Int) : Option Int :=
  m_laws_heldCacheS_L1 p0 fuel p1 0
def m_laws_heldCacheSet (p0 : M.CacheSet) (p1 : Int) : Option Int :=
  (m_laws_heldCacheS p0.Caches p1).bind fun x1 => (if (decide (x1 < 0)) = true then (some (-1)) else (some x1))
def m_laws_heldFieldS_L1 (p0 : List M.Field) : Nat → Int → Int → Option Int
  | 0, _, _ => none
  | nL1 + 1, v1, v5 => if (decide (v5 < (List.length p0 : Int))) = true then ((idx p0 v5).bind fun x6 => ((m_laws_markText v1).bind fun x11 => (if (!(x6.Name.toList == x11.toList)) = true then (some (-1)) else (if (x6.N != (IntKind.i64.wrap (v1 + 1))) = true then (some (-1)) else (m_laws_heldFieldS_L1 p0 nL1 (IntKind.i64.wrap ((IntKind.i64.wrap (v1 + 1)) + 1)) (IntKind.i64.wrap (v5 + 1))))))) else (some v1)
def m_laws_heldFieldS (p0 : List M.Field) (p1 : Int) : Option Int :=
  m_laws_heldFieldS_L1 p0 fuel p1 0
def m_laws_heldItemS_L1 (p0 : List M.Item) : Nat → Int → Int → Option Int
  | 0, _, _ => none
  | nL1 + 1, v1, v5 => if (decide (v5 < (List.length p0 : Int))) = true then ((idx p0 v5).bind fun x6 => (if (x6.Key.Kind != v1) = true then (some (-1)) else (if (x6.Key.N != (IntKind.i64.wrap (v1 + 1))) = true then (some (-1)) else ((m_laws_markText (IntKind.i64.wrap ((IntKind.i64.wrap (v1 + 1)) + 1))).bind fun x13 => (if (!(x6.Key.Text.toList == x13.toList)) = true then (some (-1)) else ((m_laws_heldFieldS x6.Record.Fields (IntKind.i64.wrap ((IntKind.i64.wrap ((IntKind.i64.wrap (v1 + 1)) + 1)) + 1))).bind fun x16 => (if (decide (x16 < 0)) = true then (some (-1)) else (m_laws_heldItemS_L1 p0 nL1 x16 (IntKind.i64.wrap (v5 + 1)))))))))) else (some v1)
def m_laws_heldItemS (p0 : List M.Item) (p1 : Int) : Option Int :=
  m_laws_heldItemS_L1 p0 fuel p1 0
def m_laws_heldStoreS_L1 (p0 : List M.Store) : Nat → Int → Int → Option Int
  | 0, _, _ => none
  | nL1 + 1, v1, v5 => if (decide (v5 < (List.length p0 : Int))) = true then ((idx p0 v5).bind fun x6 => ((m_laws_markText v1).bind fun x11 => (if (!(x6.Name.toList == x11.toList)) = true then (some (-1)) else ((m_laws_heldItemS x6.Items (IntKind.i64.wrap (v1 + 1))).bind fun x14 => (if (decide (x14 < 0)) = true then (some (-1)) else (if (x6.Auto != x14) = true then (some (-1)) else (m_laws_heldStoreS_L1 p0 nL1 (IntKind.i64.wrap (x14 + 1)) (IntKind.i64.wrap (v5 + 1))))))))) else (some v1)
def m_laws_heldStoreS (p0 : List M.Store) (p1 : Int) : Option Int :=
  m_laws_heldStoreS_L1 p0 fuel p1 0
def m_laws_heldIndexDefS_L1 (p0 : List M.IndexDef) : Nat → Int → Int → Option Int
  | 0, _, _ => none
  | nL1 + 1, v1, v5 => if (decide (v5 < (List.length p0 : Int))) = true then ((idx p0 v5).bind fun x6 => ((m_laws_markText v1).bind fun x11 => (if (!(x6.Store.toList == x11.toList)) = true then (some (-1)) else ((m_laws_markText (IntKind.i64.wrap (v1 + 1))).bind fun x14 => (if (!(x6.Field.toList == x14.toList)) = true then (some (-1)) else (m_laws_heldIndexDefS_L1 p0 nL1 (IntKind.i64.wrap ((IntKind.i64.wrap (v1 + 1)) + 1)) (IntKind.i64.wrap (v5 + 1)))))))) else (some v1)
def m_laws_heldIndexDefS (p0 : List M.IndexDef) (p1 : Int) : Option Int :=
  m_laws_heldIndexDefS_L1 p0 fuel p1 0
def m_laws_heldDatabase (p0 : M.Database) (p1 : Int) : Option Int :=
  (m_laws_heldStoreS p0.Stores p1).bind fun x1 => (if (decide (x1 < 0)) = true then (some (-1)) else ((m_laws_heldIndexDefS p0.Unique x1).bind fun x4 => (if (decide (x4 < 0)) = true then (some (-1)) else (some x4))))
def m_laws_heldDisk (p0 : M.Disk) (p1 : Int) : Option Int :=
  (m_laws_heldDatabase p0.Base p1).bind fun x1 => (if (decide (x1 < 0)) = true then (some (-1)) else ((m_laws_heldByteS p0.Log x1).bind fun x4 => (if (decide (x4 < 0)) = true then (some (-1)) else (some x4))))
def m_laws_heldStore (p0 : M.Store) (p1 : Int) : Option Int :=
  (m_laws_heldItemS p0.Items p1).bind fun x1 => (if (decide (x1 < 0)) = true then (some (-1)) else (some x1))
def m_laws_heldWriteS_L1 (p0 : List M.Write) : Nat → Int → Int → Option Int
  | 0, _, _ => none
  | nL1 + 1, v1, v5 => if (decide (v5 < (List.length p0 : Int))) = true then ((idx p0 v5).bind fun x6 => (if (x6.Device != v1) = true then (some (-1)) else (if (x6.Seq != (IntKind.i64.wrap (v1 + 1))) = true then (some (-1)) else (if (x6.Key.Kind != (IntKind.i64.wrap ((IntKind.i64.wrap (v1 + 1)) + 1))) = true then (some (-1)) else (if (x6.Key.N != (IntKind.i64.wrap ((IntKind.i64.wrap ((IntKind.i64.wrap (v1 + 1)) + 1)) + 1))) = true then (some (-1)) else ((m_laws_markText (IntKind.i64.wrap ((IntKind.i64.wrap ((IntKind.i64.wrap ((IntKind.i64.wrap (v1 + 1)) + 1)) + 1)) + 1))).bind fun x15 => (if (!(x6.Key.Text.toList == x15.toList)) = true then (some (-1)) else ((m_laws_markText (IntKind.i64.wrap ((IntKind.i64.wrap ((IntKind.i64.wrap ((IntKind.i64.wrap ((IntKind.i64.wrap (v1 + 1)) + 1)) + 1)) + 1)) + 1))).bind fun x18 => (if (!(x6.Field.toList == x18.toList)) = true then (some (-1)) else (if (x6.N != (IntKind.i64.wrap ((IntKind.i64.wrap ((IntKind.i64.wrap ((IntKind.i64.wrap ((IntKind.i64.wrap ((IntKind.i64.wrap (v1 + 1)) + 1)) + 1)) + 1)) + 1)) + 1))) = true then (some (-1)) else (m_laws_heldWriteS_L1 p0 nL1 (IntKind.i64.wrap ((IntKind.i64.wrap ((IntKind.i64.wrap ((IntKind.i64.wrap ((IntKind.i64.wrap ((IntKind.i64.wrap ((IntKind.i64.wrap (v1 + 1)) + 1)) + 1)) + 1)) + 1)) + 1)) + 1)) (IntKind.i64.wrap (v5 + 1))))))))))))) else (some v1)
def m_laws_heldWriteS (p0 : List M.Write) (p1 : Int) : Option Int :=
  m_laws_heldWriteS_L1 p0 fuel p1 0
def m_laws_heldOutbox (p0 : M.Outbox) (p1 : Int) : Option Int :=
  (m_laws_heldWriteS p0.Writes p1).bind fun x1 => (if (decide (x1 < 0)) = true then (some (-1)) else (some x1))
def m_laws_heldSync (p0 : M.Sync) (p1 : Int) : Option Int :=
  (m_laws_heldOutbox p0.Outbox p1).bind fun x1 => (if (decide (x1 < 0)) = true then (some (-1)) else (some x1))
def m_laws_heldReplica (p0 : M.Replica) (p1 : Int) : Option Int :=
  (m_laws_heldStore p0.Base p1).bind fun x1 => (if (decide (x1 < 0)) = true then (some (-1)) else ((m_laws_heldSync p0.Sync x1).bind fun x4 => (if (decide (x4 < 0)) = true then (some (-1)) else (some x4))))
def m_laws_heldBucket (p0 : M.Bucket) (p1 : Int) : Option Int :=
  (m_laws_heldCacheSet p0.Caches p1).bind fun x1 => (if (decide (x1 < 0)) = true then (some (-1)) else ((m_laws_heldDisk p0.Disk x1).bind fun x4 => (if (decide (x4 < 0)) = true then (some (-1)) else ((m_laws_heldReplica p0.Replica x4).bind fun x7 => (if (decide (x7 < 0)) = true then (some (-1)) else (some x7))))))
def m_laws_FnExactReplaceDisk (p0 : M.Bucket) (p1 : M.Disk) : Option Bool :=
  (m_laws_szBucket p0 1048576).bind fun x1 => (if (decide (x1 < 0)) = true then (some true) else ((m_laws_szDisk p1 x1).bind fun x4 => (if (decide (x4 < 0)) = true then (some true) else ((m_laws_toBucket p0).bind fun x7 => ((m_laws_toDisk p1).bind fun x9 => ((m_spec_ReplaceDisk x7 x9).bind fun x11 => ((m_laws_toBucket p0).bind fun x13 => ((m_laws_toDisk p1).bind fun x15 => ((m_impl_ReplaceDisk x13 x15).bind fun x17 => ((m_laws_eqBucket x17.1 x11.1).bind fun x19 => (if (!x19) = true then (some false) else (if (!(x17.2 == x11.2)) = true then (some false) else ((m_laws_toBucket p0).bind fun x23 => ((m_laws_eqBucket x13 x23).bind fun x25 => (if (!x25) = true then (some false) else ((m_laws_toDisk p1).bind fun x28 => ((m_laws_eqDisk x15 x28).bind fun x30 => (if (!x30) = true then (some false) else ((m_laws_markBucket x13 1).bind fun x70 => ((m_laws_markDisk x15 x70.2.2.2.2.2.2).bind fun x101 => (if (decide (x101.2.2.2 < 0)) = true then (some false) else ((m_laws_eqBucket x17.1 x11.1).bind fun x128 => (if (!x128) = true then (some false) else ((m_laws_markBucket x17.1 1).bind fun x131 => ((m_laws_heldBucket (⟨x17.1.Site, x17.1.Top, x17.1.Registration, (⟨x131.1⟩ : M.CacheSet), (⟨(⟨x17.1.Disk.Base.Name, x17.1.Disk.Base.Version, x131.2.1, x131.2.2.1⟩ : M.Database), x131.2.2.2.1, x17.1.Disk.Count⟩ : M.Disk), (⟨(⟨x17.1.Replica.Base.Name, x131.2.2.2.2.1, x17.1.Replica.Base.Auto⟩ : M.Store), x17.1.Replica.Seen, (⟨(⟨x17.1.Replica.Sync.Outbox.Device, x17.1.Replica.Sync.Outbox.Next, x131.2.2.2.2.2.1⟩ : M.Outbox), x17.1.Replica.Sync.Tries, x17.1.Replica.Sync.WaitUntil⟩ : M.Sync)⟩ : M.Replica), x17.1.LastUsed, x17.1.Persistent⟩ : M.Bucket) 1).bind fun x156 => (if (decide (x156 < 0)) = true then (some false) else (if (x156 != x131.2.2.2.2.2.2) = true then (some false) else ((m_laws_toBucket p0).bind fun x160 => ((m_laws_toDisk p1).bind fun x162 => ((m_impl_ReplaceDisk x160 x162).bind fun x164 => ((m_laws_eqBucket x164.1 x11.1).bind fun x166 => (if (!x166) = true then (some false) else (if (!(x164.2 == x11.2)) = true then (some false) else ((m_laws_heldBucket (⟨x17.1.Site, x17.1.Top, x17.1.Registration, (⟨x131.1⟩ : M.CacheSet), (⟨(⟨x17.1.Disk.Base.Name, x17.1.Disk.Base.Version, x131.2.1, x131.2.2.1⟩ : M.Database), x131.2.2.2.1, x17.1.Disk.Count⟩ : M.Disk), (⟨(⟨x17.1.Replica.Base.Name, x131.2.2.2.2.1, x17.1.Replica.Base.Auto⟩ : M.Store), x17.1.Replica.Seen, (⟨(⟨x17.1.Replica.Sync.Outbox.Device, x17.1.Replica.Sync.Outbox.Next, x131.2.2.2.2.2.1⟩ : M.Outbox), x17.1.Replica.Sync.Tries, x17.1.Replica.Sync.WaitUntil⟩ : M.Sync)⟩ : M.Replica), x17.1.LastUsed, x17.1.Persistent⟩ : M.Bucket) 1).bind fun x170 => (if (decide (x170 < 0)) = true then (some false) else (if (x170 != x131.2.2.2.2.2.2) = true then (some false) else (some true)))))))))))))))))))))))))))))))))))))
def m_spec_ReplaceReplica (p0 : M.Bucket) (p1 : M.Replica) : Option (M.Bucket × Bool) :=
  (m_spec_l27Copy p0).bind fun x1 => ((m_spec_l23Copy p1).bind fun x3 => ((m_spec_l27Change p0 (⟨x1.Site, x1.Top, x1.Registration, x1.Caches, x1.Disk, x3, x1.LastUsed, x1.Persistent⟩ : M.Bucket)).bind fun x5 => (if x5.2 = true then (some ((⟨x1.Site, x1.Top, x1.Registration, x1.Caches, x1.Disk, x3, x1.LastUsed, x1.Persistent⟩ : M.Bucket), true)) else (some (x5.1, false)))))
def m_impl_ReplaceReplica (p0 : M.Bucket) (p1 : M.Replica) : Option (M.Bucket × Bool) :=
  (m_impl_changedBucket p0 (⟨p0.Site, p0.Top, p0.Registration, p0.Caches, p0.Disk, p1, p0.LastUsed, p0.Persistent⟩ : M.Bucket)).bind fun x1 => (some (x1.1, x1.2))
def m_laws_FnExactReplaceReplica (p0 : M.Bucket) (p1 : M.Replica) : Option Bool :=
  (m_laws_szBucket p0 1048576).bind fun x1 => (if (decide (x1 < 0)) = true then (some true) else ((m_laws_szReplica p1 x1).bind fun x4 => (if (decide (x4 < 0)) = true then (some true) else ((m_laws_toBucket p0).bind fun x7 => ((m_laws_toReplica p1).bind fun x9 => ((m_spec_ReplaceReplica x7 x9).bind fun x11 => ((m_laws_toBucket p0).bind fun x13 => ((m_laws_toReplica p1).bind fun x15 => ((m_impl_ReplaceReplica x13 x15).bind fun x17 => ((m_laws_eqBucket x17.1 x11.1).bind fun x19 => (if (!x19) = true then (some false) else (if (!(x17.2 == x11.2)) = true then (some false) else ((m_laws_toBucket p0).bind fun x23 => ((m_laws_eqBucket x13 x23).bind fun x25 => (if (!x25) = true then (some false) else ((m_laws_toReplica p1).bind fun x28 => ((m_laws_eqReplica x15 x28).bind fun x30 => (if (!x30) = true then (some false) else ((m_laws_markBucket x13 1).bind fun x69 => ((m_laws_markReplica x15 x69.2.2.2.2.2.2).bind fun x99 => (if (decide (x99.2.2 < 0)) = true then (some false) else ((m_laws_eqBucket x17.1 x11.1).bind fun x126 => (if (!x126) = true then (some false) else ((m_laws_markBucket x17.1 1).bind fun x129 => ((m_laws_heldBucket (⟨x17.1.Site, x17.1.Top, x17.1.Registration, (⟨x129.1⟩ : M.CacheSet), (⟨(⟨x17.1.Disk.Base.Name, x17.1.Disk.Base.Version, x129.2.1, x129.2.2.1⟩ : M.Database), x129.2.2.2.1, x17.1.Disk.Count⟩ : M.Disk), (⟨(⟨x17.1.Replica.Base.Name, x129.2.2.2.2.1, x17.1.Replica.Base.Auto⟩ : M.Store), x17.1.Replica.Seen, (⟨(⟨x17.1.Replica.Sync.Outbox.Device, x17.1.Replica.Sync.Outbox.Next, x129.2.2.2.2.2.1⟩ : M.Outbox), x17.1.Replica.Sync.Tries, x17.1.Replica.Sync.WaitUntil⟩ : M.Sync)⟩ : M.Replica), x17.1.LastUsed, x17.1.Persistent⟩ : M.Bucket) 1).bind fun x154 => (if (decide (x154 < 0)) = true then (some false) else (if (x154 != x129.2.2.2.2.2.2) = true then (some false) else ((m_laws_toBucket p0).bind fun x158 => ((m_laws_toReplica p1).bind fun x160 => ((m_impl_ReplaceReplica x158 x160).bind fun x162 => ((m_laws_eqBucket x162.1 x11.1).bind fun x164 => (if (!x164) = true then (some false) else (if (!(x162.2 == x11.2)) = true then (some false) else ((m_laws_heldBucket (⟨x17.1.Site, x17.1.Top, x17.1.Registration, (⟨x129.1⟩ : M.CacheSet), (⟨(⟨x17.1.Disk.Base.Name, x17.1.Disk.Base.Version, x129.2.1, x129.2.2.1⟩ : M.Database), x129.2.2.2.1, x17.1.Disk.Count⟩ : M.Disk), (⟨(⟨x17.1.Replica.Base.Name, x129.2.2.2.2.1, x17.1.Replica.Base.Auto⟩ : M.Store), x17.1.Replica.Seen, (⟨(⟨x17.1.Replica.Sync.Outbox.Device, x17.1.Replica.Sync.Outbox.Next, x129.2.2.2.2.2.1⟩ : M.Outbox), x17.1.Replica.Sync.Tries, x17.1.Replica.Sync.WaitUntil⟩ : M.Sync)⟩ : M.Replica), x17.1.LastUsed, x17.1.Persistent⟩ : M.Bucket) 1).bind fun x168 => (if (decide (x168 < 0)) = true then (some false) else (if (x168 != x129.2.2.2.2.2.2) = true then (some false) else (some true)))))))))))))))))))))))))))))))))))))
def m_spec_ReplaceCaches (p0 : M.Bucket) (p1 : M.CacheSet) (p2 : M.Registration) : Option (M.Bucket × Bool) :=
  (m_spec_l27Copy p0).bind fun x1 => ((m_spec_l17Copy p1).bind fun x3 => ((m_spec_l27Change p0 (⟨x1.Site, x1.Top, p2, x3, x1.Disk, x1.Replica, x1.LastUsed, x1.Persistent⟩ : M.Bucket)).bind fun x5 => (if x5.2 = true then (some ((⟨x1.Site, x1.Top, p2, x3, x1.Disk, x1.Replica, x1.LastUsed, x1.Persistent⟩ : M.Bucket), true)) else (some (x5.1, false)))))
def m_impl_ReplaceCaches (p0 : M.Bucket) (p1 : M.CacheSet) (p2 : M.Registration) : Option (M.Bucket × Bool) :=
  (m_impl_changedBucket p0 (⟨p0.Site, p0.Top, p2, p1, p0.Disk, p0.Replica, p0.LastUsed, p0.Persistent⟩ : M.Bucket)).bind fun x1 => (some (x1.1, x1.2))
def m_laws_FnExactReplaceCaches (p0 : M.Bucket) (p1 : M.CacheSet) (p2 : M.Registration) : Option Bool :=
  (m_laws_szBucket p0 1048576).bind fun x1 => (if (decide (x1 < 0)) = true then (some true) else ((m_laws_szCacheSet p1 x1).bind fun x4 => (if (decide (x4 < 0)) = true then (some true) else ((m_laws_szRegistration p2 x4).bind fun x7 => (if (decide (x7 < 0)) = true then (some true) else ((m_laws_toBucket p0).bind fun x10 => ((m_laws_toCacheSet p1).bind fun x12 => ((m_laws_toRegistration p2).bind fun x14 => ((m_spec_ReplaceCaches x10 x12 x14).bind fun x16 => ((m_laws_toBucket p0).bind fun x18 => ((m_laws_toCacheSet p1).bind fun x20 => ((m_laws_toRegistration p2).bind fun x22 => ((m_impl_ReplaceCaches x18 x20 x22).bind fun x24 => ((m_laws_eqBucket x24.1 x16.1).bind fun x26 => (if (!x26) = true then (some false) else (if (!(x24.2 == x16.2)) = true then (some false) else ((m_laws_toBucket p0).bind fun x66 => ((m_laws_eqBucket x18 x66).bind fun x68 => (if (!x68) = true then (some false) else ((m_laws_toCacheSet p1).bind fun x71 => ((m_laws_eqCacheSet x20 x71).bind fun x73 => (if (!x73) = true then (some false) else ((m_laws_markBucket x18 1).bind fun x76 => ((m_laws_markCacheSet x20 x76.2.2.2.2.2.2).bind fun x107 => (if (decide (x107.2 < 0)) = true then (some false) else ((m_laws_eqBucket x24.1 x16.1).bind fun x136 => (if (!x136) = true then (some false) else ((m_laws_markBucket x24.1 1).bind fun x139 => ((m_laws_heldBucket (⟨x24.1.Site, x24.1.Top, x24.1.Registration, (⟨x139.1⟩ : M.CacheSet), (⟨(⟨x24.1.Disk.Base.Name, x24.1.Disk.Base.Version, x139.2.1, x139.2.2.1⟩ : M.Database), x139.2.2.2.1, x24.1.Disk.Count⟩ : M.Disk), (⟨(⟨x24.1.Replica.Base.Name, x139.2.2.2.2.1, x24.1.Replica.Base.Auto⟩ : M.Store), x24.1.Replica.Seen, (⟨(⟨x24.1.Replica.Sync.Outbox.Device, x24.1.Replica.Sync.Outbox.Next, x139.2.2.2.2.2.1⟩ : M.Outbox), x24.1.Replica.Sync.Tries, x24.1.Replica.Sync.WaitUntil⟩ : M.Sync)⟩ : M.Replica), x24.1.LastUsed, x24.1.Persistent⟩ : M.Bucket) 1).bind fun x166 => (if (decide (x166 < 0)) = true then (some false) else (if (x166 != x139.2.2.2.2.2.2) = true then (some false) else ((m_laws_toBucket p0).bind fun x170 => ((m_laws_toCacheSet p1).bind fun x172 => ((m_laws_toRegistration p2).bind fun x174 => ((m_impl_ReplaceCaches x170 x172 x174).bind fun x176 => ((m_laws_eqBucket x176.1 x16.1).bind fun x178 => (if (!x178) = true then (some false) else (if (!(x176.2 == x16.2)) = true then (some false) else ((m_laws_heldBucket (⟨x24.1.Site, x24.1.Top, x24.1.Registration, (⟨x139.1⟩ : M.CacheSet), (⟨(⟨x24.1.Disk.Base.Name, x24.1.Disk.Base.Version, x139.2.1, x139.2.2.1⟩ : M.Database), x139.2.2.2.1, x24.1.Disk.Count⟩ : M.Disk), (⟨(⟨x24.1.Replica.Base.Name, x139.2.2.2.2.1, x24.1.Replica.Base.Auto⟩ : M.Store), x24.1.Replica.Seen, (⟨(⟨x24.1.Replica.Sync.Outbox.Device, x24.1.Replica.Sync.Outbox.Next, x139.2.2.2.2.2.1⟩ : M.Outbox), x24.1.Replica.Sync.Tries, x24.1.Replica.Sync.WaitUntil⟩ : M.Sync)⟩ : M.Replica), x24.1.LastUsed, x24.1.Persistent⟩ : M.Bucket) 1).bind fun x182 => (if (decide (x182 < 0)) = true then (some false) else (if (x182 != x139.2.2.2.2.2.2) = true then (some false) else (some true))))))))))))))))))))))))))))))))))))))))))
end Go.Proofs.YtmpbibngijnfeaaGreat.gen
