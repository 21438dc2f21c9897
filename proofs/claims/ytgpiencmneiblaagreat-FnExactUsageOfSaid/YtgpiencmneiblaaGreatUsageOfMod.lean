/-
  Helper text: plain Lean models of the functions that the law reaches. No conditions.
-/
import Derived.Test.YtgpiencmneiblaaGreatShQ
namespace Go.Proofs.YtgpiencmneiblaaGreat.gen
open Go Go.Sh
set_option linter.unusedVariables false
set_option linter.unusedSimpArgs false
structure M.Registration where
  Site : ByteArray
  Installing : Int
  Waiting : Int
  Active : Int
def M.Registration.en (x : M.Registration) : List D := [.str x.Site, .int .i64 x.Installing, .int .i64 x.Waiting, .int .i64 x.Active]
theorem M.Registration.en.fl (l : List M.Registration) : (List.map M.Registration.en l).all (fun y => y.all D.flat) = true := flatL (fun _ => rfl) l
structure M.Response where
  Type_ : Int
  Status : Int
  Version : Int
  Body : List Int
  Shares : Bool
def M.Response.en (x : M.Response) : List D := [.int .i64 x.Type_, .int .i64 x.Status, .int .i64 x.Version, .sl (List.map enB x.Body), .bool x.Shares]
structure M.Cached where
  Site : ByteArray
  Path : ByteArray
  Response : M.Response
def M.Cached.en (x : M.Cached) : List D := [.str x.Site, .str x.Path, .int .i64 x.Response.Type_, .int .i64 x.Response.Status, .int .i64 x.Response.Version, .sl (List.map enB x.Response.Body), .bool x.Response.Shares]
structure M.Cache where
  Version : Int
  Entries : List M.Cached
def M.Cache.en (x : M.Cache) : List D := [.int .i64 x.Version, .sl (List.map M.Cached.en x.Entries)]
structure M.CacheSet where
  Caches : List M.Cache
def M.CacheSet.en (x : M.CacheSet) : List D := [.sl (List.map M.Cache.en x.Caches)]
structure M.Key where
  Kind : Int
  N : Int
  Text : ByteArray
def M.Key.en (x : M.Key) : List D := [.int .i64 x.Kind, .int .i64 x.N, .str x.Text]
theorem M.Key.en.fl (l : List M.Key) : (List.map M.Key.en l).all (fun y => y.all D.flat) = true := flatL (fun _ => rfl) l
structure M.Field where
  Name : ByteArray
  N : Int
def M.Field.en (x : M.Field) : List D := [.str x.Name, .int .i64 x.N]
theorem M.Field.en.fl (l : List M.Field) : (List.map M.Field.en l).all (fun y => y.all D.flat) = true := flatL (fun _ => rfl) l
structure M.Record where
  Fields : List M.Field
def M.Record.en (x : M.Record) : List D := [.sl (List.map M.Field.en x.Fields)]
structure M.Item where
  Key : M.Key
  Record : M.Record
def M.Item.en (x : M.Item) : List D := [.int .i64 x.Key.Kind, .int .i64 x.Key.N, .str x.Key.Text, .sl (List.map M.Field.en x.Record.Fields)]
structure M.Store where
  Name : ByteArray
  Items : List M.Item
  Auto : Int
def M.Store.en (x : M.Store) : List D := [.str x.Name, .sl (List.map M.Item.en x.Items), .int .i64 x.Auto]
structure M.IndexDef where
  Store : ByteArray
  Field : ByteArray
def M.IndexDef.en (x : M.IndexDef) : List D := [.str x.Store, .str x.Field]
theorem M.IndexDef.en.fl (l : List M.IndexDef) : (List.map M.IndexDef.en l).all (fun y => y.all D.flat) = true := flatL (fun _ => rfl) l
structure M.Database where
  Name : ByteArray
  Version : Int
  Stores : List M.Store
  Unique : List M.IndexDef
def M.Database.en (x : M.Database) : List D := [.str x.Name, .int .i64 x.Version, .sl (List.map M.Store.en x.Stores), .sl (List.map M.IndexDef.en x.Unique)]
structure M.Disk where
  Base : M.Database
  Log : List Int
  Count : Int
def M.Disk.en (x : M.Disk) : List D := [.str x.Base.Name, .int .i64 x.Base.Version, .sl (List.map M.Store.en x.Base.Stores), .sl (List.map M.IndexDef.en x.Base.Unique), .sl (List.map enB x.Log), .int .i64 x.Count]
structure M.Write where
  Device : Int
  Seq : Int
  Key : M.Key
  Field : ByteArray
  N : Int
def M.Write.en (x : M.Write) : List D := [.int .i64 x.Device, .int .i64 x.Seq, .int .i64 x.Key.Kind, .int .i64 x.Key.N, .str x.Key.Text, .str x.Field, .int .i64 x.N]
theorem M.Write.en.fl (l : List M.Write) : (List.map M.Write.en l).all (fun y => y.all D.flat) = true := flatL (fun _ => rfl) l
structure M.Outbox where
  Device : Int
  Next : Int
  Writes : List M.Write
def M.Outbox.en (x : M.Outbox) : List D := [.int .i64 x.Device, .int .i64 x.Next, .sl (List.map M.Write.en x.Writes)]
structure M.Sync where
  Outbox : M.Outbox
  Tries : Int
  WaitUntil : Int
def M.Sync.en (x : M.Sync) : List D := [.int .i64 x.Outbox.Device, .int .i64 x.Outbox.Next, .sl (List.map M.Write.en x.Outbox.Writes), .int .i64 x.Tries, .int .i64 x.WaitUntil]
structure M.Replica where
  Base : M.Store
  Seen : Int
  Sync : M.Sync
def M.Replica.en (x : M.Replica) : List D := [.str x.Base.Name, .sl (List.map M.Item.en x.Base.Items), .int .i64 x.Base.Auto, .int .i64 x.Seen, .int .i64 x.Sync.Outbox.Device, .int .i64 x.Sync.Outbox.Next, .sl (List.map M.Write.en x.Sync.Outbox.Writes), .int .i64 x.Sync.Tries, .int .i64 x.Sync.WaitUntil]
structure M.Bucket where
  Site : ByteArray
  Top : ByteArray
  Registration : M.Registration
  Caches : M.CacheSet
  Disk : M.Disk
  Replica : M.Replica
  LastUsed : Int
  Persistent : Bool
def M.Bucket.en (x : M.Bucket) : List D := [.str x.Site, .str x.Top, .str x.Registration.Site, .int .i64 x.Registration.Installing, .int .i64 x.Registration.Waiting, .int .i64 x.Registration.Active, .sl (List.map M.Cache.en x.Caches.Caches), .str x.Disk.Base.Name, .int .i64 x.Disk.Base.Version, .sl (List.map M.Store.en x.Disk.Base.Stores), .sl (List.map M.IndexDef.en x.Disk.Base.Unique), .sl (List.map enB x.Disk.Log), .int .i64 x.Disk.Count, .str x.Replica.Base.Name, .sl (List.map M.Item.en x.Replica.Base.Items), .int .i64 x.Replica.Base.Auto, .int .i64 x.Replica.Seen, .int .i64 x.Replica.Sync.Outbox.Device, .int .i64 x.Replica.Sync.Outbox.Next, .sl (List.map M.Write.en x.Replica.Sync.Outbox.Writes), .int .i64 x.Replica.Sync.Tries, .int .i64 x.Replica.Sync.WaitUntil, .int .i64 x.LastUsed, .bool x.Persistent]
def m_laws_szRegistration (p0 : M.Registration) (p1 : Int) : Option Int :=
  if (decide ((IntKind.i64.wrap (p1 - (p0.Site.size : Int))) < 0)) = true then (some (-1)) else (some (IntKind.i64.wrap (p1 - (p0.Site.size : Int))))
def m_laws_szByteS (p0 : List Int) (p1 : Int) : Option Int :=
  if (decide ((IntKind.i64.wrap (p1 - (List.length p0 : Int))) < 0)) = true then (some (-1)) else (some (IntKind.i64.wrap (p1 - (List.length p0 : Int))))
def m_laws_szResponse (p0 : M.Response) (p1 : Int) : Option Int :=
  (m_laws_szByteS p0.Body p1).bind fun x1 => (if (decide (x1 < 0)) = true then (some (-1)) else (some x1))
def m_laws_szCached (p0 : M.Cached) (p1 : Int) : Option Int :=
  if (decide ((IntKind.i64.wrap (p1 - (p0.Site.size : Int))) < 0)) = true then (some (-1)) else (if (decide ((IntKind.i64.wrap ((IntKind.i64.wrap (p1 - (p0.Site.size : Int))) - (p0.Path.size : Int))) < 0)) = true then (some (-1)) else ((m_laws_szResponse p0.Response (IntKind.i64.wrap ((IntKind.i64.wrap (p1 - (p0.Site.size : Int))) - (p0.Path.size : Int)))).bind fun x3 => (if (decide (x3 < 0)) = true then (some (-1)) else (some x3))))
def m_laws_szCachedS_L1 (p0 : List M.Cached) : Nat → Int → Int → Option Int
  | 0, _, _ => none
  | nL1 + 1, v1, v5 => if (decide (v5 < (List.length p0 : Int))) = true then ((idx p0 v5).bind fun x7 => ((m_laws_szCached x7 v1).bind fun x12 => (if (decide (x12 < 0)) = true then (some (-1)) else (m_laws_szCachedS_L1 p0 nL1 x12 (IntKind.i64.wrap (v5 + 1)))))) else (some v1)
def m_laws_szCachedS (p0 : List M.Cached) (p1 : Int) : Option Int :=
  if (decide ((IntKind.i64.wrap (p1 - (List.length p0 : Int))) < 0)) = true then (some (-1)) else (m_laws_szCachedS_L1 p0 fuel (IntKind.i64.wrap (p1 - (List.length p0 : Int))) 0)
def m_laws_szCache (p0 : M.Cache) (p1 : Int) : Option Int :=
  (m_laws_szCachedS p0.Entries p1).bind fun x1 => (if (decide (x1 < 0)) = true then (some (-1)) else (some x1))
def m_laws_szCacheS_L1 (p0 : List M.Cache) : Nat → Int → Int → Option Int
  | 0, _, _ => none
  | nL1 + 1, v1, v5 => if (decide (v5 < (List.length p0 : Int))) = true then ((idx p0 v5).bind fun x7 => ((m_laws_szCache x7 v1).bind fun x12 => (if (decide (x12 < 0)) = true then (some (-1)) else (m_laws_szCacheS_L1 p0 nL1 x12 (IntKind.i64.wrap (v5 + 1)))))) else (some v1)
def m_laws_szCacheS (p0 : List M.Cache) (p1 : Int) : Option Int :=
  if (decide ((IntKind.i64.wrap (p1 - (List.length p0 : Int))) < 0)) = true then (some (-1)) else (m_laws_szCacheS_L1 p0 fuel (IntKind.i64.wrap (p1 - (List.length p0 : Int))) 0)
def m_laws_szCacheSet (p0 : M.CacheSet) (p1 : Int) : Option Int :=
  (m_laws_szCacheS p0.Caches p1).bind fun x1 => (if (decide (x1 < 0)) = true then (some (-1)) else (some x1))
def m_laws_szKey (p0 : M.Key) (p1 : Int) : Option Int :=
  if (decide ((IntKind.i64.wrap (p1 - (p0.Text.size : Int))) < 0)) = true then (some (-1)) else (some (IntKind.i64.wrap (p1 - (p0.Text.size : Int))))
def m_laws_szField (p0 : M.Field) (p1 : Int) : Option Int :=
  if (decide ((IntKind.i64.wrap (p1 - (p0.Name.size : Int))) < 0)) = true then (some (-1)) else (some (IntKind.i64.wrap (p1 - (p0.Name.size : Int))))
def m_laws_szFieldS_L1 (p0 : List M.Field) : Nat → Int → Int → Option Int
  | 0, _, _ => none
  | nL1 + 1, v1, v5 => if (decide (v5 < (List.length p0 : Int))) = true then ((idx p0 v5).bind fun x7 => ((m_laws_szField x7 v1).bind fun x12 => (if (decide (x12 < 0)) = true then (some (-1)) else (m_laws_szFieldS_L1 p0 nL1 x12 (IntKind.i64.wrap (v5 + 1)))))) else (some v1)
def m_laws_szFieldS (p0 : List M.Field) (p1 : Int) : Option Int :=
  if (decide ((IntKind.i64.wrap (p1 - (List.length p0 : Int))) < 0)) = true then (some (-1)) else (m_laws_szFieldS_L1 p0 fuel (IntKind.i64.wrap (p1 - (List.length p0 : Int))) 0)
def m_laws_szRecord (p0 : M.Record) (p1 : Int) : Option Int :=
  (m_laws_szFieldS p0.Fields p1).bind fun x1 => (if (decide (x1 < 0)) = true then (some (-1)) else (some x1))
def m_laws_szItem (p0 : M.Item) (p1 : Int) : Option Int :=
  (m_laws_szKey p0.Key p1).bind fun x1 => (if (decide (x1 < 0)) = true then (some (-1)) else ((m_laws_szRecord p0.Record x1).bind fun x4 => (if (decide (x4 < 0)) = true then (some (-1)) else (some x4))))
def m_laws_szItemS_L1 (p0 : List M.Item) : Nat → Int → Int → Option Int
  | 0, _, _ => none
  | nL1 + 1, v1, v5 => if (decide (v5 < (List.length p0 : Int))) = true then ((idx p0 v5).bind fun x7 => ((m_laws_szItem x7 v1).bind fun x12 => (if (decide (x12 < 0)) = true then (some (-1)) else (m_laws_szItemS_L1 p0 nL1 x12 (IntKind.i64.wrap (v5 + 1)))))) else (some v1)
def m_laws_szItemS (p0 : List M.Item) (p1 : Int) : Option Int :=
  if (decide ((IntKind.i64.wrap (p1 - (List.length p0 : Int))) < 0)) = true then (some (-1)) else (m_laws_szItemS_L1 p0 fuel (IntKind.i64.wrap (p1 - (List.length p0 : Int))) 0)
def m_laws_szStore (p0 : M.Store) (p1 : Int) : Option Int :=
  if (decide ((IntKind.i64.wrap (p1 - (p0.Name.size : Int))) < 0)) = true then (some (-1)) else ((m_laws_szItemS p0.Items (IntKind.i64.wrap (p1 - (p0.Name.size : Int)))).bind fun x2 => (if (decide (x2 < 0)) = true then (some (-1)) else (some x2)))
def m_laws_szStoreS_L1 (p0 : List M.Store) : Nat → Int → Int → Option Int
  | 0, _, _ => none
  | nL1 + 1, v1, v5 => if (decide (v5 < (List.length p0 : Int))) = true then ((idx p0 v5).bind fun x7 => ((m_laws_szStore x7 v1).bind fun x12 => (if (decide (x12 < 0)) = true then (some (-1)) else (m_laws_szStoreS_L1 p0 nL1 x12 (IntKind.i64.wrap (v5 + 1)))))) else (some v1)
def m_laws_szStoreS (p0 : List M.Store) (p1 : Int) : Option Int :=
  if (decide ((IntKind.i64.wrap (p1 - (List.length p0 : Int))) < 0)) = true then (some (-1)) else (m_laws_szStoreS_L1 p0 fuel (IntKind.i64.wrap (p1 - (List.length p0 : Int))) 0)
def m_laws_szIndexDef (p0 : M.IndexDef) (p1 : Int) : Option Int :=
  if (decide ((IntKind.i64.wrap (p1 - (p0.Store.size : Int))) < 0)) = true then (some (-1)) else (if (decide ((IntKind.i64.wrap ((IntKind.i64.wrap (p1 - (p0.Store.size : Int))) - (p0.Field.size : Int))) < 0)) = true then (some (-1)) else (some (IntKind.i64.wrap ((IntKind.i64.wrap (p1 - (p0.Store.size : Int))) - (p0.Field.size : Int)))))
def m_laws_szIndexDefS_L1 (p0 : List M.IndexDef) : Nat → Int → Int → Option Int
  | 0, _, _ => none
  | nL1 + 1, v1, v5 => if (decide (v5 < (List.length p0 : Int))) = true then ((idx p0 v5).bind fun x7 => ((m_laws_szIndexDef x7 v1).bind fun x12 => (if (decide (x12 < 0)) = true then (some (-1)) else (m_laws_szIndexDefS_L1 p0 nL1 x12 (IntKind.i64.wrap (v5 + 1)))))) else (some v1)
def m_laws_szIndexDefS (p0 : List M.IndexDef) (p1 : Int) : Option Int :=
  if (decide ((IntKind.i64.wrap (p1 - (List.length p0 : Int))) < 0)) = true then (some (-1)) else (m_laws_szIndexDefS_L1 p0 fuel (IntKind.i64.wrap (p1 - (List.length p0 : Int))) 0)
def m_laws_szDatabase (p0 : M.Database) (p1 : Int) : Option Int :=
  if (decide ((IntKind.i64.wrap (p1 - (p0.Name.size : Int))) < 0)) = true then (some (-1)) else ((m_laws_szStoreS p0.Stores (IntKind.i64.wrap (p1 - (p0.Name.size : Int)))).bind fun x2 => (if (decide (x2 < 0)) = true then (some (-1)) else ((m_laws_szIndexDefS p0.Unique x2).bind fun x5 => (if (decide (x5 < 0)) = true then (some (-1)) else (some x5)))))
def m_laws_szDisk (p0 : M.Disk) (p1 : Int) : Option Int :=
  (m_laws_szDatabase p0.Base p1).bind fun x1 => (if (decide (x1 < 0)) = true then (some (-1)) else ((m_laws_szByteS p0.Log x1).bind fun x4 => (if (decide (x4 < 0)) = true then (some (-1)) else (some x4))))
def m_laws_szWrite (p0 : M.Write) (p1 : Int) : Option Int :=
  (m_laws_szKey p0.Key p1).bind fun x1 => (if (decide (x1 < 0)) = true then (some (-1)) else (if (decide ((IntKind.i64.wrap (x1 - (p0.Field.size : Int))) < 0)) = true then (some (-1)) else (some (IntKind.i64.wrap (x1 - (p0.Field.size : Int))))))
def m_laws_szWriteS_L1 (p0 : List M.Write) : Nat → Int → Int → Option Int
  | 0, _, _ => none
  | nL1 + 1, v1, v5 => if (decide (v5 < (List.length p0 : Int))) = true then ((idx p0 v5).bind fun x7 => ((m_laws_szWrite x7 v1).bind fun x12 => (if (decide (x12 < 0)) = true then (some (-1)) else (m_laws_szWriteS_L1 p0 nL1 x12 (IntKind.i64.wrap (v5 + 1)))))) else (some v1)
def m_laws_szWriteS (p0 : List M.Write) (p1 : Int) : Option Int :=
  if (decide ((IntKind.i64.wrap (p1 - (List.length p0 : Int))) < 0)) = true then (some (-1)) else (m_laws_szWriteS_L1 p0 fuel (IntKind.i64.wrap (p1 - (List.length p0 : Int))) 0)
def m_laws_szOutbox (p0 : M.Outbox) (p1 : Int) : Option Int :=
  (m_laws_szWriteS p0.Writes p1).bind fun x1 => (if (decide (x1 < 0)) = true then (some (-1)) else (some x1))
def m_laws_szSync (p0 : M.Sync) (p1 : Int) : Option Int :=
  (m_laws_szOutbox p0.Outbox p1).bind fun x1 => (if (decide (x1 < 0)) = true then (some (-1)) else (some x1))
def m_laws_szReplica (p0 : M.Replica) (p1 : Int) : Option Int :=
  (m_laws_szStore p0.Base p1).bind fun x1 => (if (decide (x1 < 0)) = true then (some (-1)) else ((m_laws_szSync p0.Sync x1).bind fun x4 => (if (decide (x4 < 0)) = true then (some (-1)) else (some x4))))
def m_laws_szBucket (p0 : M.Bucket) (p1 : Int) : Option Int :=
  if (decide ((IntKind.i64.wrap (p1 - (p0.Site.size : Int))) < 0)) = true then (some (-1)) else (if (decide ((IntKind.i64.wrap ((IntKind.i64.wrap (p1 - (p0.Site.size : Int))) - (p0.Top.size : Int))) < 0)) = true then (some (-1)) else ((m_laws_szRegistration p0.Registration (IntKind.i64.wrap ((IntKind.i64.wrap (p1 - (p0.Site.size : Int))) - (p0.Top.size : Int)))).bind fun x3 => (if (decide (x3 < 0)) = true then (some (-1)) else ((m_laws_szCacheSet p0.Caches x3).bind fun x6 => (if (decide (x6 < 0)) = true then (some (-1)) else ((m_laws_szDisk p0.Disk x6).bind fun x9 => (if (decide (x9 < 0)) = true then (some (-1)) else ((m_laws_szReplica p0.Replica x9).bind fun x12 => (if (decide (x12 < 0)) = true then (some (-1)) else (some x12))))))))))
def m_laws_toRegistration (p0 : M.Registration) : Option M.Registration :=
  some p0
def m_laws_toByteS_L1 (p0 : List Int) : Nat → Int → List Int → Option (List Int)
  | 0, _, _ => none
  | nL1 + 1, v4, r7 => if (decide (v4 < (List.length p0 : Int))) = true then ((idx p0 v4).bind fun x13 => ((idx r7 v4).bind fun x18 => (m_laws_toByteS_L1 p0 nL1 (IntKind.i64.wrap (v4 + 1)) (List.set r7 v4.toNat x13)))) else (some r7)
def m_laws_toByteS (p0 : List Int) : Option (List Int) :=
  (mkL 1 (List.length p0 : Int) 0).bind fun x1 => (m_laws_toByteS_L1 p0 fuel 0 (List.replicate (List.length p0 : Int).toNat 0))
def m_laws_toResponse (p0 : M.Response) : Option M.Response :=
  (m_laws_toByteS p0.Body).bind fun x1 => (some (⟨p0.Type_, p0.Status, p0.Version, x1, p0.Shares⟩ : M.Response))
def m_laws_toCached (p0 : M.Cached) : Option M.Cached :=
  (m_laws_toResponse p0.Response).bind fun x1 => (some (⟨p0.Site, p0.Path, x1⟩ : M.Cached))
def m_laws_toCachedS_L1 (p0 : List M.Cached) : Nat → Int → List M.Cached → Option (List M.Cached)
  | 0, _, _ => none
  | nL1 + 1, v4, r7 => if (decide (v4 < (List.length p0 : Int))) = true then ((idx p0 v4).bind fun x13 => ((m_laws_toCached x13).bind fun x18 => ((idx r7 v4).bind fun x20 => (m_laws_toCachedS_L1 p0 nL1 (IntKind.i64.wrap (v4 + 1)) (List.set r7 v4.toNat x18))))) else (some r7)
def m_laws_toCachedS (p0 : List M.Cached) : Option (List M.Cached) :=
  (mkL 88 (List.length p0 : Int) (⟨(⟨#[]⟩ : ByteArray), (⟨#[]⟩ : ByteArray), (⟨0, 0, 0, ([] : List Int), false⟩ : M.Response)⟩ : M.Cached)).bind fun x1 => (m_laws_toCachedS_L1 p0 fuel 0 (List.replicate (List.length p0 : Int).toNat (⟨(⟨#[]⟩ : ByteArray), (⟨#[]⟩ : ByteArray), (⟨0, 0, 0, ([] : List Int), false⟩ : M.Response)⟩ : M.Cached)))
def m_laws_toCache (p0 : M.Cache) : Option M.Cache :=
  (m_laws_toCachedS p0.Entries).bind fun x1 => (some (⟨p0.Version, x1⟩ : M.Cache))
def m_laws_toCacheS_L1 (p0 : List M.Cache) : Nat → Int → List M.Cache → Option (List M.Cache)
  | 0, _, _ => none
  | nL1 + 1, v4, r7 => if (decide (v4 < (List.length p0 : Int))) = true then ((idx p0 v4).bind fun x13 => ((m_laws_toCache x13).bind fun x18 => ((idx r7 v4).bind fun x20 => (m_laws_toCacheS_L1 p0 nL1 (IntKind.i64.wrap (v4 + 1)) (List.set r7 v4.toNat x18))))) else (some r7)
def m_laws_toCacheS (p0 : List M.Cache) : Option (List M.Cache) :=
  (mkL 32 (List.length p0 : Int) (⟨0, ([] : List M.Cached)⟩ : M.Cache)).bind fun x1 => (m_laws_toCacheS_L1 p0 fuel 0 (List.replicate (List.length p0 : Int).toNat (⟨0, ([] : List M.Cached)⟩ : M.Cache)))
def m_laws_toCacheSet (p0 : M.CacheSet) : Option M.CacheSet :=
  (m_laws_toCacheS p0.Caches).bind fun x1 => (some (⟨x1⟩ : M.CacheSet))
def m_laws_toKey (p0 : M.Key) : Option M.Key :=
  some p0
def m_laws_toField (p0 : M.Field) : Option M.Field :=
  some p0
def m_laws_toFieldS_L1 (p0 : List M.Field) : Nat → Int → List M.Field → Option (List M.Field)
  | 0, _, _ => none
  | nL1 + 1, v4, r7 => if (decide (v4 < (List.length p0 : Int))) = true then ((idx p0 v4).bind fun x13 => ((m_laws_toField x13).bind fun x18 => ((idx r7 v4).bind fun x20 => (m_laws_toFieldS_L1 p0 nL1 (IntKind.i64.wrap (v4 + 1)) (List.set r7 v4.toNat x18))))) else (some r7)
def m_laws_toFieldS (p0 : List M.Field) : Option (List M.Field) :=
  (mkL 24 (List.length p0 : Int) (⟨(⟨#[]⟩ : ByteArray), 0⟩ : M.Field)).bind fun x1 => (m_laws_toFieldS_L1 p0 fuel 0 (List.replicate (List.length p0 : Int).toNat (⟨(⟨#[]⟩ : ByteArray), 0⟩ : M.Field)))
def m_laws_toRecord (p0 : M.Record) : Option M.Record :=
  (m_laws_toFieldS p0.Fields).bind fun x1 => (some (⟨x1⟩ : M.Record))
def m_laws_toItem (p0 : M.Item) : Option M.Item :=
  (m_laws_toKey p0.Key).bind fun x1 => ((m_laws_toRecord p0.Record).bind fun x3 => (some (⟨x1, x3⟩ : M.Item)))
def m_laws_toItemS_L1 (p0 : List M.Item) : Nat → Int → List M.Item → Option (List M.Item)
  | 0, _, _ => none
  | nL1 + 1, v4, r7 => if (decide (v4 < (List.length p0 : Int))) = true then ((idx p0 v4).bind fun x13 => ((m_laws_toItem x13).bind fun x18 => ((idx r7 v4).bind fun x20 => (m_laws_toItemS_L1 p0 nL1 (IntKind.i64.wrap (v4 + 1)) (List.set r7 v4.toNat x18))))) else (some r7)
def m_laws_toItemS (p0 : List M.Item) : Option (List M.Item) :=
  (mkL 56 (List.length p0 : Int) (⟨(⟨0, 0, (⟨#[]⟩ : ByteArray)⟩ : M.Key), (⟨([] : List M.Field)⟩ : M.Record)⟩ : M.Item)).bind fun x1 => (m_laws_toItemS_L1 p0 fuel 0 (List.replicate (List.length p0 : Int).toNat (⟨(⟨0, 0, (⟨#[]⟩ : ByteArray)⟩ : M.Key), (⟨([] : List M.Field)⟩ : M.Record)⟩ : M.Item)))
def m_laws_toStore (p0 : M.Store) : Option M.Store :=
  (m_laws_toItemS p0.Items).bind fun x1 => (some (⟨p0.Name, x1, p0.Auto⟩ : M.Store))
def m_laws_toStoreS_L1 (p0 : List M.Store) : Nat → Int → List M.Store → Option (List M.Store)
  | 0, _, _ => none
  | nL1 + 1, v4, r7 => if (decide (v4 < (List.length p0 : Int))) = true then ((idx p0 v4).bind fun x13 => ((m_laws_toStore x13).bind fun x18 => ((idx r7 v4).bind fun x20 => (m_laws_toStoreS_L1 p0 nL1 (IntKind.i64.wrap (v4 + 1)) (List.set r7 v4.toNat x18))))) else (some r7)
def m_laws_toStoreS (p0 : List M.Store) : Option (List M.Store) :=
  (mkL 48 (List.length p0 : Int) (⟨(⟨#[]⟩ : ByteArray), ([] : List M.Item), 0⟩ : M.Store)).bind fun x1 => (m_laws_toStoreS_L1 p0 fuel 0 (List.replicate (List.length p0 : Int).toNat (⟨(⟨#[]⟩ : ByteArray), ([] : List M.Item), 0⟩ : M.Store)))
def m_laws_toIndexDef (p0 : M.IndexDef) : Option M.IndexDef :=
  some p0
def m_laws_toIndexDefS_L1 (p0 : List M.IndexDef) : Nat → Int → List M.IndexDef → Option (List M.IndexDef)
  | 0, _, _ => none
  | nL1 + 1, v4, r7 => if (decide (v4 < (List.length p0 : Int))) = true then ((idx p0 v4).bind fun x13 => ((m_laws_toIndexDef x13).bind fun x18 => ((idx r7 v4).bind fun x20 => (m_laws_toIndexDefS_L1 p0 nL1 (IntKind.i64.wrap (v4 + 1)) (List.set r7 v4.toNat x18))))) else (some r7)
def m_laws_toIndexDefS (p0 : List M.IndexDef) : Option (List M.IndexDef) :=
  (mkL 32 (List.length p0 : Int) (⟨(⟨#[]⟩ : ByteArray), (⟨#[]⟩ : ByteArray)⟩ : M.IndexDef)).bind fun x1 => (m_laws_toIndexDefS_L1 p0 fuel 0 (List.replicate (List.length p0 : Int).toNat (⟨(⟨#[]⟩ : ByteArray), (⟨#[]⟩ : ByteArray)⟩ : M.IndexDef)))
def m_laws_toDatabase (p0 : M.Database) : Option M.Database :=
  (m_laws_toStoreS p0.Stores).bind fun x1 => ((m_laws_toIndexDefS p0.Unique).bind fun x3 => (some (⟨p0.Name, p0.Version, x1, x3⟩ : M.Database)))
def m_laws_toDisk (p0 : M.Disk) : Option M.Disk :=
  (m_laws_toDatabase p0.Base).bind fun x1 => ((m_laws_toByteS p0.Log).bind fun x3 => (some (⟨x1, x3, p0.Count⟩ : M.Disk)))
def m_laws_toWrite (p0 : M.Write) : Option M.Write :=
  (m_laws_toKey p0.Key).bind fun x1 => (some (⟨p0.Device, p0.Seq, x1, p0.Field, p0.N⟩ : M.Write))
def m_laws_toWriteS_L1 (p0 : List M.Write) : Nat → Int → List M.Write → Option (List M.Write)
  | 0, _, _ => none
  | nL1 + 1, v4, r7 => if (decide (v4 < (List.length p0 : Int))) = true then ((idx p0 v4).bind fun x13 => ((m_laws_toWrite x13).bind fun x18 => ((idx r7 v4).bind fun x20 => (m_laws_toWriteS_L1 p0 nL1 (IntKind.i64.wrap (v4 + 1)) (List.set r7 v4.toNat x18))))) else (some r7)
def m_laws_toWriteS (p0 : List M.Write) : Option (List M.Write) :=
  (mkL 72 (List.length p0 : Int) (⟨0, 0, (⟨0, 0, (⟨#[]⟩ : ByteArray)⟩ : M.Key), (⟨#[]⟩ : ByteArray), 0⟩ : M.Write)).bind fun x1 => (m_laws_toWriteS_L1 p0 fuel 0 (List.replicate (List.length p0 : Int).toNat (⟨0, 0, (⟨0, 0, (⟨#[]⟩ : ByteArray)⟩ : M.Key), (⟨#[]⟩ : ByteArray), 0⟩ : M.Write)))
def m_laws_toOutbox (p0 : M.Outbox) : Option M.Outbox :=
  (m_laws_toWriteS p0.Writes).bind fun x1 => (some (⟨p0.Device, p0.Next, x1⟩ : M.Outbox))
def m_laws_toSync (p0 : M.Sync) : Option M.Sync :=
  (m_laws_toOutbox p0.Outbox).bind fun x1 => (some (⟨x1, p0.Tries, p0.WaitUntil⟩ : M.Sync))
def m_laws_toReplica (p0 : M.Replica) : Option M.Replica :=
  (m_laws_toStore p0.Base).bind fun x1 => ((m_laws_toSync p0.Sync).bind fun x3 => (some (⟨x1, p0.Seen, x3⟩ : M.Replica)))
def m_laws_toBucket (p0 : M.Bucket) : Option M.Bucket :=
  (m_laws_toRegistration p0.Registration).bind fun x1 => ((m_laws_toCacheSet p0.Caches).bind fun x3 => ((m_laws_toDisk p0.Disk).bind fun x5 => ((m_laws_toReplica p0.Replica).bind fun x7 => (some (⟨p0.Site, p0.Top, x1, x3, x5, x7, p0.LastUsed, p0.Persistent⟩ : M.Bucket)))))
def m_spec_StoredSize (p0 : M.Response) (p1 : Bool) : Option Int :=
  if p1 = true then (some 76) else (some (IntKind.i64.wrap (16 + (List.length p0.Body : Int))))
def m_spec_SizeCaches_L2 (p0 : M.CacheSet) (v4 : Int) (k8 : Int → Int → Option Int) : Nat → Int → Int → Option Int
  | 0, _, _ => none
  | nL2 + 1, v3_L2, v5_L2 => (idx p0.Caches v4).bind fun x15 => (if (decide (v5_L2 < (List.length x15.Entries : Int))) = true then ((idx x15.Entries v5_L2).bind fun x21 => ((m_spec_StoredSize x21.Response (x21.Response.Type_ == 3)).bind fun x26 => (m_spec_SizeCaches_L2 p0 v4 k8 nL2 (IntKind.i64.wrap (v3_L2 + x26)) (IntKind.i64.wrap (v5_L2 + 1))))) else (k8 v3_L2 v5_L2))
def m_spec_SizeCaches_L1 (p0 : M.CacheSet) : Nat → Int → Int → Option Int
  | 0, _, _ => none
  | nL1 + 1, v3, v4 => if (decide (v4 < (List.length p0.Caches : Int))) = true then (m_spec_SizeCaches_L2 p0 v4 (fun (v3_L2 : Int) (v5_L2 : Int) => m_spec_SizeCaches_L1 p0 nL1 v3_L2 (IntKind.i64.wrap (v4 + 1))) fuel v3 0) else (some v3)
def m_spec_SizeCaches (p0 : M.CacheSet) : Option Int :=
  m_spec_SizeCaches_L1 p0 fuel 0 0
def m_spec_l1In (p0 : Int) (p1 : Int) (p2 : Int) : Option Bool :=
  if (decide (p0 ≥ p1)) = true then (some (decide (p0 ≤ p2))) else (some false)
def m_spec_l4Text_L1 (p0 : ByteArray) : Nat → Int → Option Bool
  | 0, _ => none
  | nL1 + 1, v3 => if (decide (v3 < (p0.size : Int))) = true then ((sidx p0 v3).bind fun x5 => (if (decide ((x5.toNat : Int) < 97)) = true then (if (decide ((x5.toNat : Int) < 48)) = true then (some false) else (if (decide ((x5.toNat : Int) > 57)) = true then (some false) else (m_spec_l4Text_L1 p0 nL1 (IntKind.i64.wrap (v3 + 1))))) else (if (decide ((x5.toNat : Int) > 122)) = true then (if (decide ((x5.toNat : Int) < 48)) = true then (some false) else (if (decide ((x5.toNat : Int) > 57)) = true then (some false) else (m_spec_l4Text_L1 p0 nL1 (IntKind.i64.wrap (v3 + 1))))) else (m_spec_l4Text_L1 p0 nL1 (IntKind.i64.wrap (v3 + 1)))))) else (some (decide ((p0.size : Int) ≤ 12)))
def m_spec_l4Text (p0 : ByteArray) : Option Bool :=
  m_spec_l4Text_L1 p0 fuel 0
def m_spec_IsKey (p0 : M.Key) : Option Bool :=
  (m_spec_l1In p0.Kind 1 3).bind fun x1 => (if x1 = true then ((m_spec_l1In p0.N (-1000000000000) 1000000000000).bind fun x4 => (if x4 = true then (if (p0.Kind != 2) = true then ((m_spec_l4Text p0.Text).bind fun x8 => (if x8 = true then (if (p0.Kind != 1) = true then (some true) else (some (p0.Text.toList == (⟨#[]⟩ : ByteArray).toList))) else (some false))) else (if (p0.N == 0) = true then ((m_spec_l4Text p0.Text).bind fun x13 => (if x13 = true then (if (p0.Kind != 1) = true then (some true) else (some (p0.Text.toList == (⟨#[]⟩ : ByteArray).toList))) else (some false))) else (some false))) else (some false))) else (some false))
def m_spec_EncodeKey_L1 (p0 : M.Key) : Nat → Int → List Int → Option (List Int)
  | 0, _, _ => none
  | nL1 + 1, v4, r12 => if (decide (v4 ≥ 0)) = true then (if (p0.Kind != 2) = true then (if (decide (0 ≤ (IntKind.i64.wrap (8 * v4)))) = true then ((app 1 r12 ([(IntKind.u8.wrap (IntKind.i64.wrap (BitVec.ofInt (IntKind.i64.bits) (Int.fdiv (IntKind.i64.wrap (p0.N + 1000000000000)) (2 ^ (min (IntKind.i64.wrap (8 * v4)).toNat IntKind.i64.bits))) &&& BitVec.ofInt (IntKind.i64.bits) 255).toNat))])).bind fun x18 => (m_spec_EncodeKey_L1 p0 nL1 (IntKind.i64.wrap (v4 - 1)) (r12 ++ [(IntKind.u8.wrap (IntKind.i64.wrap (BitVec.ofInt (IntKind.i64.bits) (Int.fdiv (IntKind.i64.wrap (p0.N + 1000000000000)) (2 ^ (min (IntKind.i64.wrap (8 * v4)).toNat IntKind.i64.bits))) &&& BitVec.ofInt (IntKind.i64.bits) 255).toNat))]))) else none) else ((app 1 r12 (strBytes p0.Text)).bind fun x26 => (some (r12 ++ (strBytes p0.Text))))) else ((app 1 r12 (strBytes p0.Text)).bind fun x28 => (some (r12 ++ (strBytes p0.Text))))
def m_spec_EncodeKey (p0 : M.Key) : Option (List Int) :=
  (m_spec_IsKey p0).bind fun x1 => (if (!x1) = true then (some ([] : List Int)) else (m_spec_EncodeKey_L1 p0 fuel 5 ([(IntKind.u8.wrap p0.Kind)])))
def m_spec_IsName_L1 (p0 : ByteArray) : Nat → Int → Option Bool
  | 0, _ => none
  | nL1 + 1, v3 => if (decide (v3 < (p0.size : Int))) = true then ((sidx p0 v3).bind fun x5 => (if (decide ((x5.toNat : Int) < 97)) = true then (some false) else (if (decide ((x5.toNat : Int) > 122)) = true then (some false) else (m_spec_IsName_L1 p0 nL1 (IntKind.i64.wrap (v3 + 1)))))) else ((m_spec_l1In (p0.size : Int) 1 8).bind fun x11 => (some x11))
def m_spec_IsName (p0 : ByteArray) : Option Bool :=
  m_spec_IsName_L1 p0 fuel 0
def m_spec_IsRecord_L1 (p0 : M.Record) : Nat → Int → Option Bool
  | 0, _ => none
  | nL1 + 1, v3 => if (decide (v3 < (List.length p0.Fields : Int))) = true then ((idx p0.Fields v3).bind fun x6 => ((m_spec_IsName x6.Name).bind fun x11 => (if (!x11) = true then (some false) else ((m_spec_l1In x6.N 0 1000000000).bind fun x14 => (if (!x14) = true then (some false) else (if (decide (v3 > 0)) = true then ((idx p0.Fields (IntKind.i64.wrap (v3 - 1))).bind fun x18 => (if (!(Op.bytesLess x18.Name.toList x6.Name.toList)) = true then (some false) else (m_spec_IsRecord_L1 p0 nL1 (IntKind.i64.wrap (v3 + 1))))) else (m_spec_IsRecord_L1 p0 nL1 (IntKind.i64.wrap (v3 + 1))))))))) else (some (decide ((List.length p0.Fields : Int) ≤ 6)))
def m_spec_IsRecord (p0 : M.Record) : Option Bool :=
  m_spec_IsRecord_L1 p0 fuel 0
def m_spec_AppendUvarint_L1  : Nat → Int → List Int → Option (List Int)
  | 0, _, _ => none
  | nL1 + 1, v1, r6 => if (decide (v1 > 127)) = true then ((app 1 r6 ([(IntKind.u8.wrap (IntKind.i64.wrap (BitVec.ofInt (IntKind.i64.bits) (IntKind.i64.wrap (BitVec.ofInt (IntKind.i64.bits) v1 &&& BitVec.ofInt (IntKind.i64.bits) 127).toNat) ||| BitVec.ofInt (IntKind.i64.bits) 128).toNat))])).bind fun x15 => (m_spec_AppendUvarint_L1 nL1 (Int.fdiv v1 (2 ^ (min (7 : Int).toNat IntKind.i64.bits))) (r6 ++ [(IntKind.u8.wrap (IntKind.i64.wrap (BitVec.ofInt (IntKind.i64.bits) (IntKind.i64.wrap (BitVec.ofInt (IntKind.i64.bits) v1 &&& BitVec.ofInt (IntKind.i64.bits) 127).toNat) ||| BitVec.ofInt (IntKind.i64.bits) 128).toNat))]))) else ((app 1 r6 ([(IntKind.u8.wrap v1)])).bind fun x21 => (some (r6 ++ [(IntKind.u8.wrap v1)])))
def m_spec_AppendUvarint (p0 : List Int) (p1 : Int) : Option (List Int) :=
  (app 1 ([] : List Int) p0).bind fun x1 => ((m_spec_l1In p1 0 1000000000000).bind fun x7 => (if (!x7) = true then (some p0) else (m_spec_AppendUvarint_L1 fuel p1 p0)))
def m_spec_AppendBytes (p0 : List Int) (p1 : List Int) : Option (List Int) :=
  (m_spec_AppendUvarint p0 (List.length p1 : Int)).bind fun x1 => ((app 1 x1 p1).bind fun x3 => (some (x1 ++ p1)))
def m_spec_EncodeRecord_L1 (p0 : M.Record) : Nat → Int → List Int → Option (List Int)
  | 0, _, _ => none
  | nL1 + 1, v4, r30000 => if (decide (v4 < (List.length p0.Fields : Int))) = true then ((idx p0.Fields v4).bind fun x18 => ((m_spec_AppendBytes r30000 (strBytes x18.Name)).bind fun x23 => ((m_spec_AppendUvarint x23 x18.N).bind fun x25 => (m_spec_EncodeRecord_L1 p0 nL1 (IntKind.i64.wrap (v4 + 1)) x25)))) else (some r30000)
def m_spec_EncodeRecord (p0 : M.Record) : Option (List Int) :=
  (m_spec_IsRecord p0).bind fun x1 => (if (!x1) = true then (some ([] : List Int)) else ((m_spec_AppendUvarint ([] : List Int) (List.length p0.Fields : Int)).bind fun x4 => (m_spec_EncodeRecord_L1 p0 fuel 0 x4)))
def m_spec_SizeStore_L1 (p0 : M.Store) : Nat → Int → Int → Option Int
  | 0, _, _ => none
  | nL1 + 1, v3, v4 => if (decide (v4 < (List.length p0.Items : Int))) = true then ((idx p0.Items v4).bind fun x7 => ((m_spec_EncodeKey x7.Key).bind fun x12 => ((m_spec_EncodeRecord x7.Record).bind fun x14 => (m_spec_SizeStore_L1 p0 nL1 (IntKind.i64.wrap ((IntKind.i64.wrap (v3 + (List.length x12 : Int))) + (List.length x14 : Int))) (IntKind.i64.wrap (v4 + 1)))))) else (some v3)
def m_spec_SizeStore (p0 : M.Store) : Option Int :=
  m_spec_SizeStore_L1 p0 fuel 0 0
def m_spec_SizeDatabase_L1 (p0 : M.Database) : Nat → Int → Int → Option Int
  | 0, _, _ => none
  | nL1 + 1, v3, v4 => if (decide (v4 < (List.length p0.Stores : Int))) = true then ((idx p0.Stores v4).bind fun x7 => ((m_spec_SizeStore x7).bind fun x12 => (m_spec_SizeDatabase_L1 p0 nL1 (IntKind.i64.wrap (v3 + x12)) (IntKind.i64.wrap (v4 + 1))))) else (some v3)
def m_spec_SizeDatabase (p0 : M.Database) : Option Int :=
  m_spec_SizeDatabase_L1 p0 fuel 0 0
def m_spec_SizeDisk (p0 : M.Disk) : Option Int :=
  (m_spec_SizeDatabase p0.Base).bind fun x1 => (some (IntKind.i64.wrap (x1 + (List.length p0.Log : Int))))
def m_spec_UsageOf (p0 : M.Bucket) : Option Int :=
  (m_spec_SizeCaches p0.Caches).bind fun x1 => ((m_spec_SizeDisk p0.Disk).bind fun x3 => ((m_spec_SizeStore p0.Replica.Base).bind fun x5 => (some (IntKind.i64.wrap ((IntKind.i64.wrap ((IntKind.i64.wrap (x1 + x3)) + x5)) + (IntKind.i64.wrap (40 * (List.length p0.Replica.Sync.Outbox.Writes : Int))))))))
def m_impl_StoredSize (p0 : M.Response) (p1 : Bool) : Option Int :=
  if p1 = true then (some 76) else (some (IntKind.i64.wrap (16 + (List.length p0.Body : Int))))
def m_impl_SizeCaches_L2 (x7 : M.Cache) (k13 : Int → Int → Option Int) : Nat → Int → Int → Option Int
  | 0, _, _ => none
  | nL2 + 1, v3_L2, v18_L2 => if (decide (v18_L2 < (List.length x7.Entries : Int))) = true then ((idx x7.Entries v18_L2).bind fun x23 => ((m_impl_StoredSize x23.Response (x23.Response.Type_ == 3)).bind fun x28 => (m_impl_SizeCaches_L2 x7 k13 nL2 (IntKind.i64.wrap (v3_L2 + x28)) (IntKind.i64.wrap (v18_L2 + 1))))) else (k13 v3_L2 v18_L2)
def m_impl_SizeCaches_L1 (p0 : M.CacheSet) : Nat → Int → Int → Option Int
  | 0, _, _ => none
  | nL1 + 1, v3, v11 => if (decide (v11 < (List.length p0.Caches : Int))) = true then ((idx p0.Caches v11).bind fun x7 => (m_impl_SizeCaches_L2 x7 (fun (v3_L2 : Int) (v18_L2 : Int) => m_impl_SizeCaches_L1 p0 nL1 v3_L2 (IntKind.i64.wrap (v11 + 1))) fuel v3 0)) else (some v3)
def m_impl_SizeCaches (p0 : M.CacheSet) : Option Int :=
  m_impl_SizeCaches_L1 p0 fuel 0 0
def m_impl_InRange (p0 : Int) (p1 : Int) (p2 : Int) : Option Bool :=
  if (decide (p1 ≤ p0)) = true then (some (decide (p0 ≤ p2))) else (some false)
def m_impl_isKeyText_L1 (p0 : ByteArray) : Nat → Int → Option Bool
  | 0, _ => none
  | nL1 + 1, v3 => if (decide (v3 < (p0.size : Int))) = true then ((sidx p0 v3).bind fun x5 => (if (decide ((x5.toNat : Int) ≥ 97)) = true then (if (decide ((x5.toNat : Int) ≤ 122)) = true then (m_impl_isKeyText_L1 p0 nL1 (IntKind.i64.wrap (v3 + 1))) else (if (decide ((x5.toNat : Int) ≥ 48)) = true then (if (!(decide ((x5.toNat : Int) ≤ 57))) = true then (some false) else (m_impl_isKeyText_L1 p0 nL1 (IntKind.i64.wrap (v3 + 1)))) else (some false))) else (if (decide ((x5.toNat : Int) ≥ 48)) = true then (if (!(decide ((x5.toNat : Int) ≤ 57))) = true then (some false) else (m_impl_isKeyText_L1 p0 nL1 (IntKind.i64.wrap (v3 + 1)))) else (some false)))) else (some (decide ((p0.size : Int) ≤ 12)))
def m_impl_isKeyText (p0 : ByteArray) : Option Bool :=
  m_impl_isKeyText_L1 p0 fuel 0
def m_impl_IsKey (p0 : M.Key) : Option Bool :=
  (m_impl_InRange p0.Kind 1 3).bind fun x1 => (if (!x1) = true then (some false) else ((m_impl_InRange p0.N (-1000000000000) 1000000000000).bind fun x4 => (if (!x4) = true then (some false) else ((m_impl_isKeyText p0.Text).bind fun x7 => (if (!x7) = true then (some false) else (if (p0.Kind == 2) = true then (if (!(p0.N != 0)) = true then (if (p0.Kind == 1) = true then (some (!(!(p0.Text.toList == (⟨#[]⟩ : ByteArray).toList)))) else (some true)) else (some false)) else (if (p0.Kind == 1) = true then (some (!(!(p0.Text.toList == (⟨#[]⟩ : ByteArray).toList)))) else (some true))))))))
def m_impl_EncodeKey_L1 (p0 : M.Key) : Nat → Int → List Int → Option (List Int)
  | 0, _, _ => none
  | nL1 + 1, v4, r12 => if (decide (v4 ≥ 0)) = true then (if (decide (0 ≤ (IntKind.i64.wrap (8 * v4)))) = true then ((app 1 r12 ([(IntKind.u8.wrap (Int.fdiv (IntKind.i64.wrap (p0.N + 1000000000000)) (2 ^ (min (IntKind.i64.wrap (8 * v4)).toNat IntKind.i64.bits))))])).bind fun x18 => (m_impl_EncodeKey_L1 p0 nL1 (IntKind.i64.wrap (v4 - 1)) (r12 ++ [(IntKind.u8.wrap (Int.fdiv (IntKind.i64.wrap (p0.N + 1000000000000)) (2 ^ (min (IntKind.i64.wrap (8 * v4)).toNat IntKind.i64.bits))))]))) else none) else ((app 1 r12 (strBytes p0.Text)).bind fun x26 => (some (r12 ++ strBytes p0.Text)))
def m_impl_EncodeKey (p0 : M.Key) : Option (List Int) :=
  (m_impl_IsKey p0).bind fun x1 => (if (!x1) = true then (some ([] : List Int)) else (if (p0.Kind != 2) = true then (m_impl_EncodeKey_L1 p0 fuel 5 ([(IntKind.u8.wrap p0.Kind)])) else ((app 1 ([(IntKind.u8.wrap p0.Kind)]) (strBytes p0.Text)).bind fun x28 => (some ([(IntKind.u8.wrap p0.Kind)] ++ strBytes p0.Text)))))
def m_impl_isWord_L1 (p0 : ByteArray) (p1 : Int) (p2 : Bool) : Nat → Int → Option Bool
  | 0, _ => none
  | nL1 + 1, v7 => if (decide (v7 < (p0.size : Int))) = true then ((sidx p0 v7).bind fun x7 => (if (decide ((x7.toNat : Int) ≥ 97)) = true then (if (decide ((x7.toNat : Int) ≤ 122)) = true then (m_impl_isWord_L1 p0 p1 p2 nL1 (IntKind.i64.wrap (v7 + 1))) else (if p2 = true then (if (!((x7.toNat : Int) == 47)) = true then (some false) else (m_impl_isWord_L1 p0 p1 p2 nL1 (IntKind.i64.wrap (v7 + 1)))) else (some false))) else (if p2 = true then (if (!((x7.toNat : Int) == 47)) = true then (some false) else (m_impl_isWord_L1 p0 p1 p2 nL1 (IntKind.i64.wrap (v7 + 1)))) else (some false)))) else ((m_impl_InRange (p0.size : Int) 1 p1).bind fun x17 => (some x17))
def m_impl_isWord (p0 : ByteArray) (p1 : Int) (p2 : Bool) : Option Bool :=
  m_impl_isWord_L1 p0 p1 p2 fuel 0
def m_impl_IsName (p0 : ByteArray) : Option Bool :=
  (m_impl_isWord p0 8 false).bind fun x1 => (some x1)
def m_impl_IsRecord_L1 (p0 : M.Record) : Nat → Int → Option Bool
  | 0, _ => none
  | nL1 + 1, v8 => if (decide (v8 < (List.length p0.Fields : Int))) = true then ((idx p0.Fields v8).bind fun x8 => ((m_impl_IsName x8.Name).bind fun x13 => (if (!x13) = true then (some false) else ((m_impl_InRange x8.N 0 1000000000).bind fun x16 => (if (!x16) = true then (some false) else (if (decide (v8 > 0)) = true then ((idx p0.Fields (IntKind.i64.wrap (v8 - 1))).bind fun x20 => (if (Op.bytesLess x8.Name.toList x20.Name.toList || x8.Name.toList == x20.Name.toList) = true then (some false) else (m_impl_IsRecord_L1 p0 nL1 (IntKind.i64.wrap (v8 + 1))))) else (m_impl_IsRecord_L1 p0 nL1 (IntKind.i64.wrap (v8 + 1))))))))) else (some (decide ((List.length p0.Fields : Int) ≤ 6)))
def m_impl_IsRecord (p0 : M.Record) : Option Bool :=
  m_impl_IsRecord_L1 p0 fuel 0
def m_impl_copyBytes (p0 : List Int) : Option (List Int) :=
  (app 1 ([] : List Int) p0).bind fun x1 => (some p0)
def m_impl_AppendUvarint_L1  : Nat → Int → List Int → Option (List Int)
  | 0, _, _ => none
  | nL1 + 1, v1, r7 => if (decide (v1 ≥ 128)) = true then ((app 1 r7 ([(IntKind.u8.wrap (IntKind.i64.wrap ((Int.tmod v1 128) + 128)))])).bind fun x11 => (m_impl_AppendUvarint_L1 nL1 (IntKind.i64.wrap (Int.tdiv v1 128)) (r7 ++ [(IntKind.u8.wrap (IntKind.i64.wrap ((Int.tmod v1 128) + 128)))]))) else ((app 1 r7 ([(IntKind.u8.wrap v1)])).bind fun x17 => (some (r7 ++ [(IntKind.u8.wrap v1)])))
def m_impl_AppendUvarint (p0 : List Int) (p1 : Int) : Option (List Int) :=
  (m_impl_copyBytes p0).bind fun x1 => ((m_impl_InRange p1 0 1000000000000).bind fun x3 => (if (!x3) = true then (some x1) else (m_impl_AppendUvarint_L1 fuel p1 x1)))
def m_impl_AppendBytes (p0 : List Int) (p1 : List Int) : Option (List Int) :=
  (m_impl_AppendUvarint p0 (List.length p1 : Int)).bind fun x1 => ((app 1 x1 p1).bind fun x3 => (some (x1 ++ p1)))
def m_impl_EncodeRecord_L1 (p0 : M.Record) : Nat → Int → List Int → Option (List Int)
  | 0, _, _ => none
  | nL1 + 1, v17, r30000 => if (decide (v17 < (List.length p0.Fields : Int))) = true then ((idx p0.Fields v17).bind fun x13 => ((m_impl_AppendBytes r30000 (strBytes x13.Name)).bind fun x18 => ((m_impl_AppendUvarint x18 x13.N).bind fun x20 => (m_impl_EncodeRecord_L1 p0 nL1 (IntKind.i64.wrap (v17 + 1)) x20)))) else (some r30000)
def m_impl_EncodeRecord (p0 : M.Record) : Option (List Int) :=
  (m_impl_IsRecord p0).bind fun x1 => (if (!x1) = true then (some ([] : List Int)) else ((m_impl_AppendUvarint ([] : List Int) (List.length p0.Fields : Int)).bind fun x4 => (m_impl_EncodeRecord_L1 p0 fuel 0 x4)))
def m_impl_SizeStore_L1 (p0 : M.Store) : Nat → Int → Int → Option Int
  | 0, _, _ => none
  | nL1 + 1, v3, v9 => if (decide (v9 < (List.length p0.Items : Int))) = true then ((idx p0.Items v9).bind fun x7 => ((m_impl_EncodeKey x7.Key).bind fun x12 => ((m_impl_EncodeRecord x7.Record).bind fun x14 => (m_impl_SizeStore_L1 p0 nL1 (IntKind.i64.wrap (v3 + (IntKind.i64.wrap ((List.length x12 : Int) + (List.length x14 : Int))))) (IntKind.i64.wrap (v9 + 1)))))) else (some v3)
def m_impl_SizeStore (p0 : M.Store) : Option Int :=
  m_impl_SizeStore_L1 p0 fuel 0 0
def m_impl_SizeDatabase_L1 (p0 : M.Database) : Nat → Int → Int → Option Int
  | 0, _, _ => none
  | nL1 + 1, v3, v9 => if (decide (v9 < (List.length p0.Stores : Int))) = true then ((idx p0.Stores v9).bind fun x7 => ((m_impl_SizeStore x7).bind fun x12 => (m_impl_SizeDatabase_L1 p0 nL1 (IntKind.i64.wrap (v3 + x12)) (IntKind.i64.wrap (v9 + 1))))) else (some v3)
def m_impl_SizeDatabase (p0 : M.Database) : Option Int :=
  m_impl_SizeDatabase_L1 p0 fuel 0 0
def m_impl_SizeDisk (p0 : M.Disk) : Option Int :=
  (m_impl_SizeDatabase p0.Base).bind fun x1 => (some (IntKind.i64.wrap (x1 + (List.length p0.Log : Int))))
def m_impl_UsageOf (p0 : M.Bucket) : Option Int :=
  (m_impl_SizeCaches p0.Caches).bind fun x1 => ((m_impl_SizeDisk p0.Disk).bind fun x3 => ((m_impl_SizeStore p0.Replica.Base).bind fun x5 => (some (IntKind.i64.wrap ((IntKind.i64.wrap ((IntKind.i64.wrap (x1 + x3)) + x5)) + (IntKind.i64.wrap (40 * (List.length p0.Replica.Sync.Outbox.Writes : Int))))))))
def m_laws_eqRegistration (p0 : M.Registration) (p1 : M.Registration) : Option Bool :=
  if (!(p0.Site.toList == p1.Site.toList)) = true then (some false) else (if (p0.Installing != p1.Installing) = true then (some false) else (if (p0.Waiting != p1.Waiting) = true then (some false) else (if (p0.Active != p1.Active) = true then (some false) else (some true))))
def m_laws_eqByteS_L1 (p0 : List Int) (p1 : List Int) : Nat → Int → Option Bool
  | 0, _ => none
  | nL1 + 1, v5 => if (decide (v5 < (List.length p0 : Int))) = true then ((idx p0 v5).bind fun x7 => ((idx p1 v5).bind fun x12 => (if (x7 != x12) = true then (some false) else (m_laws_eqByteS_L1 p0 p1 nL1 (IntKind.i64.wrap (v5 + 1)))))) else (some true)
def m_laws_eqByteS (p0 : List Int) (p1 : List Int) : Option Bool :=
  if ((List.length p0 : Int) != (List.length p1 : Int)) = true then (some false) else (m_laws_eqByteS_L1 p0 p1 fuel 0)
def m_laws_eqResponse (p0 : M.Response) (p1 : M.Response) : Option Bool :=
  if (p0.Type_ != p1.Type_) = true then (some false) else (if (p0.Status != p1.Status) = true then (some false) else (if (p0.Version != p1.Version) = true then (some false) else ((m_laws_eqByteS p0.Body p1.Body).bind fun x4 => (if (!x4) = true then (some false) else (if (!(p0.Shares == p1.Shares)) = true then (some false) else (some true))))))
def m_laws_eqCached (p0 : M.Cached) (p1 : M.Cached) : Option Bool :=
  if (!(p0.Site.toList == p1.Site.toList)) = true then (some false) else (if (!(p0.Path.toList == p1.Path.toList)) = true then (some false) else ((m_laws_eqResponse p0.Response p1.Response).bind fun x3 => (if (!x3) = true then (some false) else (some true))))
def m_laws_eqCachedS_L1 (p0 : List M.Cached) (p1 : List M.Cached) : Nat → Int → Option Bool
  | 0, _ => none
  | nL1 + 1, v5 => if (decide (v5 < (List.length p0 : Int))) = true then ((idx p0 v5).bind fun x7 => ((idx p1 v5).bind fun x12 => ((m_laws_eqCached x7 x12).bind fun x17 => (if (!x17) = true then (some false) else (m_laws_eqCachedS_L1 p0 p1 nL1 (IntKind.i64.wrap (v5 + 1))))))) else (some true)
def m_laws_eqCachedS (p0 : List M.Cached) (p1 : List M.Cached) : Option Bool :=
  if ((List.length p0 : Int) != (List.length p1 : Int)) = true then (some false) else (m_laws_eqCachedS_L1 p0 p1 fuel 0)
def m_laws_eqCache (p0 : M.Cache) (p1 : M.Cache) : Option Bool :=
  if (p0.Version != p1.Version) = true then (some false) else ((m_laws_eqCachedS p0.Entries p1.Entries).bind fun x2 => (if (!x2) = true then (some false) else (some true)))
def m_laws_eqCacheS_L1 (p0 : List M.Cache) (p1 : List M.Cache) : Nat → Int → Option Bool
  | 0, _ => none
  | nL1 + 1, v5 => if (decide (v5 < (List.length p0 : Int))) = true then ((idx p0 v5).bind fun x7 => ((idx p1 v5).bind fun x12 => ((m_laws_eqCache x7 x12).bind fun x17 => (if (!x17) = true then (some false) else (m_laws_eqCacheS_L1 p0 p1 nL1 (IntKind.i64.wrap (v5 + 1))))))) else (some true)
def m_laws_eqCacheS (p0 : List M.Cache) (p1 : List M.Cache) : Option Bool :=
  if ((List.length p0 : Int) != (List.length p1 : Int)) = true then (some false) else (m_laws_eqCacheS_L1 p0 p1 fuel 0)
def m_laws_eqCacheSet (p0 : M.CacheSet) (p1 : M.CacheSet) : Option Bool :=
  (m_laws_eqCacheS p0.Caches p1.Caches).bind fun x1 => (if (!x1) = true then (some false) else (some true))
def m_laws_eqKey (p0 : M.Key) (p1 : M.Key) : Option Bool :=
  if (p0.Kind != p1.Kind) = true then (some false) else (if (p0.N != p1.N) = true then (some false) else (if (!(p0.Text.toList == p1.Text.toList)) = true then (some false) else (some true)))
def m_laws_eqField (p0 : M.Field) (p1 : M.Field) : Option Bool :=
  if (!(p0.Name.toList == p1.Name.toList)) = true then (some false) else (if (p0.N != p1.N) = true then (some false) else (some true))
def m_laws_eqFieldS_L1 (p0 : List M.Field) (p1 : List M.Field) : Nat → Int → Option Bool
  | 0, _ => none
  | nL1 + 1, v5 => if (decide (v5 < (List.length p0 : Int))) = true then ((idx p0 v5).bind fun x7 => ((idx p1 v5).bind fun x12 => ((m_laws_eqField x7 x12).bind fun x17 => (if (!x17) = true then (some false) else (m_laws_eqFieldS_L1 p0 p1 nL1 (IntKind.i64.wrap (v5 + 1))))))) else (some true)
def m_laws_eqFieldS (p0 : List M.Field) (p1 : List M.Field) : Option Bool :=
  if ((List.length p0 : Int) != (List.length p1 : Int)) = true then (some false) else (m_laws_eqFieldS_L1 p0 p1 fuel 0)
def m_laws_eqRecord (p0 : M.Record) (p1 : M.Record) : Option Bool :=
  (m_laws_eqFieldS p0.Fields p1.Fields).bind fun x1 => (if (!x1) = true then (some false) else (some true))
def m_laws_eqItem (p0 : M.Item) (p1 : M.Item) : Option Bool :=
  (m_laws_eqKey p0.Key p1.Key).bind fun x1 => (if (!x1) = true then (some false) else ((m_laws_eqRecord p0.Record p1.Record).bind fun x4 => (if (!x4) = true then (some false) else (some true))))
def m_laws_eqItemS_L1 (p0 : List M.Item) (p1 : List M.Item) : Nat → Int → Option Bool
  | 0, _ => none
  | nL1 + 1, v5 => if (decide (v5 < (List.length p0 : Int))) = true then ((idx p0 v5).bind fun x7 => ((idx p1 v5).bind fun x12 => ((m_laws_eqItem x7 x12).bind fun x17 => (if (!x17) = true then (some false) else (m_laws_eqItemS_L1 p0 p1 nL1 (IntKind.i64.wrap (v5 + 1))))))) else (some true)
def m_laws_eqItemS (p0 : List M.Item) (p1 : List M.Item) : Option Bool :=
  if ((List.length p0 : Int) != (List.length p1 : Int)) = true then (some false) else (m_laws_eqItemS_L1 p0 p1 fuel 0)
def m_laws_eqStore (p0 : M.Store) (p1 : M.Store) : Option Bool :=
  if (!(p0.Name.toList == p1.Name.toList)) = true then (some false) else ((m_laws_eqItemS p0.Items p1.Items).bind fun x2 => (if (!x2) = true then (some false) else (if (p0.Auto != p1.Auto) = true then (some false) else (some true))))
def m_laws_eqStoreS_L1 (p0 : List M.Store) (p1 : List M.Store) : Nat → Int → Option Bool
  | 0, _ => none
  | nL1 + 1, v5 => if (decide (v5 < (List.length p0 : Int))) = true then ((idx p0 v5).bind fun x7 => ((idx p1 v5).bind fun x12 => ((m_laws_eqStore x7 x12).bind fun x17 => (if (!x17) = true then (some false) else (m_laws_eqStoreS_L1 p0 p1 nL1 (IntKind.i64.wrap (v5 + 1))))))) else (some true)
def m_laws_eqStoreS (p0 : List M.Store) (p1 : List M.Store) : Option Bool :=
  if ((List.length p0 : Int) != (List.length p1 : Int)) = true then (some false) else (m_laws_eqStoreS_L1 p0 p1 fuel 0)
def m_laws_eqIndexDef (p0 : M.IndexDef) (p1 : M.IndexDef) : Option Bool :=
  if (!(p0.Store.toList == p1.Store.toList)) = true then (some false) else (if (!(p0.Field.toList == p1.Field.toList)) = true then (some false) else (some true))
def m_laws_eqIndexDefS_L1 (p0 : List M.IndexDef) (p1 : List M.IndexDef) : Nat → Int → Option Bool
  | 0, _ => none
  | nL1 + 1, v5 => if (decide (v5 < (List.length p0 : Int))) = true then ((idx p0 v5).bind fun x7 => ((idx p1 v5).bind fun x12 => ((m_laws_eqIndexDef x7 x12).bind fun x17 => (if (!x17) = true then (some false) else (m_laws_eqIndexDefS_L1 p0 p1 nL1 (IntKind.i64.wrap (v5 + 1))))))) else (some true)
def m_laws_eqIndexDefS (p0 : List M.IndexDef) (p1 : List M.IndexDef) : Option Bool :=
  if ((List.length p0 : Int) != (List.length p1 : Int)) = true then (some false) else (m_laws_eqIndexDefS_L1 p0 p1 fuel 0)
def m_laws_eqDatabase (p0 : M.Database) (p1 : M.Database) : Option Bool :=
  if (!(p0.Name.toList == p1.Name.toList)) = true then (some false) else (if (p0.Version != p1.Version) = true then (some false) else ((m_laws_eqStoreS p0.Stores p1.Stores).bind fun x3 => (if (!x3) = true then (some false) else ((m_laws_eqIndexDefS p0.Unique p1.Unique).bind fun x6 => (if (!x6) = true then (some false) else (some true))))))
def m_laws_eqDisk (p0 : M.Disk) (p1 : M.Disk) : Option Bool :=
  (m_laws_eqDatabase p0.Base p1.Base).bind fun x1 => (if (!x1) = true then (some false) else ((m_laws_eqByteS p0.Log p1.Log).bind fun x4 => (if (!x4) = true then (some false) else (if (p0.Count != p1.Count) = true then (some false) else (some true)))))
def m_laws_eqWrite (p0 : M.Write) (p1 : M.Write) : Option Bool :=
  if (p0.Device != p1.Device) = true then (some false) else (if (p0.Seq != p1.Seq) = true then (some false) else ((m_laws_eqKey p0.Key p1.Key).bind fun x3 => (if (!x3) = true then (some false) else (if (!(p0.Field.toList == p1.Field.toList)) = true then (some false) else (if (p0.N != p1.N) = true then (some false) else (some true))))))
def m_laws_eqWriteS_L1 (p0 : List M.Write) (p1 : List M.Write) : Nat → Int → Option Bool
  | 0, _ => none
  | nL1 + 1, v5 => if (decide (v5 < (List.length p0 : Int))) = true then ((idx p0 v5).bind fun x7 => ((idx p1 v5).bind fun x12 => ((m_laws_eqWrite x7 x12).bind fun x17 => (if (!x17) = true then (some false) else (m_laws_eqWriteS_L1 p0 p1 nL1 (IntKind.i64.wrap (v5 + 1))))))) else (some true)
def m_laws_eqWriteS (p0 : List M.Write) (p1 : List M.Write) : Option Bool :=
  if ((List.length p0 : Int) != (List.length p1 : Int)) = true then (some false) else (m_laws_eqWriteS_L1 p0 p1 fuel 0)
def m_laws_eqOutbox (p0 : M.Outbox) (p1 : M.Outbox) : Option Bool :=
  if (p0.Device != p1.Device) = true then (some false) else (if (p0.Next != p1.Next) = true then (some false) else ((m_laws_eqWriteS p0.Writes p1.Writes).bind fun x3 => (if (!x3) = true then (some false) else (some true))))
def m_laws_eqSync (p0 : M.Sync) (p1 : M.Sync) : Option Bool :=
  (m_laws_eqOutbox p0.Outbox p1.Outbox).bind fun x1 => (if (!x1) = true then (some false) else (if (p0.Tries != p1.Tries) = true then (some false) else (if (p0.WaitUntil != p1.WaitUntil) = true then (some false) else (some true))))
def m_laws_eqReplica (p0 : M.Replica) (p1 : M.Replica) : Option Bool :=
  (m_laws_eqStore p0.Base p1.Base).bind fun x1 => (if (!x1) = true then (some false) else (if (p0.Seen != p1.Seen) = true then (some false) else ((m_laws_eqSync p0.Sync p1.Sync).bind fun x5 => (if (!x5) = true then (some false) else (some true)))))
def m_laws_eqBucket (p0 : M.Bucket) (p1 : M.Bucket) : Option Bool :=
  if (!(p0.Site.toList == p1.Site.toList)) = true then (some false) else (if (!(p0.Top.toList == p1.Top.toList)) = true then (some false) else ((m_laws_eqRegistration p0.Registration p1.Registration).bind fun x3 => (if (!x3) = true then (some false) else ((m_laws_eqCacheSet p0.Caches p1.Caches).bind fun x6 => (if (!x6) = true then (some false) else ((m_laws_eqDisk p0.Disk p1.Disk).bind fun x9 => (if (!x9) = true then (some false) else ((m_laws_eqReplica p0.Replica p1.Replica).bind fun x12 => (if (!x12) = true then (some false) else (if (p0.LastUsed != p1.LastUsed) = true then (some false) else (if (!(p0.Persistent == p1.Persistent)) = true then (some false) else (some true))))))))))))
def m_laws_FnExactUsageOf (p0 : M.Bucket) : Option Bool :=
  (m_laws_szBucket p0 1048576).bind fun x1 => (if (decide (x1 < 0)) = true then (some true) else ((m_laws_toBucket p0).bind fun x4 => ((m_spec_UsageOf x4).bind fun x6 => ((m_laws_toBucket p0).bind fun x8 => ((m_impl_UsageOf x8).bind fun x10 => (if (x10 != x6) = true then (some false) else ((m_laws_toBucket p0).bind fun x13 => ((m_laws_eqBucket x8 x13).bind fun x15 => (if (!x15) = true then (some false) else (some true))))))))))
end Go.Proofs.YtgpiencmneiblaaGreat.gen
