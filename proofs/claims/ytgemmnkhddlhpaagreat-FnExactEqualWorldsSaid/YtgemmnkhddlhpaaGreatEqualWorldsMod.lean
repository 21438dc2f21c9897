/-
  Helper text: plain Lean models of the functions that the law reaches. No conditions.
-/
import Derived.Test.YtgemmnkhddlhpaaGreatShT
namespace Go.Proofs.YtgemmnkhddlhpaaGreat.gen
open Go Go.Sh
set_option linter.unusedVariables false
set_option linter.unusedSimpArgs false
structure M.Registration where
  Site : ByteArray
  Installing : Int
  Waiting : Int
  Active : Int
def M.Registration.en (x : M.Registration) : List D := [.str x.Site, .int .i64 x.Installing, .int .i64 x.Waiting, .int .i64 x.Active]
theorem M.Registration.en.fl (l : List M.Registration) : (List.map M.Registration.en l).all (fun y => y.all D.flat) = true := flatL (fun _ => rfl) l
structure M.Response where
  Type_ : Int
  Status : Int
  Version : Int
  Body : List Int
  Shares : Bool
def M.Response.en (x : M.Response) : List D := [.int .i64 x.Type_, .int .i64 x.Status, .int .i64 x.Version, .sl (List.map enB x.Body), .bool x.Shares]
structure M.Cached where
  Site : ByteArray
  Path : ByteArray
  Response : M.Response
def M.Cached.en (x : M.Cached) : List D := [.str x.Site, .str x.Path, .int .i64 x.Response.Type_, .int .i64 x.Response.Status, .int .i64 x.Response.Version, .sl (List.map enB x.Response.Body), .bool x.Response.Shares]
structure M.Cache where
  Version : Int
  Entries : List M.Cached
def M.Cache.en (x : M.Cache) : List D := [.int .i64 x.Version, .sl (List.map M.Cached.en x.Entries)]
structure M.CacheSet where
  Caches : List M.Cache
def M.CacheSet.en (x : M.CacheSet) : List D := [.sl (List.map M.Cache.en x.Caches)]
structure M.Key where
  Kind : Int
  N : Int
  Text : ByteArray
def M.Key.en (x : M.Key) : List D := [.int .i64 x.Kind, .int .i64 x.N, .str x.Text]
theorem M.Key.en.fl (l : List M.Key) : (List.map M.Key.en l).all (fun y => y.all D.flat) = true := flatL (fun _ => rfl) l
structure M.Field where
  Name : ByteArray
  N : Int
def M.Field.en (x : M.Field) : List D := [.str x.Name, .int .i64 x.N]
theorem M.Field.en.fl (l : List M.Field) : (List.map M.Field.en l).all (fun y => y.all D.flat) = true := flatL (fun _ => rfl) l
structure M.Record where
  Fields : List M.Field
def M.Record.en (x : M.Record) : List D := [.sl (List.map M.Field.en x.Fields)]
structure M.Item where
  Key : M.Key
  Record : M.Record
def M.Item.en (x : M.Item) : List D := [.int .i64 x.Key.Kind, .int .i64 x.Key.N, .str x.Key.Text, .sl (List.map M.Field.en x.Record.Fields)]
structure M.Store where
  Name : ByteArray
  Items : List M.Item
  Auto : Int
def M.Store.en (x : M.Store) : List D := [.str x.Name, .sl (List.map M.Item.en x.Items), .int .i64 x.Auto]
structure M.IndexDef where
  Store : ByteArray
  Field : ByteArray
def M.IndexDef.en (x : M.IndexDef) : List D := [.str x.Store, .str x.Field]
theorem M.IndexDef.en.fl (l : List M.IndexDef) : (List.map M.IndexDef.en l).all (fun y => y.all D.flat) = true := flatL (fun _ => rfl) l
structure M.Database where
  Name : ByteArray
  Version : Int
  Stores : List M.Store
  Unique : List M.IndexDef
def M.Database.en (x : M.Database) : List D := [.str x.Name, .int .i64 x.Version, .sl (List.map M.Store.en x.Stores), .sl (List.map M.IndexDef.en x.Unique)]
structure M.Disk where
  Base : M.Database
  Log : List Int
  Count : Int
def M.Disk.en (x : M.Disk) : List D := [.str x.Base.Name, .int .i64 x.Base.Version, .sl (List.map M.Store.en x.Base.Stores), .sl (List.map M.IndexDef.en x.Base.Unique), .sl (List.map enB x.Log), .int .i64 x.Count]
structure M.Write where
  Device : Int
  Seq : Int
  Key : M.Key
  Field : ByteArray
  N : Int
def M.Write.en (x : M.Write) : List D := [.int .i64 x.Device, .int .i64 x.Seq, .int .i64 x.Key.Kind, .int .i64 x.Key.N, .str x.Key.Text, .str x.Field, .int .i64 x.N]
theorem M.Write.en.fl (l : List M.Write) : (List.map M.Write.en l).all (fun y => y.all D.flat) = true := flatL (fun _ => rfl) l
structure M.Outbox where
  Device : Int
  Next : Int
  Writes : List M.Write
def M.Outbox.en (x : M.Outbox) : List D := [.int .i64 x.Device, .int .i64 x.Next, .sl (List.map M.Write.en x.Writes)]
structure M.Sync where
  Outbox : M.Outbox
  Tries : Int
  WaitUntil : Int
def M.Sync.en (x : M.Sync) : List D := [.int .i64 x.Outbox.Device, .int .i64 x.Outbox.Next, .sl (List.map M.Write.en x.Outbox.Writes), .int .i64 x.Tries, .int .i64 x.WaitUntil]
structure M.Replica where
  Base : M.Store
  Seen : Int
  Sync : M.Sync
def M.Replica.en (x : M.Replica) : List D := [.str x.Base.Name, .sl (List.map M.Item.en x.Base.Items), .int .i64 x.Base.Auto, .int .i64 x.Seen, .int .i64 x.Sync.Outbox.Device, .int .i64 x.Sync.Outbox.Next, .sl (List.map M.Write.en x.Sync.Outbox.Writes), .int .i64 x.Sync.Tries, .int .i64 x.Sync.WaitUntil]
structure M.Bucket where
  Site : ByteArray
  Top : ByteArray
  Registration : M.Registration
  Caches : M.CacheSet
  Disk : M.Disk
  Replica : M.Replica
  LastUsed : Int
  Persistent : Bool
def M.Bucket.en (x : M.Bucket) : List D := [.str x.Site, .str x.Top, .str x.Registration.Site, .int .i64 x.Registration.Installing, .int .i64 x.Registration.Waiting, .int .i64 x.Registration.Active, .sl (List.map M.Cache.en x.Caches.Caches), .str x.Disk.Base.Name, .int .i64 x.Disk.Base.Version, .sl (List.map M.Store.en x.Disk.Base.Stores), .sl (List.map M.IndexDef.en x.Disk.Base.Unique), .sl (List.map enB x.Disk.Log), .int .i64 x.Disk.Count, .str x.Replica.Base.Name, .sl (List.map M.Item.en x.Replica.Base.Items), .int .i64 x.Replica.Base.Auto, .int .i64 x.Replica.Seen, .int .i64 x.Replica.Sync.Outbox.Device, .int .i64 x.Replica.Sync.Outbox.Next, .sl (List.map M.Write.en x.Replica.Sync.Outbox.Writes), .int .i64 x.Replica.Sync.Tries, .int .i64 x.Replica.Sync.WaitUntil, .int .i64 x.LastUsed, .bool x.Persistent]
structure M.Storage where
  Buckets : List M.Bucket
def M.Storage.en (x : M.Storage) : List D := [.sl (List.map M.Bucket.en x.Buckets)]
structure M.Loaded where
  Path : ByteArray
  Version : Int
def M.Loaded.en (x : M.Loaded) : List D := [.str x.Path, .int .i64 x.Version]
theorem M.Loaded.en.fl (l : List M.Loaded) : (List.map M.Loaded.en l).all (fun y => y.all D.flat) = true := flatL (fun _ => rfl) l
structure M.Instr where
  Kind : Int
  R : Int
  N : Int
  Text : ByteArray
def M.Instr.en (x : M.Instr) : List D := [.int .i64 x.Kind, .int .i64 x.R, .int .i64 x.N, .str x.Text]
theorem M.Instr.en.fl (l : List M.Instr) : (List.map M.Instr.en l).all (fun y => y.all D.flat) = true := flatL (fun _ => rfl) l
structure M.Machine where
  Script : List M.Instr
  Pc : Int
  Regs : List Int
  Steps : Int
  Done : Bool
  Wait : Bool
def M.Machine.en (x : M.Machine) : List D := [.sl (List.map M.Instr.en x.Script), .int .i64 x.Pc, .sl (List.map enI x.Regs), .int .i64 x.Steps, .bool x.Done, .bool x.Wait]
structure M.Page where
  Id : Int
  Site : ByteArray
  Top : ByteArray
  Version : Int
  Loaded : List M.Loaded
  Machine : M.Machine
def M.Page.en (x : M.Page) : List D := [.int .i64 x.Id, .str x.Site, .str x.Top, .int .i64 x.Version, .sl (List.map M.Loaded.en x.Loaded), .sl (List.map M.Instr.en x.Machine.Script), .int .i64 x.Machine.Pc, .sl (List.map enI x.Machine.Regs), .int .i64 x.Machine.Steps, .bool x.Machine.Done, .bool x.Machine.Wait]
structure M.Lock where
  Name : ByteArray
  Page : Int
  Shared : Bool
  Held : Bool
def M.Lock.en (x : M.Lock) : List D := [.str x.Name, .int .i64 x.Page, .bool x.Shared, .bool x.Held]
theorem M.Lock.en.fl (l : List M.Lock) : (List.map M.Lock.en l).all (fun y => y.all D.flat) = true := flatL (fun _ => rfl) l
structure M.LockTable where
  Locks : List M.Lock
def M.LockTable.en (x : M.LockTable) : List D := [.sl (List.map M.Lock.en x.Locks)]
structure M.Mail where
  To : Int
  From : Int
  N : Int
def M.Mail.en (x : M.Mail) : List D := [.int .i64 x.To, .int .i64 x.From, .int .i64 x.N]
theorem M.Mail.en.fl (l : List M.Mail) : (List.map M.Mail.en l).all (fun y => y.all D.flat) = true := flatL (fun _ => rfl) l
structure M.Channel where
  Mails : List M.Mail
def M.Channel.en (x : M.Channel) : List D := [.sl (List.map M.Mail.en x.Mails)]
structure M.Site where
  Name : ByteArray
  Version : Int
  Files : List ByteArray
  Shared : Bool
def M.Site.en (x : M.Site) : List D := [.str x.Name, .int .i64 x.Version, .sl (List.map enS x.Files), .bool x.Shared]
structure M.Applied where
  Device : Int
  Seq : Int
def M.Applied.en (x : M.Applied) : List D := [.int .i64 x.Device, .int .i64 x.Seq]
theorem M.Applied.en.fl (l : List M.Applied) : (List.map M.Applied.en l).all (fun y => y.all D.flat) = true := flatL (fun _ => rfl) l
structure M.Server where
  Store : M.Store
  Applied : List M.Applied
  Changes : List M.Write
def M.Server.en (x : M.Server) : List D := [.str x.Store.Name, .sl (List.map M.Item.en x.Store.Items), .int .i64 x.Store.Auto, .sl (List.map M.Applied.en x.Applied), .sl (List.map M.Write.en x.Changes)]
structure M.World where
  Now : Int
  Online : Bool
  Device : Int
  Storage : M.Storage
  Pages : List M.Page
  NextPage : Int
  Locks : M.LockTable
  Channel : M.Channel
  Sites : List M.Site
  Servers : List M.Server
def M.World.en (x : M.World) : List D := [.int .i64 x.Now, .bool x.Online, .int .i64 x.Device, .sl (List.map M.Bucket.en x.Storage.Buckets), .sl (List.map M.Page.en x.Pages), .int .i64 x.NextPage, .sl (List.map M.Lock.en x.Locks.Locks), .sl (List.map M.Mail.en x.Channel.Mails), .sl (List.map M.Site.en x.Sites), .sl (List.map M.Server.en x.Servers)]
def m_laws_szRegistration (p0 : M.Registration) (p1 : Int) : Option Int :=
  if (decide ((IntKind.i64.wrap (p1 - (p0.Site.size : Int))) < 0)) = true then (some (-1)) else (some (IntKind.i64.wrap (p1 - (p0.Site.size : Int))))
def m_laws_szByteS (p0 : List Int) (p1 : Int) : Option Int :=
  if (decide ((IntKind.i64.wrap (p1 - (List.length p0 : Int))) < 0)) = true then (some (-1)) else (some (IntKind.i64.wrap (p1 - (List.length p0 : Int))))
def m_laws_szResponse (p0 : M.Response) (p1 : Int) : Option Int :=
  (m_laws_szByteS p0.Body p1).bind fun x1 => (if (decide (x1 < 0)) = true then (some (-1)) else (some x1))
def m_laws_szCached (p0 : M.Cached) (p1 : Int) : Option Int :=
  if (decide ((IntKind.i64.wrap (p1 - (p0.Site.size : Int))) < 0)) = true then (some (-1)) else (if (decide ((IntKind.i64.wrap ((IntKind.i64.wrap (p1 - (p0.Site.size : Int))) - (p0.Path.size : Int))) < 0)) = true then (some (-1)) else ((m_laws_szResponse p0.Response (IntKind.i64.wrap ((IntKind.i64.wrap (p1 - (p0.Site.size : Int))) - (p0.Path.size : Int)))).bind fun x3 => (if (decide (x3 < 0)) = true then (some (-1)) else (some x3))))
def m_laws_szCachedS_L1 (p0 : List M.Cached) : Nat → Int → Int → Option Int
  | 0, _, _ => none
  | nL1 + 1, v1, v5 => if (decide (v5 < (List.length p0 : Int))) = true then ((idx p0 v5).bind fun x7 => ((m_laws_szCached x7 v1).bind fun x12 => (if (decide (x12 < 0)) = true then (some (-1)) else (m_laws_szCachedS_L1 p0 nL1 x12 (IntKind.i64.wrap (v5 + 1)))))) else (some v1)
def m_laws_szCachedS (p0 : List M.Cached) (p1 : Int) : Option Int :=
  if (decide ((IntKind.i64.wrap (p1 - (List.length p0 : Int))) < 0)) = true then (some (-1)) else (m_laws_szCachedS_L1 p0 fuel (IntKind.i64.wrap (p1 - (List.length p0 : Int))) 0)
def m_laws_szCache (p0 : M.Cache) (p1 : Int) : Option Int :=
  (m_laws_szCachedS p0.Entries p1).bind fun x1 => (if (decide (x1 < 0)) = true then (some (-1)) else (some x1))
def m_laws_szCacheS_L1 (p0 : List M.Cache) : Nat → Int → Int → Option Int
  | 0, _, _ => none
  | nL1 + 1, v1, v5 => if (decide (v5 < (List.length p0 : Int))) = true then ((idx p0 v5).bind fun x7 => ((m_laws_szCache x7 v1).bind fun x12 => (if (decide (x12 < 0)) = true then (some (-1)) else (m_laws_szCacheS_L1 p0 nL1 x12 (IntKind.i64.wrap (v5 + 1)))))) else (some v1)
def m_laws_szCacheS (p0 : List M.Cache) (p1 : Int) : Option Int :=
  if (decide ((IntKind.i64.wrap (p1 - (List.length p0 : Int))) < 0)) = true then (some (-1)) else (m_laws_szCacheS_L1 p0 fuel (IntKind.i64.wrap (p1 - (List.length p0 : Int))) 0)
def m_laws_szCacheSet (p0 : M.CacheSet) (p1 : Int) : Option Int :=
  (m_laws_szCacheS p0.Caches p1).bind fun x1 => (if (decide (x1 < 0)) = true then (some (-1)) else (some x1))
def m_laws_szKey (p0 : M.Key) (p1 : Int) : Option Int :=
  if (decide ((IntKind.i64.wrap (p1 - (p0.Text.size : Int))) < 0)) = true then (some (-1)) else (some (IntKind.i64.wrap (p1 - (p0.Text.size : Int))))
def m_laws_szField (p0 : M.Field) (p1 : Int) : Option Int :=
  if (decide ((IntKind.i64.wrap (p1 - (p0.Name.size : Int))) < 0)) = true then (some (-1)) else (some (IntKind.i64.wrap (p1 - (p0.Name.size : Int))))
def m_laws_szFieldS_L1 (p0 : List M.Field) : Nat → Int → Int → Option Int
  | 0, _, _ => none
  | nL1 + 1, v1, v5 => if (decide (v5 < (List.length p0 : Int))) = true then ((idx p0 v5).bind fun x7 => ((m_laws_szField x7 v1).bind fun x12 => (if (decide (x12 < 0)) = true then (some (-1)) else (m_laws_szFieldS_L1 p0 nL1 x12 (IntKind.i64.wrap (v5 + 1)))))) else (some v1)
def m_laws_szFieldS (p0 : List M.Field) (p1 : Int) : Option Int :=
  if (decide ((IntKind.i64.wrap (p1 - (List.length p0 : Int))) < 0)) = true then (some (-1)) else (m_laws_szFieldS_L1 p0 fuel (IntKind.i64.wrap (p1 - (List.length p0 : Int))) 0)
def m_laws_szRecord (p0 : M.Record) (p1 : Int) : Option Int :=
  (m_laws_szFieldS p0.Fields p1).bind fun x1 => (if (decide (x1 < 0)) = true then (some (-1)) else (some x1))
def m_laws_szItem (p0 : M.Item) (p1 : Int) : Option Int :=
  (m_laws_szKey p0.Key p1).bind fun x1 => (if (decide (x1 < 0)) = true then (some (-1)) else ((m_laws_szRecord p0.Record x1).bind fun x4 => (if (decide (x4 < 0)) = true then (some (-1)) else (some x4))))
def m_laws_szItemS_L1 (p0 : List M.Item) : Nat → Int → Int → Option Int
  | 0, _, _ => none
  | nL1 + 1, v1, v5 => if (decide (v5 < (List.length p0 : Int))) = true then ((idx p0 v5).bind fun x7 => ((m_laws_szItem x7 v1).bind fun x12 => (if (decide (x12 < 0)) = true then (some (-1)) else (m_laws_szItemS_L1 p0 nL1 x12 (IntKind.i64.wrap (v5 + 1)))))) else (some v1)
def m_laws_szItemS (p0 : List M.Item) (p1 : Int) : Option Int :=
  if (decide ((IntKind.i64.wrap (p1 - (List.length p0 : Int))) < 0)) = true then (some (-1)) else (m_laws_szItemS_L1 p0 fuel (IntKind.i64.wrap (p1 - (List.length p0 : Int))) 0)
def m_laws_szStore (p0 : M.Store) (p1 : Int) : Option Int :=
  if (decide ((IntKind.i64.wrap (p1 - (p0.Name.size : Int))) < 0)) = true then (some (-1)) else ((m_laws_szItemS p0.Items (IntKind.i64.wrap (p1 - (p0.Name.size : Int)))).bind fun x2 => (if (decide (x2 < 0)) = true then (some (-1)) else (some x2)))
def m_laws_szStoreS_L1 (p0 : List M.Store) : Nat → Int → Int → Option Int
  | 0, _, _ => none
  | nL1 + 1, v1, v5 => if (decide (v5 < (List.length p0 : Int))) = true then ((idx p0 v5).bind fun x7 => ((m_laws_szStore x7 v1).bind fun x12 => (if (decide (x12 < 0)) = true then (some (-1)) else (m_laws_szStoreS_L1 p0 nL1 x12 (IntKind.i64.wrap (v5 + 1)))))) else (some v1)
def m_laws_szStoreS (p0 : List M.Store) (p1 : Int) : Option Int :=
  if (decide ((IntKind.i64.wrap (p1 - (List.length p0 : Int))) < 0)) = true then (some (-1)) else (m_laws_szStoreS_L1 p0 fuel (IntKind.i64.wrap (p1 - (List.length p0 : Int))) 0)
def m_laws_szIndexDef (p0 : M.IndexDef) (p1 : Int) : Option Int :=
  if (decide ((IntKind.i64.wrap (p1 - (p0.Store.size : Int))) < 0)) = true then (some (-1)) else (if (decide ((IntKind.i64.wrap ((IntKind.i64.wrap (p1 - (p0.Store.size : Int))) - (p0.Field.size : Int))) < 0)) = true then (some (-1)) else (some (IntKind.i64.wrap ((IntKind.i64.wrap (p1 - (p0.Store.size : Int))) - (p0.Field.size : Int)))))
def m_laws_szIndexDefS_L1 (p0 : List M.IndexDef) : Nat → Int → Int → Option Int
  | 0, _, _ => none
  | nL1 + 1, v1, v5 => if (decide (v5 < (List.length p0 : Int))) = true then ((idx p0 v5).bind fun x7 => ((m_laws_szIndexDef x7 v1).bind fun x12 => (if (decide (x12 < 0)) = true then (some (-1)) else (m_laws_szIndexDefS_L1 p0 nL1 x12 (IntKind.i64.wrap (v5 + 1)))))) else (some v1)
def m_laws_szIndexDefS (p0 : List M.IndexDef) (p1 : Int) : Option Int :=
  if (decide ((IntKind.i64.wrap (p1 - (List.length p0 : Int))) < 0)) = true then (some (-1)) else (m_laws_szIndexDefS_L1 p0 fuel (IntKind.i64.wrap (p1 - (List.length p0 : Int))) 0)
def m_laws_szDatabase (p0 : M.Database) (p1 : Int) : Option Int :=
  if (decide ((IntKind.i64.wrap (p1 - (p0.Name.size : Int))) < 0)) = true then (some (-1)) else ((m_laws_szStoreS p0.Stores (IntKind.i64.wrap (p1 - (p0.Name.size : Int)))).bind fun x2 => (if (decide (x2 < 0)) = true then (some (-1)) else ((m_laws_szIndexDefS p0.Unique x2).bind fun x5 => (if (decide (x5 < 0)) = true then (some (-1)) else (some x5)))))
def m_laws_szDisk (p0 : M.Disk) (p1 : Int) : Option Int :=
  (m_laws_szDatabase p0.Base p1).bind fun x1 => (if (decide (x1 < 0)) = true then (some (-1)) else ((m_laws_szByteS p0.Log x1).bind fun x4 => (if (decide (x4 < 0)) = true then (some (-1)) else (some x4))))
def m_laws_szWrite (p0 : M.Write) (p1 : Int) : Option Int :=
  (m_laws_szKey p0.Key p1).bind fun x1 => (if (decide (x1 < 0)) = true then (some (-1)) else (if (decide ((IntKind.i64.wrap (x1 - (p0.Field.size : Int))) < 0)) = true then (some (-1)) else (some (IntKind.i64.wrap (x1 - (p0.Field.size : Int))))))
def m_laws_szWriteS_L1 (p0 : List M.Write) : Nat → Int → Int → Option Int
  | 0, _, _ => none
  | nL1 + 1, v1, v5 => if (decide (v5 < (List.length p0 : Int))) = true then ((idx p0 v5).bind fun x7 => ((m_laws_szWrite x7 v1).bind fun x12 => (if (decide (x12 < 0)) = true then (some (-1)) else (m_laws_szWriteS_L1 p0 nL1 x12 (IntKind.i64.wrap (v5 + 1)))))) else (some v1)
def m_laws_szWriteS (p0 : List M.Write) (p1 : Int) : Option Int :=
  if (decide ((IntKind.i64.wrap (p1 - (List.length p0 : Int))) < 0)) = true then (some (-1)) else (m_laws_szWriteS_L1 p0 fuel (IntKind.i64.wrap (p1 - (List.length p0 : Int))) 0)
def m_laws_szOutbox (p0 : M.Outbox) (p1 : Int) : Option Int :=
  (m_laws_szWriteS p0.Writes p1).bind fun x1 => (if (decide (x1 < 0)) = true then (some (-1)) else (some x1))
def m_laws_szSync (p0 : M.Sync) (p1 : Int) : Option Int :=
  (m_laws_szOutbox p0.Outbox p1).bind fun x1 => (if (decide (x1 < 0)) = true then (some (-1)) else (some x1))
def m_laws_szReplica (p0 : M.Replica) (p1 : Int) : Option Int :=
  (m_laws_szStore p0.Base p1).bind fun x1 => (if (decide (x1 < 0)) = true then (some (-1)) else ((m_laws_szSync p0.Sync x1).bind fun x4 => (if (decide (x4 < 0)) = true then (some (-1)) else (some x4))))
def m_laws_szBucket (p0 : M.Bucket) (p1 : Int) : Option Int :=
  if (decide ((IntKind.i64.wrap (p1 - (p0.Site.size : Int))) < 0)) = true then (some (-1)) else (if (decide ((IntKind.i64.wrap ((IntKind.i64.wrap (p1 - (p0.Site.size : Int))) - (p0.Top.size : Int))) < 0)) = true then (some (-1)) else ((m_laws_szRegistration p0.Registration (IntKind.i64.wrap ((IntKind.i64.wrap (p1 - (p0.Site.size : Int))) - (p0.Top.size : Int)))).bind fun x3 => (if (decide (x3 < 0)) = true then (some (-1)) else ((m_laws_szCacheSet p0.Caches x3).bind fun x6 => (if (decide (x6 < 0)) = true then (some (-1)) else ((m_laws_szDisk p0.Disk x6).bind fun x9 => (if (decide (x9 < 0)) = true then (some (-1)) else ((m_laws_szReplica p0.Replica x9).bind fun x12 => (if (decide (x12 < 0)) = true then (some (-1)) else (some x12))))))))))
def m_laws_szBucketS_L1 (p0 : List M.Bucket) : Nat → Int → Int → Option Int
  | 0, _, _ => none
  | nL1 + 1, v1, v5 => if (decide (v5 < (List.length p0 : Int))) = true then ((idx p0 v5).bind fun x7 => ((m_laws_szBucket x7 v1).bind fun x12 => (if (decide (x12 < 0)) = true then (some (-1)) else (m_laws_szBucketS_L1 p0 nL1 x12 (IntKind.i64.wrap (v5 + 1)))))) else (some v1)
def m_laws_szBucketS (p0 : List M.Bucket) (p1 : Int) : Option Int :=
  if (decide ((IntKind.i64.wrap (p1 - (List.length p0 : Int))) < 0)) = true then (some (-1)) else (m_laws_szBucketS_L1 p0 fuel (IntKind.i64.wrap (p1 - (List.length p0 : Int))) 0)
def m_laws_szStorage (p0 : M.Storage) (p1 : Int) : Option Int :=
  (m_laws_szBucketS p0.Buckets p1).bind fun x1 => (if (decide (x1 < 0)) = true then (some (-1)) else (some x1))
def m_laws_szLoaded (p0 : M.Loaded) (p1 : Int) : Option Int :=
  if (decide ((IntKind.i64.wrap (p1 - (p0.Path.size : Int))) < 0)) = true then (some (-1)) else (some (IntKind.i64.wrap (p1 - (p0.Path.size : Int))))
def m_laws_szLoadedS_L1 (p0 : List M.Loaded) : Nat → Int → Int → Option Int
  | 0, _, _ => none
  | nL1 + 1, v1, v5 => if (decide (v5 < (List.length p0 : Int))) = true then ((idx p0 v5).bind fun x7 => ((m_laws_szLoaded x7 v1).bind fun x12 => (if (decide (x12 < 0)) = true then (some (-1)) else (m_laws_szLoadedS_L1 p0 nL1 x12 (IntKind.i64.wrap (v5 + 1)))))) else (some v1)
def m_laws_szLoadedS (p0 : List M.Loaded) (p1 : Int) : Option Int :=
  if (decide ((IntKind.i64.wrap (p1 - (List.length p0 : Int))) < 0)) = true then (some (-1)) else (m_laws_szLoadedS_L1 p0 fuel (IntKind.i64.wrap (p1 - (List.length p0 : Int))) 0)
def m_laws_szInstr (p0 : M.Instr) (p1 : Int) : Option Int :=
  if (decide ((IntKind.i64.wrap (p1 - (p0.Text.size : Int))) < 0)) = true then (some (-1)) else (some (IntKind.i64.wrap (p1 - (p0.Text.size : Int))))
def m_laws_szInstrS_L1 (p0 : List M.Instr) : Nat → Int → Int → Option Int
  | 0, _, _ => none
  | nL1 + 1, v1, v5 => if (decide (v5 < (List.length p0 : Int))) = true then ((idx p0 v5).bind fun x7 => ((m_laws_szInstr x7 v1).bind fun x12 => (if (decide (x12 < 0)) = true then (some (-1)) else (m_laws_szInstrS_L1 p0 nL1 x12 (IntKind.i64.wrap (v5 + 1)))))) else (some v1)
def m_laws_szInstrS (p0 : List M.Instr) (p1 : Int) : Option Int :=
  if (decide ((IntKind.i64.wrap (p1 - (List.length p0 : Int))) < 0)) = true then (some (-1)) else (m_laws_szInstrS_L1 p0 fuel (IntKind.i64.wrap (p1 - (List.length p0 : Int))) 0)
def m_laws_szIntS (p0 : List Int) (p1 : Int) : Option Int :=
  if (decide ((IntKind.i64.wrap (p1 - (List.length p0 : Int))) < 0)) = true then (some (-1)) else (some (IntKind.i64.wrap (p1 - (List.length p0 : Int))))
def m_laws_szMachine (p0 : M.Machine) (p1 : Int) : Option Int :=
  (m_laws_szInstrS p0.Script p1).bind fun x1 => (if (decide (x1 < 0)) = true then (some (-1)) else ((m_laws_szIntS p0.Regs x1).bind fun x4 => (if (decide (x4 < 0)) = true then (some (-1)) else (some x4))))
def m_laws_szPage (p0 : M.Page) (p1 : Int) : Option Int :=
  if (decide ((IntKind.i64.wrap (p1 - (p0.Site.size : Int))) < 0)) = true then (some (-1)) else (if (decide ((IntKind.i64.wrap ((IntKind.i64.wrap (p1 - (p0.Site.size : Int))) - (p0.Top.size : Int))) < 0)) = true then (some (-1)) else ((m_laws_szLoadedS p0.Loaded (IntKind.i64.wrap ((IntKind.i64.wrap (p1 - (p0.Site.size : Int))) - (p0.Top.size : Int)))).bind fun x3 => (if (decide (x3 < 0)) = true then (some (-1)) else ((m_laws_szMachine p0.Machine x3).bind fun x6 => (if (decide (x6 < 0)) = true then (some (-1)) else (some x6))))))
def m_laws_szPageS_L1 (p0 : List M.Page) : Nat → Int → Int → Option Int
  | 0, _, _ => none
  | nL1 + 1, v1, v5 => if (decide (v5 < (List.length p0 : Int))) = true then ((idx p0 v5).bind fun x7 => ((m_laws_szPage x7 v1).bind fun x12 => (if (decide (x12 < 0)) = true then (some (-1)) else (m_laws_szPageS_L1 p0 nL1 x12 (IntKind.i64.wrap (v5 + 1)))))) else (some v1)
def m_laws_szPageS (p0 : List M.Page) (p1 : Int) : Option Int :=
  if (decide ((IntKind.i64.wrap (p1 - (List.length p0 : Int))) < 0)) = true then (some (-1)) else (m_laws_szPageS_L1 p0 fuel (IntKind.i64.wrap (p1 - (List.length p0 : Int))) 0)
def m_laws_szLock (p0 : M.Lock) (p1 : Int) : Option Int :=
  if (decide ((IntKind.i64.wrap (p1 - (p0.Name.size : Int))) < 0)) = true then (some (-1)) else (some (IntKind.i64.wrap (p1 - (p0.Name.size : Int))))
def m_laws_szLockS_L1 (p0 : List M.Lock) : Nat → Int → Int → Option Int
  | 0, _, _ => none
  | nL1 + 1, v1, v5 => if (decide (v5 < (List.length p0 : Int))) = true then ((idx p0 v5).bind fun x7 => ((m_laws_szLock x7 v1).bind fun x12 => (if (decide (x12 < 0)) = true then (some (-1)) else (m_laws_szLockS_L1 p0 nL1 x12 (IntKind.i64.wrap (v5 + 1)))))) else (some v1)
def m_laws_szLockS (p0 : List M.Lock) (p1 : Int) : Option Int :=
  if (decide ((IntKind.i64.wrap (p1 - (List.length p0 : Int))) < 0)) = true then (some (-1)) else (m_laws_szLockS_L1 p0 fuel (IntKind.i64.wrap (p1 - (List.length p0 : Int))) 0)
def m_laws_szLockTable (p0 : M.LockTable) (p1 : Int) : Option Int :=
  (m_laws_szLockS p0.Locks p1).bind fun x1 => (if (decide (x1 < 0)) = true then (some (-1)) else (some x1))
def m_laws_szMailS (p0 : List M.Mail) (p1 : Int) : Option Int :=
  if (decide ((IntKind.i64.wrap (p1 - (List.length p0 : Int))) < 0)) = true then (some (-1)) else (some (IntKind.i64.wrap (p1 - (List.length p0 : Int))))
def m_laws_szChannel (p0 : M.Channel) (p1 : Int) : Option Int :=
  (m_laws_szMailS p0.Mails p1).bind fun x1 => (if (decide (x1 < 0)) = true then (some (-1)) else (some x1))
def m_laws_szStringS_L1 (p0 : List ByteArray) : Nat → Int → Int → Option Int
  | 0, _, _ => none
  | nL1 + 1, v1, v5 => if (decide (v5 < (List.length p0 : Int))) = true then ((idx p0 v5).bind fun x7 => (if (decide ((IntKind.i64.wrap (v1 - (x7.size : Int))) < 0)) = true then (some (-1)) else (m_laws_szStringS_L1 p0 nL1 (IntKind.i64.wrap (v1 - (x7.size : Int))) (IntKind.i64.wrap (v5 + 1))))) else (some v1)
def m_laws_szStringS (p0 : List ByteArray) (p1 : Int) : Option Int :=
  if (decide ((IntKind.i64.wrap (p1 - (List.length p0 : Int))) < 0)) = true then (some (-1)) else (m_laws_szStringS_L1 p0 fuel (IntKind.i64.wrap (p1 - (List.length p0 : Int))) 0)
def m_laws_szSite (p0 : M.Site) (p1 : Int) : Option Int :=
  if (decide ((IntKind.i64.wrap (p1 - (p0.Name.size : Int))) < 0)) = true then (some (-1)) else ((m_laws_szStringS p0.Files (IntKind.i64.wrap (p1 - (p0.Name.size : Int)))).bind fun x2 => (if (decide (x2 < 0)) = true then (some (-1)) else (some x2)))
def m_laws_szSiteS_L1 (p0 : List M.Site) : Nat → Int → Int → Option Int
  | 0, _, _ => none
  | nL1 + 1, v1, v5 => if (decide (v5 < (List.length p0 : Int))) = true then ((idx p0 v5).bind fun x7 => ((m_laws_szSite x7 v1).bind fun x12 => (if (decide (x12 < 0)) = true then (some (-1)) else (m_laws_szSiteS_L1 p0 nL1 x12 (IntKind.i64.wrap (v5 + 1)))))) else (some v1)
def m_laws_szSiteS (p0 : List M.Site) (p1 : Int) : Option Int :=
  if (decide ((IntKind.i64.wrap (p1 - (List.length p0 : Int))) < 0)) = true then (some (-1)) else (m_laws_szSiteS_L1 p0 fuel (IntKind.i64.wrap (p1 - (List.length p0 : Int))) 0)
def m_laws_szAppliedS (p0 : List M.Applied) (p1 : Int) : Option Int :=
  if (decide ((IntKind.i64.wrap (p1 - (List.length p0 : Int))) < 0)) = true then (some (-1)) else (some (IntKind.i64.wrap (p1 - (List.length p0 : Int))))
def m_laws_szServer (p0 : M.Server) (p1 : Int) : Option Int :=
  (m_laws_szStore p0.Store p1).bind fun x1 => (if (decide (x1 < 0)) = true then (some (-1)) else ((m_laws_szAppliedS p0.Applied x1).bind fun x4 => (if (decide (x4 < 0)) = true then (some (-1)) else ((m_laws_szWriteS p0.Changes x4).bind fun x7 => (if (decide (x7 < 0)) = true then (some (-1)) else (some x7))))))
def m_laws_szServerS_L1 (p0 : List M.Server) : Nat → Int → Int → Option Int
  | 0, _, _ => none
  | nL1 + 1, v1, v5 => if (decide (v5 < (List.length p0 : Int))) = true then ((idx p0 v5).bind fun x7 => ((m_laws_szServer x7 v1).bind fun x12 => (if (decide (x12 < 0)) = true then (some (-1)) else (m_laws_szServerS_L1 p0 nL1 x12 (IntKind.i64.wrap (v5 + 1)))))) else (some v1)
def m_laws_szServerS (p0 : List M.Server) (p1 : Int) : Option Int :=
  if (decide ((IntKind.i64.wrap (p1 - (List.length p0 : Int))) < 0)) = true then (some (-1)) else (m_laws_szServerS_L1 p0 fuel (IntKind.i64.wrap (p1 - (List.length p0 : Int))) 0)
def m_laws_szWorld (p0 : M.World) (p1 : Int) : Option Int :=
  (m_laws_szStorage p0.Storage p1).bind fun x1 => (if (decide (x1 < 0)) = true then (some (-1)) else ((m_laws_szPageS p0.Pages x1).bind fun x4 => (if (decide (x4 < 0)) = true then (some (-1)) else ((m_laws_szLockTable p0.Locks x4).bind fun x7 => (if (decide (x7 < 0)) = true then (some (-1)) else ((m_laws_szChannel p0.Channel x7).bind fun x10 => (if (decide (x10 < 0)) = true then (some (-1)) else ((m_laws_szSiteS p0.Sites x10).bind fun x13 => (if (decide (x13 < 0)) = true then (some (-1)) else ((m_laws_szServerS p0.Servers x13).bind fun x16 => (if (decide (x16 < 0)) = true then (some (-1)) else (some x16))))))))))))
def m_laws_toRegistration (p0 : M.Registration) : Option M.Registration :=
  some p0
def m_laws_toByteS_L1 (p0 : List Int) : Nat → Int → List Int → Option (List Int)
  | 0, _, _ => none
  | nL1 + 1, v4, r7 => if (decide (v4 < (List.length p0 : Int))) = true then ((idx p0 v4).bind fun x13 => ((idx r7 v4).bind fun x18 => (m_laws_toByteS_L1 p0 nL1 (IntKind.i64.wrap (v4 + 1)) (List.set r7 v4.toNat x13)))) else (some r7)
def m_laws_toByteS (p0 : List Int) : Option (List Int) :=
  (mkL 1 (List.length p0 : Int) 0).bind fun x1 => (m_laws_toByteS_L1 p0 fuel 0 (List.replicate (List.length p0 : Int).toNat 0))
def m_laws_toResponse (p0 : M.Response) : Option M.Response :=
  (m_laws_toByteS p0.Body).bind fun x1 => (some (⟨p0.Type_, p0.Status, p0.Version, x1, p0.Shares⟩ : M.Response))
def m_laws_toCached (p0 : M.Cached) : Option M.Cached :=
  (m_laws_toResponse p0.Response).bind fun x1 => (some (⟨p0.Site, p0.Path, x1⟩ : M.Cached))
def m_laws_toCachedS_L1 (p0 : List M.Cached) : Nat → Int → List M.Cached → Option (List M.Cached)
  | 0, _, _ => none
  | nL1 + 1, v4, r7 => if (decide (v4 < (List.length p0 : Int))) = true then ((idx p0 v4).bind fun x13 => ((m_laws_toCached x13).bind fun x18 => ((idx r7 v4).bind fun x20 => (m_laws_toCachedS_L1 p0 nL1 (IntKind.i64.wrap (v4 + 1)) (List.set r7 v4.toNat x18))))) else (some r7)
def m_laws_toCachedS (p0 : List M.Cached) : Option (List M.Cached) :=
  (mkL 88 (List.length p0 : Int) (⟨(⟨#[]⟩ : ByteArray), (⟨#[]⟩ : ByteArray), (⟨0, 0, 0, ([] : List Int), false⟩ : M.Response)⟩ : M.Cached)).bind fun x1 => (m_laws_toCachedS_L1 p0 fuel 0 (List.replicate (List.length p0 : Int).toNat (⟨(⟨#[]⟩ : ByteArray), (⟨#[]⟩ : ByteArray), (⟨0, 0, 0, ([] : List Int), false⟩ : M.Response)⟩ : M.Cached)))
def m_laws_toCache (p0 : M.Cache) : Option M.Cache :=
  (m_laws_toCachedS p0.Entries).bind fun x1 => (some (⟨p0.Version, x1⟩ : M.Cache))
def m_laws_toCacheS_L1 (p0 : List M.Cache) : Nat → Int → List M.Cache → Option (List M.Cache)
  | 0, _, _ => none
  | nL1 + 1, v4, r7 => if (decide (v4 < (List.length p0 : Int))) = true then ((idx p0 v4).bind fun x13 => ((m_laws_toCache x13).bind fun x18 => ((idx r7 v4).bind fun x20 => (m_laws_toCacheS_L1 p0 nL1 (IntKind.i64.wrap (v4 + 1)) (List.set r7 v4.toNat x18))))) else (some r7)
def m_laws_toCacheS (p0 : List M.Cache) : Option (List M.Cache) :=
  (mkL 32 (List.length p0 : Int) (⟨0, ([] : List M.Cached)⟩ : M.Cache)).bind fun x1 => (m_laws_toCacheS_L1 p0 fuel 0 (List.replicate (List.length p0 : Int).toNat (⟨0, ([] : List M.Cached)⟩ : M.Cache)))
def m_laws_toCacheSet (p0 : M.CacheSet) : Option M.CacheSet :=
  (m_laws_toCacheS p0.Caches).bind fun x1 => (some (⟨x1⟩ : M.CacheSet))
def m_laws_toKey (p0 : M.Key) : Option M.Key :=
  some p0
def m_laws_toField (p0 : M.Field) : Option M.Field :=
  some p0
def m_laws_toFieldS_L1 (p0 : List M.Field) : Nat → Int → List M.Field → Option (List M.Field)
  | 0, _, _ => none
  | nL1 + 1, v4, r7 => if (decide (v4 < (List.length p0 : Int))) = true then ((idx p0 v4).bind fun x13 => ((m_laws_toField x13).bind fun x18 => ((idx r7 v4).bind fun x20 => (m_laws_toFieldS_L1 p0 nL1 (IntKind.i64.wrap (v4 + 1)) (List.set r7 v4.toNat x18))))) else (some r7)
def m_laws_toFieldS (p0 : List M.Field) : Option (List M.Field) :=
  (mkL 24 (List.length p0 : Int) (⟨(⟨#[]⟩ : ByteArray), 0⟩ : M.Field)).bind fun x1 => (m_laws_toFieldS_L1 p0 fuel 0 (List.replicate (List.length p0 : Int).toNat (⟨(⟨#[]⟩ : ByteArray), 0⟩ : M.Field)))
def m_laws_toRecord (p0 : M.Record) : Option M.Record :=
  (m_laws_toFieldS p0.Fields).bind fun x1 => (some (⟨x1⟩ : M.Record))
def m_laws_toItem (p0 : M.Item) : Option M.Item :=
  (m_laws_toKey p0.Key).bind fun x1 => ((m_laws_toRecord p0.Record).bind fun x3 => (some (⟨x1, x3⟩ : M.Item)))
def m_laws_toItemS_L1 (p0 : List M.Item) : Nat → Int → List M.Item → Option (List M.Item)
  | 0, _, _ => none
  | nL1 + 1, v4, r7 => if (decide (v4 < (List.length p0 : Int))) = true then ((idx p0 v4).bind fun x13 => ((m_laws_toItem x13).bind fun x18 => ((idx r7 v4).bind fun x20 => (m_laws_toItemS_L1 p0 nL1 (IntKind.i64.wrap (v4 + 1)) (List.set r7 v4.toNat x18))))) else (some r7)
def m_laws_toItemS (p0 : List M.Item) : Option (List M.Item) :=
  (mkL 56 (List.length p0 : Int) (⟨(⟨0, 0, (⟨#[]⟩ : ByteArray)⟩ : M.Key), (⟨([] : List M.Field)⟩ : M.Record)⟩ : M.Item)).bind fun x1 => (m_laws_toItemS_L1 p0 fuel 0 (List.replicate (List.length p0 : Int).toNat (⟨(⟨0, 0, (⟨#[]⟩ : ByteArray)⟩ : M.Key), (⟨([] : List M.Field)⟩ : M.Record)⟩ : M.Item)))
def m_laws_toStore (p0 : M.Store) : Option M.Store :=
  (m_laws_toItemS p0.Items).bind fun x1 => (some (⟨p0.Name, x1, p0.Auto⟩ : M.Store))
def m_laws_toStoreS_L1 (p0 : List M.Store) : Nat → Int → List M.Store → Option (List M.Store)
  | 0, _, _ => none
  | nL1 + 1, v4, r7 => if (decide (v4 < (List.length p0 : Int))) = true then ((idx p0 v4).bind fun x13 => ((m_laws_toStore x13).bind fun x18 => ((idx r7 v4).bind fun x20 => (m_laws_toStoreS_L1 p0 nL1 (IntKind.i64.wrap (v4 + 1)) (List.set r7 v4.toNat x18))))) else (some r7)
def m_laws_toStoreS (p0 : List M.Store) : Option (List M.Store) :=
  (mkL 48 (List.length p0 : Int) (⟨(⟨#[]⟩ : ByteArray), ([] : List M.Item), 0⟩ : M.Store)).bind fun x1 => (m_laws_toStoreS_L1 p0 fuel 0 (List.replicate (List.length p0 : Int).toNat (⟨(⟨#[]⟩ : ByteArray), ([] : List M.Item), 0⟩ : M.Store)))
def m_laws_toIndexDef (p0 : M.IndexDef) : Option M.IndexDef :=
  some p0
def m_laws_toIndexDefS_L1 (p0 : List M.IndexDef) : Nat → Int → List M.IndexDef → Option (List M.IndexDef)
  | 0, _, _ => none
  | nL1 + 1, v4, r7 => if (decide (v4 < (List.length p0 : Int))) = true then ((idx p0 v4).bind fun x13 => ((m_laws_toIndexDef x13).bind fun x18 => ((idx r7 v4).bind fun x20 => (m_laws_toIndexDefS_L1 p0 nL1 (IntKind.i64.wrap (v4 + 1)) (List.set r7 v4.toNat x18))))) else (some r7)
def m_laws_toIndexDefS (p0 : List M.IndexDef) : Option (List M.IndexDef) :=
  (mkL 32 (List.length p0 : Int) (⟨(⟨#[]⟩ : ByteArray), (⟨#[]⟩ : ByteArray)⟩ : M.IndexDef)).bind fun x1 => (m_laws_toIndexDefS_L1 p0 fuel 0 (List.replicate (List.length p0 : Int).toNat (⟨(⟨#[]⟩ : ByteArray), (⟨#[]⟩ : ByteArray)⟩ : M.IndexDef)))
def m_laws_toDatabase (p0 : M.Database) : Option M.Database :=
  (m_laws_toStoreS p0.Stores).bind fun x1 => ((m_laws_toIndexDefS p0.Unique).bind fun x3 => (some (⟨p0.Name, p0.Version, x1, x3⟩ : M.Database)))
def m_laws_toDisk (p0 : M.Disk) : Option M.Disk :=
  (m_laws_toDatabase p0.Base).bind fun x1 => ((m_laws_toByteS p0.Log).bind fun x3 => (some (⟨x1, x3, p0.Count⟩ : M.Disk)))
def m_laws_toWrite (p0 : M.Write) : Option M.Write :=
  (m_laws_toKey p0.Key).bind fun x1 => (some (⟨p0.Device, p0.Seq, x1, p0.Field, p0.N⟩ : M.Write))
def m_laws_toWriteS_L1 (p0 : List M.Write) : Nat → Int → List M.Write → Option (List M.Write)
  | 0, _, _ => none
  | nL1 + 1, v4, r7 => if (decide (v4 < (List.length p0 : Int))) = true then ((idx p0 v4).bind fun x13 => ((m_laws_toWrite x13).bind fun x18 => ((idx r7 v4).bind fun x20 => (m_laws_toWriteS_L1 p0 nL1 (IntKind.i64.wrap (v4 + 1)) (List.set r7 v4.toNat x18))))) else (some r7)
def m_laws_toWriteS (p0 : List M.Write) : Option (List M.Write) :=
  (mkL 72 (List.length p0 : Int) (⟨0, 0, (⟨0, 0, (⟨#[]⟩ : ByteArray)⟩ : M.Key), (⟨#[]⟩ : ByteArray), 0⟩ : M.Write)).bind fun x1 => (m_laws_toWriteS_L1 p0 fuel 0 (List.replicate (List.length p0 : Int).toNat (⟨0, 0, (⟨0, 0, (⟨#[]⟩ : ByteArray)⟩ : M.Key), (⟨#[]⟩ : ByteArray), 0⟩ : M.Write)))
def m_laws_toOutbox (p0 : M.Outbox) : Option M.Outbox :=
  (m_laws_toWriteS p0.Writes).bind fun x1 => (some (⟨p0.Device, p0.Next, x1⟩ : M.Outbox))
def m_laws_toSync (p0 : M.Sync) : Option M.Sync :=
  (m_laws_toOutbox p0.Outbox).bind fun x1 => (some (⟨x1, p0.Tries, p0.WaitUntil⟩ : M.Sync))
def m_laws_toReplica (p0 : M.Replica) : Option M.Replica :=
  (m_laws_toStore p0.Base).bind fun x1 => ((m_laws_toSync p0.Sync).bind fun x3 => (some (⟨x1, p0.Seen, x3⟩ : M.Replica)))
def m_laws_toBucket (p0 : M.Bucket) : Option M.Bucket :=
  (m_laws_toRegistration p0.Registration).bind fun x1 => ((m_laws_toCacheSet p0.Caches).bind fun x3 => ((m_laws_toDisk p0.Disk).bind fun x5 => ((m_laws_toReplica p0.Replica).bind fun x7 => (some (⟨p0.Site, p0.Top, x1, x3, x5, x7, p0.LastUsed, p0.Persistent⟩ : M.Bucket)))))
def m_laws_toBucketS_L1 (p0 : List M.Bucket) : Nat → Int → List M.Bucket → Option (List M.Bucket)
  | 0, _, _ => none
  | nL1 + 1, v4, r7 => if (decide (v4 < (List.length p0 : Int))) = true then ((idx p0 v4).bind fun x13 => ((m_laws_toBucket x13).bind fun x18 => ((idx r7 v4).bind fun x20 => (m_laws_toBucketS_L1 p0 nL1 (IntKind.i64.wrap (v4 + 1)) (List.set r7 v4.toNat x18))))) else (some r7)
def m_laws_toBucketS (p0 : List M.Bucket) : Option (List M.Bucket) :=
  (mkL 328 (List.length p0 : Int) (⟨(⟨#[]⟩ : ByteArray), (⟨#[]⟩ : ByteArray), (⟨(⟨#[]⟩ : ByteArray), 0, 0, 0⟩ : M.Registration), (⟨([] : List M.Cache)⟩ : M.CacheSet), (⟨(⟨(⟨#[]⟩ : ByteArray), 0, ([] : List M.Store), ([] : List M.IndexDef)⟩ : M.Database), ([] : List Int), 0⟩ : M.Disk), (⟨(⟨(⟨#[]⟩ : ByteArray), ([] : List M.Item), 0⟩ : M.Store), 0, (⟨(⟨0, 0, ([] : List M.Write)⟩ : M.Outbox), 0, 0⟩ : M.Sync)⟩ : M.Replica), 0, false⟩ : M.Bucket)).bind fun x1 => (m_laws_toBucketS_L1 p0 fuel 0 (List.replicate (List.length p0 : Int).toNat (⟨(⟨#[]⟩ : ByteArray), (⟨#[]⟩ : ByteArray), (⟨(⟨#[]⟩ : ByteArray), 0, 0, 0⟩ : M.Registration), (⟨([] : List M.Cache)⟩ : M.CacheSet), (⟨(⟨(⟨#[]⟩ : ByteArray), 0, ([] : List M.Store), ([] : List M.IndexDef)⟩ : M.Database), ([] : List Int), 0⟩ : M.Disk), (⟨(⟨(⟨#[]⟩ : ByteArray), ([] : List M.Item), 0⟩ : M.Store), 0, (⟨(⟨0, 0, ([] : List M.Write)⟩ : M.Outbox), 0, 0⟩ : M.Sync)⟩ : M.Replica), 0, false⟩ : M.Bucket)))
def m_laws_toStorage (p0 : M.Storage) : Option M.Storage :=
  (m_laws_toBucketS p0.Buckets).bind fun x1 => (some (⟨x1⟩ : M.Storage))
def m_laws_toLoaded (p0 : M.Loaded) : Option M.Loaded :=
  some p0
def m_laws_toLoadedS_L1 (p0 : List M.Loaded) : Nat → Int → List M.Loaded → Option (List M.Loaded)
  | 0, _, _ => none
  | nL1 + 1, v4, r7 => if (decide (v4 < (List.length p0 : Int))) = true then ((idx p0 v4).bind fun x13 => ((m_laws_toLoaded x13).bind fun x18 => ((idx r7 v4).bind fun x20 => (m_laws_toLoadedS_L1 p0 nL1 (IntKind.i64.wrap (v4 + 1)) (List.set r7 v4.toNat x18))))) else (some r7)
def m_laws_toLoadedS (p0 : List M.Loaded) : Option (List M.Loaded) :=
  (mkL 24 (List.length p0 : Int) (⟨(⟨#[]⟩ : ByteArray), 0⟩ : M.Loaded)).bind fun x1 => (m_laws_toLoadedS_L1 p0 fuel 0 (List.replicate (List.length p0 : Int).toNat (⟨(⟨#[]⟩ : ByteArray), 0⟩ : M.Loaded)))
def m_laws_toInstr (p0 : M.Instr) : Option M.Instr :=
  some p0
def m_laws_toInstrS_L1 (p0 : List M.Instr) : Nat → Int → List M.Instr → Option (List M.Instr)
  | 0, _, _ => none
  | nL1 + 1, v4, r7 => if (decide (v4 < (List.length p0 : Int))) = true then ((idx p0 v4).bind fun x13 => ((m_laws_toInstr x13).bind fun x18 => ((idx r7 v4).bind fun x20 => (m_laws_toInstrS_L1 p0 nL1 (IntKind.i64.wrap (v4 + 1)) (List.set r7 v4.toNat x18))))) else (some r7)
def m_laws_toInstrS (p0 : List M.Instr) : Option (List M.Instr) :=
  (mkL 40 (List.length p0 : Int) (⟨0, 0, 0, (⟨#[]⟩ : ByteArray)⟩ : M.Instr)).bind fun x1 => (m_laws_toInstrS_L1 p0 fuel 0 (List.replicate (List.length p0 : Int).toNat (⟨0, 0, 0, (⟨#[]⟩ : ByteArray)⟩ : M.Instr)))
def m_laws_toIntS_L1 (p0 : List Int) : Nat → Int → List Int → Option (List Int)
  | 0, _, _ => none
  | nL1 + 1, v4, r7 => if (decide (v4 < (List.length p0 : Int))) = true then ((idx p0 v4).bind fun x13 => ((idx r7 v4).bind fun x18 => (m_laws_toIntS_L1 p0 nL1 (IntKind.i64.wrap (v4 + 1)) (List.set r7 v4.toNat x13)))) else (some r7)
def m_laws_toIntS (p0 : List Int) : Option (List Int) :=
  (mkL 8 (List.length p0 : Int) 0).bind fun x1 => (m_laws_toIntS_L1 p0 fuel 0 (List.replicate (List.length p0 : Int).toNat 0))
def m_laws_toMachine (p0 : M.Machine) : Option M.Machine :=
  (m_laws_toInstrS p0.Script).bind fun x1 => ((m_laws_toIntS p0.Regs).bind fun x3 => (some (⟨x1, p0.Pc, x3, p0.Steps, p0.Done, p0.Wait⟩ : M.Machine)))
def m_laws_toPage (p0 : M.Page) : Option M.Page :=
  (m_laws_toLoadedS p0.Loaded).bind fun x1 => ((m_laws_toMachine p0.Machine).bind fun x3 => (some (⟨p0.Id, p0.Site, p0.Top, p0.Version, x1, x3⟩ : M.Page)))
def m_laws_toPageS_L1 (p0 : List M.Page) : Nat → Int → List M.Page → Option (List M.Page)
  | 0, _, _ => none
  | nL1 + 1, v4, r7 => if (decide (v4 < (List.length p0 : Int))) = true then ((idx p0 v4).bind fun x13 => ((m_laws_toPage x13).bind fun x18 => ((idx r7 v4).bind fun x20 => (m_laws_toPageS_L1 p0 nL1 (IntKind.i64.wrap (v4 + 1)) (List.set r7 v4.toNat x18))))) else (some r7)
def m_laws_toPageS (p0 : List M.Page) : Option (List M.Page) :=
  (mkL 144 (List.length p0 : Int) (⟨0, (⟨#[]⟩ : ByteArray), (⟨#[]⟩ : ByteArray), 0, ([] : List M.Loaded), (⟨([] : List M.Instr), 0, ([] : List Int), 0, false, false⟩ : M.Machine)⟩ : M.Page)).bind fun x1 => (m_laws_toPageS_L1 p0 fuel 0 (List.replicate (List.length p0 : Int).toNat (⟨0, (⟨#[]⟩ : ByteArray), (⟨#[]⟩ : ByteArray), 0, ([] : List M.Loaded), (⟨([] : List M.Instr), 0, ([] : List Int), 0, false, false⟩ : M.Machine)⟩ : M.Page)))
def m_laws_toLock (p0 : M.Lock) : Option M.Lock :=
  some p0
def m_laws_toLockS_L1 (p0 : List M.Lock) : Nat → Int → List M.Lock → Option (List M.Lock)
  | 0, _, _ => none
  | nL1 + 1, v4, r7 => if (decide (v4 < (List.length p0 : Int))) = true then ((idx p0 v4).bind fun x13 => ((m_laws_toLock x13).bind fun x18 => ((idx r7 v4).bind fun x20 => (m_laws_toLockS_L1 p0 nL1 (IntKind.i64.wrap (v4 + 1)) (List.set r7 v4.toNat x18))))) else (some r7)
def m_laws_toLockS (p0 : List M.Lock) : Option (List M.Lock) :=
  (mkL 32 (List.length p0 : Int) (⟨(⟨#[]⟩ : ByteArray), 0, false, false⟩ : M.Lock)).bind fun x1 => (m_laws_toLockS_L1 p0 fuel 0 (List.replicate (List.length p0 : Int).toNat (⟨(⟨#[]⟩ : ByteArray), 0, false, false⟩ : M.Lock)))
def m_laws_toLockTable (p0 : M.LockTable) : Option M.LockTable :=
  (m_laws_toLockS p0.Locks).bind fun x1 => (some (⟨x1⟩ : M.LockTable))
def m_laws_toMail (p0 : M.Mail) : Option M.Mail :=
  some p0
def m_laws_toMailS_L1 (p0 : List M.Mail) : Nat → Int → List M.Mail → Option (List M.Mail)
  | 0, _, _ => none
  | nL1 + 1, v4, r7 => if (decide (v4 < (List.length p0 : Int))) = true then ((idx p0 v4).bind fun x13 => ((m_laws_toMail x13).bind fun x18 => ((idx r7 v4).bind fun x20 => (m_laws_toMailS_L1 p0 nL1 (IntKind.i64.wrap (v4 + 1)) (List.set r7 v4.toNat x18))))) else (some r7)
def m_laws_toMailS (p0 : List M.Mail) : Option (List M.Mail) :=
  (mkL 24 (List.length p0 : Int) (⟨0, 0, 0⟩ : M.Mail)).bind fun x1 => (m_laws_toMailS_L1 p0 fuel 0 (List.replicate (List.length p0 : Int).toNat (⟨0, 0, 0⟩ : M.Mail)))
def m_laws_toChannel (p0 : M.Channel) : Option M.Channel :=
  (m_laws_toMailS p0.Mails).bind fun x1 => (some (⟨x1⟩ : M.Channel))
def m_laws_toStringS_L1 (p0 : List ByteArray) : Nat → Int → List ByteArray → Option (List ByteArray)
  | 0, _, _ => none
  | nL1 + 1, v4, r7 => if (decide (v4 < (List.length p0 : Int))) = true then ((idx p0 v4).bind fun x13 => ((idx r7 v4).bind fun x18 => (m_laws_toStringS_L1 p0 nL1 (IntKind.i64.wrap (v4 + 1)) (List.set r7 v4.toNat x13)))) else (some r7)
def m_laws_toStringS (p0 : List ByteArray) : Option (List ByteArray) :=
  (mkL 16 (List.length p0 : Int) (⟨#[]⟩ : ByteArray)).bind fun x1 => (m_laws_toStringS_L1 p0 fuel 0 (List.replicate (List.length p0 : Int).toNat (⟨#[]⟩ : ByteArray)))
def m_laws_toSite (p0 : M.Site) : Option M.Site :=
  (m_laws_toStringS p0.Files).bind fun x1 => (some (⟨p0.Name, p0.Version, x1, p0.Shared⟩ : M.Site))
def m_laws_toSiteS_L1 (p0 : List M.Site) : Nat → Int → List M.Site → Option (List M.Site)
  | 0, _, _ => none
  | nL1 + 1, v4, r7 => if (decide (v4 < (List.length p0 : Int))) = true then ((idx p0 v4).bind fun x13 => ((m_laws_toSite x13).bind fun x18 => ((idx r7 v4).bind fun x20 => (m_laws_toSiteS_L1 p0 nL1 (IntKind.i64.wrap (v4 + 1)) (List.set r7 v4.toNat x18))))) else (some r7)
def m_laws_toSiteS (p0 : List M.Site) : Option (List M.Site) :=
  (mkL 56 (List.length p0 : Int) (⟨(⟨#[]⟩ : ByteArray), 0, ([] : List ByteArray), false⟩ : M.Site)).bind fun x1 => (m_laws_toSiteS_L1 p0 fuel 0 (List.replicate (List.length p0 : Int).toNat (⟨(⟨#[]⟩ : ByteArray), 0, ([] : List ByteArray), false⟩ : M.Site)))
def m_laws_toApplied (p0 : M.Applied) : Option M.Applied :=
  some p0
def m_laws_toAppliedS_L1 (p0 : List M.Applied) : Nat → Int → List M.Applied → Option (List M.Applied)
  | 0, _, _ => none
  | nL1 + 1, v4, r7 => if (decide (v4 < (List.length p0 : Int))) = true then ((idx p0 v4).bind fun x13 => ((m_laws_toApplied x13).bind fun x18 => ((idx r7 v4).bind fun x20 => (m_laws_toAppliedS_L1 p0 nL1 (IntKind.i64.wrap (v4 + 1)) (List.set r7 v4.toNat x18))))) else (some r7)
def m_laws_toAppliedS (p0 : List M.Applied) : Option (List M.Applied) :=
  (mkL 16 (List.length p0 : Int) (⟨0, 0⟩ : M.Applied)).bind fun x1 => (m_laws_toAppliedS_L1 p0 fuel 0 (List.replicate (List.length p0 : Int).toNat (⟨0, 0⟩ : M.Applied)))
def m_laws_toServer (p0 : M.Server) : Option M.Server :=
  (m_laws_toStore p0.Store).bind fun x1 => ((m_laws_toAppliedS p0.Applied).bind fun x3 => ((m_laws_toWriteS p0.Changes).bind fun x5 => (some (⟨x1, x3, x5⟩ : M.Server))))
def m_laws_toServerS_L1 (p0 : List M.Server) : Nat → Int → List M.Server → Option (List M.Server)
  | 0, _, _ => none
  | nL1 + 1, v4, r7 => if (decide (v4 < (List.length p0 : Int))) = true then ((idx p0 v4).bind fun x13 => ((m_laws_toServer x13).bind fun x18 => ((idx r7 v4).bind fun x20 => (m_laws_toServerS_L1 p0 nL1 (IntKind.i64.wrap (v4 + 1)) (List.set r7 v4.toNat x18))))) else (some r7)
def m_laws_toServerS (p0 : List M.Server) : Option (List M.Server) :=
  (mkL 96 (List.length p0 : Int) (⟨(⟨(⟨#[]⟩ : ByteArray), ([] : List M.Item), 0⟩ : M.Store), ([] : List M.Applied), ([] : List M.Write)⟩ : M.Server)).bind fun x1 => (m_laws_toServerS_L1 p0 fuel 0 (List.replicate (List.length p0 : Int).toNat (⟨(⟨(⟨#[]⟩ : ByteArray), ([] : List M.Item), 0⟩ : M.Store), ([] : List M.Applied), ([] : List M.Write)⟩ : M.Server)))
def m_laws_toWorld (p0 : M.World) : Option M.World :=
  (m_laws_toStorage p0.Storage).bind fun x1 => ((m_laws_toPageS p0.Pages).bind fun x3 => ((m_laws_toLockTable p0.Locks).bind fun x5 => ((m_laws_toChannel p0.Channel).bind fun x7 => ((m_laws_toSiteS p0.Sites).bind fun x9 => ((m_laws_toServerS p0.Servers).bind fun x11 => (some (⟨p0.Now, p0.Online, p0.Device, x1, x3, p0.NextPage, x5, x7, x9, x11⟩ : M.World)))))))
def m_spec_EqualRecords_L1 (p0 : M.Record) (p1 : M.Record) : Nat → Int → Option Bool
  | 0, _ => none
  | nL1 + 1, v5 => if (decide (v5 < (List.length p0.Fields : Int))) = true then ((idx p0.Fields v5).bind fun x9 => ((idx p1.Fields v5).bind fun x14 => (if (!((x9.Name.toList == x14.Name.toList) && (x9.N == x14.N))) = true then (some false) else (m_spec_EqualRecords_L1 p0 p1 nL1 (IntKind.i64.wrap (v5 + 1)))))) else (some true)
def m_spec_EqualRecords (p0 : M.Record) (p1 : M.Record) : Option Bool :=
  if ((List.length p0.Fields : Int) != (List.length p1.Fields : Int)) = true then (some false) else (m_spec_EqualRecords_L1 p0 p1 fuel 0)
def m_spec_EqualStores_L1 (p0 : M.Store) (p1 : M.Store) : Nat → Int → Option Bool
  | 0, _ => none
  | nL1 + 1, v5 => if (decide (v5 < (List.length p0.Items : Int))) = true then ((idx p0.Items v5).bind fun x11 => ((idx p1.Items v5).bind fun x16 => (if (!((x11.Key.Kind == x16.Key.Kind) && ((x11.Key.N == x16.Key.N) && (x11.Key.Text.toList == x16.Key.Text.toList)))) = true then (some false) else ((m_spec_EqualRecords x11.Record x16.Record).bind fun x22 => (if (!x22) = true then (some false) else (m_spec_EqualStores_L1 p0 p1 nL1 (IntKind.i64.wrap (v5 + 1)))))))) else (some true)
def m_spec_EqualStores (p0 : M.Store) (p1 : M.Store) : Option Bool :=
  if (!(p0.Name.toList == p1.Name.toList)) = true then (some false) else (if (p0.Auto != p1.Auto) = true then (some false) else (if ((List.length p0.Items : Int) != (List.length p1.Items : Int)) = true then (some false) else (m_spec_EqualStores_L1 p0 p1 fuel 0)))
def m_spec_EqualServers_L2 (p0 : M.Server) (p1 : M.Server) : Nat → Int → Option Bool
  | 0, _ => none
  | nL2 + 1, v6 => if (decide (v6 < (List.length p0.Changes : Int))) = true then ((idx p0.Changes v6).bind fun x31 => ((idx p1.Changes v6).bind fun x36 => (if (!((x31.Device == x36.Device) && ((x31.Seq == x36.Seq) && ((x31.Key.Kind == x36.Key.Kind) && ((x31.Key.N == x36.Key.N) && ((x31.Key.Text.toList == x36.Key.Text.toList) && ((x31.Field.toList == x36.Field.toList) && (x31.N == x36.N)))))))) = true then (some false) else (m_spec_EqualServers_L2 p0 p1 nL2 (IntKind.i64.wrap (v6 + 1)))))) else (some true)
def m_spec_EqualServers_L1 (p0 : M.Server) (p1 : M.Server) : Nat → Int → Option Bool
  | 0, _ => none
  | nL1 + 1, v5 => if (decide (v5 < (List.length p0.Applied : Int))) = true then ((idx p0.Applied v5).bind fun x13 => ((idx p1.Applied v5).bind fun x18 => (if (!((x13.Device == x18.Device) && (x13.Seq == x18.Seq))) = true then (some false) else (m_spec_EqualServers_L1 p0 p1 nL1 (IntKind.i64.wrap (v5 + 1)))))) else (m_spec_EqualServers_L2 p0 p1 fuel 0)
def m_spec_EqualServers (p0 : M.Server) (p1 : M.Server) : Option Bool :=
  (m_spec_EqualStores p0.Store p1.Store).bind fun x1 => (if (!x1) = true then (some false) else (if ((List.length p0.Applied : Int) != (List.length p1.Applied : Int)) = true then (some false) else (if ((List.length p0.Changes : Int) != (List.length p1.Changes : Int)) = true then (some false) else (m_spec_EqualServers_L1 p0 p1 fuel 0))))
def m_spec_EqualBytes (p0 : List Int) (p1 : List Int) : Option Bool :=
  (toStr p0).bind fun x1 => ((toStr p1).bind fun x3 => (some ((bytesStr p0).toList == (bytesStr p1).toList)))
def m_spec_EqualResponses (p0 : M.Response) (p1 : M.Response) : Option Bool :=
  if (p0.Type_ == p1.Type_) = true then (if (p0.Status == p1.Status) = true then (if (p0.Version == p1.Version) = true then (if (p0.Shares == p1.Shares) = true then ((m_spec_EqualBytes p0.Body p1.Body).bind fun x5 => (some x5)) else (some false)) else (some false)) else (some false)) else (some false)
def m_spec_EqualCacheSets_L2 (x9 : M.Cache) (x14 : M.Cache) (k22 : Int → Option Bool) : Nat → Int → Option Bool
  | 0, _ => none
  | nL2 + 1, v8_L2 => if (decide (v8_L2 < (List.length x9.Entries : Int))) = true then ((idx x9.Entries v8_L2).bind fun x35 => ((idx x14.Entries v8_L2).bind fun x40 => (if (!(x35.Site.toList == x40.Site.toList)) = true then (some false) else (if (!(x35.Path.toList == x40.Path.toList)) = true then (some false) else ((m_spec_EqualResponses x35.Response x40.Response).bind fun x47 => (if (!x47) = true then (some false) else (m_spec_EqualCacheSets_L2 x9 x14 k22 nL2 (IntKind.i64.wrap (v8_L2 + 1))))))))) else (k22 v8_L2)
def m_spec_EqualCacheSets_L1 (p0 : M.CacheSet) (p1 : M.CacheSet) : Nat → Int → Option Bool
  | 0, _ => none
  | nL1 + 1, v5 => if (decide (v5 < (List.length p0.Caches : Int))) = true then ((idx p0.Caches v5).bind fun x9 => ((idx p1.Caches v5).bind fun x14 => (if (x9.Version != x14.Version) = true then (some false) else (if ((List.length x9.Entries : Int) != (List.length x14.Entries : Int)) = true then (some false) else (m_spec_EqualCacheSets_L2 x9 x14 (fun (v8_L2 : Int) => m_spec_EqualCacheSets_L1 p0 p1 nL1 (IntKind.i64.wrap (v5 + 1))) fuel 0))))) else (some true)
def m_spec_EqualCacheSets (p0 : M.CacheSet) (p1 : M.CacheSet) : Option Bool :=
  if ((List.length p0.Caches : Int) != (List.length p1.Caches : Int)) = true then (some false) else (m_spec_EqualCacheSets_L1 p0 p1 fuel 0)
def m_spec_EqualDatabases_L2 (p0 : M.Database) (p1 : M.Database) : Nat → Int → Option Bool
  | 0, _ => none
  | nL2 + 1, v6 => if (decide (v6 < (List.length p0.Unique : Int))) = true then ((idx p0.Unique v6).bind fun x32 => ((idx p1.Unique v6).bind fun x37 => (if (!((x32.Store.toList == x37.Store.toList) && (x32.Field.toList == x37.Field.toList))) = true then (some false) else (m_spec_EqualDatabases_L2 p0 p1 nL2 (IntKind.i64.wrap (v6 + 1)))))) else (some true)
def m_spec_EqualDatabases_L1 (p0 : M.Database) (p1 : M.Database) : Nat → Int → Option Bool
  | 0, _ => none
  | nL1 + 1, v5 => if (decide (v5 < (List.length p0.Stores : Int))) = true then ((idx p0.Stores v5).bind fun x12 => ((idx p1.Stores v5).bind fun x17 => ((m_spec_EqualStores x12 x17).bind fun x22 => (if (!x22) = true then (some false) else (m_spec_EqualDatabases_L1 p0 p1 nL1 (IntKind.i64.wrap (v5 + 1))))))) else (m_spec_EqualDatabases_L2 p0 p1 fuel 0)
def m_spec_EqualDatabases (p0 : M.Database) (p1 : M.Database) : Option Bool :=
  if (!(p0.Name.toList == p1.Name.toList)) = true then (some false) else (if (p0.Version != p1.Version) = true then (some false) else (if ((List.length p0.Stores : Int) != (List.length p1.Stores : Int)) = true then (some false) else (if ((List.length p0.Unique : Int) != (List.length p1.Unique : Int)) = true then (some false) else (m_spec_EqualDatabases_L1 p0 p1 fuel 0))))
def m_spec_EqualDisks (p0 : M.Disk) (p1 : M.Disk) : Option Bool :=
  (m_spec_EqualDatabases p0.Base p1.Base).bind fun x1 => (if x1 = true then ((m_spec_EqualBytes p0.Log p1.Log).bind fun x4 => (if x4 = true then (some (p0.Count == p1.Count)) else (some false))) else (some false))
def m_spec_EqualOutboxes_L1 (p0 : M.Outbox) (p1 : M.Outbox) : Nat → Int → Option Bool
  | 0, _ => none
  | nL1 + 1, v5 => if (decide (v5 < (List.length p0.Writes : Int))) = true then ((idx p0.Writes v5).bind fun x11 => ((idx p1.Writes v5).bind fun x16 => (if (!((x11.Device == x16.Device) && ((x11.Seq == x16.Seq) && ((x11.Key.Kind == x16.Key.Kind) && ((x11.Key.N == x16.Key.N) && ((x11.Key.Text.toList == x16.Key.Text.toList) && ((x11.Field.toList == x16.Field.toList) && (x11.N == x16.N)))))))) = true then (some false) else (m_spec_EqualOutboxes_L1 p0 p1 nL1 (IntKind.i64.wrap (v5 + 1)))))) else (some true)
def m_spec_EqualOutboxes (p0 : M.Outbox) (p1 : M.Outbox) : Option Bool :=
  if (p0.Device != p1.Device) = true then (some false) else (if (p0.Next != p1.Next) = true then (some false) else (if ((List.length p0.Writes : Int) != (List.length p1.Writes : Int)) = true then (some false) else (m_spec_EqualOutboxes_L1 p0 p1 fuel 0)))
def m_spec_EqualSyncs (p0 : M.Sync) (p1 : M.Sync) : Option Bool :=
  (m_spec_EqualOutboxes p0.Outbox p1.Outbox).bind fun x1 => (if x1 = true then (if (p0.Tries == p1.Tries) = true then (some (p0.WaitUntil == p1.WaitUntil)) else (some false)) else (some false))
def m_spec_EqualReplicas (p0 : M.Replica) (p1 : M.Replica) : Option Bool :=
  (m_spec_EqualStores p0.Base p1.Base).bind fun x1 => (if x1 = true then (if (p0.Seen == p1.Seen) = true then ((m_spec_EqualSyncs p0.Sync p1.Sync).bind fun x5 => (some x5)) else (some false)) else (some false))
def m_spec_EqualBuckets (p0 : M.Bucket) (p1 : M.Bucket) : Option Bool :=
  if (p0.Site.toList == p1.Site.toList) = true then (if (p0.Top.toList == p1.Top.toList) = true then (if ((p0.Registration.Site.toList == p1.Registration.Site.toList) && ((p0.Registration.Installing == p1.Registration.Installing) && ((p0.Registration.Waiting == p1.Registration.Waiting) && (p0.Registration.Active == p1.Registration.Active)))) = true then ((m_spec_EqualCacheSets p0.Caches p1.Caches).bind fun x4 => (if x4 = true then ((m_spec_EqualDisks p0.Disk p1.Disk).bind fun x7 => (if x7 = true then ((m_spec_EqualReplicas p0.Replica p1.Replica).bind fun x10 => (if x10 = true then (if (p0.LastUsed == p1.LastUsed) = true then (some (p0.Persistent == p1.Persistent)) else (some false)) else (some false))) else (some false))) else (some false))) else (some false)) else (some false)) else (some false)
def m_spec_EqualStorages_L1 (p0 : M.Storage) (p1 : M.Storage) : Nat → Int → Option Bool
  | 0, _ => none
  | nL1 + 1, v5 => if (decide (v5 < (List.length p0.Buckets : Int))) = true then ((idx p0.Buckets v5).bind fun x9 => ((idx p1.Buckets v5).bind fun x14 => ((m_spec_EqualBuckets x9 x14).bind fun x19 => (if (!x19) = true then (some false) else (m_spec_EqualStorages_L1 p0 p1 nL1 (IntKind.i64.wrap (v5 + 1))))))) else (some true)
def m_spec_EqualStorages (p0 : M.Storage) (p1 : M.Storage) : Option Bool :=
  if ((List.length p0.Buckets : Int) != (List.length p1.Buckets : Int)) = true then (some false) else (m_spec_EqualStorages_L1 p0 p1 fuel 0)
def m_spec_EqualInts_L1 (p0 : List Int) (p1 : List Int) : Nat → Int → Option Bool
  | 0, _ => none
  | nL1 + 1, v5 => if (decide (v5 < (List.length p0 : Int))) = true then ((idx p0 v5).bind fun x7 => ((idx p1 v5).bind fun x12 => (if (x7 != x12) = true then (some false) else (m_spec_EqualInts_L1 p0 p1 nL1 (IntKind.i64.wrap (v5 + 1)))))) else (some true)
def m_spec_EqualInts (p0 : List Int) (p1 : List Int) : Option Bool :=
  if ((List.length p0 : Int) != (List.length p1 : Int)) = true then (some false) else (m_spec_EqualInts_L1 p0 p1 fuel 0)
def m_spec_EqualMachines_L1 (p0 : M.Machine) (p1 : M.Machine) : Nat → Int → Option Bool
  | 0, _ => none
  | nL1 + 1, v5 => if (decide (v5 < (List.length p0.Script : Int))) = true then ((idx p0.Script v5).bind fun x16 => ((idx p1.Script v5).bind fun x21 => (if (!((x16.Kind == x21.Kind) && ((x16.R == x21.R) && ((x16.N == x21.N) && (x16.Text.toList == x21.Text.toList))))) = true then (some false) else (m_spec_EqualMachines_L1 p0 p1 nL1 (IntKind.i64.wrap (v5 + 1)))))) else (some true)
def m_spec_EqualMachines (p0 : M.Machine) (p1 : M.Machine) : Option Bool :=
  if ((List.length p0.Script : Int) != (List.length p1.Script : Int)) = true then (some false) else (if (p0.Pc != p1.Pc) = true then (some false) else ((m_spec_EqualInts p0.Regs p1.Regs).bind fun x3 => (if (!x3) = true then (some false) else (if (p0.Steps != p1.Steps) = true then (some false) else (if (!(p0.Done == p1.Done)) = true then (some false) else (if (!(p0.Wait == p1.Wait)) = true then (some false) else (m_spec_EqualMachines_L1 p0 p1 fuel 0)))))))
def m_spec_EqualPages_L1 (p0 : M.Page) (p1 : M.Page) : Nat → Int → Option Bool
  | 0, _ => none
  | nL1 + 1, v5 => if (decide (v5 < (List.length p0.Loaded : Int))) = true then ((idx p0.Loaded v5).bind fun x13 => ((idx p1.Loaded v5).bind fun x18 => (if (!((x13.Path.toList == x18.Path.toList) && (x13.Version == x18.Version))) = true then (some false) else (m_spec_EqualPages_L1 p0 p1 nL1 (IntKind.i64.wrap (v5 + 1)))))) else ((m_spec_EqualMachines p0.Machine p1.Machine).bind fun x24 => (some x24))
def m_spec_EqualPages (p0 : M.Page) (p1 : M.Page) : Option Bool :=
  if (p0.Id != p1.Id) = true then (some false) else (if (!(p0.Site.toList == p1.Site.toList)) = true then (some false) else (if (!(p0.Top.toList == p1.Top.toList)) = true then (some false) else (if (p0.Version != p1.Version) = true then (some false) else (if ((List.length p0.Loaded : Int) != (List.length p1.Loaded : Int)) = true then (some false) else (m_spec_EqualPages_L1 p0 p1 fuel 0)))))
def m_spec_l29Volatile_L3 (p0 : M.World) (p1 : M.World) : Nat → Int → Option Bool
  | 0, _ => none
  | nL3 + 1, v7 => if (decide (v7 < (List.length p0.Channel.Mails : Int))) = true then ((idx p0.Channel.Mails v7).bind fun x49 => ((idx p1.Channel.Mails v7).bind fun x54 => (if (!((x49.To == x54.To) && ((x49.From == x54.From) && (x49.N == x54.N)))) = true then (some false) else (m_spec_l29Volatile_L3 p0 p1 nL3 (IntKind.i64.wrap (v7 + 1)))))) else (some true)
def m_spec_l29Volatile_L2 (p0 : M.World) (p1 : M.World) : Nat → Int → Option Bool
  | 0, _ => none
  | nL2 + 1, v6 => if (decide (v6 < (List.length p0.Locks.Locks : Int))) = true then ((idx p0.Locks.Locks v6).bind fun x31 => ((idx p1.Locks.Locks v6).bind fun x36 => (if (!((x31.Name.toList == x36.Name.toList) && ((x31.Page == x36.Page) && ((x31.Shared == x36.Shared) && (x31.Held == x36.Held))))) = true then (some false) else (m_spec_l29Volatile_L2 p0 p1 nL2 (IntKind.i64.wrap (v6 + 1)))))) else (m_spec_l29Volatile_L3 p0 p1 fuel 0)
def m_spec_l29Volatile_L1 (p0 : M.World) (p1 : M.World) : Nat → Int → Option Bool
  | 0, _ => none
  | nL1 + 1, v5 => if (decide (v5 < (List.length p0.Pages : Int))) = true then ((idx p0.Pages v5).bind fun x11 => ((idx p1.Pages v5).bind fun x16 => ((m_spec_EqualPages x11 x16).bind fun x21 => (if (!x21) = true then (some false) else (m_spec_l29Volatile_L1 p0 p1 nL1 (IntKind.i64.wrap (v5 + 1))))))) else (m_spec_l29Volatile_L2 p0 p1 fuel 0)
def m_spec_l29Volatile (p0 : M.World) (p1 : M.World) : Option Bool :=
  if ((List.length p0.Pages : Int) != (List.length p1.Pages : Int)) = true then (some false) else (if ((List.length p0.Locks.Locks : Int) != (List.length p1.Locks.Locks : Int)) = true then (some false) else (if ((List.length p0.Channel.Mails : Int) != (List.length p1.Channel.Mails : Int)) = true then (some false) else (m_spec_l29Volatile_L1 p0 p1 fuel 0)))
def m_spec_l29Sites_L2 (x7 : M.Site) (x12 : M.Site) (k22 : Int → Option Bool) : Nat → Int → Option Bool
  | 0, _ => none
  | nL2 + 1, v6_L2 => if (decide (v6_L2 < (List.length x7.Files : Int))) = true then ((idx x7.Files v6_L2).bind fun x29 => ((idx x12.Files v6_L2).bind fun x34 => (if (!(x29.toList == x34.toList)) = true then (some false) else (m_spec_l29Sites_L2 x7 x12 k22 nL2 (IntKind.i64.wrap (v6_L2 + 1)))))) else (k22 v6_L2)
def m_spec_l29Sites_L1 (p0 : List M.Site) (p1 : List M.Site) : Nat → Int → Option Bool
  | 0, _ => none
  | nL1 + 1, v5 => if (decide (v5 < (List.length p0 : Int))) = true then ((idx p0 v5).bind fun x7 => ((idx p1 v5).bind fun x12 => (if (!(x7.Name.toList == x12.Name.toList)) = true then (some false) else (if (x7.Version != x12.Version) = true then (some false) else (if (!(x7.Shared == x12.Shared)) = true then (some false) else (if ((List.length x7.Files : Int) != (List.length x12.Files : Int)) = true then (some false) else (m_spec_l29Sites_L2 x7 x12 (fun (v6_L2 : Int) => m_spec_l29Sites_L1 p0 p1 nL1 (IntKind.i64.wrap (v5 + 1))) fuel 0))))))) else (some true)
def m_spec_l29Sites (p0 : List M.Site) (p1 : List M.Site) : Option Bool :=
  if ((List.length p0 : Int) != (List.length p1 : Int)) = true then (some false) else (m_spec_l29Sites_L1 p0 p1 fuel 0)
def m_spec_EqualWorlds_L1 (p0 : M.World) (p1 : M.World) : Nat → Int → Option Bool
  | 0, _ => none
  | nL1 + 1, v5 => if (decide (v5 < (List.length p0.Servers : Int))) = true then ((idx p0.Servers v5).bind fun x13 => ((idx p1.Servers v5).bind fun x18 => ((m_spec_EqualServers x13 x18).bind fun x23 => (if (!x23) = true then (some false) else (m_spec_EqualWorlds_L1 p0 p1 nL1 (IntKind.i64.wrap (v5 + 1))))))) else ((m_spec_EqualStorages p0.Storage p1.Storage).bind fun x26 => (if x26 = true then ((m_spec_l29Volatile p0 p1).bind fun x29 => (if x29 = true then ((m_spec_l29Sites p0.Sites p1.Sites).bind fun x32 => (some x32)) else (some false))) else (some false)))
def m_spec_EqualWorlds (p0 : M.World) (p1 : M.World) : Option Bool :=
  if (p0.Now != p1.Now) = true then (some false) else (if (!(p0.Online == p1.Online)) = true then (some false) else (if (p0.Device != p1.Device) = true then (some false) else (if (p0.NextPage != p1.NextPage) = true then (some false) else (if ((List.length p0.Servers : Int) != (List.length p1.Servers : Int)) = true then (some false) else (m_spec_EqualWorlds_L1 p0 p1 fuel 0)))))
def m_slices_EqualFunc_Bucket_L1 (p0 : List M.Bucket) (p1 : List M.Bucket) (p2 : M.Bucket → M.Bucket → Option Bool) : Nat → Int → Option Bool
  | 0, _ => none
  | nL1 + 1, v17 => if (decide (v17 < (List.length p0 : Int))) = true then ((idx p0 v17).bind fun x9 => ((idx p1 v17).bind fun x14 => ((p2 x9 x14).bind fun x19 => (if (!x19) = true then (some false) else (m_slices_EqualFunc_Bucket_L1 p0 p1 p2 nL1 (IntKind.i64.wrap (v17 + 1))))))) else (some true)
def m_slices_EqualFunc_Bucket (p0 : List M.Bucket) (p1 : List M.Bucket) (p2 : M.Bucket → M.Bucket → Option Bool) : Option Bool :=
  if ((List.length p0 : Int) != (List.length p1 : Int)) = true then (some false) else (m_slices_EqualFunc_Bucket_L1 p0 p1 p2 fuel 0)
def m_slices_EqualFunc_Cache_L1 (p0 : List M.Cache) (p1 : List M.Cache) (p2 : M.Cache → M.Cache → Option Bool) : Nat → Int → Option Bool
  | 0, _ => none
  | nL1 + 1, v17 => if (decide (v17 < (List.length p0 : Int))) = true then ((idx p0 v17).bind fun x9 => ((idx p1 v17).bind fun x14 => ((p2 x9 x14).bind fun x19 => (if (!x19) = true then (some false) else (m_slices_EqualFunc_Cache_L1 p0 p1 p2 nL1 (IntKind.i64.wrap (v17 + 1))))))) else (some true)
def m_slices_EqualFunc_Cache (p0 : List M.Cache) (p1 : List M.Cache) (p2 : M.Cache → M.Cache → Option Bool) : Option Bool :=
  if ((List.length p0 : Int) != (List.length p1 : Int)) = true then (some false) else (m_slices_EqualFunc_Cache_L1 p0 p1 p2 fuel 0)
def m_slices_EqualFunc_Cached_L1 (p0 : List M.Cached) (p1 : List M.Cached) (p2 : M.Cached → M.Cached → Option Bool) : Nat → Int → Option Bool
  | 0, _ => none
  | nL1 + 1, v17 => if (decide (v17 < (List.length p0 : Int))) = true then ((idx p0 v17).bind fun x9 => ((idx p1 v17).bind fun x14 => ((p2 x9 x14).bind fun x19 => (if (!x19) = true then (some false) else (m_slices_EqualFunc_Cached_L1 p0 p1 p2 nL1 (IntKind.i64.wrap (v17 + 1))))))) else (some true)
def m_slices_EqualFunc_Cached (p0 : List M.Cached) (p1 : List M.Cached) (p2 : M.Cached → M.Cached → Option Bool) : Option Bool :=
  if ((List.length p0 : Int) != (List.length p1 : Int)) = true then (some false) else (m_slices_EqualFunc_Cached_L1 p0 p1 p2 fuel 0)
def m_slices_Equal_byte_L1 (p0 : List Int) (p1 : List Int) : Nat → Int → Option Bool
  | 0, _ => none
  | nL1 + 1, v13 => if (decide (v13 < (List.length p0 : Int))) = true then ((idx p0 v13).bind fun x8 => ((idx p1 v13).bind fun x13 => (if (x8 != x13) = true then (some false) else (m_slices_Equal_byte_L1 p0 p1 nL1 (IntKind.i64.wrap (v13 + 1)))))) else (some true)
def m_slices_Equal_byte (p0 : List Int) (p1 : List Int) : Option Bool :=
  if ((List.length p0 : Int) != (List.length p1 : Int)) = true then (some false) else (m_slices_Equal_byte_L1 p0 p1 fuel 0)
def m_impl_EqualBytes (p0 : List Int) (p1 : List Int) : Option Bool :=
  (m_slices_Equal_byte p0 p1).bind fun x1 => (some x1)
def m_impl_EqualResponses (p0 : M.Response) (p1 : M.Response) : Option Bool :=
  if (p0.Type_ == p1.Type_) = true then (if (p0.Status == p1.Status) = true then (if (p0.Version == p1.Version) = true then ((m_impl_EqualBytes p0.Body p1.Body).bind fun x4 => (if x4 = true then (some (p0.Shares == p1.Shares)) else (some false))) else (some false)) else (some false)) else (some false)
def m_impl_equalCached (p0 : M.Cached) (p1 : M.Cached) : Option Bool :=
  if (p0.Site.toList == p1.Site.toList) = true then (if (p0.Path.toList == p1.Path.toList) = true then ((m_impl_EqualResponses p0.Response p1.Response).bind fun x3 => (some x3)) else (some false)) else (some false)
def m_impl_equalCaches (p0 : M.Cache) (p1 : M.Cache) : Option Bool :=
  if (p0.Version == p1.Version) = true then ((m_slices_EqualFunc_Cached p0.Entries p1.Entries (fun z0 z1 => m_impl_equalCached z0 z1)).bind fun x2 => (some x2)) else (some false)
def m_impl_EqualCacheSets (p0 : M.CacheSet) (p1 : M.CacheSet) : Option Bool :=
  (m_slices_EqualFunc_Cache p0.Caches p1.Caches (fun z0 z1 => m_impl_equalCaches z0 z1)).bind fun x1 => (some x1)
def m_slices_EqualFunc_Store_L1 (p0 : List M.Store) (p1 : List M.Store) (p2 : M.Store → M.Store → Option Bool) : Nat → Int → Option Bool
  | 0, _ => none
  | nL1 + 1, v17 => if (decide (v17 < (List.length p0 : Int))) = true then ((idx p0 v17).bind fun x9 => ((idx p1 v17).bind fun x14 => ((p2 x9 x14).bind fun x19 => (if (!x19) = true then (some false) else (m_slices_EqualFunc_Store_L1 p0 p1 p2 nL1 (IntKind.i64.wrap (v17 + 1))))))) else (some true)
def m_slices_EqualFunc_Store (p0 : List M.Store) (p1 : List M.Store) (p2 : M.Store → M.Store → Option Bool) : Option Bool :=
  if ((List.length p0 : Int) != (List.length p1 : Int)) = true then (some false) else (m_slices_EqualFunc_Store_L1 p0 p1 p2 fuel 0)
def m_slices_EqualFunc_Item_L1 (p0 : List M.Item) (p1 : List M.Item) (p2 : M.Item → M.Item → Option Bool) : Nat → Int → Option Bool
  | 0, _ => none
  | nL1 + 1, v17 => if (decide (v17 < (List.length p0 : Int))) = true then ((idx p0 v17).bind fun x9 => ((idx p1 v17).bind fun x14 => ((p2 x9 x14).bind fun x19 => (if (!x19) = true then (some false) else (m_slices_EqualFunc_Item_L1 p0 p1 p2 nL1 (IntKind.i64.wrap (v17 + 1))))))) else (some true)
def m_slices_EqualFunc_Item (p0 : List M.Item) (p1 : List M.Item) (p2 : M.Item → M.Item → Option Bool) : Option Bool :=
  if ((List.length p0 : Int) != (List.length p1 : Int)) = true then (some false) else (m_slices_EqualFunc_Item_L1 p0 p1 p2 fuel 0)
def m_slices_Equal_Field_L1 (p0 : List M.Field) (p1 : List M.Field) : Nat → Int → Option Bool
  | 0, _ => none
  | nL1 + 1, v13 => if (decide (v13 < (List.length p0 : Int))) = true then ((idx p0 v13).bind fun x8 => ((idx p1 v13).bind fun x13 => (if (!((x8.Name.toList == x13.Name.toList) && (x8.N == x13.N))) = true then (some false) else (m_slices_Equal_Field_L1 p0 p1 nL1 (IntKind.i64.wrap (v13 + 1)))))) else (some true)
def m_slices_Equal_Field (p0 : List M.Field) (p1 : List M.Field) : Option Bool :=
  if ((List.length p0 : Int) != (List.length p1 : Int)) = true then (some false) else (m_slices_Equal_Field_L1 p0 p1 fuel 0)
def m_impl_EqualRecords (p0 : M.Record) (p1 : M.Record) : Option Bool :=
  (m_slices_Equal_Field p0.Fields p1.Fields).bind fun x1 => (some x1)
def m_impl_equalItems (p0 : M.Item) (p1 : M.Item) : Option Bool :=
  if ((p0.Key.Kind == p1.Key.Kind) && ((p0.Key.N == p1.Key.N) && (p0.Key.Text.toList == p1.Key.Text.toList))) = true then ((m_impl_EqualRecords p0.Record p1.Record).bind fun x2 => (some x2)) else (some false)
def m_impl_EqualStores (p0 : M.Store) (p1 : M.Store) : Option Bool :=
  if (p0.Name.toList == p1.Name.toList) = true then (if (p0.Auto == p1.Auto) = true then ((m_slices_EqualFunc_Item p0.Items p1.Items (fun z0 z1 => m_impl_equalItems z0 z1)).bind fun x3 => (some x3)) else (some false)) else (some false)
def m_slices_Equal_IndexDef_L1 (p0 : List M.IndexDef) (p1 : List M.IndexDef) : Nat → Int → Option Bool
  | 0, _ => none
  | nL1 + 1, v13 => if (decide (v13 < (List.length p0 : Int))) = true then ((idx p0 v13).bind fun x8 => ((idx p1 v13).bind fun x13 => (if (!((x8.Store.toList == x13.Store.toList) && (x8.Field.toList == x13.Field.toList))) = true then (some false) else (m_slices_Equal_IndexDef_L1 p0 p1 nL1 (IntKind.i64.wrap (v13 + 1)))))) else (some true)
def m_slices_Equal_IndexDef (p0 : List M.IndexDef) (p1 : List M.IndexDef) : Option Bool :=
  if ((List.length p0 : Int) != (List.length p1 : Int)) = true then (some false) else (m_slices_Equal_IndexDef_L1 p0 p1 fuel 0)
def m_impl_EqualDatabases (p0 : M.Database) (p1 : M.Database) : Option Bool :=
  if (p0.Name.toList == p1.Name.toList) = true then (if (p0.Version == p1.Version) = true then ((m_slices_EqualFunc_Store p0.Stores p1.Stores (fun z0 z1 => m_impl_EqualStores z0 z1)).bind fun x3 => (if x3 = true then ((m_slices_Equal_IndexDef p0.Unique p1.Unique).bind fun x6 => (some x6)) else (some false))) else (some false)) else (some false)
def m_impl_EqualDisks (p0 : M.Disk) (p1 : M.Disk) : Option Bool :=
  (m_impl_EqualDatabases p0.Base p1.Base).bind fun x1 => (if x1 = true then ((m_impl_EqualBytes p0.Log p1.Log).bind fun x4 => (if x4 = true then (some (p0.Count == p1.Count)) else (some false))) else (some false))
def m_slices_Equal_Write_L1 (p0 : List M.Write) (p1 : List M.Write) : Nat → Int → Option Bool
  | 0, _ => none
  | nL1 + 1, v13 => if (decide (v13 < (List.length p0 : Int))) = true then ((idx p0 v13).bind fun x8 => ((idx p1 v13).bind fun x13 => (if (!((x8.Device == x13.Device) && ((x8.Seq == x13.Seq) && ((x8.Key.Kind == x13.Key.Kind) && ((x8.Key.N == x13.Key.N) && ((x8.Key.Text.toList == x13.Key.Text.toList) && ((x8.Field.toList == x13.Field.toList) && (x8.N == x13.N)))))))) = true then (some false) else (m_slices_Equal_Write_L1 p0 p1 nL1 (IntKind.i64.wrap (v13 + 1)))))) else (some true)
def m_slices_Equal_Write (p0 : List M.Write) (p1 : List M.Write) : Option Bool :=
  if ((List.length p0 : Int) != (List.length p1 : Int)) = true then (some false) else (m_slices_Equal_Write_L1 p0 p1 fuel 0)
def m_impl_EqualOutboxes (p0 : M.Outbox) (p1 : M.Outbox) : Option Bool :=
  if (p0.Device == p1.Device) = true then (if (p0.Next == p1.Next) = true then ((m_slices_Equal_Write p0.Writes p1.Writes).bind fun x3 => (some x3)) else (some false)) else (some false)
def m_impl_EqualSyncs (p0 : M.Sync) (p1 : M.Sync) : Option Bool :=
  (m_impl_EqualOutboxes p0.Outbox p1.Outbox).bind fun x1 => (if x1 = true then (if (p0.Tries == p1.Tries) = true then (some (p0.WaitUntil == p1.WaitUntil)) else (some false)) else (some false))
def m_impl_EqualReplicas (p0 : M.Replica) (p1 : M.Replica) : Option Bool :=
  (m_impl_EqualStores p0.Base p1.Base).bind fun x1 => (if x1 = true then (if (p0.Seen == p1.Seen) = true then ((m_impl_EqualSyncs p0.Sync p1.Sync).bind fun x5 => (some x5)) else (some false)) else (some false))
def m_impl_EqualBuckets (p0 : M.Bucket) (p1 : M.Bucket) : Option Bool :=
  if (p0.Site.toList == p1.Site.toList) = true then (if (p0.Top.toList == p1.Top.toList) = true then (if ((p0.Registration.Site.toList == p1.Registration.Site.toList) && ((p0.Registration.Installing == p1.Registration.Installing) && ((p0.Registration.Waiting == p1.Registration.Waiting) && (p0.Registration.Active == p1.Registration.Active)))) = true then ((m_impl_EqualCacheSets p0.Caches p1.Caches).bind fun x4 => (if x4 = true then ((m_impl_EqualDisks p0.Disk p1.Disk).bind fun x7 => (if x7 = true then ((m_impl_EqualReplicas p0.Replica p1.Replica).bind fun x10 => (if x10 = true then (if (p0.LastUsed == p1.LastUsed) = true then (some (p0.Persistent == p1.Persistent)) else (some false)) else (some false))) else (some false))) else (some false))) else (some false)) else (some false)) else (some false)
def m_impl_EqualStorages (p0 : M.Storage) (p1 : M.Storage) : Option Bool :=
  (m_slices_EqualFunc_Bucket p0.Buckets p1.Buckets (fun z0 z1 => m_impl_EqualBuckets z0 z1)).bind fun x1 => (some x1)
def m_slices_EqualFunc_Page_L1 (p0 : List M.Page) (p1 : List M.Page) (p2 : M.Page → M.Page → Option Bool) : Nat → Int → Option Bool
  | 0, _ => none
  | nL1 + 1, v17 => if (decide (v17 < (List.length p0 : Int))) = true then ((idx p0 v17).bind fun x9 => ((idx p1 v17).bind fun x14 => ((p2 x9 x14).bind fun x19 => (if (!x19) = true then (some false) else (m_slices_EqualFunc_Page_L1 p0 p1 p2 nL1 (IntKind.i64.wrap (v17 + 1))))))) else (some true)
def m_slices_EqualFunc_Page (p0 : List M.Page) (p1 : List M.Page) (p2 : M.Page → M.Page → Option Bool) : Option Bool :=
  if ((List.length p0 : Int) != (List.length p1 : Int)) = true then (some false) else (m_slices_EqualFunc_Page_L1 p0 p1 p2 fuel 0)
def m_slices_Equal_Loaded_L1 (p0 : List M.Loaded) (p1 : List M.Loaded) : Nat → Int → Option Bool
  | 0, _ => none
  | nL1 + 1, v13 => if (decide (v13 < (List.length p0 : Int))) = true then ((idx p0 v13).bind fun x8 => ((idx p1 v13).bind fun x13 => (if (!((x8.Path.toList == x13.Path.toList) && (x8.Version == x13.Version))) = true then (some false) else (m_slices_Equal_Loaded_L1 p0 p1 nL1 (IntKind.i64.wrap (v13 + 1)))))) else (some true)
def m_slices_Equal_Loaded (p0 : List M.Loaded) (p1 : List M.Loaded) : Option Bool :=
  if ((List.length p0 : Int) != (List.length p1 : Int)) = true then (some false) else (m_slices_Equal_Loaded_L1 p0 p1 fuel 0)
def m_slices_Equal_Instr_L1 (p0 : List M.Instr) (p1 : List M.Instr) : Nat → Int → Option Bool
  | 0, _ => none
  | nL1 + 1, v13 => if (decide (v13 < (List.length p0 : Int))) = true then ((idx p0 v13).bind fun x8 => ((idx p1 v13).bind fun x13 => (if (!((x8.Kind == x13.Kind) && ((x8.R == x13.R) && ((x8.N == x13.N) && (x8.Text.toList == x13.Text.toList))))) = true then (some false) else (m_slices_Equal_Instr_L1 p0 p1 nL1 (IntKind.i64.wrap (v13 + 1)))))) else (some true)
def m_slices_Equal_Instr (p0 : List M.Instr) (p1 : List M.Instr) : Option Bool :=
  if ((List.length p0 : Int) != (List.length p1 : Int)) = true then (some false) else (m_slices_Equal_Instr_L1 p0 p1 fuel 0)
def m_slices_Equal_int_L1 (p0 : List Int) (p1 : List Int) : Nat → Int → Option Bool
  | 0, _ => none
  | nL1 + 1, v13 => if (decide (v13 < (List.length p0 : Int))) = true then ((idx p0 v13).bind fun x8 => ((idx p1 v13).bind fun x13 => (if (x8 != x13) = true then (some false) else (m_slices_Equal_int_L1 p0 p1 nL1 (IntKind.i64.wrap (v13 + 1)))))) else (some true)
def m_slices_Equal_int (p0 : List Int) (p1 : List Int) : Option Bool :=
  if ((List.length p0 : Int) != (List.length p1 : Int)) = true then (some false) else (m_slices_Equal_int_L1 p0 p1 fuel 0)
def m_impl_EqualMachines (p0 : M.Machine) (p1 : M.Machine) : Option Bool :=
  (m_slices_Equal_Instr p0.Script p1.Script).bind fun x1 => (if x1 = true then (if (p0.Pc == p1.Pc) = true then ((m_slices_Equal_int p0.Regs p1.Regs).bind fun x5 => (if x5 = true then (if (p0.Steps == p1.Steps) = true then (if (p0.Done == p1.Done) = true then (some (p0.Wait == p1.Wait)) else (some false)) else (some false)) else (some false))) else (some false)) else (some false))
def m_impl_equalPage (p0 : M.Page) (p1 : M.Page) : Option Bool :=
  if (p0.Id == p1.Id) = true then (if (p0.Site.toList == p1.Site.toList) = true then (if (p0.Top.toList == p1.Top.toList) = true then (if (p0.Version == p1.Version) = true then ((m_slices_Equal_Loaded p0.Loaded p1.Loaded).bind fun x5 => (if x5 = true then ((m_impl_EqualMachines p0.Machine p1.Machine).bind fun x8 => (some x8)) else (some false))) else (some false)) else (some false)) else (some false)) else (some false)
def m_slices_Equal_Lock_L1 (p0 : List M.Lock) (p1 : List M.Lock) : Nat → Int → Option Bool
  | 0, _ => none
  | nL1 + 1, v13 => if (decide (v13 < (List.length p0 : Int))) = true then ((idx p0 v13).bind fun x8 => ((idx p1 v13).bind fun x13 => (if (!((x8.Name.toList == x13.Name.toList) && ((x8.Page == x13.Page) && ((x8.Shared == x13.Shared) && (x8.Held == x13.Held))))) = true then (some false) else (m_slices_Equal_Lock_L1 p0 p1 nL1 (IntKind.i64.wrap (v13 + 1)))))) else (some true)
def m_slices_Equal_Lock (p0 : List M.Lock) (p1 : List M.Lock) : Option Bool :=
  if ((List.length p0 : Int) != (List.length p1 : Int)) = true then (some false) else (m_slices_Equal_Lock_L1 p0 p1 fuel 0)
def m_slices_Equal_Mail_L1 (p0 : List M.Mail) (p1 : List M.Mail) : Nat → Int → Option Bool
  | 0, _ => none
  | nL1 + 1, v13 => if (decide (v13 < (List.length p0 : Int))) = true then ((idx p0 v13).bind fun x8 => ((idx p1 v13).bind fun x13 => (if (!((x8.To == x13.To) && ((x8.From == x13.From) && (x8.N == x13.N)))) = true then (some false) else (m_slices_Equal_Mail_L1 p0 p1 nL1 (IntKind.i64.wrap (v13 + 1)))))) else (some true)
def m_slices_Equal_Mail (p0 : List M.Mail) (p1 : List M.Mail) : Option Bool :=
  if ((List.length p0 : Int) != (List.length p1 : Int)) = true then (some false) else (m_slices_Equal_Mail_L1 p0 p1 fuel 0)
def m_slices_EqualFunc_Site_L1 (p0 : List M.Site) (p1 : List M.Site) (p2 : M.Site → M.Site → Option Bool) : Nat → Int → Option Bool
  | 0, _ => none
  | nL1 + 1, v17 => if (decide (v17 < (List.length p0 : Int))) = true then ((idx p0 v17).bind fun x9 => ((idx p1 v17).bind fun x14 => ((p2 x9 x14).bind fun x19 => (if (!x19) = true then (some false) else (m_slices_EqualFunc_Site_L1 p0 p1 p2 nL1 (IntKind.i64.wrap (v17 + 1))))))) else (some true)
def m_slices_EqualFunc_Site (p0 : List M.Site) (p1 : List M.Site) (p2 : M.Site → M.Site → Option Bool) : Option Bool :=
  if ((List.length p0 : Int) != (List.length p1 : Int)) = true then (some false) else (m_slices_EqualFunc_Site_L1 p0 p1 p2 fuel 0)
def m_slices_Equal_string_L1 (p0 : List ByteArray) (p1 : List ByteArray) : Nat → Int → Option Bool
  | 0, _ => none
  | nL1 + 1, v13 => if (decide (v13 < (List.length p0 : Int))) = true then ((idx p0 v13).bind fun x8 => ((idx p1 v13).bind fun x13 => (if (!(x8.toList == x13.toList)) = true then (some false) else (m_slices_Equal_string_L1 p0 p1 nL1 (IntKind.i64.wrap (v13 + 1)))))) else (some true)
def m_slices_Equal_string (p0 : List ByteArray) (p1 : List ByteArray) : Option Bool :=
  if ((List.length p0 : Int) != (List.length p1 : Int)) = true then (some false) else (m_slices_Equal_string_L1 p0 p1 fuel 0)
def m_impl_equalSites (p0 : M.Site) (p1 : M.Site) : Option Bool :=
  if (p0.Name.toList == p1.Name.toList) = true then (if (p0.Version == p1.Version) = true then ((m_slices_Equal_string p0.Files p1.Files).bind fun x3 => (if x3 = true then (some (p0.Shared == p1.Shared)) else (some false))) else (some false)) else (some false)
def m_slices_EqualFunc_Server_L1 (p0 : List M.Server) (p1 : List M.Server) (p2 : M.Server → M.Server → Option Bool) : Nat → Int → Option Bool
  | 0, _ => none
  | nL1 + 1, v17 => if (decide (v17 < (List.length p0 : Int))) = true then ((idx p0 v17).bind fun x9 => ((idx p1 v17).bind fun x14 => ((p2 x9 x14).bind fun x19 => (if (!x19) = true then (some false) else (m_slices_EqualFunc_Server_L1 p0 p1 p2 nL1 (IntKind.i64.wrap (v17 + 1))))))) else (some true)
def m_slices_EqualFunc_Server (p0 : List M.Server) (p1 : List M.Server) (p2 : M.Server → M.Server → Option Bool) : Option Bool :=
  if ((List.length p0 : Int) != (List.length p1 : Int)) = true then (some false) else (m_slices_EqualFunc_Server_L1 p0 p1 p2 fuel 0)
def m_slices_Equal_Applied_L1 (p0 : List M.Applied) (p1 : List M.Applied) : Nat → Int → Option Bool
  | 0, _ => none
  | nL1 + 1, v13 => if (decide (v13 < (List.length p0 : Int))) = true then ((idx p0 v13).bind fun x8 => ((idx p1 v13).bind fun x13 => (if (!((x8.Device == x13.Device) && (x8.Seq == x13.Seq))) = true then (some false) else (m_slices_Equal_Applied_L1 p0 p1 nL1 (IntKind.i64.wrap (v13 + 1)))))) else (some true)
def m_slices_Equal_Applied (p0 : List M.Applied) (p1 : List M.Applied) : Option Bool :=
  if ((List.length p0 : Int) != (List.length p1 : Int)) = true then (some false) else (m_slices_Equal_Applied_L1 p0 p1 fuel 0)
def m_impl_EqualServers (p0 : M.Server) (p1 : M.Server) : Option Bool :=
  (m_impl_EqualStores p0.Store p1.Store).bind fun x1 => (if x1 = true then ((m_slices_Equal_Applied p0.Applied p1.Applied).bind fun x4 => (if x4 = true then ((m_slices_Equal_Write p0.Changes p1.Changes).bind fun x7 => (some x7)) else (some false))) else (some false))
def m_impl_EqualWorlds (p0 : M.World) (p1 : M.World) : Option Bool :=
  if (p0.Now == p1.Now) = true then (if (p0.Online == p1.Online) = true then (if (p0.Device == p1.Device) = true then ((m_impl_EqualStorages p0.Storage p1.Storage).bind fun x4 => (if x4 = true then ((m_slices_EqualFunc_Page p0.Pages p1.Pages (fun z0 z1 => m_impl_equalPage z0 z1)).bind fun x7 => (if x7 = true then (if (p0.NextPage == p1.NextPage) = true then ((m_slices_Equal_Lock p0.Locks.Locks p1.Locks.Locks).bind fun x11 => (if x11 = true then ((m_slices_Equal_Mail p0.Channel.Mails p1.Channel.Mails).bind fun x14 => (if x14 = true then ((m_slices_EqualFunc_Site p0.Sites p1.Sites (fun z0 z1 => m_impl_equalSites z0 z1)).bind fun x17 => (if x17 = true then ((m_slices_EqualFunc_Server p0.Servers p1.Servers (fun z0 z1 => m_impl_EqualServers z0 z1)).bind fun x20 => (some x20)) else (some false))) else (some false))) else (some false))) else (some false)) else (some false))) else (some false))) else (some false)) else (some false)) else (some false)
def m_laws_eqRegistration (p0 : M.Registration) (p1 : M.Registration) : Option Bool :=
  if (!(p0.Site.toList == p1.Site.toList)) = true then (some false) else (if (p0.Installing != p1.Installing) = true then (some false) else (if (p0.Waiting != p1.Waiting) = true then (some false) else (if (p0.Active != p1.Active) = true then (some false) else (some true))))
def m_laws_eqByteS_L1 (p0 : List Int) (p1 : List Int) : Nat → Int → Option Bool
  | 0, _ => none
  | nL1 + 1, v5 => if (decide (v5 < (List.length p0 : Int))) = true then ((idx p0 v5).bind fun x7 => ((idx p1 v5).bind fun x12 => (if (x7 != x12) = true then (some false) else (m_laws_eqByteS_L1 p0 p1 nL1 (IntKind.i64.wrap (v5 + 1)))))) else (some true)
def m_laws_eqByteS (p0 : List Int) (p1 : List Int) : Option Bool :=
  if ((List.length p0 : Int) != (List.length p1 : Int)) = true then (some false) else (m_laws_eqByteS_L1 p0 p1 fuel 0)
def m_laws_eqResponse (p0 : M.Response) (p1 : M.Response) : Option Bool :=
  if (p0.Type_ != p1.Type_) = true then (some false) else (if (p0.Status != p1.Status) = true then (some false) else (if (p0.Version != p1.Version) = true then (some false) else ((m_laws_eqByteS p0.Body p1.Body).bind fun x4 => (if (!x4) = true then (some false) else (if (!(p0.Shares == p1.Shares)) = true then (some false) else (some true))))))
def m_laws_eqCached (p0 : M.Cached) (p1 : M.Cached) : Option Bool :=
  if (!(p0.Site.toList == p1.Site.toList)) = true then (some false) else (if (!(p0.Path.toList == p1.Path.toList)) = true then (some false) else ((m_laws_eqResponse p0.Response p1.Response).bind fun x3 => (if (!x3) = true then (some false) else (some true))))
def m_laws_eqCachedS_L1 (p0 : List M.Cached) (p1 : List M.Cached) : Nat → Int → Option Bool
  | 0, _ => none
  | nL1 + 1, v5 => if (decide (v5 < (List.length p0 : Int))) = true then ((idx p0 v5).bind fun x7 => ((idx p1 v5).bind fun x12 => ((m_laws_eqCached x7 x12).bind fun x17 => (if (!x17) = true then (some false) else (m_laws_eqCachedS_L1 p0 p1 nL1 (IntKind.i64.wrap (v5 + 1))))))) else (some true)
def m_laws_eqCachedS (p0 : List M.Cached) (p1 : List M.Cached) : Option Bool :=
  if ((List.length p0 : Int) != (List.length p1 : Int)) = true then (some false) else (m_laws_eqCachedS_L1 p0 p1 fuel 0)
def m_laws_eqCache (p0 : M.Cache) (p1 : M.Cache) : Option Bool :=
  if (p0.Version != p1.Version) = true then (some false) else ((m_laws_eqCachedS p0.Entries p1.Entries).bind fun x2 => (if (!x2) = true then (some false) else (some true)))
def m_laws_eqCacheS_L1 (p0 : List M.Cache) (p1 : List M.Cache) : Nat → Int → Option Bool
  | 0, _ => none
  | nL1 + 1, v5 => if (decide (v5 < (List.length p0 : Int))) = true then ((idx p0 v5).bind fun x7 => ((idx p1 v5).bind fun x12 => ((m_laws_eqCache x7 x12).bind fun x17 => (if (!x17) = true then (some false) else (m_laws_eqCacheS_L1 p0 p1 nL1 (IntKind.i64.wrap (v5 + 1))))))) else (some true)
def m_laws_eqCacheS (p0 : List M.Cache) (p1 : List M.Cache) : Option Bool :=
  if ((List.length p0 : Int) != (List.length p1 : Int)) = true then (some false) else (m_laws_eqCacheS_L1 p0 p1 fuel 0)
def m_laws_eqCacheSet (p0 : M.CacheSet) (p1 : M.CacheSet) : Option Bool :=
  (m_laws_eqCacheS p0.Caches p1.Caches).bind fun x1 => (if (!x1) = true then (some false) else (some true))
def m_laws_eqKey (p0 : M.Key) (p1 : M.Key) : Option Bool :=
  if (p0.Kind != p1.Kind) = true then (some false) else (if (p0.N != p1.N) = true then (some false) else (if (!(p0.Text.toList == p1.Text.toList)) = true then (some false) else (some true)))
def m_laws_eqField (p0 : M.Field) (p1 : M.Field) : Option Bool :=
  if (!(p0.Name.toList == p1.Name.toList)) = true then (some false) else (if (p0.N != p1.N) = true then (some false) else (some true))
def m_laws_eqFieldS_L1 (p0 : List M.Field) (p1 : List M.Field) : Nat → Int → Option Bool
  | 0, _ => none
  | nL1 + 1, v5 => if (decide (v5 < (List.length p0 : Int))) = true then ((idx p0 v5).bind fun x7 => ((idx p1 v5).bind fun x12 => ((m_laws_eqField x7 x12).bind fun x17 => (if (!x17) = true then (some false) else (m_laws_eqFieldS_L1 p0 p1 nL1 (IntKind.i64.wrap (v5 + 1))))))) else (some true)
def m_laws_eqFieldS (p0 : List M.Field) (p1 : List M.Field) : Option Bool :=
  if ((List.length p0 : Int) != (List.length p1 : Int)) = true then (some false) else (m_laws_eqFieldS_L1 p0 p1 fuel 0)
def m_laws_eqRecord (p0 : M.Record) (p1 : M.Record) : Option Bool :=
  (m_laws_eqFieldS p0.Fields p1.Fields).bind fun x1 => (if (!x1) = true then (some false) else (some true))
def m_laws_eqItem (p0 : M.Item) (p1 : M.Item) : Option Bool :=
  (m_laws_eqKey p0.Key p1.Key).bind fun x1 => (if (!x1) = true then (some false) else ((m_laws_eqRecord p0.Record p1.Record).bind fun x4 => (if (!x4) = true then (some false) else (some true))))
def m_laws_eqItemS_L1 (p0 : List M.Item) (p1 : List M.Item) : Nat → Int → Option Bool
  | 0, _ => none
  | nL1 + 1, v5 => if (decide (v5 < (List.length p0 : Int))) = true then ((idx p0 v5).bind fun x7 => ((idx p1 v5).bind fun x12 => ((m_laws_eqItem x7 x12).bind fun x17 => (if (!x17) = true then (some false) else (m_laws_eqItemS_L1 p0 p1 nL1 (IntKind.i64.wrap (v5 + 1))))))) else (some true)
def m_laws_eqItemS (p0 : List M.Item) (p1 : List M.Item) : Option Bool :=
  if ((List.length p0 : Int) != (List.length p1 : Int)) = true then (some false) else (m_laws_eqItemS_L1 p0 p1 fuel 0)
def m_laws_eqStore (p0 : M.Store) (p1 : M.Store) : Option Bool :=
  if (!(p0.Name.toList == p1.Name.toList)) = true then (some false) else ((m_laws_eqItemS p0.Items p1.Items).bind fun x2 => (if (!x2) = true then (some false) else (if (p0.Auto != p1.Auto) = true then (some false) else (some true))))
def m_laws_eqStoreS_L1 (p0 : List M.Store) (p1 : List M.Store) : Nat → Int → Option Bool
  | 0, _ => none
  | nL1 + 1, v5 => if (decide (v5 < (List.length p0 : Int))) = true then ((idx p0 v5).bind fun x7 => ((idx p1 v5).bind fun x12 => ((m_laws_eqStore x7 x12).bind fun x17 => (if (!x17) = true then (some false) else (m_laws_eqStoreS_L1 p0 p1 nL1 (IntKind.i64.wrap (v5 + 1))))))) else (some true)
def m_laws_eqStoreS (p0 : List M.Store) (p1 : List M.Store) : Option Bool :=
  if ((List.length p0 : Int) != (List.length p1 : Int)) = true then (some false) else (m_laws_eqStoreS_L1 p0 p1 fuel 0)
def m_laws_eqIndexDef (p0 : M.IndexDef) (p1 : M.IndexDef) : Option Bool :=
  if (!(p0.Store.toList == p1.Store.toList)) = true then (some false) else (if (!(p0.Field.toList == p1.Field.toList)) = true then (some false) else (some true))
def m_laws_eqIndexDefS_L1 (p0 : List M.IndexDef) (p1 : List M.IndexDef) : Nat → Int → Option Bool
  | 0, _ => none
  | nL1 + 1, v5 => if (decide (v5 < (List.length p0 : Int))) = true then ((idx p0 v5).bind fun x7 => ((idx p1 v5).bind fun x12 => ((m_laws_eqIndexDef x7 x12).bind fun x17 => (if (!x17) = true then (some false) else (m_laws_eqIndexDefS_L1 p0 p1 nL1 (IntKind.i64.wrap (v5 + 1))))))) else (some true)
def m_laws_eqIndexDefS (p0 : List M.IndexDef) (p1 : List M.IndexDef) : Option Bool :=
  if ((List.length p0 : Int) != (List.length p1 : Int)) = true then (some false) else (m_laws_eqIndexDefS_L1 p0 p1 fuel 0)
def m_laws_eqDatabase (p0 : M.Database) (p1 : M.Database) : Option Bool :=
  if (!(p0.Name.toList == p1.Name.toList)) = true then (some false) else (if (p0.Version != p1.Version) = true then (some false) else ((m_laws_eqStoreS p0.Stores p1.Stores).bind fun x3 => (if (!x3) = true then (some false) else ((m_laws_eqIndexDefS p0.Unique p1.Unique).bind fun x6 => (if (!x6) = true then (some false) else (some true))))))
def m_laws_eqDisk (p0 : M.Disk) (p1 : M.Disk) : Option Bool :=
  (m_laws_eqDatabase p0.Base p1.Base).bind fun x1 => (if (!x1) = true then (some false) else ((m_laws_eqByteS p0.Log p1.Log).bind fun x4 => (if (!x4) = true then (some false) else (if (p0.Count != p1.Count) = true then (some false) else (some true)))))
def m_laws_eqWrite (p0 : M.Write) (p1 : M.Write) : Option Bool :=
  if (p0.Device != p1.Device) = true then (some false) else (if (p0.Seq != p1.Seq) = true then (some false) else ((m_laws_eqKey p0.Key p1.Key).bind fun x3 => (if (!x3) = true then (some false) else (if (!(p0.Field.toList == p1.Field.toList)) = true then (some false) else (if (p0.N != p1.N) = true then (some false) else (some true))))))
def m_laws_eqWriteS_L1 (p0 : List M.Write) (p1 : List M.Write) : Nat → Int → Option Bool
  | 0, _ => none
  | nL1 + 1, v5 => if (decide (v5 < (List.length p0 : Int))) = true then ((idx p0 v5).bind fun x7 => ((idx p1 v5).bind fun x12 => ((m_laws_eqWrite x7 x12).bind fun x17 => (if (!x17) = true then (some false) else (m_laws_eqWriteS_L1 p0 p1 nL1 (IntKind.i64.wrap (v5 + 1))))))) else (some true)
def m_laws_eqWriteS (p0 : List M.Write) (p1 : List M.Write) : Option Bool :=
  if ((List.length p0 : Int) != (List.length p1 : Int)) = true then (some false) else (m_laws_eqWriteS_L1 p0 p1 fuel 0)
def m_laws_eqOutbox (p0 : M.Outbox) (p1 : M.Outbox) : Option Bool :=
  if (p0.Device != p1.Device) = true then (some false) else (if (p0.Next != p1.Next) = true then (some false) else ((m_laws_eqWriteS p0.Writes p1.Writes).bind fun x3 => (if (!x3) = true then (some false) else (some true))))
def m_laws_eqSync (p0 : M.Sync) (p1 : M.Sync) : Option Bool :=
  (m_laws_eqOutbox p0.Outbox p1.Outbox).bind fun x1 => (if (!x1) = true then (some false) else (if (p0.Tries != p1.Tries) = true then (some false) else (if (p0.WaitUntil != p1.WaitUntil) = true then (some false) else (some true))))
def m_laws_eqReplica (p0 : M.Replica) (p1 : M.Replica) : Option Bool :=
  (m_laws_eqStore p0.Base p1.Base).bind fun x1 => (if (!x1) = true then (some false) else (if (p0.Seen != p1.Seen) = true then (some false) else ((m_laws_eqSync p0.Sync p1.Sync).bind fun x5 => (if (!x5) = true then (some false) else (some true)))))
def m_laws_eqBucket (p0 : M.Bucket) (p1 : M.Bucket) : Option Bool :=
  if (!(p0.Site.toList == p1.Site.toList)) = true then (some false) else (if (!(p0.Top.toList == p1.Top.toList)) = true then (some false) else ((m_laws_eqRegistration p0.Registration p1.Registration).bind fun x3 => (if (!x3) = true then (some false) else ((m_laws_eqCacheSet p0.Caches p1.Caches).bind fun x6 => (if (!x6) = true then (some false) else ((m_laws_eqDisk p0.Disk p1.Disk).bind fun x9 => (if (!x9) = true then (some false) else ((m_laws_eqReplica p0.Replica p1.Replica).bind fun x12 => (if (!x12) = true then (some false) else (if (p0.LastUsed != p1.LastUsed) = true then (some false) else (if (!(p0.Persistent == p1.Persistent)) = true then (some false) else (some true))))))))))))
def m_laws_eqBucketS_L1 (p0 : List M.Bucket) (p1 : List M.Bucket) : Nat → Int → Option Bool
  | 0, _ => none
  | nL1 + 1, v5 => if (decide (v5 < (List.length p0 : Int))) = true then ((idx p0 v5).bind fun x7 => ((idx p1 v5).bind fun x12 => ((m_laws_eqBucket x7 x12).bind fun x17 => (if (!x17) = true then (some false) else (m_laws_eqBucketS_L1 p0 p1 nL1 (IntKind.i64.wrap (v5 + 1))))))) else (some true)
def m_laws_eqBucketS (p0 : List M.Bucket) (p1 : List M.Bucket) : Option Bool :=
  if ((List.length p0 : Int) != (List.length p1 : Int)) = true then (some false) else (m_laws_eqBucketS_L1 p0 p1 fuel 0)
def m_laws_eqStorage (p0 : M.Storage) (p1 : M.Storage) : Option Bool :=
  (m_laws_eqBucketS p0.Buckets p1.Buckets).bind fun x1 => (if (!x1) = true then (some false) else (some true))
def m_laws_eqLoaded (p0 : M.Loaded) (p1 : M.Loaded) : Option Bool :=
  if (!(p0.Path.toList == p1.Path.toList)) = true then (some false) else (if (p0.Version != p1.Version) = true then (some false) else (some true))
def m_laws_eqLoadedS_L1 (p0 : List M.Loaded) (p1 : List M.Loaded) : Nat → Int → Option Bool
  | 0, _ => none
  | nL1 + 1, v5 => if (decide (v5 < (List.length p0 : Int))) = true then ((idx p0 v5).bind fun x7 => ((idx p1 v5).bind fun x12 => ((m_laws_eqLoaded x7 x12).bind fun x17 => (if (!x17) = true then (some false) else (m_laws_eqLoadedS_L1 p0 p1 nL1 (IntKind.i64.wrap (v5 + 1))))))) else (some true)
def m_laws_eqLoadedS (p0 : List M.Loaded) (p1 : List M.Loaded) : Option Bool :=
  if ((List.length p0 : Int) != (List.length p1 : Int)) = true then (some false) else (m_laws_eqLoadedS_L1 p0 p1 fuel 0)
def m_laws_eqInstr (p0 : M.Instr) (p1 : M.Instr) : Option Bool :=
  if (p0.Kind != p1.Kind) = true then (some false) else (if (p0.R != p1.R) = true then (some false) else (if (p0.N != p1.N) = true then (some false) else (if (!(p0.Text.toList == p1.Text.toList)) = true then (some false) else (some true))))
def m_laws_eqInstrS_L1 (p0 : List M.Instr) (p1 : List M.Instr) : Nat → Int → Option Bool
  | 0, _ => none
  | nL1 + 1, v5 => if (decide (v5 < (List.length p0 : Int))) = true then ((idx p0 v5).bind fun x7 => ((idx p1 v5).bind fun x12 => ((m_laws_eqInstr x7 x12).bind fun x17 => (if (!x17) = true then (some false) else (m_laws_eqInstrS_L1 p0 p1 nL1 (IntKind.i64.wrap (v5 + 1))))))) else (some true)
def m_laws_eqInstrS (p0 : List M.Instr) (p1 : List M.Instr) : Option Bool :=
  if ((List.length p0 : Int) != (List.length p1 : Int)) = true then (some false) else (m_laws_eqInstrS_L1 p0 p1 fuel 0)
def m_laws_eqIntS_L1 (p0 : List Int) (p1 : List Int) : Nat → Int → Option Bool
  | 0, _ => none
  | nL1 + 1, v5 => if (decide (v5 < (List.length p0 : Int))) = true then ((idx p0 v5).bind fun x7 => ((idx p1 v5).bind fun x12 => (if (x7 != x12) = true then (some false) else (m_laws_eqIntS_L1 p0 p1 nL1 (IntKind.i64.wrap (v5 + 1)))))) else (some true)
def m_laws_eqIntS (p0 : List Int) (p1 : List Int) : Option Bool :=
  if ((List.length p0 : Int) != (List.length p1 : Int)) = true then (some false) else (m_laws_eqIntS_L1 p0 p1 fuel 0)
def m_laws_eqMachine (p0 : M.Machine) (p1 : M.Machine) : Option Bool :=
  (m_laws_eqInstrS p0.Script p1.Script).bind fun x1 => (if (!x1) = true then (some false) else (if (p0.Pc != p1.Pc) = true then (some false) else ((m_laws_eqIntS p0.Regs p1.Regs).bind fun x5 => (if (!x5) = true then (some false) else (if (p0.Steps != p1.Steps) = true then (some false) else (if (!(p0.Done == p1.Done)) = true then (some false) else (if (!(p0.Wait == p1.Wait)) = true then (some false) else (some true))))))))
def m_laws_eqPage (p0 : M.Page) (p1 : M.Page) : Option Bool :=
  if (p0.Id != p1.Id) = true then (some false) else (if (!(p0.Site.toList == p1.Site.toList)) = true then (some false) else (if (!(p0.Top.toList == p1.Top.toList)) = true then (some false) else (if (p0.Version != p1.Version) = true then (some false) else ((m_laws_eqLoadedS p0.Loaded p1.Loaded).bind fun x5 => (if (!x5) = true then (some false) else ((m_laws_eqMachine p0.Machine p1.Machine).bind fun x8 => (if (!x8) = true then (some false) else (some true))))))))
def m_laws_eqPageS_L1 (p0 : List M.Page) (p1 : List M.Page) : Nat → Int → Option Bool
  | 0, _ => none
  | nL1 + 1, v5 => if (decide (v5 < (List.length p0 : Int))) = true then ((idx p0 v5).bind fun x7 => ((idx p1 v5).bind fun x12 => ((m_laws_eqPage x7 x12).bind fun x17 => (if (!x17) = true then (some false) else (m_laws_eqPageS_L1 p0 p1 nL1 (IntKind.i64.wrap (v5 + 1))))))) else (some true)
def m_laws_eqPageS (p0 : List M.Page) (p1 : List M.Page) : Option Bool :=
  if ((List.length p0 : Int) != (List.length p1 : Int)) = true then (some false) else (m_laws_eqPageS_L1 p0 p1 fuel 0)
def m_laws_eqLock (p0 : M.Lock) (p1 : M.Lock) : Option Bool :=
  if (!(p0.Name.toList == p1.Name.toList)) = true then (some false) else (if (p0.Page != p1.Page) = true then (some false) else (if (!(p0.Shared == p1.Shared)) = true then (some false) else (if (!(p0.Held == p1.Held)) = true then (some false) else (some true))))
def m_laws_eqLockS_L1 (p0 : List M.Lock) (p1 : List M.Lock) : Nat → Int → Option Bool
  | 0, _ => none
  | nL1 + 1, v5 => if (decide (v5 < (List.length p0 : Int))) = true then ((idx p0 v5).bind fun x7 => ((idx p1 v5).bind fun x12 => ((m_laws_eqLock x7 x12).bind fun x17 => (if (!x17) = true then (some false) else (m_laws_eqLockS_L1 p0 p1 nL1 (IntKind.i64.wrap (v5 + 1))))))) else (some true)
def m_laws_eqLockS (p0 : List M.Lock) (p1 : List M.Lock) : Option Bool :=
  if ((List.length p0 : Int) != (List.length p1 : Int)) = true then (some false) else (m_laws_eqLockS_L1 p0 p1 fuel 0)
def m_laws_eqLockTable (p0 : M.LockTable) (p1 : M.LockTable) : Option Bool :=
  (m_laws_eqLockS p0.Locks p1.Locks).bind fun x1 => (if (!x1) = true then (some false) else (some true))
def m_laws_eqMail (p0 : M.Mail) (p1 : M.Mail) : Option Bool :=
  if (p0.To != p1.To) = true then (some false) else (if (p0.From != p1.From) = true then (some false) else (if (p0.N != p1.N) = true then (some false) else (some true)))
def m_laws_eqMailS_L1 (p0 : List M.Mail) (p1 : List M.Mail) : Nat → Int → Option Bool
  | 0, _ => none
  | nL1 + 1, v5 => if (decide (v5 < (List.length p0 : Int))) = true then ((idx p0 v5).bind fun x7 => ((idx p1 v5).bind fun x12 => ((m_laws_eqMail x7 x12).bind fun x17 => (if (!x17) = true then (some false) else (m_laws_eqMailS_L1 p0 p1 nL1 (IntKind.i64.wrap (v5 + 1))))))) else (some true)
def m_laws_eqMailS (p0 : List M.Mail) (p1 : List M.Mail) : Option Bool :=
  if ((List.length p0 : Int) != (List.length p1 : Int)) = true then (some false) else (m_laws_eqMailS_L1 p0 p1 fuel 0)
def m_laws_eqChannel (p0 : M.Channel) (p1 : M.Channel) : Option Bool :=
  (m_laws_eqMailS p0.Mails p1.Mails).bind fun x1 => (if (!x1) = true then (some false) else (some true))
def m_laws_eqStringS_L1 (p0 : List ByteArray) (p1 : List ByteArray) : Nat → Int → Option Bool
  | 0, _ => none
  | nL1 + 1, v5 => if (decide (v5 < (List.length p0 : Int))) = true then ((idx p0 v5).bind fun x7 => ((idx p1 v5).bind fun x12 => (if (!(x7.toList == x12.toList)) = true then (some false) else (m_laws_eqStringS_L1 p0 p1 nL1 (IntKind.i64.wrap (v5 + 1)))))) else (some true)
def m_laws_eqStringS (p0 : List ByteArray) (p1 : List ByteArray) : Option Bool :=
  if ((List.length p0 : Int) != (List.length p1 : Int)) = true then (some false) else (m_laws_eqStringS_L1 p0 p1 fuel 0)
def m_laws_eqSite (p0 : M.Site) (p1 : M.Site) : Option Bool :=
  if (!(p0.Name.toList == p1.Name.toList)) = true then (some false) else (if (p0.Version != p1.Version) = true then (some false) else ((m_laws_eqStringS p0.Files p1.Files).bind fun x3 => (if (!x3) = true then (some false) else (if (!(p0.Shared == p1.Shared)) = true then (some false) else (some true)))))
def m_laws_eqSiteS_L1 (p0 : List M.Site) (p1 : List M.Site) : Nat → Int → Option Bool
  | 0, _ => none
  | nL1 + 1, v5 => if (decide (v5 < (List.length p0 : Int))) = true then ((idx p0 v5).bind fun x7 => ((idx p1 v5).bind fun x12 => ((m_laws_eqSite x7 x12).bind fun x17 => (if (!x17) = true then (some false) else (m_laws_eqSiteS_L1 p0 p1 nL1 (IntKind.i64.wrap (v5 + 1))))))) else (some true)
def m_laws_eqSiteS (p0 : List M.Site) (p1 : List M.Site) : Option Bool :=
  if ((List.length p0 : Int) != (List.length p1 : Int)) = true then (some false) else (m_laws_eqSiteS_L1 p0 p1 fuel 0)
def m_laws_eqApplied (p0 : M.Applied) (p1 : M.Applied) : Option Bool :=
  if (p0.Device != p1.Device) = true then (some false) else (if (p0.Seq != p1.Seq) = true then (some false) else (some true))
def m_laws_eqAppliedS_L1 (p0 : List M.Applied) (p1 : List M.Applied) : Nat → Int → Option Bool
  | 0, _ => none
  | nL1 + 1, v5 => if (decide (v5 < (List.length p0 : Int))) = true then ((idx p0 v5).bind fun x7 => ((idx p1 v5).bind fun x12 => ((m_laws_eqApplied x7 x12).bind fun x17 => (if (!x17) = true then (some false) else (m_laws_eqAppliedS_L1 p0 p1 nL1 (IntKind.i64.wrap (v5 + 1))))))) else (some true)
def m_laws_eqAppliedS (p0 : List M.Applied) (p1 : List M.Applied) : Option Bool :=
  if ((List.length p0 : Int) != (List.length p1 : Int)) = true then (some false) else (m_laws_eqAppliedS_L1 p0 p1 fuel 0)
def m_laws_eqServer (p0 : M.Server) (p1 : M.Server) : Option Bool :=
  (m_laws_eqStore p0.Store p1.Store).bind fun x1 => (if (!x1) = true then (some false) else ((m_laws_eqAppliedS p0.Applied p1.Applied).bind fun x4 => (if (!x4) = true then (some false) else ((m_laws_eqWriteS p0.Changes p1.Changes).bind fun x7 => (if (!x7) = true then (some false) else (some true))))))
def m_laws_eqServerS_L1 (p0 : List M.Server) (p1 : List M.Server) : Nat → Int → Option Bool
  | 0, _ => none
  | nL1 + 1, v5 => if (decide (v5 < (List.length p0 : Int))) = true then ((idx p0 v5).bind fun x7 => ((idx p1 v5).bind fun x12 => ((m_laws_eqServer x7 x12).bind fun x17 => (if (!x17) = true then (some false) else (m_laws_eqServerS_L1 p0 p1 nL1 (IntKind.i64.wrap (v5 + 1))))))) else (some true)
def m_laws_eqServerS (p0 : List M.Server) (p1 : List M.Server) : Option Bool :=
  if ((List.length p0 : Int) != (List.length p1 : Int)) = true then (some false) else (m_laws_eqServerS_L1 p0 p1 fuel 0)
def m_laws_eqWorld (p0 : M.World) (p1 : M.World) : Option Bool :=
  if (p0.Now != p1.Now) = true then (some false) else (if (!(p0.Online == p1.Online)) = true then (some false) else (if (p0.Device != p1.Device) = true then (some false) else ((m_laws_eqStorage p0.Storage p1.Storage).bind fun x4 => (if (!x4) = true then (some false) else ((m_laws_eqPageS p0.Pages p1.Pages).bind fun x7 => (if (!x7) = true then (some false) else (if (p0.NextPage != p1.NextPage) = true then (some false) else ((m_laws_eqLockTable p0.Locks p1.Locks).bind fun x11 => (if (!x11) = true then (some false) else ((m_laws_eqChannel p0.Channel p1.Channel).bind fun x14 => (if (!x14) = true then (some false) else ((m_laws_eqSiteS p0.Sites p1.Sites).bind fun x17 => (if (!x17) = true then (some false) else ((m_laws_eqServerS p0.Servers p1.Servers).bind fun x20 => (if (!x20) = true then (some false) else (some true))))))))))))))))
def m_laws_FnExactEqualWorlds (p0 : M.World) (p1 : M.World) : Option Bool :=
  (m_laws_szWorld p0 1048576).bind fun x1 => (if (decide (x1 < 0)) = true then (some true) else ((m_laws_szWorld p1 x1).bind fun x4 => (if (decide (x4 < 0)) = true then (some true) else ((m_laws_toWorld p0).bind fun x7 => ((m_laws_toWorld p1).bind fun x9 => ((m_spec_EqualWorlds x7 x9).bind fun x11 => ((m_laws_toWorld p0).bind fun x13 => ((m_laws_toWorld p1).bind fun x15 => ((m_impl_EqualWorlds x13 x15).bind fun x17 => (if (!(x17 == x11)) = true then (some false) else ((m_laws_toWorld p0).bind fun x20 => ((m_laws_eqWorld x13 x20).bind fun x22 => (if (!x22) = true then (some false) else ((m_laws_toWorld p1).bind fun x25 => ((m_laws_eqWorld x15 x25).bind fun x27 => (if (!x27) = true then (some false) else (some true)))))))))))))))))
end Go.Proofs.YtgemmnkhddlhpaaGreat.gen
