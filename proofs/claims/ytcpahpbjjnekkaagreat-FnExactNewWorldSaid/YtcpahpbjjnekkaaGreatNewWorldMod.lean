/-
  Helper text: plain Lean models of the functions that the law reaches. No conditions.
-/
import Derived.Test.YtcpahpbjjnekkaaGreatShS
namespace Go.Proofs.YtcpahpbjjnekkaaGreat.gen
open Go Go.Sh
set_option linter.unusedVariables false
set_option linter.unusedSimpArgs false
structure M.Registration where
  Site : ByteArray
  Installing : Int
  Waiting : Int
  Active : Int
def M.Registration.en (x : M.Registration) : List D := [.str x.Site, .int .i64 x.Installing, .int .i64 x.Waiting, .int .i64 x.Active]
theorem M.Registration.en.fl (l : List M.Registration) : (List.map M.Registration.en l).all (fun y => y.all D.flat) = true := flatL (fun _ => rfl) l
structure M.Response where
  Type_ : Int
  Status : Int
  Version : Int
  Body : List Int
  Shares : Bool
def M.Response.en (x : M.Response) : List D := [.int .i64 x.Type_, .int .i64 x.Status, .int .i64 x.Version, .sl (List.map enB x.Body), .bool x.Shares]
structure M.Cached where
  Site : ByteArray
  Path : ByteArray
  Response : M.Response
def M.Cached.en (x : M.Cached) : List D := [.str x.Site, .str x.Path, .int .i64 x.Response.Type_, .int .i64 x.Response.Status, .int .i64 x.Response.Version, .sl (List.map enB x.Response.Body), .bool x.Response.Shares]
structure M.Cache where
  Version : Int
  Entries : List M.Cached
def M.Cache.en (x : M.Cache) : List D := [.int .i64 x.Version, .sl (List.map M.Cached.en x.Entries)]
structure M.CacheSet where
  Caches : List M.Cache
def M.CacheSet.en (x : M.CacheSet) : List D := [.sl (List.map M.Cache.en x.Caches)]
structure M.Key where
  Kind : Int
  N : Int
  Text : ByteArray
def M.Key.en (x : M.Key) : List D := [.int .i64 x.Kind, .int .i64 x.N, .str x.Text]
theorem M.Key.en.fl (l : List M.Key) : (List.map M.Key.en l).all (fun y => y.all D.flat) = true := flatL (fun _ => rfl) l
structure M.Field where
  Name : ByteArray
  N : Int
def M.Field.en (x : M.Field) : List D := [.str x.Name, .int .i64 x.N]
theorem M.Field.en.fl (l : List M.Field) : (List.map M.Field.en l).all (fun y => y.all D.flat) = true := flatL (fun _ => rfl) l
structure M.Record where
  Fields : List M.Field
def M.Record.en (x : M.Record) : List D := [.sl (List.map M.Field.en x.Fields)]
structure M.Item where
  Key : M.Key
  Record : M.Record
def M.Item.en (x : M.Item) : List D := [.int .i64 x.Key.Kind, .int .i64 x.Key.N, .str x.Key.Text, .sl (List.map M.Field.en x.Record.Fields)]
structure M.Store where
  Name : ByteArray
  Items : List M.Item
  Auto : Int
def M.Store.en (x : M.Store) : List D := [.str x.Name, .sl (List.map M.Item.en x.Items), .int .i64 x.Auto]
structure M.IndexDef where
  Store : ByteArray
  Field : ByteArray
def M.IndexDef.en (x : M.IndexDef) : List D := [.str x.Store, .str x.Field]
theorem M.IndexDef.en.fl (l : List M.IndexDef) : (List.map M.IndexDef.en l).all (fun y => y.all D.flat) = true := flatL (fun _ => rfl) l
structure M.Database where
  Name : ByteArray
  Version : Int
  Stores : List M.Store
  Unique : List M.IndexDef
def M.Database.en (x : M.Database) : List D := [.str x.Name, .int .i64 x.Version, .sl (List.map M.Store.en x.Stores), .sl (List.map M.IndexDef.en x.Unique)]
structure M.Disk where
  Base : M.Database
  Log : List Int
  Count : Int
def M.Disk.en (x : M.Disk) : List D := [.str x.Base.Name, .int .i64 x.Base.Version, .sl (List.map M.Store.en x.Base.Stores), .sl (List.map M.IndexDef.en x.Base.Unique), .sl (List.map enB x.Log), .int .i64 x.Count]
structure M.Write where
  Device : Int
  Seq : Int
  Key : M.Key
  Field : ByteArray
  N : Int
def M.Write.en (x : M.Write) : List D := [.int .i64 x.Device, .int .i64 x.Seq, .int .i64 x.Key.Kind, .int .i64 x.Key.N, .str x.Key.Text, .str x.Field, .int .i64 x.N]
theorem M.Write.en.fl (l : List M.Write) : (List.map M.Write.en l).all (fun y => y.all D.flat) = true := flatL (fun _ => rfl) l
structure M.Outbox where
  Device : Int
  Next : Int
  Writes : List M.Write
def M.Outbox.en (x : M.Outbox) : List D := [.int .i64 x.Device, .int .i64 x.Next, .sl (List.map M.Write.en x.Writes)]
structure M.Sync where
  Outbox : M.Outbox
  Tries : Int
  WaitUntil : Int
def M.Sync.en (x : M.Sync) : List D := [.int .i64 x.Outbox.Device, .int .i64 x.Outbox.Next, .sl (List.map M.Write.en x.Outbox.Writes), .int .i64 x.Tries, .int .i64 x.WaitUntil]
structure M.Replica where
  Base : M.Store
  Seen : Int
  Sync : M.Sync
def M.Replica.en (x : M.Replica) : List D := [.str x.Base.Name, .sl (List.map M.Item.en x.Base.Items), .int .i64 x.Base.Auto, .int .i64 x.Seen, .int .i64 x.Sync.Outbox.Device, .int .i64 x.Sync.Outbox.Next, .sl (List.map M.Write.en x.Sync.Outbox.Writes), .int .i64 x.Sync.Tries, .int .i64 x.Sync.WaitUntil]
structure M.Bucket where
  Site : ByteArray
  Top : ByteArray
  Registration : M.Registration
  Caches : M.CacheSet
  Disk : M.Disk
  Replica : M.Replica
  LastUsed : Int
  Persistent : Bool
def M.Bucket.en (x : M.Bucket) : List D := [.str x.Site, .str x.Top, .str x.Registration.Site, .int .i64 x.Registration.Installing, .int .i64 x.Registration.Waiting, .int .i64 x.Registration.Active, .sl (List.map M.Cache.en x.Caches.Caches), .str x.Disk.Base.Name, .int .i64 x.Disk.Base.Version, .sl (List.map M.Store.en x.Disk.Base.Stores), .sl (List.map M.IndexDef.en x.Disk.Base.Unique), .sl (List.map enB x.Disk.Log), .int .i64 x.Disk.Count, .str x.Replica.Base.Name, .sl (List.map M.Item.en x.Replica.Base.Items), .int .i64 x.Replica.Base.Auto, .int .i64 x.Replica.Seen, .int .i64 x.Replica.Sync.Outbox.Device, .int .i64 x.Replica.Sync.Outbox.Next, .sl (List.map M.Write.en x.Replica.Sync.Outbox.Writes), .int .i64 x.Replica.Sync.Tries, .int .i64 x.Replica.Sync.WaitUntil, .int .i64 x.LastUsed, .bool x.Persistent]
structure M.Storage where
  Buckets : List M.Bucket
def M.Storage.en (x : M.Storage) : List D := [.sl (List.map M.Bucket.en x.Buckets)]
structure M.Loaded where
  Path : ByteArray
  Version : Int
def M.Loaded.en (x : M.Loaded) : List D := [.str x.Path, .int .i64 x.Version]
theorem M.Loaded.en.fl (l : List M.Loaded) : (List.map M.Loaded.en l).all (fun y => y.all D.flat) = true := flatL (fun _ => rfl) l
structure M.Instr where
  Kind : Int
  R : Int
  N : Int
  Text : ByteArray
def M.Instr.en (x : M.Instr) : List D := [.int .i64 x.Kind, .int .i64 x.R, .int .i64 x.N, .str x.Text]
theorem M.Instr.en.fl (l : List M.Instr) : (List.map M.Instr.en l).all (fun y => y.all D.flat) = true := flatL (fun _ => rfl) l
structure M.Machine where
  Script : List M.Instr
  Pc : Int
  Regs : List Int
  Steps : Int
  Done : Bool
  Wait : Bool
def M.Machine.en (x : M.Machine) : List D := [.sl (List.map M.Instr.en x.Script), .int .i64 x.Pc, .sl (List.map enI x.Regs), .int .i64 x.Steps, .bool x.Done, .bool x.Wait]
structure M.Page where
  Id : Int
  Site : ByteArray
  Top : ByteArray
  Version : Int
  Loaded : List M.Loaded
  Machine : M.Machine
def M.Page.en (x : M.Page) : List D := [.int .i64 x.Id, .str x.Site, .str x.Top, .int .i64 x.Version, .sl (List.map M.Loaded.en x.Loaded), .sl (List.map M.Instr.en x.Machine.Script), .int .i64 x.Machine.Pc, .sl (List.map enI x.Machine.Regs), .int .i64 x.Machine.Steps, .bool x.Machine.Done, .bool x.Machine.Wait]
structure M.Lock where
  Name : ByteArray
  Page : Int
  Shared : Bool
  Held : Bool
def M.Lock.en (x : M.Lock) : List D := [.str x.Name, .int .i64 x.Page, .bool x.Shared, .bool x.Held]
theorem M.Lock.en.fl (l : List M.Lock) : (List.map M.Lock.en l).all (fun y => y.all D.flat) = true := flatL (fun _ => rfl) l
structure M.LockTable where
  Locks : List M.Lock
def M.LockTable.en (x : M.LockTable) : List D := [.sl (List.map M.Lock.en x.Locks)]
structure M.Mail where
  To : Int
  From : Int
  N : Int
def M.Mail.en (x : M.Mail) : List D := [.int .i64 x.To, .int .i64 x.From, .int .i64 x.N]
theorem M.Mail.en.fl (l : List M.Mail) : (List.map M.Mail.en l).all (fun y => y.all D.flat) = true := flatL (fun _ => rfl) l
structure M.Channel where
  Mails : List M.Mail
def M.Channel.en (x : M.Channel) : List D := [.sl (List.map M.Mail.en x.Mails)]
structure M.Site where
  Name : ByteArray
  Version : Int
  Files : List ByteArray
  Shared : Bool
def M.Site.en (x : M.Site) : List D := [.str x.Name, .int .i64 x.Version, .sl (List.map enS x.Files), .bool x.Shared]
structure M.Applied where
  Device : Int
  Seq : Int
def M.Applied.en (x : M.Applied) : List D := [.int .i64 x.Device, .int .i64 x.Seq]
theorem M.Applied.en.fl (l : List M.Applied) : (List.map M.Applied.en l).all (fun y => y.all D.flat) = true := flatL (fun _ => rfl) l
structure M.Server where
  Store : M.Store
  Applied : List M.Applied
  Changes : List M.Write
def M.Server.en (x : M.Server) : List D := [.str x.Store.Name, .sl (List.map M.Item.en x.Store.Items), .int .i64 x.Store.Auto, .sl (List.map M.Applied.en x.Applied), .sl (List.map M.Write.en x.Changes)]
structure M.World where
  Now : Int
  Online : Bool
  Device : Int
  Storage : M.Storage
  Pages : List M.Page
  NextPage : Int
  Locks : M.LockTable
  Channel : M.Channel
  Sites : List M.Site
  Servers : List M.Server
def M.World.en (x : M.World) : List D := [.int .i64 x.Now, .bool x.Online, .int .i64 x.Device, .sl (List.map M.Bucket.en x.Storage.Buckets), .sl (List.map M.Page.en x.Pages), .int .i64 x.NextPage, .sl (List.map M.Lock.en x.Locks.Locks), .sl (List.map M.Mail.en x.Channel.Mails), .sl (List.map M.Site.en x.Sites), .sl (List.map M.Server.en x.Servers)]
def m_spec_l1In (p0 : Int) (p1 : Int) (p2 : Int) : Option Bool :=
  if (decide (p0 ≥ p1)) = true then (some (decide (p0 ≤ p2))) else (some false)
def m_spec_l29Names  : Option (List ByteArray) :=
  some ([(⟨#[98, 97, 110, 107]⟩ : ByteArray), (⟨#[110, 101, 119, 115]⟩ : ByteArray), (⟨#[115, 104, 111, 112]⟩ : ByteArray)])
def m_spec_NewWorld_L1 (p0 : Int) (x4 : (List ByteArray)) : Nat → Int → List M.Site → List M.Server → Option M.World
  | 0, _, _, _ => none
  | nL1 + 1, v5, r30000, r30001 => if (decide (v5 < (List.length x4 : Int))) = true then ((idx x4 v5).bind fun x17 => ((app 56 r30000 ([(⟨x17, 1, [(⟨#[99, 111, 100, 101]⟩ : ByteArray), (⟨#[100, 97, 116, 97]⟩ : ByteArray), (⟨#[105, 110, 100, 101, 120]⟩ : ByteArray), (⟨#[115, 116, 121, 108, 101]⟩ : ByteArray)], (x17.toList == (⟨#[110, 101, 119, 115]⟩ : ByteArray).toList)⟩ : M.Site)])).bind fun x22 => ((app 96 r30001 ([(⟨(⟨(⟨#[110, 111, 116, 101, 115]⟩ : ByteArray), ([] : List M.Item), 0⟩ : M.Store), ([] : List M.Applied), ([] : List M.Write)⟩ : M.Server)])).bind fun x34 => (m_spec_NewWorld_L1 p0 x4 nL1 (IntKind.i64.wrap (v5 + 1)) (r30000 ++ [(⟨x17, 1, [(⟨#[99, 111, 100, 101]⟩ : ByteArray), (⟨#[100, 97, 116, 97]⟩ : ByteArray), (⟨#[105, 110, 100, 101, 120]⟩ : ByteArray), (⟨#[115, 116, 121, 108, 101]⟩ : ByteArray)], (x17.toList == (⟨#[110, 101, 119, 115]⟩ : ByteArray).toList)⟩ : M.Site)]) (r30001 ++ [(⟨(⟨(⟨#[110, 111, 116, 101, 115]⟩ : ByteArray), ([] : List M.Item), 0⟩ : M.Store), ([] : List M.Applied), ([] : List M.Write)⟩ : M.Server)]))))) else (some (⟨0, true, p0, (⟨([] : List M.Bucket)⟩ : M.Storage), ([] : List M.Page), 1, (⟨([] : List M.Lock)⟩ : M.LockTable), (⟨([] : List M.Mail)⟩ : M.Channel), r30000, r30001⟩ : M.World))
def m_spec_NewWorld (p0 : Int) : Option M.World :=
  (m_spec_l1In p0 1 1000000).bind fun x1 => (if (!x1) = true then (some (⟨0, false, 0, (⟨([] : List M.Bucket)⟩ : M.Storage), ([] : List M.Page), 0, (⟨([] : List M.Lock)⟩ : M.LockTable), (⟨([] : List M.Mail)⟩ : M.Channel), ([] : List M.Site), ([] : List M.Server)⟩ : M.World)) else ((m_spec_l29Names).bind fun x4 => (m_spec_NewWorld_L1 p0 x4 fuel 0 ([] : List M.Site) ([] : List M.Server))))
def m_impl_InRange (p0 : Int) (p1 : Int) (p2 : Int) : Option Bool :=
  if (decide (p1 ≤ p0)) = true then (some (decide (p0 ≤ p2))) else (some false)
def m_impl_NewWorld_L1 (p0 : Int) : Nat → Int → List M.Site → List M.Server → Option M.World
  | 0, _, _, _ => none
  | nL1 + 1, v14, r30000, r30001 => if (decide (v14 < ((3 : Nat) : Int))) = true then ((idx ([(⟨#[98, 97, 110, 107]⟩ : ByteArray), (⟨#[110, 101, 119, 115]⟩ : ByteArray), (⟨#[115, 104, 111, 112]⟩ : ByteArray)]) v14).bind fun x25 => ((app 56 r30000 ([(⟨x25, 1, [(⟨#[99, 111, 100, 101]⟩ : ByteArray), (⟨#[100, 97, 116, 97]⟩ : ByteArray), (⟨#[105, 110, 100, 101, 120]⟩ : ByteArray), (⟨#[115, 116, 121, 108, 101]⟩ : ByteArray)], (x25.toList == (⟨#[110, 101, 119, 115]⟩ : ByteArray).toList)⟩ : M.Site)])).bind fun x30 => ((app 96 r30001 ([(⟨(⟨(⟨#[110, 111, 116, 101, 115]⟩ : ByteArray), ([] : List M.Item), 0⟩ : M.Store), ([] : List M.Applied), ([] : List M.Write)⟩ : M.Server)])).bind fun x43 => (m_impl_NewWorld_L1 p0 nL1 (IntKind.i64.wrap (v14 + 1)) (r30000 ++ [(⟨x25, 1, [(⟨#[99, 111, 100, 101]⟩ : ByteArray), (⟨#[100, 97, 116, 97]⟩ : ByteArray), (⟨#[105, 110, 100, 101, 120]⟩ : ByteArray), (⟨#[115, 116, 121, 108, 101]⟩ : ByteArray)], (x25.toList == (⟨#[110, 101, 119, 115]⟩ : ByteArray).toList)⟩ : M.Site)]) (r30001 ++ [(⟨(⟨(⟨#[110, 111, 116, 101, 115]⟩ : ByteArray), ([] : List M.Item), 0⟩ : M.Store), ([] : List M.Applied), ([] : List M.Write)⟩ : M.Server)]))))) else (some (⟨0, true, p0, (⟨([] : List M.Bucket)⟩ : M.Storage), ([] : List M.Page), 1, (⟨([] : List M.Lock)⟩ : M.LockTable), (⟨([] : List M.Mail)⟩ : M.Channel), r30000, r30001⟩ : M.World))
def m_impl_NewWorld (p0 : Int) : Option M.World :=
  (m_impl_InRange p0 1 1000000).bind fun x1 => (if (!x1) = true then (some (⟨0, false, 0, (⟨([] : List M.Bucket)⟩ : M.Storage), ([] : List M.Page), 0, (⟨([] : List M.Lock)⟩ : M.LockTable), (⟨([] : List M.Mail)⟩ : M.Channel), ([] : List M.Site), ([] : List M.Server)⟩ : M.World)) else (m_impl_NewWorld_L1 p0 fuel 0 ([] : List M.Site) ([] : List M.Server)))
def m_laws_eqRegistration (p0 : M.Registration) (p1 : M.Registration) : Option Bool :=
  if (!(p0.Site.toList == p1.Site.toList)) = true then (some false) else (if (p0.Installing != p1.Installing) = true then (some false) else (if (p0.Waiting != p1.Waiting) = true then (some false) else (if (p0.Active != p1.Active) = true then (some false) else (some true))))
def m_laws_eqByteS_L1 (p0 : List Int) (p1 : List Int) : Nat → Int → Option Bool
  | 0, _ => none
  | nL1 + 1, v5 => if (decide (v5 < (List.length p0 : Int))) = true then ((idx p0 v5).bind fun x7 => ((idx p1 v5).bind fun x12 => (if (x7 != x12) = true then (some false) else (m_laws_eqByteS_L1 p0 p1 nL1 (IntKind.i64.wrap (v5 + 1)))))) else (some true)
def m_laws_eqByteS (p0 : List Int) (p1 : List Int) : Option Bool :=
  if ((List.length p0 : Int) != (List.length p1 : Int)) = true then (some false) else (m_laws_eqByteS_L1 p0 p1 fuel 0)
def m_laws_eqResponse (p0 : M.Response) (p1 : M.Response) : Option Bool :=
  if (p0.Type_ != p1.Type_) = true then (some false) else (if (p0.Status != p1.Status) = true then (some false) else (if (p0.Version != p1.Version) = true then (some false) else ((m_laws_eqByteS p0.Body p1.Body).bind fun x4 => (if (!x4) = true then (some false) else (if (!(p0.Shares == p1.Shares)) = true then (some false) else (some true))))))
def m_laws_eqCached (p0 : M.Cached) (p1 : M.Cached) : Option Bool :=
  if (!(p0.Site.toList == p1.Site.toList)) = true then (some false) else (if (!(p0.Path.toList == p1.Path.toList)) = true then (some false) else ((m_laws_eqResponse p0.Response p1.Response).bind fun x3 => (if (!x3) = true then (some false) else (some true))))
def m_laws_eqCachedS_L1 (p0 : List M.Cached) (p1 : List M.Cached) : Nat → Int → Option Bool
  | 0, _ => none
  | nL1 + 1, v5 => if (decide (v5 < (List.length p0 : Int))) = true then ((idx p0 v5).bind fun x7 => ((idx p1 v5).bind fun x12 => ((m_laws_eqCached x7 x12).bind fun x17 => (if (!x17) = true then (some false) else (m_laws_eqCachedS_L1 p0 p1 nL1 (IntKind.i64.wrap (v5 + 1))))))) else (some true)
def m_laws_eqCachedS (p0 : List M.Cached) (p1 : List M.Cached) : Option Bool :=
  if ((List.length p0 : Int) != (List.length p1 : Int)) = true then (some false) else (m_laws_eqCachedS_L1 p0 p1 fuel 0)
def m_laws_eqCache (p0 : M.Cache) (p1 : M.Cache) : Option Bool :=
  if (p0.Version != p1.Version) = true then (some false) else ((m_laws_eqCachedS p0.Entries p1.Entries).bind fun x2 => (if (!x2) = true then (some false) else (some true)))
def m_laws_eqCacheS_L1 (p0 : List M.Cache) (p1 : List M.Cache) : Nat → Int → Option Bool
  | 0, _ => none
  | nL1 + 1, v5 => if (decide (v5 < (List.length p0 : Int))) = true then ((idx p0 v5).bind fun x7 => ((idx p1 v5).bind fun x12 => ((m_laws_eqCache x7 x12).bind fun x17 => (if (!x17) = true then (some false) else (m_laws_eqCacheS_L1 p0 p1 nL1 (IntKind.i64.wrap (v5 + 1))))))) else (some true)
def m_laws_eqCacheS (p0 : List M.Cache) (p1 : List M.Cache) : Option Bool :=
  if ((List.length p0 : Int) != (List.length p1 : Int)) = true then (some false) else (m_laws_eqCacheS_L1 p0 p1 fuel 0)
def m_laws_eqCacheSet (p0 : M.CacheSet) (p1 : M.CacheSet) : Option Bool :=
  (m_laws_eqCacheS p0.Caches p1.Caches).bind fun x1 => (if (!x1) = true then (some false) else (some true))
def m_laws_eqKey (p0 : M.Key) (p1 : M.Key) : Option Bool :=
  if (p0.Kind != p1.Kind) = true then (some false) else (if (p0.N != p1.N) = true then (some false) else (if (!(p0.Text.toList == p1.Text.toList)) = true then (some false) else (some true)))
def m_laws_eqField (p0 : M.Field) (p1 : M.Field) : Option Bool :=
  if (!(p0.Name.toList == p1.Name.toList)) = true then (some false) else (if (p0.N != p1.N) = true then (some false) else (some true))
def m_laws_eqFieldS_L1 (p0 : List M.Field) (p1 : List M.Field) : Nat → Int → Option Bool
  | 0, _ => none
  | nL1 + 1, v5 => if (decide (v5 < (List.length p0 : Int))) = true then ((idx p0 v5).bind fun x7 => ((idx p1 v5).bind fun x12 => ((m_laws_eqField x7 x12).bind fun x17 => (if (!x17) = true then (some false) else (m_laws_eqFieldS_L1 p0 p1 nL1 (IntKind.i64.wrap (v5 + 1))))))) else (some true)
def m_laws_eqFieldS (p0 : List M.Field) (p1 : List M.Field) : Option Bool :=
  if ((List.length p0 : Int) != (List.length p1 : Int)) = true then (some false) else (m_laws_eqFieldS_L1 p0 p1 fuel 0)
def m_laws_eqRecord (p0 : M.Record) (p1 : M.Record) : Option Bool :=
  (m_laws_eqFieldS p0.Fields p1.Fields).bind fun x1 => (if (!x1) = true then (some false) else (some true))
def m_laws_eqItem (p0 : M.Item) (p1 : M.Item) : Option Bool :=
  (m_laws_eqKey p0.Key p1.Key).bind fun x1 => (if (!x1) = true then (some false) else ((m_laws_eqRecord p0.Record p1.Record).bind fun x4 => (if (!x4) = true then (some false) else (some true))))
def m_laws_eqItemS_L1 (p0 : List M.Item) (p1 : List M.Item) : Nat → Int → Option Bool
  | 0, _ => none
  | nL1 + 1, v5 => if (decide (v5 < (List.length p0 : Int))) = true then ((idx p0 v5).bind fun x7 => ((idx p1 v5).bind fun x12 => ((m_laws_eqItem x7 x12).bind fun x17 => (if (!x17) = true then (some false) else (m_laws_eqItemS_L1 p0 p1 nL1 (IntKind.i64.wrap (v5 + 1))))))) else (some true)
def m_laws_eqItemS (p0 : List M.Item) (p1 : List M.Item) : Option Bool :=
  if ((List.length p0 : Int) != (List.length p1 : Int)) = true then (some false) else (m_laws_eqItemS_L1 p0 p1 fuel 0)
def m_laws_eqStore (p0 : M.Store) (p1 : M.Store) : Option Bool :=
  if (!(p0.Name.toList == p1.Name.toList)) = true then (some false) else ((m_laws_eqItemS p0.Items p1.Items).bind fun x2 => (if (!x2) = true then (some false) else (if (p0.Auto != p1.Auto) = true then (some false) else (some true))))
def m_laws_eqStoreS_L1 (p0 : List M.Store) (p1 : List M.Store) : Nat → Int → Option Bool
  | 0, _ => none
  | nL1 + 1, v5 => if (decide (v5 < (List.length p0 : Int))) = true then ((idx p0 v5).bind fun x7 => ((idx p1 v5).bind fun x12 => ((m_laws_eqStore x7 x12).bind fun x17 => (if (!x17) = true then (some false) else (m_laws_eqStoreS_L1 p0 p1 nL1 (IntKind.i64.wrap (v5 + 1))))))) else (some true)
def m_laws_eqStoreS (p0 : List M.Store) (p1 : List M.Store) : Option Bool :=
  if ((List.length p0 : Int) != (List.length p1 : Int)) = true then (some false) else (m_laws_eqStoreS_L1 p0 p1 fuel 0)
def m_laws_eqIndexDef (p0 : M.IndexDef) (p1 : M.IndexDef) : Option Bool :=
  if (!(p0.Store.toList == p1.Store.toList)) = true then (some false) else (if (!(p0.Field.toList == p1.Field.toList)) = true then (some false) else (some true))
def m_laws_eqIndexDefS_L1 (p0 : List M.IndexDef) (p1 : List M.IndexDef) : Nat → Int → Option Bool
  | 0, _ => none
  | nL1 + 1, v5 => if (decide (v5 < (List.length p0 : Int))) = true then ((idx p0 v5).bind fun x7 => ((idx p1 v5).bind fun x12 => ((m_laws_eqIndexDef x7 x12).bind fun x17 => (if (!x17) = true then (some false) else (m_laws_eqIndexDefS_L1 p0 p1 nL1 (IntKind.i64.wrap (v5 + 1))))))) else (some true)
def m_laws_eqIndexDefS (p0 : List M.IndexDef) (p1 : List M.IndexDef) : Option Bool :=
  if ((List.length p0 : Int) != (List.length p1 : Int)) = true then (some false) else (m_laws_eqIndexDefS_L1 p0 p1 fuel 0)
def m_laws_eqDatabase (p0 : M.Database) (p1 : M.Database) : Option Bool :=
  if (!(p0.Name.toList == p1.Name.toList)) = true then (some false) else (if (p0.Version != p1.Version) = true then (some false) else ((m_laws_eqStoreS p0.Stores p1.Stores).bind fun x3 => (if (!x3) = true then (some false) else ((m_laws_eqIndexDefS p0.Unique p1.Unique).bind fun x6 => (if (!x6) = true then (some false) else (some true))))))
def m_laws_eqDisk (p0 : M.Disk) (p1 : M.Disk) : Option Bool :=
  (m_laws_eqDatabase p0.Base p1.Base).bind fun x1 => (if (!x1) = true then (some false) else ((m_laws_eqByteS p0.Log p1.Log).bind fun x4 => (if (!x4) = true then (some false) else (if (p0.Count != p1.Count) = true then (some false) else (some true)))))
def m_laws_eqWrite (p0 : M.Write) (p1 : M.Write) : Option Bool :=
  if (p0.Device != p1.Device) = true then (some false) else (if (p0.Seq != p1.Seq) = true then (some false) else ((m_laws_eqKey p0.Key p1.Key).bind fun x3 => (if (!x3) = true then (some false) else (if (!(p0.Field.toList == p1.Field.toList)) = true then (some false) else (if (p0.N != p1.N) = true then (some false) else (some true))))))
def m_laws_eqWriteS_L1 (p0 : List M.Write) (p1 : List M.Write) : Nat → Int → Option Bool
  | 0, _ => none
  | nL1 + 1, v5 => if (decide (v5 < (List.length p0 : Int))) = true then ((idx p0 v5).bind fun x7 => ((idx p1 v5).bind fun x12 => ((m_laws_eqWrite x7 x12).bind fun x17 => (if (!x17) = true then (some false) else (m_laws_eqWriteS_L1 p0 p1 nL1 (IntKind.i64.wrap (v5 + 1))))))) else (some true)
def m_laws_eqWriteS (p0 : List M.Write) (p1 : List M.Write) : Option Bool :=
  if ((List.length p0 : Int) != (List.length p1 : Int)) = true then (some false) else (m_laws_eqWriteS_L1 p0 p1 fuel 0)
def m_laws_eqOutbox (p0 : M.Outbox) (p1 : M.Outbox) : Option Bool :=
  if (p0.Device != p1.Device) = true then (some false) else (if (p0.Next != p1.Next) = true then (some false) else ((m_laws_eqWriteS p0.Writes p1.Writes).bind fun x3 => (if (!x3) = true then (some false) else (some true))))
def m_laws_eqSync (p0 : M.Sync) (p1 : M.Sync) : Option Bool :=
  (m_laws_eqOutbox p0.Outbox p1.Outbox).bind fun x1 => (if (!x1) = true then (some false) else (if (p0.Tries != p1.Tries) = true then (some false) else (if (p0.WaitUntil != p1.WaitUntil) = true then (some false) else (some true))))
def m_laws_eqReplica (p0 : M.Replica) (p1 : M.Replica) : Option Bool :=
  (m_laws_eqStore p0.Base p1.Base).bind fun x1 => (if (!x1) = true then (some false) else (if (p0.Seen != p1.Seen) = true then (some false) else ((m_laws_eqSync p0.Sync p1.Sync).bind fun x5 => (if (!x5) = true then (some false) else (some true)))))
def m_laws_eqBucket (p0 : M.Bucket) (p1 : M.Bucket) : Option Bool :=
  if (!(p0.Site.toList == p1.Site.toList)) = true then (some false) else (if (!(p0.Top.toList == p1.Top.toList)) = true then (some false) else ((m_laws_eqRegistration p0.Registration p1.Registration).bind fun x3 => (if (!x3) = true then (some false) else ((m_laws_eqCacheSet p0.Caches p1.Caches).bind fun x6 => (if (!x6) = true then (some false) else ((m_laws_eqDisk p0.Disk p1.Disk).bind fun x9 => (if (!x9) = true then (some false) else ((m_laws_eqReplica p0.Replica p1.Replica).bind fun x12 => (if (!x12) = true then (some false) else (if (p0.LastUsed != p1.LastUsed) = true then (some false) else (if (!(p0.Persistent == p1.Persistent)) = true then (some false) else (some true))))))))))))
def m_laws_eqBucketS_L1 (p0 : List M.Bucket) (p1 : List M.Bucket) : Nat → Int → Option Bool
  | 0, _ => none
  | nL1 + 1, v5 => if (decide (v5 < (List.length p0 : Int))) = true then ((idx p0 v5).bind fun x7 => ((idx p1 v5).bind fun x12 => ((m_laws_eqBucket x7 x12).bind fun x17 => (if (!x17) = true then (some false) else (m_laws_eqBucketS_L1 p0 p1 nL1 (IntKind.i64.wrap (v5 + 1))))))) else (some true)
def m_laws_eqBucketS (p0 : List M.Bucket) (p1 : List M.Bucket) : Option Bool :=
  if ((List.length p0 : Int) != (List.length p1 : Int)) = true then (some false) else (m_laws_eqBucketS_L1 p0 p1 fuel 0)
def m_laws_eqStorage (p0 : M.Storage) (p1 : M.Storage) : Option Bool :=
  (m_laws_eqBucketS p0.Buckets p1.Buckets).bind fun x1 => (if (!x1) = true then (some false) else (some true))
def m_laws_eqLoaded (p0 : M.Loaded) (p1 : M.Loaded) : Option Bool :=
  if (!(p0.Path.toList == p1.Path.toList)) = true then (some false) else (if (p0.Version != p1.Version) = true then (some false) else (some true))
def m_laws_eqLoadedS_L1 (p0 : List M.Loaded) (p1 : List M.Loaded) : Nat → Int → Option Bool
  | 0, _ => none
  | nL1 + 1, v5 => if (decide (v5 < (List.length p0 : Int))) = true then ((idx p0 v5).bind fun x7 => ((idx p1 v5).bind fun x12 => ((m_laws_eqLoaded x7 x12).bind fun x17 => (if (!x17) = true then (some false) else (m_laws_eqLoadedS_L1 p0 p1 nL1 (IntKind.i64.wrap (v5 + 1))))))) else (some true)
def m_laws_eqLoadedS (p0 : List M.Loaded) (p1 : List M.Loaded) : Option Bool :=
  if ((List.length p0 : Int) != (List.length p1 : Int)) = true then (some false) else (m_laws_eqLoadedS_L1 p0 p1 fuel 0)
def m_laws_eqInstr (p0 : M.Instr) (p1 : M.Instr) : Option Bool :=
  if (p0.Kind != p1.Kind) = true then (some false) else (if (p0.R != p1.R) = true then (some false) else (if (p0.N != p1.N) = true then (some false) else (if (!(p0.Text.toList == p1.Text.toList)) = true then (some false) else (some true))))
def m_laws_eqInstrS_L1 (p0 : List M.Instr) (p1 : List M.Instr) : Nat → Int → Option Bool
  | 0, _ => none
  | nL1 + 1, v5 => if (decide (v5 < (List.length p0 : Int))) = true then ((idx p0 v5).bind fun x7 => ((idx p1 v5).bind fun x12 => ((m_laws_eqInstr x7 x12).bind fun x17 => (if (!x17) = true then (some false) else (m_laws_eqInstrS_L1 p0 p1 nL1 (IntKind.i64.wrap (v5 + 1))))))) else (some true)
def m_laws_eqInstrS (p0 : List M.Instr) (p1 : List M.Instr) : Option Bool :=
  if ((List.length p0 : Int) != (List.length p1 : Int)) = true then (some false) else (m_laws_eqInstrS_L1 p0 p1 fuel 0)
def m_laws_eqIntS_L1 (p0 : List Int) (p1 : List Int) : Nat → Int → Option Bool
  | 0, _ => none
  | nL1 + 1, v5 => if (decide (v5 < (List.length p0 : Int))) = true then ((idx p0 v5).bind fun x7 => ((idx p1 v5).bind fun x12 => (if (x7 != x12) = true then (some false) else (m_laws_eqIntS_L1 p0 p1 nL1 (IntKind.i64.wrap (v5 + 1)))))) else (some true)
def m_laws_eqIntS (p0 : List Int) (p1 : List Int) : Option Bool :=
  if ((List.length p0 : Int) != (List.length p1 : Int)) = true then (some false) else (m_laws_eqIntS_L1 p0 p1 fuel 0)
def m_laws_eqMachine (p0 : M.Machine) (p1 : M.Machine) : Option Bool :=
  (m_laws_eqInstrS p0.Script p1.Script).bind fun x1 => (if (!x1) = true then (some false) else (if (p0.Pc != p1.Pc) = true then (some false) else ((m_laws_eqIntS p0.Regs p1.Regs).bind fun x5 => (if (!x5) = true then (some false) else (if (p0.Steps != p1.Steps) = true then (some false) else (if (!(p0.Done == p1.Done)) = true then (some false) else (if (!(p0.Wait == p1.Wait)) = true then (some false) else (some true))))))))
def m_laws_eqPage (p0 : M.Page) (p1 : M.Page) : Option Bool :=
  if (p0.Id != p1.Id) = true then (some false) else (if (!(p0.Site.toList == p1.Site.toList)) = true then (some false) else (if (!(p0.Top.toList == p1.Top.toList)) = true then (some false) else (if (p0.Version != p1.Version) = true then (some false) else ((m_laws_eqLoadedS p0.Loaded p1.Loaded).bind fun x5 => (if (!x5) = true then (some false) else ((m_laws_eqMachine p0.Machine p1.Machine).bind fun x8 => (if (!x8) = true then (some false) else (some true))))))))
def m_laws_eqPageS_L1 (p0 : List M.Page) (p1 : List M.Page) : Nat → Int → Option Bool
  | 0, _ => none
  | nL1 + 1, v5 => if (decide (v5 < (List.length p0 : Int))) = true then ((idx p0 v5).bind fun x7 => ((idx p1 v5).bind fun x12 => ((m_laws_eqPage x7 x12).bind fun x17 => (if (!x17) = true then (some false) else (m_laws_eqPageS_L1 p0 p1 nL1 (IntKind.i64.wrap (v5 + 1))))))) else (some true)
def m_laws_eqPageS (p0 : List M.Page) (p1 : List M.Page) : Option Bool :=
  if ((List.length p0 : Int) != (List.length p1 : Int)) = true then (some false) else (m_laws_eqPageS_L1 p0 p1 fuel 0)
def m_laws_eqLock (p0 : M.Lock) (p1 : M.Lock) : Option Bool :=
  if (!(p0.Name.toList == p1.Name.toList)) = true then (some false) else (if (p0.Page != p1.Page) = true then (some false) else (if (!(p0.Shared == p1.Shared)) = true then (some false) else (if (!(p0.Held == p1.Held)) = true then (some false) else (some true))))
def m_laws_eqLockS_L1 (p0 : List M.Lock) (p1 : List M.Lock) : Nat → Int → Option Bool
  | 0, _ => none
  | nL1 + 1, v5 => if (decide (v5 < (List.length p0 : Int))) = true then ((idx p0 v5).bind fun x7 => ((idx p1 v5).bind fun x12 => ((m_laws_eqLock x7 x12).bind fun x17 => (if (!x17) = true then (some false) else (m_laws_eqLockS_L1 p0 p1 nL1 (IntKind.i64.wrap (v5 + 1))))))) else (some true)
def m_laws_eqLockS (p0 : List M.Lock) (p1 : List M.Lock) : Option Bool :=
  if ((List.length p0 : Int) != (List.length p1 : Int)) = true then (some false) else (m_laws_eqLockS_L1 p0 p1 fuel 0)
def m_laws_eqLockTable (p0 : M.LockTable) (p1 : M.LockTable) : Option Bool :=
  (m_laws_eqLockS p0.Locks p1.Locks).bind fun x1 => (if (!x1) = true then (some false) else (some true))
def m_laws_eqMail (p0 : M.Mail) (p1 : M.Mail) : Option Bool :=
  if (p0.To != p1.To) = true then (some false) else (if (p0.From != p1.From) = true then (some false) else (if (p0.N != p1.N) = true then (some false) else (some true)))
def m_laws_eqMailS_L1 (p0 : List M.Mail) (p1 : List M.Mail) : Nat → Int → Option Bool
  | 0, _ => none
  | nL1 + 1, v5 => if (decide (v5 < (List.length p0 : Int))) = true then ((idx p0 v5).bind fun x7 => ((idx p1 v5).bind fun x12 => ((m_laws_eqMail x7 x12).bind fun x17 => (if (!x17) = true then (some false) else (m_laws_eqMailS_L1 p0 p1 nL1 (IntKind.i64.wrap (v5 + 1))))))) else (some true)
def m_laws_eqMailS (p0 : List M.Mail) (p1 : List M.Mail) : Option Bool :=
  if ((List.length p0 : Int) != (List.length p1 : Int)) = true then (some false) else (m_laws_eqMailS_L1 p0 p1 fuel 0)
def m_laws_eqChannel (p0 : M.Channel) (p1 : M.Channel) : Option Bool :=
  (m_laws_eqMailS p0.Mails p1.Mails).bind fun x1 => (if (!x1) = true then (some false) else (some true))
def m_laws_eqStringS_L1 (p0 : List ByteArray) (p1 : List ByteArray) : Nat → Int → Option Bool
  | 0, _ => none
  | nL1 + 1, v5 => if (decide (v5 < (List.length p0 : Int))) = true then ((idx p0 v5).bind fun x7 => ((idx p1 v5).bind fun x12 => (if (!(x7.toList == x12.toList)) = true then (some false) else (m_laws_eqStringS_L1 p0 p1 nL1 (IntKind.i64.wrap (v5 + 1)))))) else (some true)
def m_laws_eqStringS (p0 : List ByteArray) (p1 : List ByteArray) : Option Bool :=
  if ((List.length p0 : Int) != (List.length p1 : Int)) = true then (some false) else (m_laws_eqStringS_L1 p0 p1 fuel 0)
def m_laws_eqSite (p0 : M.Site) (p1 : M.Site) : Option Bool :=
  if (!(p0.Name.toList == p1.Name.toList)) = true then (some false) else (if (p0.Version != p1.Version) = true then (some false) else ((m_laws_eqStringS p0.Files p1.Files).bind fun x3 => (if (!x3) = true then (some false) else (if (!(p0.Shared == p1.Shared)) = true then (some false) else (some true)))))
def m_laws_eqSiteS_L1 (p0 : List M.Site) (p1 : List M.Site) : Nat → Int → Option Bool
  | 0, _ => none
  | nL1 + 1, v5 => if (decide (v5 < (List.length p0 : Int))) = true then ((idx p0 v5).bind fun x7 => ((idx p1 v5).bind fun x12 => ((m_laws_eqSite x7 x12).bind fun x17 => (if (!x17) = true then (some false) else (m_laws_eqSiteS_L1 p0 p1 nL1 (IntKind.i64.wrap (v5 + 1))))))) else (some true)
def m_laws_eqSiteS (p0 : List M.Site) (p1 : List M.Site) : Option Bool :=
  if ((List.length p0 : Int) != (List.length p1 : Int)) = true then (some false) else (m_laws_eqSiteS_L1 p0 p1 fuel 0)
def m_laws_eqApplied (p0 : M.Applied) (p1 : M.Applied) : Option Bool :=
  if (p0.Device != p1.Device) = true then (some false) else (if (p0.Seq != p1.Seq) = true then (some false) else (some true))
def m_laws_eqAppliedS_L1 (p0 : List M.Applied) (p1 : List M.Applied) : Nat → Int → Option Bool
  | 0, _ => none
  | nL1 + 1, v5 => if (decide (v5 < (List.length p0 : Int))) = true then ((idx p0 v5).bind fun x7 => ((idx p1 v5).bind fun x12 => ((m_laws_eqApplied x7 x12).bind fun x17 => (if (!x17) = true then (some false) else (m_laws_eqAppliedS_L1 p0 p1 nL1 (IntKind.i64.wrap (v5 + 1))))))) else (some true)
def m_laws_eqAppliedS (p0 : List M.Applied) (p1 : List M.Applied) : Option Bool :=
  if ((List.length p0 : Int) != (List.length p1 : Int)) = true then (some false) else (m_laws_eqAppliedS_L1 p0 p1 fuel 0)
def m_laws_eqServer (p0 : M.Server) (p1 : M.Server) : Option Bool :=
  (m_laws_eqStore p0.Store p1.Store).bind fun x1 => (if (!x1) = true then (some false) else ((m_laws_eqAppliedS p0.Applied p1.Applied).bind fun x4 => (if (!x4) = true then (some false) else ((m_laws_eqWriteS p0.Changes p1.Changes).bind fun x7 => (if (!x7) = true then (some false) else (some true))))))
def m_laws_eqServerS_L1 (p0 : List M.Server) (p1 : List M.Server) : Nat → Int → Option Bool
  | 0, _ => none
  | nL1 + 1, v5 => if (decide (v5 < (List.length p0 : Int))) = true then ((idx p0 v5).bind fun x7 => ((idx p1 v5).bind fun x12 => ((m_laws_eqServer x7 x12).bind fun x17 => (if (!x17) = true then (some false) else (m_laws_eqServerS_L1 p0 p1 nL1 (IntKind.i64.wrap (v5 + 1))))))) else (some true)
def m_laws_eqServerS (p0 : List M.Server) (p1 : List M.Server) : Option Bool :=
  if ((List.length p0 : Int) != (List.length p1 : Int)) = true then (some false) else (m_laws_eqServerS_L1 p0 p1 fuel 0)
def m_laws_eqWorld (p0 : M.World) (p1 : M.World) : Option Bool :=
  if (p0.Now != p1.Now) = true then (some false) else (if (!(p0.Online == p1.Online)) = true then (some false) else (if (p0.Device != p1.Device) = true then (some false) else ((m_laws_eqStorage p0.Storage p1.Storage).bind fun x4 => (if (!x4) = true then (some false) else ((m_laws_eqPageS p0.Pages p1.Pages).bind fun x7 => (if (!x7) = true then (some false) else (if (p0.NextPage != p1.NextPage) = true then (some false) else ((m_laws_eqLockTable p0.Locks p1.Locks).bind fun x11 => (if (!x11) = true then (some false) else ((m_laws_eqChannel p0.Channel p1.Channel).bind fun x14 => (if (!x14) = true then (some false) else ((m_laws_eqSiteS p0.Sites p1.Sites).bind fun x17 => (if (!x17) = true then (some false) else ((m_laws_eqServerS p0.Servers p1.Servers).bind fun x20 => (if (!x20) = true then (some false) else (some true))))))))))))))))
def m_laws_markText_L1  : Nat → Int → ByteArray → Option ByteArray
  | 0, _, _ => none
  | nL1 + 1, v0, v3 => if (decide (v0 > 0)) = true then ((toStr ([(IntKind.u8.wrap (IntKind.i64.wrap (48 + (Int.tmod v0 10))))])).bind fun x6 => ((cat (bytesStr ([(IntKind.u8.wrap (IntKind.i64.wrap (48 + (Int.tmod v0 10))))])) v3).bind fun x8 => (m_laws_markText_L1 nL1 (IntKind.i64.wrap (Int.tdiv v0 10)) ((bytesStr ([(IntKind.u8.wrap (IntKind.i64.wrap (48 + (Int.tmod v0 10))))])) ++ v3)))) else ((cat (⟨#[109]⟩ : ByteArray) v3).bind fun x13 => (some ((⟨#[109]⟩ : ByteArray) ++ v3)))
def m_laws_markText (p0 : Int) : Option ByteArray :=
  if (decide (p0 ≤ 0)) = true then (some (⟨#[109, 48]⟩ : ByteArray)) else (m_laws_markText_L1 fuel p0 (⟨#[]⟩ : ByteArray))
def m_laws_markByteS_L1  : Nat → Int → Int → List Int → Option (List Int × Int)
  | 0, _, _, _ => none
  | nL1 + 1, v1, v5, r99 => if (decide (v5 < (List.length r99 : Int))) = true then ((idx r99 v5).bind fun x8 => ((some (List.set r99 v5.toNat (IntKind.u8.wrap v1))).bind fun y13 => (m_laws_markByteS_L1 nL1 (IntKind.i64.wrap (v1 + 1)) (IntKind.i64.wrap (v5 + 1)) y13))) else (some (r99, v1))
def m_laws_markByteS (p0 : List Int) (p1 : Int) : Option (List Int × Int) :=
  m_laws_markByteS_L1 fuel p1 0 p0
def m_laws_markCachedS_L1  : Nat → Int → Int → List M.Cached → Option (List M.Cached × Int)
  | 0, _, _, _ => none
  | nL1 + 1, v1, v5, r99 => if (decide (v5 < (List.length r99 : Int))) = true then ((m_laws_markText v1).bind fun x8 => ((idx r99 v5).bind fun x10 => ((some (List.set r99 v5.toNat (⟨x8, x10.Path, x10.Response⟩ : M.Cached))).bind fun y15 => ((m_laws_markText (IntKind.i64.wrap (v1 + 1))).bind fun x23 => ((idx y15 v5).bind fun x25 => ((some (List.set y15 v5.toNat (⟨x25.Site, x23, x25.Response⟩ : M.Cached))).bind fun y30 => ((idx y30 v5).bind fun x38 => ((some (List.set y30 v5.toNat (⟨x38.Site, x38.Path, (⟨(IntKind.i64.wrap ((IntKind.i64.wrap (v1 + 1)) + 1)), x38.Response.Status, x38.Response.Version, x38.Response.Body, x38.Response.Shares⟩ : M.Response)⟩ : M.Cached))).bind fun y43 => ((idx y43 v5).bind fun x51 => ((some (List.set y43 v5.toNat (⟨x51.Site, x51.Path, (⟨x51.Response.Type_, (IntKind.i64.wrap ((IntKind.i64.wrap ((IntKind.i64.wrap (v1 + 1)) + 1)) + 1)), x51.Response.Version, x51.Response.Body, x51.Response.Shares⟩ : M.Response)⟩ : M.Cached))).bind fun y56 => ((idx y56 v5).bind fun x64 => ((some (List.set y56 v5.toNat (⟨x64.Site, x64.Path, (⟨x64.Response.Type_, x64.Response.Status, (IntKind.i64.wrap ((IntKind.i64.wrap ((IntKind.i64.wrap ((IntKind.i64.wrap (v1 + 1)) + 1)) + 1)) + 1)), x64.Response.Body, x64.Response.Shares⟩ : M.Response)⟩ : M.Cached))).bind fun y69 => ((idx y69 v5).bind fun x77 => ((m_laws_markByteS x77.Response.Body (IntKind.i64.wrap ((IntKind.i64.wrap ((IntKind.i64.wrap ((IntKind.i64.wrap ((IntKind.i64.wrap (v1 + 1)) + 1)) + 1)) + 1)) + 1))).bind fun x82 => ((some (List.set y69 v5.toNat (⟨x77.Site, x77.Path, (⟨x77.Response.Type_, x77.Response.Status, x77.Response.Version, x82.1, x77.Response.Shares⟩ : M.Response)⟩ : M.Cached))).bind fun y84 => ((idx y84 v5).bind fun x92 => ((some (List.set y84 v5.toNat (⟨x92.Site, x92.Path, (⟨x92.Response.Type_, x92.Response.Status, x92.Response.Version, x92.Response.Body, ((Int.tmod x82.2 3) == 0)⟩ : M.Response)⟩ : M.Cached))).bind fun y97 => (m_laws_markCachedS_L1 nL1 (IntKind.i64.wrap (x82.2 + 1)) (IntKind.i64.wrap (v5 + 1)) y97)))))))))))))))))) else (some (r99, v1))
def m_laws_markCachedS (p0 : List M.Cached) (p1 : Int) : Option (List M.Cached × Int) :=
  m_laws_markCachedS_L1 fuel p1 0 p0
def m_laws_markCacheS_L1  : Nat → Int → Int → List M.Cache → Option (List M.Cache × Int)
  | 0, _, _, _ => none
  | nL1 + 1, v1, v5, r99 => if (decide (v5 < (List.length r99 : Int))) = true then ((idx r99 v5).bind fun x8 => ((some (List.set r99 v5.toNat (⟨v1, x8.Entries⟩ : M.Cache))).bind fun y13 => ((idx y13 v5).bind fun x21 => ((m_laws_markCachedS x21.Entries (IntKind.i64.wrap (v1 + 1))).bind fun x26 => ((some (List.set y13 v5.toNat (⟨x21.Version, x26.1⟩ : M.Cache))).bind fun y28 => (m_laws_markCacheS_L1 nL1 x26.2 (IntKind.i64.wrap (v5 + 1)) y28)))))) else (some (r99, v1))
def m_laws_markCacheS (p0 : List M.Cache) (p1 : Int) : Option (List M.Cache × Int) :=
  m_laws_markCacheS_L1 fuel p1 0 p0
def m_laws_markFieldS_L1  : Nat → Int → Int → List M.Field → Option (List M.Field × Int)
  | 0, _, _, _ => none
  | nL1 + 1, v1, v5, r99 => if (decide (v5 < (List.length r99 : Int))) = true then ((m_laws_markText v1).bind fun x8 => ((idx r99 v5).bind fun x10 => ((some (List.set r99 v5.toNat (⟨x8, x10.N⟩ : M.Field))).bind fun y15 => ((idx y15 v5).bind fun x23 => ((some (List.set y15 v5.toNat (⟨x23.Name, (IntKind.i64.wrap (v1 + 1))⟩ : M.Field))).bind fun y28 => (m_laws_markFieldS_L1 nL1 (IntKind.i64.wrap ((IntKind.i64.wrap (v1 + 1)) + 1)) (IntKind.i64.wrap (v5 + 1)) y28)))))) else (some (r99, v1))
def m_laws_markFieldS (p0 : List M.Field) (p1 : Int) : Option (List M.Field × Int) :=
  m_laws_markFieldS_L1 fuel p1 0 p0
def m_laws_markItemS_L1  : Nat → Int → Int → List M.Item → Option (List M.Item × Int)
  | 0, _, _, _ => none
  | nL1 + 1, v1, v5, r99 => if (decide (v5 < (List.length r99 : Int))) = true then ((idx r99 v5).bind fun x8 => ((some (List.set r99 v5.toNat (⟨(⟨v1, x8.Key.N, x8.Key.Text⟩ : M.Key), x8.Record⟩ : M.Item))).bind fun y13 => ((idx y13 v5).bind fun x21 => ((some (List.set y13 v5.toNat (⟨(⟨x21.Key.Kind, (IntKind.i64.wrap (v1 + 1)), x21.Key.Text⟩ : M.Key), x21.Record⟩ : M.Item))).bind fun y26 => ((m_laws_markText (IntKind.i64.wrap ((IntKind.i64.wrap (v1 + 1)) + 1))).bind fun x34 => ((idx y26 v5).bind fun x36 => ((some (List.set y26 v5.toNat (⟨(⟨x36.Key.Kind, x36.Key.N, x34⟩ : M.Key), x36.Record⟩ : M.Item))).bind fun y41 => ((idx y41 v5).bind fun x49 => ((m_laws_markFieldS x49.Record.Fields (IntKind.i64.wrap ((IntKind.i64.wrap ((IntKind.i64.wrap (v1 + 1)) + 1)) + 1))).bind fun x54 => ((some (List.set y41 v5.toNat (⟨x49.Key, (⟨x54.1⟩ : M.Record)⟩ : M.Item))).bind fun y56 => (m_laws_markItemS_L1 nL1 x54.2 (IntKind.i64.wrap (v5 + 1)) y56))))))))))) else (some (r99, v1))
def m_laws_markItemS (p0 : List M.Item) (p1 : Int) : Option (List M.Item × Int) :=
  m_laws_markItemS_L1 fuel p1 0 p0
def m_laws_markStoreS_L1  : Nat → Int → Int → List M.Store → Option (List M.Store × Int)
  | 0, _, _, _ => none
  | nL1 + 1, v1, v5, r99 => if (decide (v5 < (List.length r99 : Int))) = true then ((m_laws_markText v1).bind fun x8 => ((idx r99 v5).bind fun x10 => ((some (List.set r99 v5.toNat (⟨x8, x10.Items, x10.Auto⟩ : M.Store))).bind fun y15 => ((idx y15 v5).bind fun x23 => ((m_laws_markItemS x23.Items (IntKind.i64.wrap (v1 + 1))).bind fun x28 => ((some (List.set y15 v5.toNat (⟨x23.Name, x28.1, x23.Auto⟩ : M.Store))).bind fun y30 => ((idx y30 v5).bind fun x38 => ((some (List.set y30 v5.toNat (⟨x38.Name, x38.Items, x28.2⟩ : M.Store))).bind fun y43 => (m_laws_markStoreS_L1 nL1 (IntKind.i64.wrap (x28.2 + 1)) (IntKind.i64.wrap (v5 + 1)) y43))))))))) else (some (r99, v1))
def m_laws_markStoreS (p0 : List M.Store) (p1 : Int) : Option (List M.Store × Int) :=
  m_laws_markStoreS_L1 fuel p1 0 p0
def m_laws_markIndexDefS_L1  : Nat → Int → Int → List M.IndexDef → Option (List M.IndexDef × Int)
  | 0, _, _, _ => none
  | nL1 + 1, v1, v5, r99 => if (decide (v5 < (List.length r99 : Int))) = true then ((m_laws_markText v1).bind fun x8 => ((idx r99 v5).bind fun x10 => ((some (List.set r99 v5.toNat (⟨x8, x10.Field⟩ : M.IndexDef))).bind fun y15 => ((m_laws_markText (IntKind.i64.wrap (v1 + 1))).bind fun x23 => ((idx y15 v5).bind fun x25 => ((some (List.set y15 v5.toNat (⟨x25.Store, x23⟩ : M.IndexDef))).bind fun y30 => (m_laws_markIndexDefS_L1 nL1 (IntKind.i64.wrap ((IntKind.i64.wrap (v1 + 1)) + 1)) (IntKind.i64.wrap (v5 + 1)) y30))))))) else (some (r99, v1))
def m_laws_markIndexDefS (p0 : List M.IndexDef) (p1 : Int) : Option (List M.IndexDef × Int) :=
  m_laws_markIndexDefS_L1 fuel p1 0 p0
def m_laws_markWriteS_L1  : Nat → Int → Int → List M.Write → Option (List M.Write × Int)
  | 0, _, _, _ => none
  | nL1 + 1, v1, v5, r99 => if (decide (v5 < (List.length r99 : Int))) = true then ((idx r99 v5).bind fun x8 => ((some (List.set r99 v5.toNat (⟨v1, x8.Seq, x8.Key, x8.Field, x8.N⟩ : M.Write))).bind fun y13 => ((idx y13 v5).bind fun x21 => ((some (List.set y13 v5.toNat (⟨x21.Device, (IntKind.i64.wrap (v1 + 1)), x21.Key, x21.Field, x21.N⟩ : M.Write))).bind fun y26 => ((idx y26 v5).bind fun x34 => ((some (List.set y26 v5.toNat (⟨x34.Device, x34.Seq, (⟨(IntKind.i64.wrap ((IntKind.i64.wrap (v1 + 1)) + 1)), x34.Key.N, x34.Key.Text⟩ : M.Key), x34.Field, x34.N⟩ : M.Write))).bind fun y39 => ((idx y39 v5).bind fun x47 => ((some (List.set y39 v5.toNat (⟨x47.Device, x47.Seq, (⟨x47.Key.Kind, (IntKind.i64.wrap ((IntKind.i64.wrap ((IntKind.i64.wrap (v1 + 1)) + 1)) + 1)), x47.Key.Text⟩ : M.Key), x47.Field, x47.N⟩ : M.Write))).bind fun y52 => ((m_laws_markText (IntKind.i64.wrap ((IntKind.i64.wrap ((IntKind.i64.wrap ((IntKind.i64.wrap (v1 + 1)) + 1)) + 1)) + 1))).bind fun x60 => ((idx y52 v5).bind fun x62 => ((some (List.set y52 v5.toNat (⟨x62.Device, x62.Seq, (⟨x62.Key.Kind, x62.Key.N, x60⟩ : M.Key), x62.Field, x62.N⟩ : M.Write))).bind fun y67 => ((m_laws_markText (IntKind.i64.wrap ((IntKind.i64.wrap ((IntKind.i64.wrap ((IntKind.i64.wrap ((IntKind.i64.wrap (v1 + 1)) + 1)) + 1)) + 1)) + 1))).bind fun x75 => ((idx y67 v5).bind fun x77 => ((some (List.set y67 v5.toNat (⟨x77.Device, x77.Seq, x77.Key, x75, x77.N⟩ : M.Write))).bind fun y82 => ((idx y82 v5).bind fun x90 => ((some (List.set y82 v5.toNat (⟨x90.Device, x90.Seq, x90.Key, x90.Field, (IntKind.i64.wrap ((IntKind.i64.wrap ((IntKind.i64.wrap ((IntKind.i64.wrap ((IntKind.i64.wrap ((IntKind.i64.wrap (v1 + 1)) + 1)) + 1)) + 1)) + 1)) + 1))⟩ : M.Write))).bind fun y95 => (m_laws_markWriteS_L1 nL1 (IntKind.i64.wrap ((IntKind.i64.wrap ((IntKind.i64.wrap ((IntKind.i64.wrap ((IntKind.i64.wrap ((IntKind.i64.wrap ((IntKind.i64.wrap (v1 + 1)) + 1)) + 1)) + 1)) + 1)) + 1)) + 1)) (IntKind.i64.wrap (v5 + 1)) y95))))))))))))))))) else (some (r99, v1))
def m_laws_markWriteS (p0 : List M.Write) (p1 : Int) : Option (List M.Write × Int) :=
  m_laws_markWriteS_L1 fuel p1 0 p0
def m_laws_markBucketS_L1  : Nat → Int → Int → List M.Bucket → Option (List M.Bucket × Int)
  | 0, _, _, _ => none
  | nL1 + 1, v1, v5, r99 => if (decide (v5 < (List.length r99 : Int))) = true then ((m_laws_markText v1).bind fun x8 => ((idx r99 v5).bind fun x10 => ((some (List.set r99 v5.toNat (⟨x8, x10.Top, x10.Registration, x10.Caches, x10.Disk, x10.Replica, x10.LastUsed, x10.Persistent⟩ : M.Bucket))).bind fun y15 => ((m_laws_markText (IntKind.i64.wrap (v1 + 1))).bind fun x23 => ((idx y15 v5).bind fun x25 => ((some (List.set y15 v5.toNat (⟨x25.Site, x23, x25.Registration, x25.Caches, x25.Disk, x25.Replica, x25.LastUsed, x25.Persistent⟩ : M.Bucket))).bind fun y30 => ((m_laws_markText (IntKind.i64.wrap ((IntKind.i64.wrap (v1 + 1)) + 1))).bind fun x38 => ((idx y30 v5).bind fun x40 => ((some (List.set y30 v5.toNat (⟨x40.Site, x40.Top, (⟨x38, x40.Registration.Installing, x40.Registration.Waiting, x40.Registration.Active⟩ : M.Registration), x40.Caches, x40.Disk, x40.Replica, x40.LastUsed, x40.Persistent⟩ : M.Bucket))).bind fun y45 => ((idx y45 v5).bind fun x53 => ((some (List.set y45 v5.toNat (⟨x53.Site, x53.Top, (⟨x53.Registration.Site, (IntKind.i64.wrap ((IntKind.i64.wrap ((IntKind.i64.wrap (v1 + 1)) + 1)) + 1)), x53.Registration.Waiting, x53.Registration.Active⟩ : M.Registration), x53.Caches, x53.Disk, x53.Replica, x53.LastUsed, x53.Persistent⟩ : M.Bucket))).bind fun y58 => ((idx y58 v5).bind fun x66 => ((some (List.set y58 v5.toNat (⟨x66.Site, x66.Top, (⟨x66.Registration.Site, x66.Registration.Installing, (IntKind.i64.wrap ((IntKind.i64.wrap ((IntKind.i64.wrap ((IntKind.i64.wrap (v1 + 1)) + 1)) + 1)) + 1)), x66.Registration.Active⟩ : M.Registration), x66.Caches, x66.Disk, x66.Replica, x66.LastUsed, x66.Persistent⟩ : M.Bucket))).bind fun y71 => ((idx y71 v5).bind fun x79 => ((some (List.set y71 v5.toNat (⟨x79.Site, x79.Top, (⟨x79.Registration.Site, x79.Registration.Installing, x79.Registration.Waiting, (IntKind.i64.wrap ((IntKind.i64.wrap ((IntKind.i64.wrap ((IntKind.i64.wrap ((IntKind.i64.wrap (v1 + 1)) + 1)) + 1)) + 1)) + 1))⟩ : M.Registration), x79.Caches, x79.Disk, x79.Replica, x79.LastUsed, x79.Persistent⟩ : M.Bucket))).bind fun y84 => ((idx y84 v5).bind fun x92 => ((m_laws_markCacheS x92.Caches.Caches (IntKind.i64.wrap ((IntKind.i64.wrap ((IntKind.i64.wrap ((IntKind.i64.wrap ((IntKind.i64.wrap ((IntKind.i64.wrap (v1 + 1)) + 1)) + 1)) + 1)) + 1)) + 1))).bind fun x97 => ((some (List.set y84 v5.toNat (⟨x92.Site, x92.Top, x92.Registration, (⟨x97.1⟩ : M.CacheSet), x92.Disk, x92.Replica, x92.LastUsed, x92.Persistent⟩ : M.Bucket))).bind fun y99 => ((m_laws_markText x97.2).bind fun x107 => ((idx y99 v5).bind fun x109 => ((some (List.set y99 v5.toNat (⟨x109.Site, x109.Top, x109.Registration, x109.Caches, (⟨(⟨x107, x109.Disk.Base.Version, x109.Disk.Base.Stores, x109.Disk.Base.Unique⟩ : M.Database), x109.Disk.Log, x109.Disk.Count⟩ : M.Disk), x109.Replica, x109.LastUsed, x109.Persistent⟩ : M.Bucket))).bind fun y114 => ((idx y114 v5).bind fun x122 => ((some (List.set y114 v5.toNat (⟨x122.Site, x122.Top, x122.Registration, x122.Caches, (⟨(⟨x122.Disk.Base.Name, (IntKind.i64.wrap (x97.2 + 1)), x122.Disk.Base.Stores, x122.Disk.Base.Unique⟩ : M.Database), x122.Disk.Log, x122.Disk.Count⟩ : M.Disk), x122.Replica, x122.LastUsed, x122.Persistent⟩ : M.Bucket))).bind fun y127 => ((idx y127 v5).bind fun x135 => ((m_laws_markStoreS x135.Disk.Base.Stores (IntKind.i64.wrap ((IntKind.i64.wrap (x97.2 + 1)) + 1))).bind fun x140 => ((some (List.set y127 v5.toNat (⟨x135.Site, x135.Top, x135.Registration, x135.Caches, (⟨(⟨x135.Disk.Base.Name, x135.Disk.Base.Version, x140.1, x135.Disk.Base.Unique⟩ : M.Database), x135.Disk.Log, x135.Disk.Count⟩ : M.Disk), x135.Replica, x135.LastUsed, x135.Persistent⟩ : M.Bucket))).bind fun y142 => ((idx y142 v5).bind fun x150 => ((m_laws_markIndexDefS x150.Disk.Base.Unique x140.2).bind fun x155 => ((some (List.set y142 v5.toNat (⟨x150.Site, x150.Top, x150.Registration, x150.Caches, (⟨(⟨x150.Disk.Base.Name, x150.Disk.Base.Version, x150.Disk.Base.Stores, x155.1⟩ : M.Database), x150.Disk.Log, x150.Disk.Count⟩ : M.Disk), x150.Replica, x150.LastUsed, x150.Persistent⟩ : M.Bucket))).bind fun y157 => ((idx y157 v5).bind fun x165 => ((m_laws_markByteS x165.Disk.Log x155.2).bind fun x170 => ((some (List.set y157 v5.toNat (⟨x165.Site, x165.Top, x165.Registration, x165.Caches, (⟨x165.Disk.Base, x170.1, x165.Disk.Count⟩ : M.Disk), x165.Replica, x165.LastUsed, x165.Persistent⟩ : M.Bucket))).bind fun y172 => ((idx y172 v5).bind fun x180 => ((some (List.set y172 v5.toNat (⟨x180.Site, x180.Top, x180.Registration, x180.Caches, (⟨x180.Disk.Base, x180.Disk.Log, x170.2⟩ : M.Disk), x180.Replica, x180.LastUsed, x180.Persistent⟩ : M.Bucket))).bind fun y185 => ((m_laws_markText (IntKind.i64.wrap (x170.2 + 1))).bind fun x193 => ((idx y185 v5).bind fun x195 => ((some (List.set y185 v5.toNat (⟨x195.Site, x195.Top, x195.Registration, x195.Caches, x195.Disk, (⟨(⟨x193, x195.Replica.Base.Items, x195.Replica.Base.Auto⟩ : M.Store), x195.Replica.Seen, x195.Replica.Sync⟩ : M.Replica), x195.LastUsed, x195.Persistent⟩ : M.Bucket))).bind fun y200 => ((idx y200 v5).bind fun x208 => ((m_laws_markItemS x208.Replica.Base.Items (IntKind.i64.wrap ((IntKind.i64.wrap (x170.2 + 1)) + 1))).bind fun x213 => ((some (List.set y200 v5.toNat (⟨x208.Site, x208.Top, x208.Registration, x208.Caches, x208.Disk, (⟨(⟨x208.Replica.Base.Name, x213.1, x208.Replica.Base.Auto⟩ : M.Store), x208.Replica.Seen, x208.Replica.Sync⟩ : M.Replica), x208.LastUsed, x208.Persistent⟩ : M.Bucket))).bind fun y215 => ((idx y215 v5).bind fun x223 => ((some (List.set y215 v5.toNat (⟨x223.Site, x223.Top, x223.Registration, x223.Caches, x223.Disk, (⟨(⟨x223.Replica.Base.Name, x223.Replica.Base.Items, x213.2⟩ : M.Store), x223.Replica.Seen, x223.Replica.Sync⟩ : M.Replica), x223.LastUsed, x223.Persistent⟩ : M.Bucket))).bind fun y228 => ((idx y228 v5).bind fun x236 => ((some (List.set y228 v5.toNat (⟨x236.Site, x236.Top, x236.Registration, x236.Caches, x236.Disk, (⟨x236.Replica.Base, (IntKind.i64.wrap (x213.2 + 1)), x236.Replica.Sync⟩ : M.Replica), x236.LastUsed, x236.Persistent⟩ : M.Bucket))).bind fun y241 => ((idx y241 v5).bind fun x249 => ((some (List.set y241 v5.toNat (⟨x249.Site, x249.Top, x249.Registration, x249.Caches, x249.Disk, (⟨x249.Replica.Base, x249.Replica.Seen, (⟨(⟨(IntKind.i64.wrap ((IntKind.i64.wrap (x213.2 + 1)) + 1)), x249.Replica.Sync.Outbox.Next, x249.Replica.Sync.Outbox.Writes⟩ : M.Outbox), x249.Replica.Sync.Tries, x249.Replica.Sync.WaitUntil⟩ : M.Sync)⟩ : M.Replica), x249.LastUsed, x249.Persistent⟩ : M.Bucket))).bind fun y254 => ((idx y254 v5).bind fun x262 => ((some (List.set y254 v5.toNat (⟨x262.Site, x262.Top, x262.Registration, x262.Caches, x262.Disk, (⟨x262.Replica.Base, x262.Replica.Seen, (⟨(⟨x262.Replica.Sync.Outbox.Device, (IntKind.i64.wrap ((IntKind.i64.wrap ((IntKind.i64.wrap (x213.2 + 1)) + 1)) + 1)), x262.Replica.Sync.Outbox.Writes⟩ : M.Outbox), x262.Replica.Sync.Tries, x262.Replica.Sync.WaitUntil⟩ : M.Sync)⟩ : M.Replica), x262.LastUsed, x262.Persistent⟩ : M.Bucket))).bind fun y267 => ((idx y267 v5).bind fun x275 => ((m_laws_markWriteS x275.Replica.Sync.Outbox.Writes (IntKind.i64.wrap ((IntKind.i64.wrap ((IntKind.i64.wrap ((IntKind.i64.wrap (x213.2 + 1)) + 1)) + 1)) + 1))).bind fun x280 => ((some (List.set y267 v5.toNat (⟨x275.Site, x275.Top, x275.Registration, x275.Caches, x275.Disk, (⟨x275.Replica.Base, x275.Replica.Seen, (⟨(⟨x275.Replica.Sync.Outbox.Device, x275.Replica.Sync.Outbox.Next, x280.1⟩ : M.Outbox), x275.Replica.Sync.Tries, x275.Replica.Sync.WaitUntil⟩ : M.Sync)⟩ : M.Replica), x275.LastUsed, x275.Persistent⟩ : M.Bucket))).bind fun y282 => ((idx y282 v5).bind fun x290 => ((some (List.set y282 v5.toNat (⟨x290.Site, x290.Top, x290.Registration, x290.Caches, x290.Disk, (⟨x290.Replica.Base, x290.Replica.Seen, (⟨x290.Replica.Sync.Outbox, x280.2, x290.Replica.Sync.WaitUntil⟩ : M.Sync)⟩ : M.Replica), x290.LastUsed, x290.Persistent⟩ : M.Bucket))).bind fun y295 => ((idx y295 v5).bind fun x303 => ((some (List.set y295 v5.toNat (⟨x303.Site, x303.Top, x303.Registration, x303.Caches, x303.Disk, (⟨x303.Replica.Base, x303.Replica.Seen, (⟨x303.Replica.Sync.Outbox, x303.Replica.Sync.Tries, (IntKind.i64.wrap (x280.2 + 1))⟩ : M.Sync)⟩ : M.Replica), x303.LastUsed, x303.Persistent⟩ : M.Bucket))).bind fun y308 => ((idx y308 v5).bind fun x316 => ((some (List.set y308 v5.toNat (⟨x316.Site, x316.Top, x316.Registration, x316.Caches, x316.Disk, x316.Replica, (IntKind.i64.wrap ((IntKind.i64.wrap (x280.2 + 1)) + 1)), x316.Persistent⟩ : M.Bucket))).bind fun y321 => ((idx y321 v5).bind fun x329 => ((some (List.set y321 v5.toNat (⟨x329.Site, x329.Top, x329.Registration, x329.Caches, x329.Disk, x329.Replica, x329.LastUsed, ((Int.tmod (IntKind.i64.wrap ((IntKind.i64.wrap ((IntKind.i64.wrap (x280.2 + 1)) + 1)) + 1)) 3) == 0)⟩ : M.Bucket))).bind fun y334 => (m_laws_markBucketS_L1 nL1 (IntKind.i64.wrap ((IntKind.i64.wrap ((IntKind.i64.wrap ((IntKind.i64.wrap (x280.2 + 1)) + 1)) + 1)) + 1)) (IntKind.i64.wrap (v5 + 1)) y334)))))))))))))))))))))))))))))))))))))))))))))))))))))))))))) else (some (r99, v1))
def m_laws_markBucketS (p0 : List M.Bucket) (p1 : Int) : Option (List M.Bucket × Int) :=
  m_laws_markBucketS_L1 fuel p1 0 p0
def m_laws_markStorage (p0 : M.Storage) (p1 : Int) : Option (List M.Bucket × Int) :=
  (m_laws_markBucketS p0.Buckets p1).bind fun x1 => (some (x1.1, x1.2))
def m_laws_markLoadedS_L1  : Nat → Int → Int → List M.Loaded → Option (List M.Loaded × Int)
  | 0, _, _, _ => none
  | nL1 + 1, v1, v5, r99 => if (decide (v5 < (List.length r99 : Int))) = true then ((m_laws_markText v1).bind fun x8 => ((idx r99 v5).bind fun x10 => ((some (List.set r99 v5.toNat (⟨x8, x10.Version⟩ : M.Loaded))).bind fun y15 => ((idx y15 v5).bind fun x23 => ((some (List.set y15 v5.toNat (⟨x23.Path, (IntKind.i64.wrap (v1 + 1))⟩ : M.Loaded))).bind fun y28 => (m_laws_markLoadedS_L1 nL1 (IntKind.i64.wrap ((IntKind.i64.wrap (v1 + 1)) + 1)) (IntKind.i64.wrap (v5 + 1)) y28)))))) else (some (r99, v1))
def m_laws_markLoadedS (p0 : List M.Loaded) (p1 : Int) : Option (List M.Loaded × Int) :=
  m_laws_markLoadedS_L1 fuel p1 0 p0
def m_laws_markInstrS_L1  : Nat → Int → Int → List M.Instr → Option (List M.Instr × Int)
  | 0, _, _, _ => none
  | nL1 + 1, v1, v5, r99 => if (decide (v5 < (List.length r99 : Int))) = true then ((idx r99 v5).bind fun x8 => ((some (List.set r99 v5.toNat (⟨v1, x8.R, x8.N, x8.Text⟩ : M.Instr))).bind fun y13 => ((idx y13 v5).bind fun x21 => ((some (List.set y13 v5.toNat (⟨x21.Kind, (IntKind.i64.wrap (v1 + 1)), x21.N, x21.Text⟩ : M.Instr))).bind fun y26 => ((idx y26 v5).bind fun x34 => ((some (List.set y26 v5.toNat (⟨x34.Kind, x34.R, (IntKind.i64.wrap ((IntKind.i64.wrap (v1 + 1)) + 1)), x34.Text⟩ : M.Instr))).bind fun y39 => ((m_laws_markText (IntKind.i64.wrap ((IntKind.i64.wrap ((IntKind.i64.wrap (v1 + 1)) + 1)) + 1))).bind fun x47 => ((idx y39 v5).bind fun x49 => ((some (List.set y39 v5.toNat (⟨x49.Kind, x49.R, x49.N, x47⟩ : M.Instr))).bind fun y54 => (m_laws_markInstrS_L1 nL1 (IntKind.i64.wrap ((IntKind.i64.wrap ((IntKind.i64.wrap ((IntKind.i64.wrap (v1 + 1)) + 1)) + 1)) + 1)) (IntKind.i64.wrap (v5 + 1)) y54)))))))))) else (some (r99, v1))
def m_laws_markInstrS (p0 : List M.Instr) (p1 : Int) : Option (List M.Instr × Int) :=
  m_laws_markInstrS_L1 fuel p1 0 p0
def m_laws_markIntS_L1  : Nat → Int → Int → List Int → Option (List Int × Int)
  | 0, _, _, _ => none
  | nL1 + 1, v1, v5, r99 => if (decide (v5 < (List.length r99 : Int))) = true then ((idx r99 v5).bind fun x8 => ((some (List.set r99 v5.toNat v1)).bind fun y13 => (m_laws_markIntS_L1 nL1 (IntKind.i64.wrap (v1 + 1)) (IntKind.i64.wrap (v5 + 1)) y13))) else (some (r99, v1))
def m_laws_markIntS (p0 : List Int) (p1 : Int) : Option (List Int × Int) :=
  m_laws_markIntS_L1 fuel p1 0 p0
def m_laws_markPageS_L1  : Nat → Int → Int → List M.Page → Option (List M.Page × Int)
  | 0, _, _, _ => none
  | nL1 + 1, v1, v5, r99 => if (decide (v5 < (List.length r99 : Int))) = true then ((idx r99 v5).bind fun x8 => ((some (List.set r99 v5.toNat (⟨v1, x8.Site, x8.Top, x8.Version, x8.Loaded, x8.Machine⟩ : M.Page))).bind fun y13 => ((m_laws_markText (IntKind.i64.wrap (v1 + 1))).bind fun x21 => ((idx y13 v5).bind fun x23 => ((some (List.set y13 v5.toNat (⟨x23.Id, x21, x23.Top, x23.Version, x23.Loaded, x23.Machine⟩ : M.Page))).bind fun y28 => ((m_laws_markText (IntKind.i64.wrap ((IntKind.i64.wrap (v1 + 1)) + 1))).bind fun x36 => ((idx y28 v5).bind fun x38 => ((some (List.set y28 v5.toNat (⟨x38.Id, x38.Site, x36, x38.Version, x38.Loaded, x38.Machine⟩ : M.Page))).bind fun y43 => ((idx y43 v5).bind fun x51 => ((some (List.set y43 v5.toNat (⟨x51.Id, x51.Site, x51.Top, (IntKind.i64.wrap ((IntKind.i64.wrap ((IntKind.i64.wrap (v1 + 1)) + 1)) + 1)), x51.Loaded, x51.Machine⟩ : M.Page))).bind fun y56 => ((idx y56 v5).bind fun x64 => ((m_laws_markLoadedS x64.Loaded (IntKind.i64.wrap ((IntKind.i64.wrap ((IntKind.i64.wrap ((IntKind.i64.wrap (v1 + 1)) + 1)) + 1)) + 1))).bind fun x69 => ((some (List.set y56 v5.toNat (⟨x64.Id, x64.Site, x64.Top, x64.Version, x69.1, x64.Machine⟩ : M.Page))).bind fun y71 => ((idx y71 v5).bind fun x79 => ((m_laws_markInstrS x79.Machine.Script x69.2).bind fun x84 => ((some (List.set y71 v5.toNat (⟨x79.Id, x79.Site, x79.Top, x79.Version, x79.Loaded, (⟨x84.1, x79.Machine.Pc, x79.Machine.Regs, x79.Machine.Steps, x79.Machine.Done, x79.Machine.Wait⟩ : M.Machine)⟩ : M.Page))).bind fun y86 => ((idx y86 v5).bind fun x94 => ((some (List.set y86 v5.toNat (⟨x94.Id, x94.Site, x94.Top, x94.Version, x94.Loaded, (⟨x94.Machine.Script, x84.2, x94.Machine.Regs, x94.Machine.Steps, x94.Machine.Done, x94.Machine.Wait⟩ : M.Machine)⟩ : M.Page))).bind fun y99 => ((idx y99 v5).bind fun x107 => ((m_laws_markIntS x107.Machine.Regs (IntKind.i64.wrap (x84.2 + 1))).bind fun x112 => ((some (List.set y99 v5.toNat (⟨x107.Id, x107.Site, x107.Top, x107.Version, x107.Loaded, (⟨x107.Machine.Script, x107.Machine.Pc, x112.1, x107.Machine.Steps, x107.Machine.Done, x107.Machine.Wait⟩ : M.Machine)⟩ : M.Page))).bind fun y114 => ((idx y114 v5).bind fun x122 => ((some (List.set y114 v5.toNat (⟨x122.Id, x122.Site, x122.Top, x122.Version, x122.Loaded, (⟨x122.Machine.Script, x122.Machine.Pc, x122.Machine.Regs, x112.2, x122.Machine.Done, x122.Machine.Wait⟩ : M.Machine)⟩ : M.Page))).bind fun y127 => ((idx y127 v5).bind fun x135 => ((some (List.set y127 v5.toNat (⟨x135.Id, x135.Site, x135.Top, x135.Version, x135.Loaded, (⟨x135.Machine.Script, x135.Machine.Pc, x135.Machine.Regs, x135.Machine.Steps, ((Int.tmod (IntKind.i64.wrap (x112.2 + 1)) 3) == 0), x135.Machine.Wait⟩ : M.Machine)⟩ : M.Page))).bind fun y140 => ((idx y140 v5).bind fun x148 => ((some (List.set y140 v5.toNat (⟨x148.Id, x148.Site, x148.Top, x148.Version, x148.Loaded, (⟨x148.Machine.Script, x148.Machine.Pc, x148.Machine.Regs, x148.Machine.Steps, x148.Machine.Done, ((Int.tmod (IntKind.i64.wrap ((IntKind.i64.wrap (x112.2 + 1)) + 1)) 3) == 0)⟩ : M.Machine)⟩ : M.Page))).bind fun y153 => (m_laws_markPageS_L1 nL1 (IntKind.i64.wrap ((IntKind.i64.wrap ((IntKind.i64.wrap (x112.2 + 1)) + 1)) + 1)) (IntKind.i64.wrap (v5 + 1)) y153)))))))))))))))))))))))))))) else (some (r99, v1))
def m_laws_markPageS (p0 : List M.Page) (p1 : Int) : Option (List M.Page × Int) :=
  m_laws_markPageS_L1 fuel p1 0 p0
def m_laws_markLockS_L1  : Nat → Int → Int → List M.Lock → Option (List M.Lock × Int)
  | 0, _, _, _ => none
  | nL1 + 1, v1, v5, r99 => if (decide (v5 < (List.length r99 : Int))) = true then ((m_laws_markText v1).bind fun x8 => ((idx r99 v5).bind fun x10 => ((some (List.set r99 v5.toNat (⟨x8, x10.Page, x10.Shared, x10.Held⟩ : M.Lock))).bind fun y15 => ((idx y15 v5).bind fun x23 => ((some (List.set y15 v5.toNat (⟨x23.Name, (IntKind.i64.wrap (v1 + 1)), x23.Shared, x23.Held⟩ : M.Lock))).bind fun y28 => ((idx y28 v5).bind fun x36 => ((some (List.set y28 v5.toNat (⟨x36.Name, x36.Page, ((Int.tmod (IntKind.i64.wrap ((IntKind.i64.wrap (v1 + 1)) + 1)) 3) == 0), x36.Held⟩ : M.Lock))).bind fun y41 => ((idx y41 v5).bind fun x49 => ((some (List.set y41 v5.toNat (⟨x49.Name, x49.Page, x49.Shared, ((Int.tmod (IntKind.i64.wrap ((IntKind.i64.wrap ((IntKind.i64.wrap (v1 + 1)) + 1)) + 1)) 3) == 0)⟩ : M.Lock))).bind fun y54 => (m_laws_markLockS_L1 nL1 (IntKind.i64.wrap ((IntKind.i64.wrap ((IntKind.i64.wrap ((IntKind.i64.wrap (v1 + 1)) + 1)) + 1)) + 1)) (IntKind.i64.wrap (v5 + 1)) y54)))))))))) else (some (r99, v1))
def m_laws_markLockS (p0 : List M.Lock) (p1 : Int) : Option (List M.Lock × Int) :=
  m_laws_markLockS_L1 fuel p1 0 p0
def m_laws_markLockTable (p0 : M.LockTable) (p1 : Int) : Option (List M.Lock × Int) :=
  (m_laws_markLockS p0.Locks p1).bind fun x1 => (some (x1.1, x1.2))
def m_laws_markMailS_L1  : Nat → Int → Int → List M.Mail → Option (List M.Mail × Int)
  | 0, _, _, _ => none
  | nL1 + 1, v1, v5, r99 => if (decide (v5 < (List.length r99 : Int))) = true then ((idx r99 v5).bind fun x8 => ((some (List.set r99 v5.toNat (⟨v1, x8.From, x8.N⟩ : M.Mail))).bind fun y13 => ((idx y13 v5).bind fun x21 => ((some (List.set y13 v5.toNat (⟨x21.To, (IntKind.i64.wrap (v1 + 1)), x21.N⟩ : M.Mail))).bind fun y26 => ((idx y26 v5).bind fun x34 => ((some (List.set y26 v5.toNat (⟨x34.To, x34.From, (IntKind.i64.wrap ((IntKind.i64.wrap (v1 + 1)) + 1))⟩ : M.Mail))).bind fun y39 => (m_laws_markMailS_L1 nL1 (IntKind.i64.wrap ((IntKind.i64.wrap ((IntKind.i64.wrap (v1 + 1)) + 1)) + 1)) (IntKind.i64.wrap (v5 + 1)) y39))))))) else (some (r99, v1))
def m_laws_markMailS (p0 : List M.Mail) (p1 : Int) : Option (List M.Mail × Int) :=
  m_laws_markMailS_L1 fuel p1 0 p0
def m_laws_markChannel (p0 : M.Channel) (p1 : Int) : Option (List M.Mail × Int) :=
  (m_laws_markMailS p0.Mails p1).bind fun x1 => (some (x1.1, x1.2))
def m_laws_markStringS_L1  : Nat → Int → Int → List ByteArray → Option (List ByteArray × Int)
  | 0, _, _, _ => none
  | nL1 + 1, v1, v5, r99 => if (decide (v5 < (List.length r99 : Int))) = true then ((m_laws_markText v1).bind fun x8 => ((idx r99 v5).bind fun x10 => ((some (List.set r99 v5.toNat x8)).bind fun y15 => (m_laws_markStringS_L1 nL1 (IntKind.i64.wrap (v1 + 1)) (IntKind.i64.wrap (v5 + 1)) y15)))) else (some (r99, v1))
def m_laws_markStringS (p0 : List ByteArray) (p1 : Int) : Option (List ByteArray × Int) :=
  m_laws_markStringS_L1 fuel p1 0 p0
def m_laws_markSiteS_L1  : Nat → Int → Int → List M.Site → Option (List M.Site × Int)
  | 0, _, _, _ => none
  | nL1 + 1, v1, v5, r99 => if (decide (v5 < (List.length r99 : Int))) = true then ((m_laws_markText v1).bind fun x8 => ((idx r99 v5).bind fun x10 => ((some (List.set r99 v5.toNat (⟨x8, x10.Version, x10.Files, x10.Shared⟩ : M.Site))).bind fun y15 => ((idx y15 v5).bind fun x23 => ((some (List.set y15 v5.toNat (⟨x23.Name, (IntKind.i64.wrap (v1 + 1)), x23.Files, x23.Shared⟩ : M.Site))).bind fun y28 => ((idx y28 v5).bind fun x36 => ((m_laws_markStringS x36.Files (IntKind.i64.wrap ((IntKind.i64.wrap (v1 + 1)) + 1))).bind fun x41 => ((some (List.set y28 v5.toNat (⟨x36.Name, x36.Version, x41.1, x36.Shared⟩ : M.Site))).bind fun y43 => ((idx y43 v5).bind fun x51 => ((some (List.set y43 v5.toNat (⟨x51.Name, x51.Version, x51.Files, ((Int.tmod x41.2 3) == 0)⟩ : M.Site))).bind fun y56 => (m_laws_markSiteS_L1 nL1 (IntKind.i64.wrap (x41.2 + 1)) (IntKind.i64.wrap (v5 + 1)) y56))))))))))) else (some (r99, v1))
def m_laws_markSiteS (p0 : List M.Site) (p1 : Int) : Option (List M.Site × Int) :=
  m_laws_markSiteS_L1 fuel p1 0 p0
def m_laws_markAppliedS_L1  : Nat → Int → Int → List M.Applied → Option (List M.Applied × Int)
  | 0, _, _, _ => none
  | nL1 + 1, v1, v5, r99 => if (decide (v5 < (List.length r99 : Int))) = true then ((idx r99 v5).bind fun x8 => ((some (List.set r99 v5.toNat (⟨v1, x8.Seq⟩ : M.Applied))).bind fun y13 => ((idx y13 v5).bind fun x21 => ((some (List.set y13 v5.toNat (⟨x21.Device, (IntKind.i64.wrap (v1 + 1))⟩ : M.Applied))).bind fun y26 => (m_laws_markAppliedS_L1 nL1 (IntKind.i64.wrap ((IntKind.i64.wrap (v1 + 1)) + 1)) (IntKind.i64.wrap (v5 + 1)) y26))))) else (some (r99, v1))
def m_laws_markAppliedS (p0 : List M.Applied) (p1 : Int) : Option (List M.Applied × Int) :=
  m_laws_markAppliedS_L1 fuel p1 0 p0
def m_laws_markServerS_L1  : Nat → Int → Int → List M.Server → Option (List M.Server × Int)
  | 0, _, _, _ => none
  | nL1 + 1, v1, v5, r99 => if (decide (v5 < (List.length r99 : Int))) = true then ((m_laws_markText v1).bind fun x8 => ((idx r99 v5).bind fun x10 => ((some (List.set r99 v5.toNat (⟨(⟨x8, x10.Store.Items, x10.Store.Auto⟩ : M.Store), x10.Applied, x10.Changes⟩ : M.Server))).bind fun y15 => ((idx y15 v5).bind fun x23 => ((m_laws_markItemS x23.Store.Items (IntKind.i64.wrap (v1 + 1))).bind fun x28 => ((some (List.set y15 v5.toNat (⟨(⟨x23.Store.Name, x28.1, x23.Store.Auto⟩ : M.Store), x23.Applied, x23.Changes⟩ : M.Server))).bind fun y30 => ((idx y30 v5).bind fun x38 => ((some (List.set y30 v5.toNat (⟨(⟨x38.Store.Name, x38.Store.Items, x28.2⟩ : M.Store), x38.Applied, x38.Changes⟩ : M.Server))).bind fun y43 => ((idx y43 v5).bind fun x51 => ((m_laws_markAppliedS x51.Applied (IntKind.i64.wrap (x28.2 + 1))).bind fun x56 => ((some (List.set y43 v5.toNat (⟨x51.Store, x56.1, x51.Changes⟩ : M.Server))).bind fun y58 => ((idx y58 v5).bind fun x66 => ((m_laws_markWriteS x66.Changes x56.2).bind fun x71 => ((some (List.set y58 v5.toNat (⟨x66.Store, x66.Applied, x71.1⟩ : M.Server))).bind fun y73 => (m_laws_markServerS_L1 nL1 x71.2 (IntKind.i64.wrap (v5 + 1)) y73))))))))))))))) else (some (r99, v1))
def m_laws_markServerS (p0 : List M.Server) (p1 : Int) : Option (List M.Server × Int) :=
  m_laws_markServerS_L1 fuel p1 0 p0
def m_laws_markWorld (p0 : M.World) (p1 : Int) : Option (List M.Bucket × List M.Page × List M.Lock × List M.Mail × List M.Site × List M.Server × Int) :=
  (m_laws_markStorage p0.Storage p1).bind fun x1 => ((m_laws_markPageS p0.Pages x1.2).bind fun x8 => ((m_laws_markLockTable p0.Locks x8.2).bind fun x15 => ((m_laws_markChannel p0.Channel x15.2).bind fun x22 => ((m_laws_markSiteS p0.Sites x22.2).bind fun x29 => ((m_laws_markServerS p0.Servers x29.2).bind fun x36 => (some (x1.1, x8.1, x15.1, x22.1, x29.1, x36.1, x36.2)))))))
def m_laws_heldByteS_L1 (p0 : List Int) : Nat → Int → Int → Option Int
  | 0, _, _ => none
  | nL1 + 1, v1, v5 => if (decide (v5 < (List.length p0 : Int))) = true then ((idx p0 v5).bind fun x6 => (if (x6 != (IntKind.u8.wrap v1)) = true then (some (-1)) else (m_laws_heldByteS_L1 p0 nL1 (IntKind.i64.wrap (v1 + 1)) (IntKind.i64.wrap (v5 + 1))))) else (some v1)
def m_laws_heldByteS (p0 : List Int) (p1 : Int) : Option Int :=
  m_laws_heldByteS_L1 p0 fuel p1 0
def m_laws_heldCachedS_L1 (p0 : List M.Cached) : Nat → Int → Int → Option Int
  | 0, _, _ => none
  | nL1 + 1, v1, v5 => if (decide (v5 < (List.length p0 : Int))) = true then ((idx p0 v5).bind fun x6 => ((m_laws_markText v1).bind fun x11 => (if (!(x6.Site.toList == x11.toList)) = true then (some (-1)) else ((m_laws_markText (IntKind.i64.wrap (v1 + 1))).bind fun x14 => (if (!(x6.Path.toList == x14.toList)) = true then (some (-1)) else (if (x6.Response.Type_ != (IntKind.i64.wrap ((IntKind.i64.wrap (v1 + 1)) + 1))) = true then (some (-1)) else (if (x6.Response.Status != (IntKind.i64.wrap ((IntKind.i64.wrap ((IntKind.i64.wrap (v1 + 1)) + 1)) + 1))) = true then (some (-1)) else (if (x6.Response.Version != (IntKind.i64.wrap ((IntKind.i64.wrap ((IntKind.i64.wrap ((IntKind.i64.wrap (v1 + 1)) + 1)) + 1)) + 1))) = true then (some (-1)) else ((m_laws_heldByteS x6.Response.Body (IntKind.i64.wrap ((IntKind.i64.wrap ((IntKind.i64.wrap ((IntKind.i64.wrap ((IntKind.i64.wrap (v1 + 1)) + 1)) + 1)) + 1)) + 1))).bind fun x20 => (if (decide (x20 < 0)) = true then (some (-1)) else (if (!(x6.Response.Shares == ((Int.tmod x20 3) == 0))) = true then (some (-1)) else (m_laws_heldCachedS_L1 p0 nL1 (IntKind.i64.wrap (x20 + 1)) (IntKind.i64.wrap (v5 + 1)))))))))))))) else (some v1)
def m_laws_heldCachedS (p0 : List M.Cached) (p1 : Int) : Option Int :=
  m_laws_heldCachedS_L1 p0 fuel p1 0
def m_laws_heldCacheS_L1 (p0 : List M.Cache) : Nat → Int → Int → Option Int
  | 0, _, _ => none
  | nL1 + 1, v1, v5 => if (decide (v5 < (List.length p0 : Int))) = true then ((idx p0 v5).bind fun x6 => (if (x6.Version != v1) = true then (some (-1)) else ((m_laws_heldCachedS x6.Entries (IntKind.i64.wrap (v1 + 1))).bind fun x12 => (if (decide (x12 < 0)) = true then (some (-1)) else (m_laws_heldCacheS_L1 p0 nL1 x12 (IntKind.i64.wrap (v5 + 1))))))) else (some v1)
def m_laws_heldCacheS (p0 : List M.Cache) (p1 : Int) : Option Int :=
  m_laws_heldCacheS_L1 p0 fuel p1 0
def m_laws_heldFieldS_L1 (p0 : List M.Field) : Nat → Int → Int → Option Int
  | 0, _, _ => none
  | nL1 + 1, v1, v5 => if (decide (v5 < (List.length p0 : Int))) = true then ((idx p0 v5).bind fun x6 => ((m_laws_markText v1).bind fun x11 => (if (!(x6.Name.toList == x11.toList)) = true then (some (-1)) else (if (x6.N != (IntKind.i64.wrap (v1 + 1))) = true then (some (-1)) else (m_laws_heldFieldS_L1 p0 nL1 (IntKind.i64.wrap ((IntKind.i64.wrap (v1 + 1)) + 1)) (IntKind.i64.wrap (v5 + 1))))))) else (some v1)
def m_laws_heldFieldS (p0 : List M.Field) (p1 : Int) : Option Int :=
  m_laws_heldFieldS_L1 p0 fuel p1 0
def m_laws_heldItemS_L1 (p0 : List M.Item) : Nat → Int → Int → Option Int
  | 0, _, _ => none
  | nL1 + 1, v1, v5 => if (decide (v5 < (List.length p0 : Int))) = true then ((idx p0 v5).bind fun x6 => (if (x6.Key.Kind != v1) = true then (some (-1)) else (if (x6.Key.N != (IntKind.i64.wrap (v1 + 1))) = true then (some (-1)) else ((m_laws_markText (IntKind.i64.wrap ((IntKind.i64.wrap (v1 + 1)) + 1))).bind fun x13 => (if (!(x6.Key.Text.toList == x13.toList)) = true then (some (-1)) else ((m_laws_heldFieldS x6.Record.Fields (IntKind.i64.wrap ((IntKind.i64.wrap ((IntKind.i64.wrap (v1 + 1)) + 1)) + 1))).bind fun x16 => (if (decide (x16 < 0)) = true then (some (-1)) else (m_laws_heldItemS_L1 p0 nL1 x16 (IntKind.i64.wrap (v5 + 1)))))))))) else (some v1)
def m_laws_heldItemS (p0 : List M.Item) (p1 : Int) : Option Int :=
  m_laws_heldItemS_L1 p0 fuel p1 0
def m_laws_heldStoreS_L1 (p0 : List M.Store) : Nat → Int → Int → Option Int
  | 0, _, _ => none
  | nL1 + 1, v1, v5 => if (decide (v5 < (List.length p0 : Int))) = true then ((idx p0 v5).bind fun x6 => ((m_laws_markText v1).bind fun x11 => (if (!(x6.Name.toList == x11.toList)) = true then (some (-1)) else ((m_laws_heldItemS x6.Items (IntKind.i64.wrap (v1 + 1))).bind fun x14 => (if (decide (x14 < 0)) = true then (some (-1)) else (if (x6.Auto != x14) = true then (some (-1)) else (m_laws_heldStoreS_L1 p0 nL1 (IntKind.i64.wrap (x14 + 1)) (IntKind.i64.wrap (v5 + 1))))))))) else (some v1)
def m_laws_heldStoreS (p0 : List M.Store) (p1 : Int) : Option Int :=
  m_laws_heldStoreS_L1 p0 fuel p1 0
def m_laws_heldIndexDefS_L1 (p0 : List M.IndexDef) : Nat → Int → Int → Option Int
  | 0, _, _ => none
  | nL1 + 1, v1, v5 => if (decide (v5 < (List.length p0 : Int))) = true then ((idx p0 v5).bind fun x6 => ((m_laws_markText v1).bind fun x11 => (if (!(x6.Store.toList == x11.toList)) = true then (some (-1)) else ((m_laws_markText (IntKind.i64.wrap (v1 + 1))).bind fun x14 => (if (!(x6.Field.toList == x14.toList)) = true then (some (-1)) else (m_laws_heldIndexDefS_L1 p0 nL1 (IntKind.i64.wrap ((IntKind.i64.wrap (v1 + 1)) + 1)) (IntKind.i64.wrap (v5 + 1)))))))) else (some v1)
def m_laws_heldIndexDefS (p0 : List M.IndexDef) (p1 : Int) : Option Int :=
  m_laws_heldIndexDefS_L1 p0 fuel p1 0
def m_laws_heldWriteS_L1 (p0 : List M.Write) : Nat → Int → Int → Option Int
  | 0, _, _ => none
  | nL1 + 1, v1, v5 => if (decide (v5 < (List.length p0 : Int))) = true then ((idx p0 v5).bind fun x6 => (if (x6.Device != v1) = true then (some (-1)) else (if (x6.Seq != (IntKind.i64.wrap (v1 + 1))) = true then (some (-1)) else (if (x6.Key.Kind != (IntKind.i64.wrap ((IntKind.i64.wrap (v1 + 1)) + 1))) = true then (some (-1)) else (if (x6.Key.N != (IntKind.i64.wrap ((IntKind.i64.wrap ((IntKind.i64.wrap (v1 + 1)) + 1)) + 1))) = true then (some (-1)) else ((m_laws_markText (IntKind.i64.wrap ((IntKind.i64.wrap ((IntKind.i64.wrap ((IntKind.i64.wrap (v1 + 1)) + 1)) + 1)) + 1))).bind fun x15 => (if (!(x6.Key.Text.toList == x15.toList)) = true then (some (-1)) else ((m_laws_markText (IntKind.i64.wrap ((IntKind.i64.wrap ((IntKind.i64.wrap ((IntKind.i64.wrap ((IntKind.i64.wrap (v1 + 1)) + 1)) + 1)) + 1)) + 1))).bind fun x18 => (if (!(x6.Field.toList == x18.toList)) = true then (some (-1)) else (if (x6.N != (IntKind.i64.wrap ((IntKind.i64.wrap ((IntKind.i64.wrap ((IntKind.i64.wrap ((IntKind.i64.wrap ((IntKind.i64.wrap (v1 + 1)) + 1)) + 1)) + 1)) + 1)) + 1))) = true then (some (-1)) else (m_laws_heldWriteS_L1 p0 nL1 (IntKind.i64.wrap ((IntKind.i64.wrap ((IntKind.i64.wrap ((IntKind.i64.wrap ((IntKind.i64.wrap ((IntKind.i64.wrap ((IntKind.i64.wrap (v1 + 1)) + 1)) + 1)) + 1)) + 1)) + 1)) + 1)) (IntKind.i64.wrap (v5 + 1))))))))))))) else (some v1)
def m_laws_heldWriteS (p0 : List M.Write) (p1 : Int) : Option Int :=
  m_laws_heldWriteS_L1 p0 fuel p1 0
def m_laws_heldBucketS_L1 (p0 : List M.Bucket) : Nat → Int → Int → Option Int
  | 0, _, _ => none
  | nL1 + 1, v1, v5 => if (decide (v5 < (List.length p0 : Int))) = true then ((idx p0 v5).bind fun x6 => ((m_laws_markText v1).bind fun x11 => (if (!(x6.Site.toList == x11.toList)) = true then (some (-1)) else ((m_laws_markText (IntKind.i64.wrap (v1 + 1))).bind fun x14 => (if (!(x6.Top.toList == x14.toList)) = true then (some (-1)) else ((m_laws_markText (IntKind.i64.wrap ((IntKind.i64.wrap (v1 + 1)) + 1))).bind fun x17 => (if (!(x6.Registration.Site.toList == x17.toList)) = true then (some (-1)) else (if (x6.Registration.Installing != (IntKind.i64.wrap ((IntKind.i64.wrap ((IntKind.i64.wrap (v1 + 1)) + 1)) + 1))) = true then (some (-1)) else (if (x6.Registration.Waiting != (IntKind.i64.wrap ((IntKind.i64.wrap ((IntKind.i64.wrap ((IntKind.i64.wrap (v1 + 1)) + 1)) + 1)) + 1))) = true then (some (-1)) else (if (x6.Registration.Active != (IntKind.i64.wrap ((IntKind.i64.wrap ((IntKind.i64.wrap ((IntKind.i64.wrap ((IntKind.i64.wrap (v1 + 1)) + 1)) + 1)) + 1)) + 1))) = true then (some (-1)) else ((m_laws_heldCacheS x6.Caches.Caches (IntKind.i64.wrap ((IntKind.i64.wrap ((IntKind.i64.wrap ((IntKind.i64.wrap ((IntKind.i64.wrap ((IntKind.i64.wrap (v1 + 1)) + 1)) + 1)) + 1)) + 1)) + 1))).bind fun x27 => (if (decide (x27 < 0)) = true then (some (-1)) else ((m_laws_markText x27).bind fun x30 => (if (!(x6.Disk.Base.Name.toList == x30.toList)) = true then (some (-1)) else (if (x6.Disk.Base.Version != (IntKind.i64.wrap (x27 + 1))) = true then (some (-1)) else ((m_laws_heldStoreS x6.Disk.Base.Stores (IntKind.i64.wrap ((IntKind.i64.wrap (x27 + 1)) + 1))).bind fun x34 => (if (decide (x34 < 0)) = true then (some (-1)) else ((m_laws_heldIndexDefS x6.Disk.Base.Unique x34).bind fun x37 => (if (decide (x37 < 0)) = true then (some (-1)) else ((m_laws_heldByteS x6.Disk.Log x37).bind fun x40 => (if (decide (x40 < 0)) = true then (some (-1)) else (if (x6.Disk.Count != x40) = true then (some (-1)) else ((m_laws_markText (IntKind.i64.wrap (x40 + 1))).bind fun x48 => (if (!(x6.Replica.Base.Name.toList == x48.toList)) = true then (some (-1)) else ((m_laws_heldItemS x6.Replica.Base.Items (IntKind.i64.wrap ((IntKind.i64.wrap (x40 + 1)) + 1))).bind fun x51 => (if (decide (x51 < 0)) = true then (some (-1)) else (if (x6.Replica.Base.Auto != x51) = true then (some (-1)) else (if (x6.Replica.Seen != (IntKind.i64.wrap (x51 + 1))) = true then (some (-1)) else (if (x6.Replica.Sync.Outbox.Device != (IntKind.i64.wrap ((IntKind.i64.wrap (x51 + 1)) + 1))) = true then (some (-1)) else (if (x6.Replica.Sync.Outbox.Next != (IntKind.i64.wrap ((IntKind.i64.wrap ((IntKind.i64.wrap (x51 + 1)) + 1)) + 1))) = true then (some (-1)) else ((m_laws_heldWriteS x6.Replica.Sync.Outbox.Writes (IntKind.i64.wrap ((IntKind.i64.wrap ((IntKind.i64.wrap ((IntKind.i64.wrap (x51 + 1)) + 1)) + 1)) + 1))).bind fun x62 => (if (decide (x62 < 0)) = true then (some (-1)) else (if (x6.Replica.Sync.Tries != x62) = true then (some (-1)) else (if (x6.Replica.Sync.WaitUntil != (IntKind.i64.wrap (x62 + 1))) = true then (some (-1)) else (if (x6.LastUsed != (IntKind.i64.wrap ((IntKind.i64.wrap (x62 + 1)) + 1))) = true then (some (-1)) else (if (!(x6.Persistent == ((Int.tmod (IntKind.i64.wrap ((IntKind.i64.wrap ((IntKind.i64.wrap (x62 + 1)) + 1)) + 1)) 3) == 0))) = true then (some (-1)) else (m_laws_heldBucketS_L1 p0 nL1 (IntKind.i64.wrap ((IntKind.i64.wrap ((IntKind.i64.wrap ((IntKind.i64.wrap (x62 + 1)) + 1)) + 1)) + 1)) (IntKind.i64.wrap (v5 + 1))))))))))))))))))))))))))))))))))))))) else (some v1)
def m_laws_heldBucketS (p0 : List M.Bucket) (p1 : Int) : Option Int :=
  m_laws_heldBucketS_L1 p0 fuel p1 0
def m_laws_heldStorage (p0 : M.Storage) (p1 : Int) : Option Int :=
  (m_laws_heldBucketS p0.Buckets p1).bind fun x1 => (if (decide (x1 < 0)) = true then (some (-1)) else (some x1))
def m_laws_heldLoadedS_L1 (p0 : List M.Loaded) : Nat → Int → Int → Option Int
  | 0, _, _ => none
  | nL1 + 1, v1, v5 => if (decide (v5 < (List.length p0 : Int))) = true then ((idx p0 v5).bind fun x6 => ((m_laws_markText v1).bind fun x11 => (if (!(x6.Path.toList == x11.toList)) = true then (some (-1)) else (if (x6.Version != (IntKind.i64.wrap (v1 + 1))) = true then (some (-1)) else (m_laws_heldLoadedS_L1 p0 nL1 (IntKind.i64.wrap ((IntKind.i64.wrap (v1 + 1)) + 1)) (IntKind.i64.wrap (v5 + 1))))))) else (some v1)
def m_laws_heldLoadedS (p0 : List M.Loaded) (p1 : Int) : Option Int :=
  m_laws_heldLoadedS_L1 p0 fuel p1 0
def m_laws_heldInstrS_L1 (p0 : List M.Instr) : Nat → Int → Int → Option Int
  | 0, _, _ => none
  | nL1 + 1, v1, v5 => if (decide (v5 < (List.length p0 : Int))) = true then ((idx p0 v5).bind fun x6 => (if (x6.Kind != v1) = true then (some (-1)) else (if (x6.R != (IntKind.i64.wrap (v1 + 1))) = true then (some (-1)) else (if (x6.N != (IntKind.i64.wrap ((IntKind.i64.wrap (v1 + 1)) + 1))) = true then (some (-1)) else ((m_laws_markText (IntKind.i64.wrap ((IntKind.i64.wrap ((IntKind.i64.wrap (v1 + 1)) + 1)) + 1))).bind fun x14 => (if (!(x6.Text.toList == x14.toList)) = true then (some (-1)) else (m_laws_heldInstrS_L1 p0 nL1 (IntKind.i64.wrap ((IntKind.i64.wrap ((IntKind.i64.wrap ((IntKind.i64.wrap (v1 + 1)) + 1)) + 1)) + 1)) (IntKind.i64.wrap (v5 + 1))))))))) else (some v1)
def m_laws_heldInstrS (p0 : List M.Instr) (p1 : Int) : Option Int :=
  m_laws_heldInstrS_L1 p0 fuel p1 0
def m_laws_heldIntS_L1 (p0 : List Int) : Nat → Int → Int → Option Int
  | 0, _, _ => none
  | nL1 + 1, v1, v5 => if (decide (v5 < (List.length p0 : Int))) = true then ((idx p0 v5).bind fun x6 => (if (x6 != v1) = true then (some (-1)) else (m_laws_heldIntS_L1 p0 nL1 (IntKind.i64.wrap (v1 + 1)) (IntKind.i64.wrap (v5 + 1))))) else (some v1)
def m_laws_heldIntS (p0 : List Int) (p1 : Int) : Option Int :=
  m_laws_heldIntS_L1 p0 fuel p1 0
def m_laws_heldPageS_L1 (p0 : List M.Page) : Nat → Int → Int → Option Int
  | 0, _, _ => none
  | nL1 + 1, v1, v5 => if (decide (v5 < (List.length p0 : Int))) = true then ((idx p0 v5).bind fun x6 => (if (x6.Id != v1) = true then (some (-1)) else ((m_laws_markText (IntKind.i64.wrap (v1 + 1))).bind fun x12 => (if (!(x6.Site.toList == x12.toList)) = true then (some (-1)) else ((m_laws_markText (IntKind.i64.wrap ((IntKind.i64.wrap (v1 + 1)) + 1))).bind fun x15 => (if (!(x6.Top.toList == x15.toList)) = true then (some (-1)) else (if (x6.Version != (IntKind.i64.wrap ((IntKind.i64.wrap ((IntKind.i64.wrap (v1 + 1)) + 1)) + 1))) = true then (some (-1)) else ((m_laws_heldLoadedS x6.Loaded (IntKind.i64.wrap ((IntKind.i64.wrap ((IntKind.i64.wrap ((IntKind.i64.wrap (v1 + 1)) + 1)) + 1)) + 1))).bind fun x19 => (if (decide (x19 < 0)) = true then (some (-1)) else ((m_laws_heldInstrS x6.Machine.Script x19).bind fun x22 => (if (decide (x22 < 0)) = true then (some (-1)) else (if (x6.Machine.Pc != x22) = true then (some (-1)) else ((m_laws_heldIntS x6.Machine.Regs (IntKind.i64.wrap (x22 + 1))).bind fun x30 => (if (decide (x30 < 0)) = true then (some (-1)) else (if (x6.Machine.Steps != x30) = true then (some (-1)) else (if (!(x6.Machine.Done == ((Int.tmod (IntKind.i64.wrap (x30 + 1)) 3) == 0))) = true then (some (-1)) else (if (!(x6.Machine.Wait == ((Int.tmod (IntKind.i64.wrap ((IntKind.i64.wrap (x30 + 1)) + 1)) 3) == 0))) = true then (some (-1)) else (m_laws_heldPageS_L1 p0 nL1 (IntKind.i64.wrap ((IntKind.i64.wrap ((IntKind.i64.wrap (x30 + 1)) + 1)) + 1)) (IntKind.i64.wrap (v5 + 1)))))))))))))))))))) else (some v1)
def m_laws_heldPageS (p0 : List M.Page) (p1 : Int) : Option Int :=
  m_laws_heldPageS_L1 p0 fuel p1 0
def m_laws_heldLockS_L1 (p0 : List M.Lock) : Nat → Int → Int → Option Int
  | 0, _, _ => none
  | nL1 + 1, v1, v5 => if (decide (v5 < (List.length p0 : Int))) = true then ((idx p0 v5).bind fun x6 => ((m_laws_markText v1).bind fun x11 => (if (!(x6.Name.toList == x11.toList)) = true then (some (-1)) else (if (x6.Page != (IntKind.i64.wrap (v1 + 1))) = true then (some (-1)) else (if (!(x6.Shared == ((Int.tmod (IntKind.i64.wrap ((IntKind.i64.wrap (v1 + 1)) + 1)) 3) == 0))) = true then (some (-1)) else (if (!(x6.Held == ((Int.tmod (IntKind.i64.wrap ((IntKind.i64.wrap ((IntKind.i64.wrap (v1 + 1)) + 1)) + 1)) 3) == 0))) = true then (some (-1)) else (m_laws_heldLockS_L1 p0 nL1 (IntKind.i64.wrap ((IntKind.i64.wrap ((IntKind.i64.wrap ((IntKind.i64.wrap (v1 + 1)) + 1)) + 1)) + 1)) (IntKind.i64.wrap (v5 + 1))))))))) else (some v1)
def m_laws_heldLockS (p0 : List M.Lock) (p1 : Int) : Option Int :=
  m_laws_heldLockS_L1 p0 fuel p1 0
def m_laws_heldLockTable (p0 : M.LockTable) (p1 : Int) : Option Int :=
  (m_laws_heldLockS p0.Locks p1).bind fun x1 => (if (decide (x1 < 0)) = true then (some (-1)) else (some x1))
def m_laws_heldMailS_L1 (p0 : List M.Mail) : Nat → Int → Int → Option Int
  | 0, _, _ => none
  | nL1 + 1, v1, v5 => if (decide (v5 < (List.length p0 : Int))) = true then ((idx p0 v5).bind fun x6 => (if (x6.To != v1) = true then (some (-1)) else (if (x6.From != (IntKind.i64.wrap (v1 + 1))) = true then (some (-1)) else (if (x6.N != (IntKind.i64.wrap ((IntKind.i64.wrap (v1 + 1)) + 1))) = true then (some (-1)) else (m_laws_heldMailS_L1 p0 nL1 (IntKind.i64.wrap ((IntKind.i64.wrap ((IntKind.i64.wrap (v1 + 1)) + 1)) + 1)) (IntKind.i64.wrap (v5 + 1))))))) else (some v1)
def m_laws_heldMailS (p0 : List M.Mail) (p1 : Int) : Option Int :=
  m_laws_heldMailS_L1 p0 fuel p1 0
def m_laws_heldChannel (p0 : M.Channel) (p1 : Int) : Option Int :=
  (m_laws_heldMailS p0.Mails p1).bind fun x1 => (if (decide (x1 < 0)) = true then (some (-1)) else (some x1))
def m_laws_heldStringS_L1 (p0 : List ByteArray) : Nat → Int → Int → Option Int
  | 0, _, _ => none
  | nL1 + 1, v1, v5 => if (decide (v5 < (List.length p0 : Int))) = true then ((idx p0 v5).bind fun x6 => ((m_laws_markText v1).bind fun x11 => (if (!(x6.toList == x11.toList)) = true then (some (-1)) else (m_laws_heldStringS_L1 p0 nL1 (IntKind.i64.wrap (v1 + 1)) (IntKind.i64.wrap (v5 + 1)))))) else (some v1)
def m_laws_heldStringS (p0 : List ByteArray) (p1 : Int) : Option Int :=
  m_laws_heldStringS_L1 p0 fuel p1 0
def m_laws_heldSiteS_L1 (p0 : List M.Site) : Nat → Int → Int → Option Int
  | 0, _, _ => none
  | nL1 + 1, v1, v5 => if (decide (v5 < (List.length p0 : Int))) = true then ((idx p0 v5).bind fun x6 => ((m_laws_markText v1).bind fun x11 => (if (!(x6.Name.toList == x11.toList)) = true then (some (-1)) else (if (x6.Version != (IntKind.i64.wrap (v1 + 1))) = true then (some (-1)) else ((m_laws_heldStringS x6.Files (IntKind.i64.wrap ((IntKind.i64.wrap (v1 + 1)) + 1))).bind fun x15 => (if (decide (x15 < 0)) = true then (some (-1)) else (if (!(x6.Shared == ((Int.tmod x15 3) == 0))) = true then (some (-1)) else (m_laws_heldSiteS_L1 p0 nL1 (IntKind.i64.wrap (x15 + 1)) (IntKind.i64.wrap (v5 + 1)))))))))) else (some v1)
def m_laws_heldSiteS (p0 : List M.Site) (p1 : Int) : Option Int :=
  m_laws_heldSiteS_L1 p0 fuel p1 0
def m_laws_heldAppliedS_L1 (p0 : List M.Applied) : Nat → Int → Int → Option Int
  | 0, _, _ => none
  | nL1 + 1, v1, v5 => if (decide (v5 < (List.length p0 : Int))) = true then ((idx p0 v5).bind fun x6 => (if (x6.Device != v1) = true then (some (-1)) else (if (x6.Seq != (IntKind.i64.wrap (v1 + 1))) = true then (some (-1)) else (m_laws_heldAppliedS_L1 p0 nL1 (IntKind.i64.wrap ((IntKind.i64.wrap (v1 + 1)) + 1)) (IntKind.i64.wrap (v5 + 1)))))) else (some v1)
def m_laws_heldAppliedS (p0 : List M.Applied) (p1 : Int) : Option Int :=
  m_laws_heldAppliedS_L1 p0 fuel p1 0
def m_laws_heldServerS_L1 (p0 : List M.Server) : Nat → Int → Int → Option Int
  | 0, _, _ => none
  | nL1 + 1, v1, v5 => if (decide (v5 < (List.length p0 : Int))) = true then ((idx p0 v5).bind fun x6 => ((m_laws_markText v1).bind fun x11 => (if (!(x6.Store.Name.toList == x11.toList)) = true then (some (-1)) else ((m_laws_heldItemS x6.Store.Items (IntKind.i64.wrap (v1 + 1))).bind fun x14 => (if (decide (x14 < 0)) = true then (some (-1)) else (if (x6.Store.Auto != x14) = true then (some (-1)) else ((m_laws_heldAppliedS x6.Applied (IntKind.i64.wrap (x14 + 1))).bind fun x18 => (if (decide (x18 < 0)) = true then (some (-1)) else ((m_laws_heldWriteS x6.Changes x18).bind fun x21 => (if (decide (x21 < 0)) = true then (some (-1)) else (m_laws_heldServerS_L1 p0 nL1 x21 (IntKind.i64.wrap (v5 + 1))))))))))))) else (some v1)
def m_laws_heldServerS (p0 : List M.Server) (p1 : Int) : Option Int :=
  m_laws_heldServerS_L1 p0 fuel p1 0
def m_laws_heldWorld (p0 : M.World) (p1 : Int) : Option Int :=
  (m_laws_heldStorage p0.Storage p1).bind fun x1 => (if (decide (x1 < 0)) = true then (some (-1)) else ((m_laws_heldPageS p0.Pages x1).bind fun x4 => (if (decide (x4 < 0)) = true then (some (-1)) else ((m_laws_heldLockTable p0.Locks x4).bind fun x7 => (if (decide (x7 < 0)) = true then (some (-1)) else ((m_laws_heldChannel p0.Channel x7).bind fun x10 => (if (decide (x10 < 0)) = true then (some (-1)) else ((m_laws_heldSiteS p0.Sites x10).bind fun x13 => (if (decide (x13 < 0)) = true then (some (-1)) else ((m_laws_heldServerS p0.Servers x13).bind fun x16 => (if (decide (x16 < 0)) = true then (some (-1)) else (some x16))))))))))))
def m_laws_FnExactNewWorld (p0 : Int) : Option Bool :=
  (m_spec_NewWorld p0).bind fun x1 => ((m_impl_NewWorld p0).bind fun x3 => ((m_laws_eqWorld x3 x1).bind fun x5 => (if (!x5) = true then (some false) else ((m_laws_markWorld x3 1).bind fun x8 => ((m_laws_heldWorld (⟨x3.Now, x3.Online, x3.Device, (⟨x8.1⟩ : M.Storage), x8.2.1, x3.NextPage, (⟨x8.2.2.1⟩ : M.LockTable), (⟨x8.2.2.2.1⟩ : M.Channel), x8.2.2.2.2.1, x8.2.2.2.2.2.1⟩ : M.World) 1).bind fun x29 => (if (decide (x29 < 0)) = true then (some false) else (if (x29 != x8.2.2.2.2.2.2) = true then (some false) else ((m_impl_NewWorld p0).bind fun x33 => ((m_laws_eqWorld x33 x1).bind fun x35 => (if (!x35) = true then (some false) else ((m_laws_heldWorld (⟨x3.Now, x3.Online, x3.Device, (⟨x8.1⟩ : M.Storage), x8.2.1, x3.NextPage, (⟨x8.2.2.1⟩ : M.LockTable), (⟨x8.2.2.2.1⟩ : M.Channel), x8.2.2.2.2.1, x8.2.2.2.2.2.1⟩ : M.World) 1).bind fun x38 => (if (decide (x38 < 0)) = true then (some false) else (if (x38 != x8.2.2.2.2.2.2) = true then (some false) else (some true))))))))))))))
end Go.Proofs.YtcpahpbjjnekkaaGreat.gen
