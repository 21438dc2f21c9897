/-
  Helper text. No conditions.
-/
import Derived.Test.YtecmnmaaopkdfaaGreatShS
namespace Go.Proofs.YtecmnmaaopkdfaaGreat.gen
open Go Go.Sh
set_option linter.unusedVariables false
set_option linter.unusedSimpArgs false
structure M.Registration where
  Site : ByteArray
  Installing : Int
  Waiting : Int
  Active : Int
def M.Registration.en (x : M.Registration) : List D := [.str x.Site, .int .i64 x.Installing, .int .i64 x.Waiting, .int .i64 x.Active]
theorem M.Registration.en.fl (l : List M.Registration) : (List.map M.Registration.en l).all (fun y => y.all D.flat) = true := aDq (fun _ => rfl) l
structure M.Response where
  Type_ : Int
  Status : Int
  Version : Int
  Body : List Int
  Shares : Bool
def M.Response.en (x : M.Response) : List D := [.int .i64 x.Type_, .int .i64 x.Status, .int .i64 x.Version, .sl (List.map enB x.Body), .bool x.Shares]
structure M.Cached where
  Site : ByteArray
  Path : ByteArray
  Response : M.Response
def M.Cached.en (x : M.Cached) : List D := [.str x.Site, .str x.Path, .int .i64 x.Response.Type_, .int .i64 x.Response.Status, .int .i64 x.Response.Version, .sl (List.map enB x.Response.Body), .bool x.Response.Shares]
structure M.Cache where
  Version : Int
  Entries : List M.Cached
def M.Cache.en (x : M.Cache) : List D := [.int .i64 x.Version, .sl (List.map M.Cached.en x.Entries)]
structure M.aT where
  Caches : List M.Cache
def M.aT.en (x : M.aT) : List D := [.sl (List.map M.Cache.en x.Caches)]
structure M.Key where
  Kind : Int
  N : Int
  Text : ByteArray
def M.Key.en (x : M.Key) : List D := [.int .i64 x.Kind, .int .i64 x.N, .str x.Text]
theorem M.Key.en.fl (l : List M.Key) : (List.map M.Key.en l).all (fun y => y.all D.flat) = true := aDq (fun _ => rfl) l
structure M.Field where
  Name : ByteArray
  N : Int
def M.Field.en (x : M.Field) : List D := [.str x.Name, .int .i64 x.N]
theorem M.Field.en.fl (l : List M.Field) : (List.map M.Field.en l).all (fun y => y.all D.flat) = true := aDq (fun _ => rfl) l
structure M.aU where
  Fields : List M.Field
def M.aU.en (x : M.aU) : List D := [.sl (List.map M.Field.en x.Fields)]
structure M.Item where
  Key : M.Key
  aU : M.aU
def M.Item.en (x : M.Item) : List D := [.int .i64 x.Key.Kind, .int .i64 x.Key.N, .str x.Key.Text, .sl (List.map M.Field.en x.aU.Fields)]
structure M.aG where
  Name : ByteArray
  Items : List M.Item
  Auto : Int
def M.aG.en (x : M.aG) : List D := [.str x.Name, .sl (List.map M.Item.en x.Items), .int .i64 x.Auto]
structure M.aA where
  aG : ByteArray
  Field : ByteArray
def M.aA.en (x : M.aA) : List D := [.str x.aG, .str x.Field]
theorem M.aA.en.fl (l : List M.aA) : (List.map M.aA.en l).all (fun y => y.all D.flat) = true := aDq (fun _ => rfl) l
structure M.Database where
  Name : ByteArray
  Version : Int
  Stores : List M.aG
  Unique : List M.aA
def M.Database.en (x : M.Database) : List D := [.str x.Name, .int .i64 x.Version, .sl (List.map M.aG.en x.Stores), .sl (List.map M.aA.en x.Unique)]
structure M.bG where
  Base : M.Database
  Log : List Int
  Count : Int
def M.bG.en (x : M.bG) : List D := [.str x.Base.Name, .int .i64 x.Base.Version, .sl (List.map M.aG.en x.Base.Stores), .sl (List.map M.aA.en x.Base.Unique), .sl (List.map enB x.Log), .int .i64 x.Count]
structure M.aW where
  Device : Int
  Seq : Int
  Key : M.Key
  Field : ByteArray
  N : Int
def M.aW.en (x : M.aW) : List D := [.int .i64 x.Device, .int .i64 x.Seq, .int .i64 x.Key.Kind, .int .i64 x.Key.N, .str x.Key.Text, .str x.Field, .int .i64 x.N]
theorem M.aW.en.fl (l : List M.aW) : (List.map M.aW.en l).all (fun y => y.all D.flat) = true := aDq (fun _ => rfl) l
structure M.aV where
  Device : Int
  Next : Int
  Writes : List M.aW
def M.aV.en (x : M.aV) : List D := [.int .i64 x.Device, .int .i64 x.Next, .sl (List.map M.aW.en x.Writes)]
structure M.Sync where
  aV : M.aV
  Tries : Int
  WaitUntil : Int
def M.Sync.en (x : M.Sync) : List D := [.int .i64 x.aV.Device, .int .i64 x.aV.Next, .sl (List.map M.aW.en x.aV.Writes), .int .i64 x.Tries, .int .i64 x.WaitUntil]
structure M.aC where
  Base : M.aG
  Seen : Int
  Sync : M.Sync
def M.aC.en (x : M.aC) : List D := [.str x.Base.Name, .sl (List.map M.Item.en x.Base.Items), .int .i64 x.Base.Auto, .int .i64 x.Seen, .int .i64 x.Sync.aV.Device, .int .i64 x.Sync.aV.Next, .sl (List.map M.aW.en x.Sync.aV.Writes), .int .i64 x.Sync.Tries, .int .i64 x.Sync.WaitUntil]
structure M.aE where
  Site : ByteArray
  Top : ByteArray
  Registration : M.Registration
  Caches : M.aT
  bG : M.bG
  aC : M.aC
  LastUsed : Int
  Persistent : Bool
def M.aE.en (x : M.aE) : List D := [.str x.Site, .str x.Top, .str x.Registration.Site, .int .i64 x.Registration.Installing, .int .i64 x.Registration.Waiting, .int .i64 x.Registration.Active, .sl (List.map M.Cache.en x.Caches.Caches), .str x.bG.Base.Name, .int .i64 x.bG.Base.Version, .sl (List.map M.aG.en x.bG.Base.Stores), .sl (List.map M.aA.en x.bG.Base.Unique), .sl (List.map enB x.bG.Log), .int .i64 x.bG.Count, .str x.aC.Base.Name, .sl (List.map M.Item.en x.aC.Base.Items), .int .i64 x.aC.Base.Auto, .int .i64 x.aC.Seen, .int .i64 x.aC.Sync.aV.Device, .int .i64 x.aC.Sync.aV.Next, .sl (List.map M.aW.en x.aC.Sync.aV.Writes), .int .i64 x.aC.Sync.Tries, .int .i64 x.aC.Sync.WaitUntil, .int .i64 x.LastUsed, .bool x.Persistent]
structure M.aK where
  Buckets : List M.aE
def M.aK.en (x : M.aK) : List D := [.sl (List.map M.aE.en x.Buckets)]
structure M.aM where
  Path : ByteArray
  Version : Int
def M.aM.en (x : M.aM) : List D := [.str x.Path, .int .i64 x.Version]
theorem M.aM.en.fl (l : List M.aM) : (List.map M.aM.en l).all (fun y => y.all D.flat) = true := aDq (fun _ => rfl) l
structure M.Instr where
  Kind : Int
  R : Int
  N : Int
  Text : ByteArray
def M.Instr.en (x : M.Instr) : List D := [.int .i64 x.Kind, .int .i64 x.R, .int .i64 x.N, .str x.Text]
theorem M.Instr.en.fl (l : List M.Instr) : (List.map M.Instr.en l).all (fun y => y.all D.flat) = true := aDq (fun _ => rfl) l
structure M.Machine where
  Script : List M.Instr
  Pc : Int
  Regs : List Int
  Steps : Int
  Done : Bool
  Wait : Bool
def M.Machine.en (x : M.Machine) : List D := [.sl (List.map M.Instr.en x.Script), .int .i64 x.Pc, .sl (List.map enI x.Regs), .int .i64 x.Steps, .bool x.Done, .bool x.Wait]
structure M.bF where
  Id : Int
  Site : ByteArray
  Top : ByteArray
  Version : Int
  aM : List M.aM
  Machine : M.Machine
def M.bF.en (x : M.bF) : List D := [.int .i64 x.Id, .str x.Site, .str x.Top, .int .i64 x.Version, .sl (List.map M.aM.en x.aM), .sl (List.map M.Instr.en x.Machine.Script), .int .i64 x.Machine.Pc, .sl (List.map enI x.Machine.Regs), .int .i64 x.Machine.Steps, .bool x.Machine.Done, .bool x.Machine.Wait]
structure M.bZ where
  Name : ByteArray
  bF : Int
  Shared : Bool
  Held : Bool
def M.bZ.en (x : M.bZ) : List D := [.str x.Name, .int .i64 x.bF, .bool x.Shared, .bool x.Held]
theorem M.bZ.en.fl (l : List M.bZ) : (List.map M.bZ.en l).all (fun y => y.all D.flat) = true := aDq (fun _ => rfl) l
structure M.aQ where
  Locks : List M.bZ
def M.aQ.en (x : M.aQ) : List D := [.sl (List.map M.bZ.en x.Locks)]
structure M.cN where
  To : Int
  From : Int
  N : Int
def M.cN.en (x : M.cN) : List D := [.int .i64 x.To, .int .i64 x.From, .int .i64 x.N]
theorem M.cN.en.fl (l : List M.cN) : (List.map M.cN.en l).all (fun y => y.all D.flat) = true := aDq (fun _ => rfl) l
structure M.Channel where
  Mails : List M.cN
def M.Channel.en (x : M.Channel) : List D := [.sl (List.map M.cN.en x.Mails)]
structure M.Site where
  Name : ByteArray
  Version : Int
  Files : List ByteArray
  Shared : Bool
def M.Site.en (x : M.Site) : List D := [.str x.Name, .int .i64 x.Version, .sl (List.map enS x.Files), .bool x.Shared]
structure M.aH where
  Device : Int
  Seq : Int
def M.aH.en (x : M.aH) : List D := [.int .i64 x.Device, .int .i64 x.Seq]
theorem M.aH.en.fl (l : List M.aH) : (List.map M.aH.en l).all (fun y => y.all D.flat) = true := aDq (fun _ => rfl) l
structure M.Server where
  aG : M.aG
  aH : List M.aH
  Changes : List M.aW
def M.Server.en (x : M.Server) : List D := [.str x.aG.Name, .sl (List.map M.Item.en x.aG.Items), .int .i64 x.aG.Auto, .sl (List.map M.aH.en x.aH), .sl (List.map M.aW.en x.Changes)]
structure M.World where
  Now : Int
  Online : Bool
  Device : Int
  aK : M.aK
  Pages : List M.bF
  NextPage : Int
  Locks : M.aQ
  Channel : M.Channel
  Sites : List M.Site
  Servers : List M.Server
def M.World.en (x : M.World) : List D := [.int .i64 x.Now, .bool x.Online, .int .i64 x.Device, .sl (List.map M.aE.en x.aK.Buckets), .sl (List.map M.bF.en x.Pages), .int .i64 x.NextPage, .sl (List.map M.bZ.en x.Locks.Locks), .sl (List.map M.cN.en x.Channel.Mails), .sl (List.map M.Site.en x.Sites), .sl (List.map M.Server.en x.Servers)]
def jP (p0 : M.Registration) (p1 : Int) : Option Int :=
  if (decide ((IntKind.i64.wrap (p1 - (p0.Site.size : Int))) < 0)) = true then (some (-1)) else (some (IntKind.i64.wrap (p1 - (p0.Site.size : Int))))
def tR (p0 : List Int) (p1 : Int) : Option Int :=
  if (decide ((IntKind.i64.wrap (p1 - (List.length p0 : Int))) < 0)) = true then (some (-1)) else (some (IntKind.i64.wrap (p1 - (List.length p0 : Int))))
def qO (p0 : M.Response) (p1 : Int) : Option Int :=
  (tR p0.Body p1).bind fun x1 => (if (decide (x1 < 0)) = true then (some (-1)) else (some x1))
def uN (p0 : M.Cached) (p1 : Int) : Option Int :=
  if (decide ((IntKind.i64.wrap (p1 - (p0.Site.size : Int))) < 0)) = true then (some (-1)) else (if (decide ((IntKind.i64.wrap ((IntKind.i64.wrap (p1 - (p0.Site.size : Int))) - (p0.Path.size : Int))) < 0)) = true then (some (-1)) else ((qO p0.Response (IntKind.i64.wrap ((IntKind.i64.wrap (p1 - (p0.Site.size : Int))) - (p0.Path.size : Int)))).bind fun x3 => (if (decide (x3 < 0)) = true then (some (-1)) else (some x3))))
def qZ (p0 : List M.Cached) : Nat → Int → Int → Option Int
  | 0, _, _ => none
  | nL1 + 1, v1, v5 => if (decide (v5 < (List.length p0 : Int))) = true then ((idx p0 v5).bind fun x7 => ((uN x7 v1).bind fun x12 => (if (decide (x12 < 0)) = true then (some (-1)) else (qZ p0 nL1 x12 (IntKind.i64.wrap (v5 + 1)))))) else (some v1)
def rM (p0 : List M.Cached) (p1 : Int) : Option Int :=
  if (decide ((IntKind.i64.wrap (p1 - (List.length p0 : Int))) < 0)) = true then (some (-1)) else (qZ p0 fuel (IntKind.i64.wrap (p1 - (List.length p0 : Int))) 0)
def yG (p0 : M.Cache) (p1 : Int) : Option Int :=
  (rM p0.Entries p1).bind fun x1 => (if (decide (x1 < 0)) = true then (some (-1)) else (some x1))
def uH (p0 : List M.Cache) : Nat → Int → Int → Option Int
  | 0, _, _ => none
  | nL1 + 1, v1, v5 => if (decide (v5 < (List.length p0 : Int))) = true then ((idx p0 v5).bind fun x7 => ((yG x7 v1).bind fun x12 => (if (decide (x12 < 0)) = true then (some (-1)) else (uH p0 nL1 x12 (IntKind.i64.wrap (v5 + 1)))))) else (some v1)
def uZ (p0 : List M.Cache) (p1 : Int) : Option Int :=
  if (decide ((IntKind.i64.wrap (p1 - (List.length p0 : Int))) < 0)) = true then (some (-1)) else (uH p0 fuel (IntKind.i64.wrap (p1 - (List.length p0 : Int))) 0)
def oV (p0 : M.aT) (p1 : Int) : Option Int :=
  (uZ p0.Caches p1).bind fun x1 => (if (decide (x1 < 0)) = true then (some (-1)) else (some x1))
def zE (p0 : M.Key) (p1 : Int) : Option Int :=
  if (decide ((IntKind.i64.wrap (p1 - (p0.Text.size : Int))) < 0)) = true then (some (-1)) else (some (IntKind.i64.wrap (p1 - (p0.Text.size : Int))))
def xB (p0 : M.Field) (p1 : Int) : Option Int :=
  if (decide ((IntKind.i64.wrap (p1 - (p0.Name.size : Int))) < 0)) = true then (some (-1)) else (some (IntKind.i64.wrap (p1 - (p0.Name.size : Int))))
def uB (p0 : List M.Field) : Nat → Int → Int → Option Int
  | 0, _, _ => none
  | nL1 + 1, v1, v5 => if (decide (v5 < (List.length p0 : Int))) = true then ((idx p0 v5).bind fun x7 => ((xB x7 v1).bind fun x12 => (if (decide (x12 < 0)) = true then (some (-1)) else (uB p0 nL1 x12 (IntKind.i64.wrap (v5 + 1)))))) else (some v1)
def wA (p0 : List M.Field) (p1 : Int) : Option Int :=
  if (decide ((IntKind.i64.wrap (p1 - (List.length p0 : Int))) < 0)) = true then (some (-1)) else (uB p0 fuel (IntKind.i64.wrap (p1 - (List.length p0 : Int))) 0)
def vF (p0 : M.aU) (p1 : Int) : Option Int :=
  (wA p0.Fields p1).bind fun x1 => (if (decide (x1 < 0)) = true then (some (-1)) else (some x1))
def zS (p0 : M.Item) (p1 : Int) : Option Int :=
  (zE p0.Key p1).bind fun x1 => (if (decide (x1 < 0)) = true then (some (-1)) else ((vF p0.aU x1).bind fun x4 => (if (decide (x4 < 0)) = true then (some (-1)) else (some x4))))
def wO (p0 : List M.Item) : Nat → Int → Int → Option Int
  | 0, _, _ => none
  | nL1 + 1, v1, v5 => if (decide (v5 < (List.length p0 : Int))) = true then ((idx p0 v5).bind fun x7 => ((zS x7 v1).bind fun x12 => (if (decide (x12 < 0)) = true then (some (-1)) else (wO p0 nL1 x12 (IntKind.i64.wrap (v5 + 1)))))) else (some v1)
def yI (p0 : List M.Item) (p1 : Int) : Option Int :=
  if (decide ((IntKind.i64.wrap (p1 - (List.length p0 : Int))) < 0)) = true then (some (-1)) else (wO p0 fuel (IntKind.i64.wrap (p1 - (List.length p0 : Int))) 0)
def oH (p0 : M.aG) (p1 : Int) : Option Int :=
  if (decide ((IntKind.i64.wrap (p1 - (p0.Name.size : Int))) < 0)) = true then (some (-1)) else ((yI p0.Items (IntKind.i64.wrap (p1 - (p0.Name.size : Int)))).bind fun x2 => (if (decide (x2 < 0)) = true then (some (-1)) else (some x2)))
def tY (p0 : List M.aG) : Nat → Int → Int → Option Int
  | 0, _, _ => none
  | nL1 + 1, v1, v5 => if (decide (v5 < (List.length p0 : Int))) = true then ((idx p0 v5).bind fun x7 => ((oH x7 v1).bind fun x12 => (if (decide (x12 < 0)) = true then (some (-1)) else (tY p0 nL1 x12 (IntKind.i64.wrap (v5 + 1)))))) else (some v1)
def vG (p0 : List M.aG) (p1 : Int) : Option Int :=
  if (decide ((IntKind.i64.wrap (p1 - (List.length p0 : Int))) < 0)) = true then (some (-1)) else (tY p0 fuel (IntKind.i64.wrap (p1 - (List.length p0 : Int))) 0)
def oT (p0 : M.aA) (p1 : Int) : Option Int :=
  if (decide ((IntKind.i64.wrap (p1 - (p0.aG.size : Int))) < 0)) = true then (some (-1)) else (if (decide ((IntKind.i64.wrap ((IntKind.i64.wrap (p1 - (p0.aG.size : Int))) - (p0.Field.size : Int))) < 0)) = true then (some (-1)) else (some (IntKind.i64.wrap ((IntKind.i64.wrap (p1 - (p0.aG.size : Int))) - (p0.Field.size : Int)))))
def nV (p0 : List M.aA) : Nat → Int → Int → Option Int
  | 0, _, _ => none
  | nL1 + 1, v1, v5 => if (decide (v5 < (List.length p0 : Int))) = true then ((idx p0 v5).bind fun x7 => ((oT x7 v1).bind fun x12 => (if (decide (x12 < 0)) = true then (some (-1)) else (nV p0 nL1 x12 (IntKind.i64.wrap (v5 + 1)))))) else (some v1)
def nT (p0 : List M.aA) (p1 : Int) : Option Int :=
  if (decide ((IntKind.i64.wrap (p1 - (List.length p0 : Int))) < 0)) = true then (some (-1)) else (nV p0 fuel (IntKind.i64.wrap (p1 - (List.length p0 : Int))) 0)
def qF (p0 : M.Database) (p1 : Int) : Option Int :=
  if (decide ((IntKind.i64.wrap (p1 - (p0.Name.size : Int))) < 0)) = true then (some (-1)) else ((vG p0.Stores (IntKind.i64.wrap (p1 - (p0.Name.size : Int)))).bind fun x2 => (if (decide (x2 < 0)) = true then (some (-1)) else ((nT p0.Unique x2).bind fun x5 => (if (decide (x5 < 0)) = true then (some (-1)) else (some x5)))))
def aAL (p0 : M.bG) (p1 : Int) : Option Int :=
  (qF p0.Base p1).bind fun x1 => (if (decide (x1 < 0)) = true then (some (-1)) else ((tR p0.Log x1).bind fun x4 => (if (decide (x4 < 0)) = true then (some (-1)) else (some x4))))
def yU (p0 : M.aW) (p1 : Int) : Option Int :=
  (zE p0.Key p1).bind fun x1 => (if (decide (x1 < 0)) = true then (some (-1)) else (if (decide ((IntKind.i64.wrap (x1 - (p0.Field.size : Int))) < 0)) = true then (some (-1)) else (some (IntKind.i64.wrap (x1 - (p0.Field.size : Int))))))
def tZ (p0 : List M.aW) : Nat → Int → Int → Option Int
  | 0, _, _ => none
  | nL1 + 1, v1, v5 => if (decide (v5 < (List.length p0 : Int))) = true then ((idx p0 v5).bind fun x7 => ((yU x7 v1).bind fun x12 => (if (decide (x12 < 0)) = true then (some (-1)) else (tZ p0 nL1 x12 (IntKind.i64.wrap (v5 + 1)))))) else (some v1)
def pZ (p0 : List M.aW) (p1 : Int) : Option Int :=
  if (decide ((IntKind.i64.wrap (p1 - (List.length p0 : Int))) < 0)) = true then (some (-1)) else (tZ p0 fuel (IntKind.i64.wrap (p1 - (List.length p0 : Int))) 0)
def vM (p0 : M.aV) (p1 : Int) : Option Int :=
  (pZ p0.Writes p1).bind fun x1 => (if (decide (x1 < 0)) = true then (some (-1)) else (some x1))
def aAW (p0 : M.Sync) (p1 : Int) : Option Int :=
  (vM p0.aV p1).bind fun x1 => (if (decide (x1 < 0)) = true then (some (-1)) else (some x1))
def tN (p0 : M.aC) (p1 : Int) : Option Int :=
  (oH p0.Base p1).bind fun x1 => (if (decide (x1 < 0)) = true then (some (-1)) else ((aAW p0.Sync x1).bind fun x4 => (if (decide (x4 < 0)) = true then (some (-1)) else (some x4))))
def wC (p0 : M.aE) (p1 : Int) : Option Int :=
  if (decide ((IntKind.i64.wrap (p1 - (p0.Site.size : Int))) < 0)) = true then (some (-1)) else (if (decide ((IntKind.i64.wrap ((IntKind.i64.wrap (p1 - (p0.Site.size : Int))) - (p0.Top.size : Int))) < 0)) = true then (some (-1)) else ((jP p0.Registration (IntKind.i64.wrap ((IntKind.i64.wrap (p1 - (p0.Site.size : Int))) - (p0.Top.size : Int)))).bind fun x3 => (if (decide (x3 < 0)) = true then (some (-1)) else ((oV p0.Caches x3).bind fun x6 => (if (decide (x6 < 0)) = true then (some (-1)) else ((aAL p0.bG x6).bind fun x9 => (if (decide (x9 < 0)) = true then (some (-1)) else ((tN p0.aC x9).bind fun x12 => (if (decide (x12 < 0)) = true then (some (-1)) else (some x12))))))))))
def rG (p0 : List M.aE) : Nat → Int → Int → Option Int
  | 0, _, _ => none
  | nL1 + 1, v1, v5 => if (decide (v5 < (List.length p0 : Int))) = true then ((idx p0 v5).bind fun x7 => ((wC x7 v1).bind fun x12 => (if (decide (x12 < 0)) = true then (some (-1)) else (rG p0 nL1 x12 (IntKind.i64.wrap (v5 + 1)))))) else (some v1)
def tB (p0 : List M.aE) (p1 : Int) : Option Int :=
  if (decide ((IntKind.i64.wrap (p1 - (List.length p0 : Int))) < 0)) = true then (some (-1)) else (rG p0 fuel (IntKind.i64.wrap (p1 - (List.length p0 : Int))) 0)
def sB (p0 : M.aK) (p1 : Int) : Option Int :=
  (tB p0.Buckets p1).bind fun x1 => (if (decide (x1 < 0)) = true then (some (-1)) else (some x1))
def vO (p0 : M.aM) (p1 : Int) : Option Int :=
  if (decide ((IntKind.i64.wrap (p1 - (p0.Path.size : Int))) < 0)) = true then (some (-1)) else (some (IntKind.i64.wrap (p1 - (p0.Path.size : Int))))
def rF (p0 : List M.aM) : Nat → Int → Int → Option Int
  | 0, _, _ => none
  | nL1 + 1, v1, v5 => if (decide (v5 < (List.length p0 : Int))) = true then ((idx p0 v5).bind fun x7 => ((vO x7 v1).bind fun x12 => (if (decide (x12 < 0)) = true then (some (-1)) else (rF p0 nL1 x12 (IntKind.i64.wrap (v5 + 1)))))) else (some v1)
def rO (p0 : List M.aM) (p1 : Int) : Option Int :=
  if (decide ((IntKind.i64.wrap (p1 - (List.length p0 : Int))) < 0)) = true then (some (-1)) else (rF p0 fuel (IntKind.i64.wrap (p1 - (List.length p0 : Int))) 0)
def xO (p0 : M.Instr) (p1 : Int) : Option Int :=
  if (decide ((IntKind.i64.wrap (p1 - (p0.Text.size : Int))) < 0)) = true then (some (-1)) else (some (IntKind.i64.wrap (p1 - (p0.Text.size : Int))))
def uC (p0 : List M.Instr) : Nat → Int → Int → Option Int
  | 0, _, _ => none
  | nL1 + 1, v1, v5 => if (decide (v5 < (List.length p0 : Int))) = true then ((idx p0 v5).bind fun x7 => ((xO x7 v1).bind fun x12 => (if (decide (x12 < 0)) = true then (some (-1)) else (uC p0 nL1 x12 (IntKind.i64.wrap (v5 + 1)))))) else (some v1)
def vH (p0 : List M.Instr) (p1 : Int) : Option Int :=
  if (decide ((IntKind.i64.wrap (p1 - (List.length p0 : Int))) < 0)) = true then (some (-1)) else (uC p0 fuel (IntKind.i64.wrap (p1 - (List.length p0 : Int))) 0)
def aAl (p0 : List Int) (p1 : Int) : Option Int :=
  if (decide ((IntKind.i64.wrap (p1 - (List.length p0 : Int))) < 0)) = true then (some (-1)) else (some (IntKind.i64.wrap (p1 - (List.length p0 : Int))))
def tD (p0 : M.Machine) (p1 : Int) : Option Int :=
  (vH p0.Script p1).bind fun x1 => (if (decide (x1 < 0)) = true then (some (-1)) else ((aAl p0.Regs x1).bind fun x4 => (if (decide (x4 < 0)) = true then (some (-1)) else (some x4))))
def aAG (p0 : M.bF) (p1 : Int) : Option Int :=
  if (decide ((IntKind.i64.wrap (p1 - (p0.Site.size : Int))) < 0)) = true then (some (-1)) else (if (decide ((IntKind.i64.wrap ((IntKind.i64.wrap (p1 - (p0.Site.size : Int))) - (p0.Top.size : Int))) < 0)) = true then (some (-1)) else ((rO p0.aM (IntKind.i64.wrap ((IntKind.i64.wrap (p1 - (p0.Site.size : Int))) - (p0.Top.size : Int)))).bind fun x3 => (if (decide (x3 < 0)) = true then (some (-1)) else ((tD p0.Machine x3).bind fun x6 => (if (decide (x6 < 0)) = true then (some (-1)) else (some x6))))))
def wP (p0 : List M.bF) : Nat → Int → Int → Option Int
  | 0, _, _ => none
  | nL1 + 1, v1, v5 => if (decide (v5 < (List.length p0 : Int))) = true then ((idx p0 v5).bind fun x7 => ((aAG x7 v1).bind fun x12 => (if (decide (x12 < 0)) = true then (some (-1)) else (wP p0 nL1 x12 (IntKind.i64.wrap (v5 + 1)))))) else (some v1)
def xF (p0 : List M.bF) (p1 : Int) : Option Int :=
  if (decide ((IntKind.i64.wrap (p1 - (List.length p0 : Int))) < 0)) = true then (some (-1)) else (wP p0 fuel (IntKind.i64.wrap (p1 - (List.length p0 : Int))) 0)
def aAX (p0 : M.bZ) (p1 : Int) : Option Int :=
  if (decide ((IntKind.i64.wrap (p1 - (p0.Name.size : Int))) < 0)) = true then (some (-1)) else (some (IntKind.i64.wrap (p1 - (p0.Name.size : Int))))
def wS (p0 : List M.bZ) : Nat → Int → Int → Option Int
  | 0, _, _ => none
  | nL1 + 1, v1, v5 => if (decide (v5 < (List.length p0 : Int))) = true then ((idx p0 v5).bind fun x7 => ((aAX x7 v1).bind fun x12 => (if (decide (x12 < 0)) = true then (some (-1)) else (wS p0 nL1 x12 (IntKind.i64.wrap (v5 + 1)))))) else (some v1)
def yV (p0 : List M.bZ) (p1 : Int) : Option Int :=
  if (decide ((IntKind.i64.wrap (p1 - (List.length p0 : Int))) < 0)) = true then (some (-1)) else (wS p0 fuel (IntKind.i64.wrap (p1 - (List.length p0 : Int))) 0)
def nI (p0 : M.aQ) (p1 : Int) : Option Int :=
  (yV p0.Locks p1).bind fun x1 => (if (decide (x1 < 0)) = true then (some (-1)) else (some x1))
def yR (p0 : List M.cN) (p1 : Int) : Option Int :=
  if (decide ((IntKind.i64.wrap (p1 - (List.length p0 : Int))) < 0)) = true then (some (-1)) else (some (IntKind.i64.wrap (p1 - (List.length p0 : Int))))
def tL (p0 : M.Channel) (p1 : Int) : Option Int :=
  (yR p0.Mails p1).bind fun x1 => (if (decide (x1 < 0)) = true then (some (-1)) else (some x1))
def qW (p0 : List ByteArray) : Nat → Int → Int → Option Int
  | 0, _, _ => none
  | nL1 + 1, v1, v5 => if (decide (v5 < (List.length p0 : Int))) = true then ((idx p0 v5).bind fun x7 => (if (decide ((IntKind.i64.wrap (v1 - (x7.size : Int))) < 0)) = true then (some (-1)) else (qW p0 nL1 (IntKind.i64.wrap (v1 - (x7.size : Int))) (IntKind.i64.wrap (v5 + 1))))) else (some v1)
def sK (p0 : List ByteArray) (p1 : Int) : Option Int :=
  if (decide ((IntKind.i64.wrap (p1 - (List.length p0 : Int))) < 0)) = true then (some (-1)) else (qW p0 fuel (IntKind.i64.wrap (p1 - (List.length p0 : Int))) 0)
def aAK (p0 : M.Site) (p1 : Int) : Option Int :=
  if (decide ((IntKind.i64.wrap (p1 - (p0.Name.size : Int))) < 0)) = true then (some (-1)) else ((sK p0.Files (IntKind.i64.wrap (p1 - (p0.Name.size : Int)))).bind fun x2 => (if (decide (x2 < 0)) = true then (some (-1)) else (some x2)))
def wV (p0 : List M.Site) : Nat → Int → Int → Option Int
  | 0, _, _ => none
  | nL1 + 1, v1, v5 => if (decide (v5 < (List.length p0 : Int))) = true then ((idx p0 v5).bind fun x7 => ((aAK x7 v1).bind fun x12 => (if (decide (x12 < 0)) = true then (some (-1)) else (wV p0 nL1 x12 (IntKind.i64.wrap (v5 + 1)))))) else (some v1)
def xT (p0 : List M.Site) (p1 : Int) : Option Int :=
  if (decide ((IntKind.i64.wrap (p1 - (List.length p0 : Int))) < 0)) = true then (some (-1)) else (wV p0 fuel (IntKind.i64.wrap (p1 - (List.length p0 : Int))) 0)
def pQ (p0 : List M.aH) (p1 : Int) : Option Int :=
  if (decide ((IntKind.i64.wrap (p1 - (List.length p0 : Int))) < 0)) = true then (some (-1)) else (some (IntKind.i64.wrap (p1 - (List.length p0 : Int))))
def uI (p0 : M.Server) (p1 : Int) : Option Int :=
  (oH p0.aG p1).bind fun x1 => (if (decide (x1 < 0)) = true then (some (-1)) else ((pQ p0.aH x1).bind fun x4 => (if (decide (x4 < 0)) = true then (some (-1)) else ((pZ p0.Changes x4).bind fun x7 => (if (decide (x7 < 0)) = true then (some (-1)) else (some x7))))))
def qX (p0 : List M.Server) : Nat → Int → Int → Option Int
  | 0, _, _ => none
  | nL1 + 1, v1, v5 => if (decide (v5 < (List.length p0 : Int))) = true then ((idx p0 v5).bind fun x7 => ((uI x7 v1).bind fun x12 => (if (decide (x12 < 0)) = true then (some (-1)) else (qX p0 nL1 x12 (IntKind.i64.wrap (v5 + 1)))))) else (some v1)
def tC (p0 : List M.Server) (p1 : Int) : Option Int :=
  if (decide ((IntKind.i64.wrap (p1 - (List.length p0 : Int))) < 0)) = true then (some (-1)) else (qX p0 fuel (IntKind.i64.wrap (p1 - (List.length p0 : Int))) 0)
def xU (p0 : M.World) (p1 : Int) : Option Int :=
  (sB p0.aK p1).bind fun x1 => (if (decide (x1 < 0)) = true then (some (-1)) else ((xF p0.Pages x1).bind fun x4 => (if (decide (x4 < 0)) = true then (some (-1)) else ((nI p0.Locks x4).bind fun x7 => (if (decide (x7 < 0)) = true then (some (-1)) else ((tL p0.Channel x7).bind fun x10 => (if (decide (x10 < 0)) = true then (some (-1)) else ((xT p0.Sites x10).bind fun x13 => (if (decide (x13 < 0)) = true then (some (-1)) else ((tC p0.Servers x13).bind fun x16 => (if (decide (x16 < 0)) = true then (some (-1)) else (some x16))))))))))))
def jN (p0 : M.Registration) : Option M.Registration :=
  some p0
def kZ (p0 : List Int) : Nat → Int → List Int → Option (List Int)
  | 0, _, _ => none
  | nL1 + 1, v4, r7 => if (decide (v4 < (List.length p0 : Int))) = true then ((idx p0 v4).bind fun x13 => ((idx r7 v4).bind fun x18 => (kZ p0 nL1 (IntKind.i64.wrap (v4 + 1)) (List.set r7 v4.toNat x13)))) else (some r7)
def tV (p0 : List Int) : Option (List Int) :=
  (mkL 1 (List.length p0 : Int) 0).bind fun x1 => (kZ p0 fuel 0 (List.replicate (List.length p0 : Int).toNat 0))
def oZ (p0 : M.Response) : Option M.Response :=
  (tV p0.Body).bind fun x1 => (some (⟨p0.Type_, p0.Status, p0.Version, x1, p0.Shares⟩ : M.Response))
def uX (p0 : M.Cached) : Option M.Cached :=
  (oZ p0.Response).bind fun x1 => (some (⟨p0.Site, p0.Path, x1⟩ : M.Cached))
def iV (p0 : List M.Cached) : Nat → Int → List M.Cached → Option (List M.Cached)
  | 0, _, _ => none
  | nL1 + 1, v4, r7 => if (decide (v4 < (List.length p0 : Int))) = true then ((idx p0 v4).bind fun x13 => ((uX x13).bind fun x18 => ((idx r7 v4).bind fun x20 => (iV p0 nL1 (IntKind.i64.wrap (v4 + 1)) (List.set r7 v4.toNat x18))))) else (some r7)
def sM (p0 : List M.Cached) : Option (List M.Cached) :=
  (mkL 88 (List.length p0 : Int) (⟨(⟨#[]⟩ : ByteArray), (⟨#[]⟩ : ByteArray), (⟨0, 0, 0, ([] : List Int), false⟩ : M.Response)⟩ : M.Cached)).bind fun x1 => (iV p0 fuel 0 (List.replicate (List.length p0 : Int).toNat (⟨(⟨#[]⟩ : ByteArray), (⟨#[]⟩ : ByteArray), (⟨0, 0, 0, ([] : List Int), false⟩ : M.Response)⟩ : M.Cached)))
def xI (p0 : M.Cache) : Option M.Cache :=
  (sM p0.Entries).bind fun x1 => (some (⟨p0.Version, x1⟩ : M.Cache))
def kB (p0 : List M.Cache) : Nat → Int → List M.Cache → Option (List M.Cache)
  | 0, _, _ => none
  | nL1 + 1, v4, r7 => if (decide (v4 < (List.length p0 : Int))) = true then ((idx p0 v4).bind fun x13 => ((xI x13).bind fun x18 => ((idx r7 v4).bind fun x20 => (kB p0 nL1 (IntKind.i64.wrap (v4 + 1)) (List.set r7 v4.toNat x18))))) else (some r7)
def vE (p0 : List M.Cache) : Option (List M.Cache) :=
  (mkL 32 (List.length p0 : Int) (⟨0, ([] : List M.Cached)⟩ : M.Cache)).bind fun x1 => (kB p0 fuel 0 (List.replicate (List.length p0 : Int).toNat (⟨0, ([] : List M.Cached)⟩ : M.Cache)))
def pI (p0 : M.aT) : Option M.aT :=
  (vE p0.Caches).bind fun x1 => (some (⟨x1⟩ : M.aT))
def zD (p0 : M.Key) : Option M.Key :=
  some p0
def xW (p0 : M.Field) : Option M.Field :=
  some p0
def jV (p0 : List M.Field) : Nat → Int → List M.Field → Option (List M.Field)
  | 0, _, _ => none
  | nL1 + 1, v4, r7 => if (decide (v4 < (List.length p0 : Int))) = true then ((idx p0 v4).bind fun x13 => ((xW x13).bind fun x18 => ((idx r7 v4).bind fun x20 => (jV p0 nL1 (IntKind.i64.wrap (v4 + 1)) (List.set r7 v4.toNat x18))))) else (some r7)
def uY (p0 : List M.Field) : Option (List M.Field) :=
  (mkL 24 (List.length p0 : Int) (⟨(⟨#[]⟩ : ByteArray), 0⟩ : M.Field)).bind fun x1 => (jV p0 fuel 0 (List.replicate (List.length p0 : Int).toNat (⟨(⟨#[]⟩ : ByteArray), 0⟩ : M.Field)))
def vQ (p0 : M.aU) : Option M.aU :=
  (uY p0.Fields).bind fun x1 => (some (⟨x1⟩ : M.aU))
def zX (p0 : M.Item) : Option M.Item :=
  (zD p0.Key).bind fun x1 => ((vQ p0.aU).bind fun x3 => (some (⟨x1, x3⟩ : M.Item)))
def lA (p0 : List M.Item) : Nat → Int → List M.Item → Option (List M.Item)
  | 0, _, _ => none
  | nL1 + 1, v4, r7 => if (decide (v4 < (List.length p0 : Int))) = true then ((idx p0 v4).bind fun x13 => ((zX x13).bind fun x18 => ((idx r7 v4).bind fun x20 => (lA p0 nL1 (IntKind.i64.wrap (v4 + 1)) (List.set r7 v4.toNat x18))))) else (some r7)
def yT (p0 : List M.Item) : Option (List M.Item) :=
  (mkL 56 (List.length p0 : Int) (⟨(⟨0, 0, (⟨#[]⟩ : ByteArray)⟩ : M.Key), (⟨([] : List M.Field)⟩ : M.aU)⟩ : M.Item)).bind fun x1 => (lA p0 fuel 0 (List.replicate (List.length p0 : Int).toNat (⟨(⟨0, 0, (⟨#[]⟩ : ByteArray)⟩ : M.Key), (⟨([] : List M.Field)⟩ : M.aU)⟩ : M.Item)))
def oK (p0 : M.aG) : Option M.aG :=
  (yT p0.Items).bind fun x1 => (some (⟨p0.Name, x1, p0.Auto⟩ : M.aG))
def jW (p0 : List M.aG) : Nat → Int → List M.aG → Option (List M.aG)
  | 0, _, _ => none
  | nL1 + 1, v4, r7 => if (decide (v4 < (List.length p0 : Int))) = true then ((idx p0 v4).bind fun x13 => ((oK x13).bind fun x18 => ((idx r7 v4).bind fun x20 => (jW p0 nL1 (IntKind.i64.wrap (v4 + 1)) (List.set r7 v4.toNat x18))))) else (some r7)
def wB (p0 : List M.aG) : Option (List M.aG) :=
  (mkL 48 (List.length p0 : Int) (⟨(⟨#[]⟩ : ByteArray), ([] : List M.Item), 0⟩ : M.aG)).bind fun x1 => (jW p0 fuel 0 (List.replicate (List.length p0 : Int).toNat (⟨(⟨#[]⟩ : ByteArray), ([] : List M.Item), 0⟩ : M.aG)))
def qN (p0 : M.aA) : Option M.aA :=
  some p0
def hZ (p0 : List M.aA) : Nat → Int → List M.aA → Option (List M.aA)
  | 0, _, _ => none
  | nL1 + 1, v4, r7 => if (decide (v4 < (List.length p0 : Int))) = true then ((idx p0 v4).bind fun x13 => ((qN x13).bind fun x18 => ((idx r7 v4).bind fun x20 => (hZ p0 nL1 (IntKind.i64.wrap (v4 + 1)) (List.set r7 v4.toNat x18))))) else (some r7)
def oD (p0 : List M.aA) : Option (List M.aA) :=
  (mkL 32 (List.length p0 : Int) (⟨(⟨#[]⟩ : ByteArray), (⟨#[]⟩ : ByteArray)⟩ : M.aA)).bind fun x1 => (hZ p0 fuel 0 (List.replicate (List.length p0 : Int).toNat (⟨(⟨#[]⟩ : ByteArray), (⟨#[]⟩ : ByteArray)⟩ : M.aA)))
def pA (p0 : M.Database) : Option M.Database :=
  (wB p0.Stores).bind fun x1 => ((oD p0.Unique).bind fun x3 => (some (⟨p0.Name, p0.Version, x1, x3⟩ : M.Database)))
def aAQ (p0 : M.bG) : Option M.bG :=
  (pA p0.Base).bind fun x1 => ((tV p0.Log).bind fun x3 => (some (⟨x1, x3, p0.Count⟩ : M.bG)))
def yW (p0 : M.aW) : Option M.aW :=
  (zD p0.Key).bind fun x1 => (some (⟨p0.Device, p0.Seq, x1, p0.Field, p0.N⟩ : M.aW))
def jX (p0 : List M.aW) : Nat → Int → List M.aW → Option (List M.aW)
  | 0, _, _ => none
  | nL1 + 1, v4, r7 => if (decide (v4 < (List.length p0 : Int))) = true then ((idx p0 v4).bind fun x13 => ((yW x13).bind fun x18 => ((idx r7 v4).bind fun x20 => (jX p0 nL1 (IntKind.i64.wrap (v4 + 1)) (List.set r7 v4.toNat x18))))) else (some r7)
def qP (p0 : List M.aW) : Option (List M.aW) :=
  (mkL 72 (List.length p0 : Int) (⟨0, 0, (⟨0, 0, (⟨#[]⟩ : ByteArray)⟩ : M.Key), (⟨#[]⟩ : ByteArray), 0⟩ : M.aW)).bind fun x1 => (jX p0 fuel 0 (List.replicate (List.length p0 : Int).toNat (⟨0, 0, (⟨0, 0, (⟨#[]⟩ : ByteArray)⟩ : M.Key), (⟨#[]⟩ : ByteArray), 0⟩ : M.aW)))
def uO (p0 : M.aV) : Option M.aV :=
  (qP p0.Writes).bind fun x1 => (some (⟨p0.Device, p0.Next, x1⟩ : M.aV))
def aAS (p0 : M.Sync) : Option M.Sync :=
  (uO p0.aV).bind fun x1 => (some (⟨x1, p0.Tries, p0.WaitUntil⟩ : M.Sync))
def tG (p0 : M.aC) : Option M.aC :=
  (oK p0.Base).bind fun x1 => ((aAS p0.Sync).bind fun x3 => (some (⟨x1, p0.Seen, x3⟩ : M.aC)))
def wE (p0 : M.aE) : Option M.aE :=
  (jN p0.Registration).bind fun x1 => ((pI p0.Caches).bind fun x3 => ((aAQ p0.bG).bind fun x5 => ((tG p0.aC).bind fun x7 => (some (⟨p0.Site, p0.Top, x1, x3, x5, x7, p0.LastUsed, p0.Persistent⟩ : M.aE)))))
def iY (p0 : List M.aE) : Nat → Int → List M.aE → Option (List M.aE)
  | 0, _, _ => none
  | nL1 + 1, v4, r7 => if (decide (v4 < (List.length p0 : Int))) = true then ((idx p0 v4).bind fun x13 => ((wE x13).bind fun x18 => ((idx r7 v4).bind fun x20 => (iY p0 nL1 (IntKind.i64.wrap (v4 + 1)) (List.set r7 v4.toNat x18))))) else (some r7)
def sA (p0 : List M.aE) : Option (List M.aE) :=
  (mkL 328 (List.length p0 : Int) (⟨(⟨#[]⟩ : ByteArray), (⟨#[]⟩ : ByteArray), (⟨(⟨#[]⟩ : ByteArray), 0, 0, 0⟩ : M.Registration), (⟨([] : List M.Cache)⟩ : M.aT), (⟨(⟨(⟨#[]⟩ : ByteArray), 0, ([] : List M.aG), ([] : List M.aA)⟩ : M.Database), ([] : List Int), 0⟩ : M.bG), (⟨(⟨(⟨#[]⟩ : ByteArray), ([] : List M.Item), 0⟩ : M.aG), 0, (⟨(⟨0, 0, ([] : List M.aW)⟩ : M.aV), 0, 0⟩ : M.Sync)⟩ : M.aC), 0, false⟩ : M.aE)).bind fun x1 => (iY p0 fuel 0 (List.replicate (List.length p0 : Int).toNat (⟨(⟨#[]⟩ : ByteArray), (⟨#[]⟩ : ByteArray), (⟨(⟨#[]⟩ : ByteArray), 0, 0, 0⟩ : M.Registration), (⟨([] : List M.Cache)⟩ : M.aT), (⟨(⟨(⟨#[]⟩ : ByteArray), 0, ([] : List M.aG), ([] : List M.aA)⟩ : M.Database), ([] : List Int), 0⟩ : M.bG), (⟨(⟨(⟨#[]⟩ : ByteArray), ([] : List M.Item), 0⟩ : M.aG), 0, (⟨(⟨0, 0, ([] : List M.aW)⟩ : M.aV), 0, 0⟩ : M.Sync)⟩ : M.aC), 0, false⟩ : M.aE)))
def sL (p0 : M.aK) : Option M.aK :=
  (sA p0.Buckets).bind fun x1 => (some (⟨x1⟩ : M.aK))
def uU (p0 : M.aM) : Option M.aM :=
  some p0
def jF (p0 : List M.aM) : Nat → Int → List M.aM → Option (List M.aM)
  | 0, _, _ => none
  | nL1 + 1, v4, r7 => if (decide (v4 < (List.length p0 : Int))) = true then ((idx p0 v4).bind fun x13 => ((uU x13).bind fun x18 => ((idx r7 v4).bind fun x20 => (jF p0 nL1 (IntKind.i64.wrap (v4 + 1)) (List.set r7 v4.toNat x18))))) else (some r7)
def sO (p0 : List M.aM) : Option (List M.aM) :=
  (mkL 24 (List.length p0 : Int) (⟨(⟨#[]⟩ : ByteArray), 0⟩ : M.aM)).bind fun x1 => (jF p0 fuel 0 (List.replicate (List.length p0 : Int).toNat (⟨(⟨#[]⟩ : ByteArray), 0⟩ : M.aM)))
def xP (p0 : M.Instr) : Option M.Instr :=
  some p0
def jT (p0 : List M.Instr) : Nat → Int → List M.Instr → Option (List M.Instr)
  | 0, _, _ => none
  | nL1 + 1, v4, r7 => if (decide (v4 < (List.length p0 : Int))) = true then ((idx p0 v4).bind fun x13 => ((xP x13).bind fun x18 => ((idx r7 v4).bind fun x20 => (jT p0 nL1 (IntKind.i64.wrap (v4 + 1)) (List.set r7 v4.toNat x18))))) else (some r7)
def vN (p0 : List M.Instr) : Option (List M.Instr) :=
  (mkL 40 (List.length p0 : Int) (⟨0, 0, 0, (⟨#[]⟩ : ByteArray)⟩ : M.Instr)).bind fun x1 => (jT p0 fuel 0 (List.replicate (List.length p0 : Int).toNat (⟨0, 0, 0, (⟨#[]⟩ : ByteArray)⟩ : M.Instr)))
def mR (p0 : List Int) : Nat → Int → List Int → Option (List Int)
  | 0, _, _ => none
  | nL1 + 1, v4, r7 => if (decide (v4 < (List.length p0 : Int))) = true then ((idx p0 v4).bind fun x13 => ((idx r7 v4).bind fun x18 => (mR p0 nL1 (IntKind.i64.wrap (v4 + 1)) (List.set r7 v4.toNat x13)))) else (some r7)
def zU (p0 : List Int) : Option (List Int) :=
  (mkL 8 (List.length p0 : Int) 0).bind fun x1 => (mR p0 fuel 0 (List.replicate (List.length p0 : Int).toNat 0))
def sY (p0 : M.Machine) : Option M.Machine :=
  (vN p0.Script).bind fun x1 => ((zU p0.Regs).bind fun x3 => (some (⟨x1, p0.Pc, x3, p0.Steps, p0.Done, p0.Wait⟩ : M.Machine)))
def aAC (p0 : M.bF) : Option M.bF :=
  (sO p0.aM).bind fun x1 => ((sY p0.Machine).bind fun x3 => (some (⟨p0.Id, p0.Site, p0.Top, p0.Version, x1, x3⟩ : M.bF)))
def lN (p0 : List M.bF) : Nat → Int → List M.bF → Option (List M.bF)
  | 0, _, _ => none
  | nL1 + 1, v4, r7 => if (decide (v4 < (List.length p0 : Int))) = true then ((idx p0 v4).bind fun x13 => ((aAC x13).bind fun x18 => ((idx r7 v4).bind fun x20 => (lN p0 nL1 (IntKind.i64.wrap (v4 + 1)) (List.set r7 v4.toNat x18))))) else (some r7)
def yE (p0 : List M.bF) : Option (List M.bF) :=
  (mkL 144 (List.length p0 : Int) (⟨0, (⟨#[]⟩ : ByteArray), (⟨#[]⟩ : ByteArray), 0, ([] : List M.aM), (⟨([] : List M.Instr), 0, ([] : List Int), 0, false, false⟩ : M.Machine)⟩ : M.bF)).bind fun x1 => (lN p0 fuel 0 (List.replicate (List.length p0 : Int).toNat (⟨0, (⟨#[]⟩ : ByteArray), (⟨#[]⟩ : ByteArray), 0, ([] : List M.aM), (⟨([] : List M.Instr), 0, ([] : List Int), 0, false, false⟩ : M.Machine)⟩ : M.bF)))
def zV (p0 : M.bZ) : Option M.bZ :=
  some p0
def lD (p0 : List M.bZ) : Nat → Int → List M.bZ → Option (List M.bZ)
  | 0, _, _ => none
  | nL1 + 1, v4, r7 => if (decide (v4 < (List.length p0 : Int))) = true then ((idx p0 v4).bind fun x13 => ((zV x13).bind fun x18 => ((idx r7 v4).bind fun x20 => (lD p0 nL1 (IntKind.i64.wrap (v4 + 1)) (List.set r7 v4.toNat x18))))) else (some r7)
def yZ (p0 : List M.bZ) : Option (List M.bZ) :=
  (mkL 32 (List.length p0 : Int) (⟨(⟨#[]⟩ : ByteArray), 0, false, false⟩ : M.bZ)).bind fun x1 => (lD p0 fuel 0 (List.replicate (List.length p0 : Int).toNat (⟨(⟨#[]⟩ : ByteArray), 0, false, false⟩ : M.bZ)))
def nR (p0 : M.aQ) : Option M.aQ :=
  (yZ p0.Locks).bind fun x1 => (some (⟨x1⟩ : M.aQ))
def aAk (p0 : M.cN) : Option M.cN :=
  some p0
def lL (p0 : List M.cN) : Nat → Int → List M.cN → Option (List M.cN)
  | 0, _, _ => none
  | nL1 + 1, v4, r7 => if (decide (v4 < (List.length p0 : Int))) = true then ((idx p0 v4).bind fun x13 => ((aAk x13).bind fun x18 => ((idx r7 v4).bind fun x20 => (lL p0 nL1 (IntKind.i64.wrap (v4 + 1)) (List.set r7 v4.toNat x18))))) else (some r7)
def yA (p0 : List M.cN) : Option (List M.cN) :=
  (mkL 24 (List.length p0 : Int) (⟨0, 0, 0⟩ : M.cN)).bind fun x1 => (lL p0 fuel 0 (List.replicate (List.length p0 : Int).toNat (⟨0, 0, 0⟩ : M.cN)))
def sG (p0 : M.Channel) : Option M.Channel :=
  (yA p0.Mails).bind fun x1 => (some (⟨x1⟩ : M.Channel))
def jB (p0 : List ByteArray) : Nat → Int → List ByteArray → Option (List ByteArray)
  | 0, _, _ => none
  | nL1 + 1, v4, r7 => if (decide (v4 < (List.length p0 : Int))) = true then ((idx p0 v4).bind fun x13 => ((idx r7 v4).bind fun x18 => (jB p0 nL1 (IntKind.i64.wrap (v4 + 1)) (List.set r7 v4.toNat x13)))) else (some r7)
def rY (p0 : List ByteArray) : Option (List ByteArray) :=
  (mkL 16 (List.length p0 : Int) (⟨#[]⟩ : ByteArray)).bind fun x1 => (jB p0 fuel 0 (List.replicate (List.length p0 : Int).toNat (⟨#[]⟩ : ByteArray)))
def zP (p0 : M.Site) : Option M.Site :=
  (rY p0.Files).bind fun x1 => (some (⟨p0.Name, p0.Version, x1, p0.Shared⟩ : M.Site))
def lP (p0 : List M.Site) : Nat → Int → List M.Site → Option (List M.Site)
  | 0, _, _ => none
  | nL1 + 1, v4, r7 => if (decide (v4 < (List.length p0 : Int))) = true then ((idx p0 v4).bind fun x13 => ((zP x13).bind fun x18 => ((idx r7 v4).bind fun x20 => (lP p0 nL1 (IntKind.i64.wrap (v4 + 1)) (List.set r7 v4.toNat x18))))) else (some r7)
def yS (p0 : List M.Site) : Option (List M.Site) :=
  (mkL 56 (List.length p0 : Int) (⟨(⟨#[]⟩ : ByteArray), 0, ([] : List ByteArray), false⟩ : M.Site)).bind fun x1 => (lP p0 fuel 0 (List.replicate (List.length p0 : Int).toNat (⟨(⟨#[]⟩ : ByteArray), 0, ([] : List ByteArray), false⟩ : M.Site)))
def rQ (p0 : M.aH) : Option M.aH :=
  some p0
def iO (p0 : List M.aH) : Nat → Int → List M.aH → Option (List M.aH)
  | 0, _, _ => none
  | nL1 + 1, v4, r7 => if (decide (v4 < (List.length p0 : Int))) = true then ((idx p0 v4).bind fun x13 => ((rQ x13).bind fun x18 => ((idx r7 v4).bind fun x20 => (iO p0 nL1 (IntKind.i64.wrap (v4 + 1)) (List.set r7 v4.toNat x18))))) else (some r7)
def qK (p0 : List M.aH) : Option (List M.aH) :=
  (mkL 16 (List.length p0 : Int) (⟨0, 0⟩ : M.aH)).bind fun x1 => (iO p0 fuel 0 (List.replicate (List.length p0 : Int).toNat (⟨0, 0⟩ : M.aH)))
def uT (p0 : M.Server) : Option M.Server :=
  (oK p0.aG).bind fun x1 => ((qK p0.aH).bind fun x3 => ((qP p0.Changes).bind fun x5 => (some (⟨x1, x3, x5⟩ : M.Server))))
def iW (p0 : List M.Server) : Nat → Int → List M.Server → Option (List M.Server)
  | 0, _, _ => none
  | nL1 + 1, v4, r7 => if (decide (v4 < (List.length p0 : Int))) = true then ((idx p0 v4).bind fun x13 => ((uT x13).bind fun x18 => ((idx r7 v4).bind fun x20 => (iW p0 nL1 (IntKind.i64.wrap (v4 + 1)) (List.set r7 v4.toNat x18))))) else (some r7)
def sW (p0 : List M.Server) : Option (List M.Server) :=
  (mkL 96 (List.length p0 : Int) (⟨(⟨(⟨#[]⟩ : ByteArray), ([] : List M.Item), 0⟩ : M.aG), ([] : List M.aH), ([] : List M.aW)⟩ : M.Server)).bind fun x1 => (iW p0 fuel 0 (List.replicate (List.length p0 : Int).toNat (⟨(⟨(⟨#[]⟩ : ByteArray), ([] : List M.Item), 0⟩ : M.aG), ([] : List M.aH), ([] : List M.aW)⟩ : M.Server)))
def kW (p0 : M.World) : Option M.World :=
  (sL p0.aK).bind fun x1 => ((yE p0.Pages).bind fun x3 => ((nR p0.Locks).bind fun x5 => ((sG p0.Channel).bind fun x7 => ((yS p0.Sites).bind fun x9 => ((sW p0.Servers).bind fun x11 => (some (⟨p0.Now, p0.Online, p0.Device, x1, x3, p0.NextPage, x5, x7, x9, x11⟩ : M.World)))))))
def yQ (p0 : M.Response) : Option M.Response :=
  (app 1 ([] : List Int) p0.Body).bind fun x1 => (some p0)
def iI (p0 : M.Cache) : Nat → Int → List M.Cached → Option M.Cache
  | 0, _, _ => none
  | nL1 + 1, v4, r50000 => if (decide (v4 < (List.length p0.Entries : Int))) = true then ((idx p0.Entries v4).bind fun x11 => ((yQ x11.Response).bind fun x16 => ((app 88 r50000 ([(⟨x11.Site, x11.Path, x16⟩ : M.Cached)])).bind fun x18 => (iI p0 nL1 (IntKind.i64.wrap (v4 + 1)) (r50000 ++ [(⟨x11.Site, x11.Path, x16⟩ : M.Cached)]))))) else (some (⟨p0.Version, r50000⟩ : M.Cache))
def wH (p0 : M.Cache) : Option M.Cache :=
  iI p0 fuel 0 ([] : List M.Cached)
def jC (p0 : M.aT) : Nat → Int → List M.Cache → Option M.aT
  | 0, _, _ => none
  | nL1 + 1, v4, r50000 => if (decide (v4 < (List.length p0.Caches : Int))) = true then ((idx p0.Caches v4).bind fun x11 => ((wH x11).bind fun x16 => ((app 32 r50000 ([x16])).bind fun x18 => (jC p0 nL1 (IntKind.i64.wrap (v4 + 1)) (r50000 ++ [x16]))))) else (some (⟨r50000⟩ : M.aT))
def zB (p0 : M.aT) : Option M.aT :=
  jC p0 fuel 0 ([] : List M.Cache)
def zY (p0 : M.aU) : Option M.aU :=
  (app 24 ([] : List M.Field) p0.Fields).bind fun x1 => (some p0)
def wK (p0 : M.Item) : Option M.Item :=
  (zY p0.aU).bind fun x1 => (some (⟨p0.Key, x1⟩ : M.Item))
def kK (p0 : M.aG) : Nat → Int → List M.Item → Option M.aG
  | 0, _, _ => none
  | nL1 + 1, v4, r50000 => if (decide (v4 < (List.length p0.Items : Int))) = true then ((idx p0.Items v4).bind fun x11 => ((wK x11).bind fun x16 => ((app 56 r50000 ([x16])).bind fun x18 => (kK p0 nL1 (IntKind.i64.wrap (v4 + 1)) (r50000 ++ [x16]))))) else (some (⟨p0.Name, r50000, p0.Auto⟩ : M.aG))
def qT (p0 : M.aG) : Option M.aG :=
  kK p0 fuel 0 ([] : List M.Item)
def kN (p0 : M.Database) : Nat → Int → List M.aG → Option M.Database
  | 0, _, _ => none
  | nL1 + 1, v4, r50000 => if (decide (v4 < (List.length p0.Stores : Int))) = true then ((idx p0.Stores v4).bind fun x22 => ((qT x22).bind fun x27 => ((app 48 r50000 ([x27])).bind fun x29 => (kN p0 nL1 (IntKind.i64.wrap (v4 + 1)) (r50000 ++ [x27]))))) else (some (⟨p0.Name, p0.Version, r50000, p0.Unique⟩ : M.Database))
def aAP (p0 : M.Database) : Option M.Database :=
  (app 32 ([] : List M.aA) p0.Unique).bind fun x1 => (kN p0 fuel 0 ([] : List M.aG))
def yH (p0 : M.bG) : Option M.bG :=
  (aAP p0.Base).bind fun x1 => ((app 1 ([] : List Int) p0.Log).bind fun x3 => (some (⟨x1, p0.Log, p0.Count⟩ : M.bG)))
def xZ (p0 : M.aV) : Option M.aV :=
  (app 72 ([] : List M.aW) p0.Writes).bind fun x1 => (some p0)
def yD (p0 : M.Sync) : Option M.Sync :=
  (xZ p0.aV).bind fun x1 => (some (⟨x1, p0.Tries, p0.WaitUntil⟩ : M.Sync))
def yP (p0 : M.aC) : Option M.aC :=
  (qT p0.Base).bind fun x1 => ((yD p0.Sync).bind fun x3 => (some (⟨x1, p0.Seen, x3⟩ : M.aC)))
def yF (p0 : M.aE) : Option M.aE :=
  (zB p0.Caches).bind fun x1 => ((yH p0.bG).bind fun x3 => ((yP p0.aC).bind fun x5 => (some (⟨p0.Site, p0.Top, p0.Registration, x1, x3, x5, p0.LastUsed, p0.Persistent⟩ : M.aE))))
def jI (p0 : M.aK) : Nat → Int → List M.aE → Option M.aK
  | 0, _, _ => none
  | nL1 + 1, v4, r50000 => if (decide (v4 < (List.length p0.Buckets : Int))) = true then ((idx p0.Buckets v4).bind fun x11 => ((yF x11).bind fun x16 => ((app 328 r50000 ([x16])).bind fun x18 => (jI p0 nL1 (IntKind.i64.wrap (v4 + 1)) (r50000 ++ [x16]))))) else (some (⟨r50000⟩ : M.aK))
def xH (p0 : M.aK) : Option M.aK :=
  jI p0 fuel 0 ([] : List M.aE)
def sJ (p0 : List M.Instr) : Option (List M.Instr) :=
  (app 40 ([] : List M.Instr) p0).bind fun x1 => (some p0)
def xE (p0 : M.Machine) : Option M.Machine :=
  (sJ p0.Script).bind fun x1 => ((app 8 ([] : List Int) p0.Regs).bind fun x3 => (some (⟨x1, p0.Pc, p0.Regs, p0.Steps, p0.Done, p0.Wait⟩ : M.Machine)))
def yK (p0 : M.bF) : Option M.bF :=
  (app 24 ([] : List M.aM) p0.aM).bind fun x1 => ((xE p0.Machine).bind fun x11 => (some (⟨p0.Id, p0.Site, p0.Top, p0.Version, p0.aM, x11⟩ : M.bF)))
def tU (p0 : M.aQ) : Option M.aQ :=
  (app 32 ([] : List M.bZ) p0.Locks).bind fun x1 => (some p0)
def jK (p0 : M.Channel) : Option M.Channel :=
  (app 24 ([] : List M.cN) p0.Mails).bind fun x1 => (some p0)
def xK (p0 : M.Site) : Option M.Site :=
  (app 16 ([] : List ByteArray) p0.Files).bind fun x1 => (some p0)
def xN (p0 : M.Server) : Option M.Server :=
  (qT p0.aG).bind fun x1 => ((app 16 ([] : List M.aH) p0.aH).bind fun x3 => ((app 72 ([] : List M.aW) p0.Changes).bind fun x5 => (some (⟨x1, p0.aH, p0.Changes⟩ : M.Server))))
def gJ (p0 : M.World) (x1 : M.aK) (r12 : List M.bF) (x42 : M.aQ) (x44 : M.Channel) (r40 : List M.Site) : Nat → Int → List M.Server → Option M.World
  | 0, _, _ => none
  | nL3 + 1, v6, r60 => if (decide (v6 < (List.length p0.Servers : Int))) = true then ((idx p0.Servers v6).bind fun x122 => ((xN x122).bind fun x127 => ((app 96 r60 ([x127])).bind fun x129 => (gJ p0 x1 r12 x42 x44 r40 nL3 (IntKind.i64.wrap (v6 + 1)) (r60 ++ [x127]))))) else (some (⟨p0.Now, p0.Online, p0.Device, x1, r12, p0.NextPage, x42, x44, r40, r60⟩ : M.World))
def gE (p0 : M.World) (x1 : M.aK) (r12 : List M.bF) (x42 : M.aQ) (x44 : M.Channel) : Nat → Int → List M.Site → Option M.World
  | 0, _, _ => none
  | nL2 + 1, v5, r40 => if (decide (v5 < (List.length p0.Sites : Int))) = true then ((idx p0.Sites v5).bind fun x72 => ((xK x72).bind fun x77 => ((app 56 r40 ([x77])).bind fun x79 => (gE p0 x1 r12 x42 x44 nL2 (IntKind.i64.wrap (v5 + 1)) (r40 ++ [x77]))))) else (gJ p0 x1 r12 x42 x44 r40 fuel 0 ([] : List M.Server))
def iD (p0 : M.World) (x1 : M.aK) : Nat → Int → List M.bF → Option M.World
  | 0, _, _ => none
  | nL1 + 1, v4, r12 => if (decide (v4 < (List.length p0.Pages : Int))) = true then ((idx p0.Pages v4).bind fun x23 => ((yK x23).bind fun x28 => ((app 144 r12 ([x28])).bind fun x30 => (iD p0 x1 nL1 (IntKind.i64.wrap (v4 + 1)) (r12 ++ [x28]))))) else ((tU p0.Locks).bind fun x42 => ((jK p0.Channel).bind fun x44 => (gE p0 x1 r12 x42 x44 fuel 0 ([] : List M.Site))))
def yX (p0 : M.World) : Option M.World :=
  (xH p0.aK).bind fun x1 => (iD p0 x1 fuel 0 ([] : List M.bF))
def bH (p0 : Int) (p1 : Int) (p2 : Int) : Option Bool :=
  if (decide (p0 ≥ p1)) = true then (some (decide (p0 ≤ p2))) else (some false)
def iS (p0 : ByteArray) : Nat → Int → Option Bool
  | 0, _ => none
  | nL1 + 1, v3 => if (decide (v3 < (p0.size : Int))) = true then ((aMZ p0 v3).bind fun x5 => (if (decide ((x5.toNat : Int) < 97)) = true then (some false) else (if (decide ((x5.toNat : Int) > 122)) = true then (some false) else (iS p0 nL1 (IntKind.i64.wrap (v3 + 1)))))) else ((bH (p0.size : Int) 1 8).bind fun x11 => (some x11))
def cD (p0 : ByteArray) : Option Bool :=
  iS p0 fuel 0
def hH (p0 : M.Site) : Nat → Int → Option Bool
  | 0, _ => none
  | nL1 + 1, v3 => if (decide (v3 < (List.length p0.Files : Int))) = true then ((idx p0.Files v3).bind fun x6 => ((cD x6).bind fun x11 => (if (!x11) = true then (some false) else (if (decide (v3 > 0)) = true then ((idx p0.Files (IntKind.i64.wrap (v3 - 1))).bind fun x15 => (if (!(Op.bytesLess x15.toList x6.toList)) = true then (some false) else (hH p0 nL1 (IntKind.i64.wrap (v3 + 1))))) else (hH p0 nL1 (IntKind.i64.wrap (v3 + 1))))))) else ((cD p0.Name).bind fun x21 => (if x21 = true then ((bH p0.Version 1 1000000000000).bind fun x24 => (if x24 = true then ((bH (List.length p0.Files : Int) 1 6).bind fun x27 => (some x27)) else (some false))) else (some false)))
def zQ (p0 : M.Site) : Option Bool :=
  hH p0 fuel 0
def aAD  : Option (List ByteArray) :=
  some ([(⟨#[98, 97, 110, 107]⟩ : ByteArray), (⟨#[110, 101, 119, 115]⟩ : ByteArray), (⟨#[115, 104, 111, 112]⟩ : ByteArray)])
def fZ (p0 : ByteArray) : Nat → Int → Option Bool
  | 0, _ => none
  | nL1 + 1, v3 => if (decide (v3 < (p0.size : Int))) = true then ((aMZ p0 v3).bind fun x5 => (if (decide ((x5.toNat : Int) < 97)) = true then (if (decide ((x5.toNat : Int) < 48)) = true then (some false) else (if (decide ((x5.toNat : Int) > 57)) = true then (some false) else (fZ p0 nL1 (IntKind.i64.wrap (v3 + 1))))) else (if (decide ((x5.toNat : Int) > 122)) = true then (if (decide ((x5.toNat : Int) < 48)) = true then (some false) else (if (decide ((x5.toNat : Int) > 57)) = true then (some false) else (fZ p0 nL1 (IntKind.i64.wrap (v3 + 1))))) else (fZ p0 nL1 (IntKind.i64.wrap (v3 + 1)))))) else (some (decide ((p0.size : Int) ≤ 12)))
def wR (p0 : ByteArray) : Option Bool :=
  fZ p0 fuel 0
def nD (p0 : M.Key) : Option Bool :=
  (bH p0.Kind 1 3).bind fun x1 => (if x1 = true then ((bH p0.N (-1000000000000) 1000000000000).bind fun x4 => (if x4 = true then (if (p0.Kind != 2) = true then ((wR p0.Text).bind fun x8 => (if x8 = true then (if (p0.Kind != 1) = true then (some true) else (some (p0.Text.toList == (⟨#[]⟩ : ByteArray).toList))) else (some false))) else (if (p0.N == 0) = true then ((wR p0.Text).bind fun x13 => (if x13 = true then (if (p0.Kind != 1) = true then (some true) else (some (p0.Text.toList == (⟨#[]⟩ : ByteArray).toList))) else (some false))) else (some false))) else (some false))) else (some false))
def iP (p0 : M.aW) : Option Bool :=
  (bH p0.Device 1 1000000).bind fun x1 => (if x1 = true then ((bH p0.Seq 1 1000000).bind fun x4 => (if x4 = true then ((nD p0.Key).bind fun x7 => (if x7 = true then ((cD p0.Field).bind fun x10 => (if x10 = true then ((bH p0.N 0 1000000000).bind fun x13 => (some x13)) else (some false))) else (some false))) else (some false))) else (some false))
def fT (p0 : M.aU) : Nat → Int → Option Bool
  | 0, _ => none
  | nL1 + 1, v3 => if (decide (v3 < (List.length p0.Fields : Int))) = true then ((idx p0.Fields v3).bind fun x6 => ((cD x6.Name).bind fun x11 => (if (!x11) = true then (some false) else ((bH x6.N 0 1000000000).bind fun x14 => (if (!x14) = true then (some false) else (if (decide (v3 > 0)) = true then ((idx p0.Fields (IntKind.i64.wrap (v3 - 1))).bind fun x18 => (if (!(Op.bytesLess x18.Name.toList x6.Name.toList)) = true then (some false) else (fT p0 nL1 (IntKind.i64.wrap (v3 + 1))))) else (fT p0 nL1 (IntKind.i64.wrap (v3 + 1))))))))) else (some (decide ((List.length p0.Fields : Int) ≤ 6)))
def qA (p0 : M.aU) : Option Bool :=
  fT p0 fuel 0
def wU (p0 : Bool) (p1 : Bool) : Option Int :=
  if p0 = true then (some (-1)) else (if p1 = true then (some 1) else (some 0))
def kE (p0 : M.Key) (p1 : M.Key) : Option Int :=
  (nD p0).bind fun x1 => (if (!x1) = true then (some 0) else ((nD p1).bind fun x4 => (if (!x4) = true then (some 0) else (if (p0.Kind != p1.Kind) = true then ((wU (decide (p0.Kind < p1.Kind)) true).bind fun x8 => (some x8)) else (if (p0.N != p1.N) = true then ((wU (decide (p0.N < p1.N)) true).bind fun x11 => (some x11)) else ((wU (Op.bytesLess p0.Text.toList p1.Text.toList) (!(Op.bytesLess p0.Text.toList p1.Text.toList || p0.Text.toList == p1.Text.toList))).bind fun x13 => (some x13)))))))
def gG (p0 : M.aG) : Nat → Int → Option Bool
  | 0, _ => none
  | nL1 + 1, v3 => if (decide (v3 < (List.length p0.Items : Int))) = true then ((idx p0.Items v3).bind fun x6 => ((nD x6.Key).bind fun x11 => (if (!x11) = true then (some false) else ((qA x6.aU).bind fun x14 => (if (!x14) = true then (some false) else (if (decide (v3 > 0)) = true then ((idx p0.Items (IntKind.i64.wrap (v3 - 1))).bind fun x18 => ((kE x18.Key x6.Key).bind fun x23 => (if (decide (x23 ≥ 0)) = true then (some false) else (gG p0 nL1 (IntKind.i64.wrap (v3 + 1)))))) else (gG p0 nL1 (IntKind.i64.wrap (v3 + 1))))))))) else ((cD p0.Name).bind fun x26 => (if x26 = true then (if (decide ((List.length p0.Items : Int) ≤ 16)) = true then ((bH p0.Auto 0 1000000).bind fun x30 => (some x30)) else (some false)) else (some false)))
def oL (p0 : M.aG) : Option Bool :=
  gG p0 fuel 0
def gW (p0 : M.Server) : Nat → Int → Option Bool
  | 0, _ => none
  | nL2 + 1, v4 => if (decide (v4 < (List.length p0.Changes : Int))) = true then ((idx p0.Changes v4).bind fun x29 => ((iP x29).bind fun x34 => (if (!x34) = true then (some false) else (gW p0 nL2 (IntKind.i64.wrap (v4 + 1)))))) else ((oL p0.aG).bind fun x37 => (if x37 = true then (if (p0.aG.Name.toList == (⟨#[110, 111, 116, 101, 115]⟩ : ByteArray).toList) = true then (some (decide ((List.length p0.aH : Int) ≤ 60))) else (some false)) else (some false)))
def fP (p0 : M.Server) : Nat → Int → Option Bool
  | 0, _ => none
  | nL1 + 1, v3 => if (decide (v3 < (List.length p0.aH : Int))) = true then ((idx p0.aH v3).bind fun x6 => ((bH x6.Device 1 1000000).bind fun x11 => (if (!x11) = true then (some false) else ((bH x6.Seq 0 1000000).bind fun x14 => (if (!x14) = true then (some false) else (if (decide (v3 > 0)) = true then ((idx p0.aH (IntKind.i64.wrap (v3 - 1))).bind fun x18 => (if (decide (x18.Device ≥ x6.Device)) = true then (some false) else (fP p0 nL1 (IntKind.i64.wrap (v3 + 1))))) else (fP p0 nL1 (IntKind.i64.wrap (v3 + 1))))))))) else (gW p0 fuel 0)
def wI (p0 : M.Server) : Option Bool :=
  fP p0 fuel 0
def kM (p0 : M.bF) : Nat → Int → Option Bool
  | 0, _ => none
  | nL1 + 1, v3 => if (decide (v3 < (List.length p0.aM : Int))) = true then ((idx p0.aM v3).bind fun x6 => ((cD x6.Path).bind fun x11 => (if (!x11) = true then (some false) else (if (x6.Version != p0.Version) = true then (some false) else (kM p0 nL1 (IntKind.i64.wrap (v3 + 1))))))) else ((bH p0.Id 1 1000000000000).bind fun x15 => (if x15 = true then ((cD p0.Site).bind fun x18 => (if x18 = true then ((cD p0.Top).bind fun x21 => (if x21 = true then ((bH p0.Version 1 1000000000000).bind fun x24 => (if x24 = true then (some (decide ((List.length p0.aM : Int) ≤ 8))) else (some false))) else (some false))) else (some false))) else (some false)))
def aAH (p0 : M.bF) : Option Bool :=
  kM p0 fuel 0
def fF (p0 : M.aK) (p1 : ByteArray) (p2 : ByteArray) : Nat → Int → Option Int
  | 0, _ => none
  | nL1 + 1, v7 => if (decide (v7 < (List.length p0.Buckets : Int))) = true then ((idx p0.Buckets v7).bind fun x8 => (if (x8.Site.toList == p1.toList) = true then (if (x8.Top.toList == p2.toList) = true then (some v7) else (fF p0 p1 p2 nL1 (IntKind.i64.wrap (v7 + 1)))) else (fF p0 p1 p2 nL1 (IntKind.i64.wrap (v7 + 1))))) else (some (-1))
def lH (p0 : M.aK) (p1 : ByteArray) (p2 : ByteArray) : Option Int :=
  fF p0 p1 p2 fuel 0
def bN (p0 : M.Registration) : Nat → Int → Int → Option Bool
  | 0, _, _ => none
  | nL1 + 1, v3, v5 => if (decide (v5 < ((3 : Nat) : Int))) = true then ((idx ([p0.Active, p0.Waiting, p0.Installing]) v5).bind fun x15 => ((bH x15 0 1000000000000).bind fun x20 => (if (!x20) = true then (some false) else (if (x15 != 0) = true then (if (decide (x15 ≤ v3)) = true then (some false) else (bN p0 nL1 x15 (IntKind.i64.wrap (v5 + 1)))) else (bN p0 nL1 v3 (IntKind.i64.wrap (v5 + 1))))))) else ((cD p0.Site).bind fun x25 => (some x25))
def iE (p0 : M.Registration) : Option Bool :=
  bN p0 fuel 0 0
def qG (p0 : M.Response) : Option Bool :=
  (bH p0.Type_ 1 4).bind fun x1 => (if x1 = true then ((bH p0.Status 0 999).bind fun x4 => (if x4 = true then ((bH p0.Version 0 1000000000000).bind fun x7 => (if x7 = true then (some (decide ((List.length p0.Body : Int) ≤ 60))) else (some false))) else (some false))) else (some false))
def fG (p0 : List M.Cached) (v3 : Int) (x5 : M.Cached) (k20 : Int → Option Bool) : Nat → Int → Option Bool
  | 0, _ => none
  | nL2 + 1, v4_L2 => if (decide (v4_L2 < v3)) = true then ((idx p0 v4_L2).bind fun x26 => (if (x26.Site.toList == x5.Site.toList) = true then (if (x26.Path.toList == x5.Path.toList) = true then (some false) else (fG p0 v3 x5 k20 nL2 (IntKind.i64.wrap (v4_L2 + 1)))) else (fG p0 v3 x5 k20 nL2 (IntKind.i64.wrap (v4_L2 + 1))))) else (k20 v4_L2)
def eF (p0 : List M.Cached) : Nat → Int → Option Bool
  | 0, _ => none
  | nL1 + 1, v3 => if (decide (v3 < (List.length p0 : Int))) = true then ((idx p0 v3).bind fun x5 => ((cD x5.Site).bind fun x10 => (if (!x10) = true then (some false) else ((cD x5.Path).bind fun x13 => (if (!x13) = true then (some false) else ((qG x5.Response).bind fun x16 => (if (!x16) = true then (some false) else (fG p0 v3 x5 (fun (v4_L2 : Int) => eF p0 nL1 (IntKind.i64.wrap (v3 + 1))) fuel 0)))))))) else (some (decide ((List.length p0 : Int) ≤ 12)))
def lJ (p0 : List M.Cached) : Option Bool :=
  eF p0 fuel 0
def eA (p0 : M.aT) : Nat → Int → Option Bool
  | 0, _ => none
  | nL1 + 1, v3 => if (decide (v3 < (List.length p0.Caches : Int))) = true then ((idx p0.Caches v3).bind fun x6 => ((bH x6.Version 1 1000000000000).bind fun x11 => (if (!x11) = true then (some false) else (if (decide (v3 > 0)) = true then ((idx p0.Caches (IntKind.i64.wrap (v3 - 1))).bind fun x15 => (if (decide (x15.Version ≥ x6.Version)) = true then (some false) else ((lJ x6.Entries).bind fun x21 => (if (!x21) = true then (some false) else (eA p0 nL1 (IntKind.i64.wrap (v3 + 1))))))) else ((lJ x6.Entries).bind fun x24 => (if (!x24) = true then (some false) else (eA p0 nL1 (IntKind.i64.wrap (v3 + 1))))))))) else (some (decide ((List.length p0.Caches : Int) ≤ 4)))
def pG (p0 : M.aT) : Option Bool :=
  eA p0 fuel 0
def hT (p0 : M.Database) (p1 : ByteArray) : Nat → Int → Option Int
  | 0, _ => none
  | nL1 + 1, v5 => if (decide (v5 < (List.length p0.Stores : Int))) = true then ((idx p0.Stores v5).bind fun x7 => (if (x7.Name.toList == p1.toList) = true then (some v5) else (hT p0 p1 nL1 (IntKind.i64.wrap (v5 + 1))))) else (some (-1))
def tA (p0 : M.Database) (p1 : ByteArray) : Option Int :=
  hT p0 p1 fuel 0
def kD (p0 : M.aU) (p1 : ByteArray) : Nat → Int → Option (Int × Bool)
  | 0, _ => none
  | nL1 + 1, v6 => if (decide (v6 < (List.length p0.Fields : Int))) = true then ((idx p0.Fields v6).bind fun x7 => (if (x7.Name.toList == p1.toList) = true then (some (x7.N, true)) else (kD p0 p1 nL1 (IntKind.i64.wrap (v6 + 1))))) else (some (0, false))
def jO (p0 : M.aU) (p1 : ByteArray) : Option (Int × Bool) :=
  kD p0 p1 fuel 0
def aAJ (p0 : M.Item) (p1 : M.Item) (p2 : ByteArray) : Option Bool :=
  (jO p0.aU p2).bind fun x1 => ((jO p1.aU p2).bind fun x3 => (if (decide (x1.1 < x3.1)) = true then (some true) else (if (x1.1 == x3.1) = true then ((kE p0.Key p1.Key).bind fun x7 => (some (decide (x7 < 0)))) else (some false))))
def gK (p1 : ByteArray) (r50000 : List M.Item) (x15 : M.Item) (k24 : Int → Option (List M.Item)) : Nat → Int → Option (List M.Item)
  | 0, _ => none
  | nL2 + 1, v9_L2 => if (decide (v9_L2 > 0)) = true then ((idx r50000 (IntKind.i64.wrap (v9_L2 - 1))).bind fun x34 => ((aAJ x15 x34 p1).bind fun x39 => (if x39 = true then (gK p1 r50000 x15 k24 nL2 (IntKind.i64.wrap (v9_L2 - 1))) else (k24 v9_L2)))) else (k24 v9_L2)
def gF (p0 : M.aG) (p1 : ByteArray) : Nat → Int → List M.Item → Option (List M.Item)
  | 0, _, _ => none
  | nL1 + 1, v6, r50000 => if (decide (v6 < (List.length p0.Items : Int))) = true then ((idx p0.Items v6).bind fun x15 => ((jO x15.aU p1).bind fun x20 => (if (!x20.2) = true then (gF p0 p1 nL1 (IntKind.i64.wrap (v6 + 1)) r50000) else (gK p1 r50000 x15 (fun (v9_L2 : Int) => (aHu r50000 v9_L2).bind fun x79 => ((app 56 ([] : List M.Item) (List.take v9_L2.toNat r50000)).bind fun x81 => ((wK x15).bind fun x93 => ((app 56 (List.take v9_L2.toNat r50000) ([x93])).bind fun x95 => ((app 56 ((List.take v9_L2.toNat r50000) ++ [x93]) (List.drop v9_L2.toNat r50000)).bind fun x107 => (gF p0 p1 nL1 (IntKind.i64.wrap (v6 + 1)) (((List.take v9_L2.toNat r50000) ++ [x93]) ++ (List.drop v9_L2.toNat r50000)))))))) fuel (List.length r50000 : Int))))) else (some r50000)
def yM (p0 : M.aG) (p1 : ByteArray) : Option (List M.Item) :=
  gF p0 p1 fuel 0 ([] : List M.Item)
def iC (p1 : ByteArray) (x1 : (List M.Item)) : Nat → Int → Option (M.Key × M.Key × Bool)
  | 0, _ => none
  | nL1 + 1, v8 => if (decide (v8 < (List.length x1 : Int))) = true then ((idx x1 (IntKind.i64.wrap (v8 - 1))).bind fun x13 => ((jO x13.aU p1).bind fun x18 => ((idx x1 v8).bind fun x20 => ((jO x20.aU p1).bind fun x25 => (if (x18.1 == x25.1) = true then (some (x13.Key, x20.Key, true)) else (iC p1 x1 nL1 (IntKind.i64.wrap (v8 + 1)))))))) else (some ((⟨0, 0, (⟨#[]⟩ : ByteArray)⟩ : M.Key), (⟨0, 0, (⟨#[]⟩ : ByteArray)⟩ : M.Key), false))
def nU (p0 : M.aG) (p1 : ByteArray) : Option (M.Key × M.Key × Bool) :=
  (yM p0 p1).bind fun x1 => (iC p1 x1 fuel 1)
def fH (p0 : M.Database) (v4 : Int) (x26 : M.aA) (k46 : Int → Option Bool) : Nat → Int → Option Bool
  | 0, _ => none
  | nL3 + 1, v9_L3 => if (decide (v9_L3 < v4)) = true then ((idx p0.Unique v9_L3).bind fun x53 => (if ((x53.aG.toList == x26.aG.toList) && (x53.Field.toList == x26.Field.toList)) = true then (some false) else (fH p0 v4 x26 k46 nL3 (IntKind.i64.wrap (v9_L3 + 1))))) else (k46 v9_L3)
def eH (p0 : M.Database) : Nat → Int → Option Bool
  | 0, _ => none
  | nL2 + 1, v4 => if (decide (v4 < (List.length p0.Unique : Int))) = true then ((idx p0.Unique v4).bind fun x26 => ((tA p0 x26.aG).bind fun x31 => (if (decide (x31 < 0)) = true then (some false) else ((cD x26.Field).bind fun x34 => (if (!x34) = true then (some false) else ((idx p0.Stores x31).bind fun x37 => ((nU x37 x26.Field).bind fun x42 => (if x42.2.2 = true then (some false) else (fH p0 v4 x26 (fun (v9_L3 : Int) => eH p0 nL2 (IntKind.i64.wrap (v4 + 1))) fuel 0))))))))) else ((cD p0.Name).bind fun x59 => (if x59 = true then ((bH p0.Version 0 1000).bind fun x62 => (if x62 = true then (if (decide ((List.length p0.Stores : Int) ≤ 4)) = true then (some (decide ((List.length p0.Unique : Int) ≤ 4))) else (some false)) else (some false))) else (some false)))
def eJ (p0 : M.Database) : Nat → Int → Option Bool
  | 0, _ => none
  | nL1 + 1, v3 => if (decide (v3 < (List.length p0.Stores : Int))) = true then ((idx p0.Stores v3).bind fun x6 => ((oL x6).bind fun x11 => (if (!x11) = true then (some false) else (if (decide (v3 > 0)) = true then ((idx p0.Stores (IntKind.i64.wrap (v3 - 1))).bind fun x15 => (if (!(Op.bytesLess x15.Name.toList x6.Name.toList)) = true then (some false) else (eJ p0 nL1 (IntKind.i64.wrap (v3 + 1))))) else (eJ p0 nL1 (IntKind.i64.wrap (v3 + 1))))))) else (eH p0 fuel 0)
def pM (p0 : M.Database) : Option Bool :=
  eJ p0 fuel 0
def iH (p0 : M.aV) : Nat → Int → Option Bool
  | 0, _ => none
  | nL1 + 1, v4 => if (decide (v4 < (List.length p0.Writes : Int))) = true then ((idx p0.Writes v4).bind fun x14 => ((iP x14).bind fun x19 => (if (!x19) = true then (some false) else (if (x14.Device != p0.Device) = true then (some false) else (if (x14.Seq != (IntKind.i64.wrap ((IntKind.i64.wrap (p0.Next - (List.length p0.Writes : Int))) + v4))) = true then (some false) else (iH p0 nL1 (IntKind.i64.wrap (v4 + 1)))))))) else (some true)
def wG (p0 : M.aV) : Option Bool :=
  (bH p0.Device 1 1000000).bind fun x1 => (if (!x1) = true then (some false) else ((bH p0.Next 1 1000000).bind fun x4 => (if (!x4) = true then (some false) else (if (decide ((List.length p0.Writes : Int) > 20)) = true then (some false) else (iH p0 fuel 0)))))
def sQ (p0 : M.aC) : Option Bool :=
  (oL p0.Base).bind fun x1 => (if x1 = true then (if (p0.Base.Name.toList == (⟨#[110, 111, 116, 101, 115]⟩ : ByteArray).toList) = true then ((bH p0.Seen 0 1000000000000).bind fun x5 => (if x5 = true then ((wG p0.Sync.aV).bind fun x8 => (some x8)) else (some false))) else (some false)) else (some false))
def pJ (p0 : M.Response) (p1 : Bool) : Option Int :=
  if p1 = true then (some 76) else (some (IntKind.i64.wrap (16 + (List.length p0.Body : Int))))
def gQ (p0 : M.aT) (v4 : Int) (k8 : Int → Int → Option Int) : Nat → Int → Int → Option Int
  | 0, _, _ => none
  | nL2 + 1, v3_L2, v5_L2 => (idx p0.Caches v4).bind fun x15 => (if (decide (v5_L2 < (List.length x15.Entries : Int))) = true then ((idx x15.Entries v5_L2).bind fun x21 => ((pJ x21.Response (x21.Response.Type_ == 3)).bind fun x26 => (gQ p0 v4 k8 nL2 (IntKind.i64.wrap (v3_L2 + x26)) (IntKind.i64.wrap (v5_L2 + 1))))) else (k8 v3_L2 v5_L2))
def eI (p0 : M.aT) : Nat → Int → Int → Option Int
  | 0, _, _ => none
  | nL1 + 1, v3, v4 => if (decide (v4 < (List.length p0.Caches : Int))) = true then (gQ p0 v4 (fun (v3_L2 : Int) (v5_L2 : Int) => eI p0 nL1 v3_L2 (IntKind.i64.wrap (v4 + 1))) fuel v3 0) else (some v3)
def oU (p0 : M.aT) : Option Int :=
  eI p0 fuel 0 0
def bX (p0 : M.Key) : Nat → Int → List Int → Option (List Int)
  | 0, _, _ => none
  | nL1 + 1, v4, r12 => if (decide (v4 ≥ 0)) = true then (if (p0.Kind != 2) = true then (if (decide (0 ≤ (IntKind.i64.wrap (8 * v4)))) = true then ((app 1 r12 ([(IntKind.u8.wrap (IntKind.i64.wrap (BitVec.ofInt (IntKind.i64.bits) (Int.fdiv (IntKind.i64.wrap (p0.N + 1000000000000)) (2 ^ (min (IntKind.i64.wrap (8 * v4)).toNat IntKind.i64.bits))) &&& BitVec.ofInt (IntKind.i64.bits) 255).toNat))])).bind fun x18 => (bX p0 nL1 (IntKind.i64.wrap (v4 - 1)) (r12 ++ [(IntKind.u8.wrap (IntKind.i64.wrap (BitVec.ofInt (IntKind.i64.bits) (Int.fdiv (IntKind.i64.wrap (p0.N + 1000000000000)) (2 ^ (min (IntKind.i64.wrap (8 * v4)).toNat IntKind.i64.bits))) &&& BitVec.ofInt (IntKind.i64.bits) 255).toNat))]))) else none) else ((app 1 r12 (kU p0.Text)).bind fun x26 => (some (r12 ++ (kU p0.Text))))) else ((app 1 r12 (kU p0.Text)).bind fun x28 => (some (r12 ++ (kU p0.Text))))
def tI (p0 : M.Key) : Option (List Int) :=
  (nD p0).bind fun x1 => (if (!x1) = true then (some ([] : List Int)) else (bX p0 fuel 5 ([(IntKind.u8.wrap p0.Kind)])))
def dH  : Nat → Int → List Int → Option (List Int)
  | 0, _, _ => none
  | nL1 + 1, v1, r6 => if (decide (v1 > 127)) = true then ((app 1 r6 ([(IntKind.u8.wrap (IntKind.i64.wrap (BitVec.ofInt (IntKind.i64.bits) (IntKind.i64.wrap (BitVec.ofInt (IntKind.i64.bits) v1 &&& BitVec.ofInt (IntKind.i64.bits) 127).toNat) ||| BitVec.ofInt (IntKind.i64.bits) 128).toNat))])).bind fun x15 => (dH nL1 (Int.fdiv v1 (2 ^ (min (7 : Int).toNat IntKind.i64.bits))) (r6 ++ [(IntKind.u8.wrap (IntKind.i64.wrap (BitVec.ofInt (IntKind.i64.bits) (IntKind.i64.wrap (BitVec.ofInt (IntKind.i64.bits) v1 &&& BitVec.ofInt (IntKind.i64.bits) 127).toNat) ||| BitVec.ofInt (IntKind.i64.bits) 128).toNat))]))) else ((app 1 r6 ([(IntKind.u8.wrap v1)])).bind fun x21 => (some (r6 ++ [(IntKind.u8.wrap v1)])))
def gP (p0 : List Int) (p1 : Int) : Option (List Int) :=
  (app 1 ([] : List Int) p0).bind fun x1 => ((bH p1 0 1000000000000).bind fun x7 => (if (!x7) = true then (some p0) else (dH fuel p1 p0)))
def nG (p0 : List Int) (p1 : List Int) : Option (List Int) :=
  (gP p0 (List.length p1 : Int)).bind fun x1 => ((app 1 x1 p1).bind fun x3 => (some (x1 ++ p1)))
def fM (p0 : M.aU) : Nat → Int → List Int → Option (List Int)
  | 0, _, _ => none
  | nL1 + 1, v4, r50000 => if (decide (v4 < (List.length p0.Fields : Int))) = true then ((idx p0.Fields v4).bind fun x18 => ((nG r50000 (kU x18.Name)).bind fun x23 => ((gP x23 x18.N).bind fun x25 => (fM p0 nL1 (IntKind.i64.wrap (v4 + 1)) x25)))) else (some r50000)
def mB (p0 : M.aU) : Option (List Int) :=
  (qA p0).bind fun x1 => (if (!x1) = true then (some ([] : List Int)) else ((gP ([] : List Int) (List.length p0.Fields : Int)).bind fun x4 => (fM p0 fuel 0 x4)))
def hJ (p0 : M.aG) : Nat → Int → Int → Option Int
  | 0, _, _ => none
  | nL1 + 1, v3, v4 => if (decide (v4 < (List.length p0.Items : Int))) = true then ((idx p0.Items v4).bind fun x7 => ((tI x7.Key).bind fun x12 => ((mB x7.aU).bind fun x14 => (hJ p0 nL1 (IntKind.i64.wrap ((IntKind.i64.wrap (v3 + (List.length x12 : Int))) + (List.length x14 : Int))) (IntKind.i64.wrap (v4 + 1)))))) else (some v3)
def mM (p0 : M.aG) : Option Int :=
  hJ p0 fuel 0 0
def fK (p0 : M.Database) : Nat → Int → Int → Option Int
  | 0, _, _ => none
  | nL1 + 1, v3, v4 => if (decide (v4 < (List.length p0.Stores : Int))) = true then ((idx p0.Stores v4).bind fun x7 => ((mM x7).bind fun x12 => (fK p0 nL1 (IntKind.i64.wrap (v3 + x12)) (IntKind.i64.wrap (v4 + 1))))) else (some v3)
def lW (p0 : M.Database) : Option Int :=
  fK p0 fuel 0 0
def aAN (p0 : M.bG) : Option Int :=
  (lW p0.Base).bind fun x1 => (some (IntKind.i64.wrap (x1 + (List.length p0.Log : Int))))
def yB (p0 : M.aE) : Option Int :=
  (oU p0.Caches).bind fun x1 => ((aAN p0.bG).bind fun x3 => ((mM p0.aC.Base).bind fun x5 => (some (IntKind.i64.wrap ((IntKind.i64.wrap ((IntKind.i64.wrap (x1 + x3)) + x5)) + (IntKind.i64.wrap (40 * (List.length p0.aC.Sync.aV.Writes : Int))))))))
def pL (p0 : M.aE) : Option Bool :=
  (cD p0.Site).bind fun x1 => (if x1 = true then ((cD p0.Top).bind fun x4 => (if x4 = true then ((iE p0.Registration).bind fun x7 => (if x7 = true then (if (p0.Registration.Site.toList == p0.Site.toList) = true then ((pG p0.Caches).bind fun x11 => (if x11 = true then ((pM p0.bG.Base).bind fun x14 => (if x14 = true then ((sQ p0.aC).bind fun x17 => (if x17 = true then ((bH p0.LastUsed 0 1000000000000).bind fun x20 => (if x20 = true then ((yB p0).bind fun x23 => (some (decide (x23 ≤ 2500)))) else (some false))) else (some false))) else (some false))) else (some false))) else (some false)) else (some false))) else (some false))) else (some false))
def xV (p0 : M.aE) (p1 : ByteArray) (p2 : ByteArray) : Option Bool :=
  if (Op.bytesLess p0.Site.toList p1.toList) = true then (some true) else (if (p0.Site.toList == p1.toList) = true then (some (Op.bytesLess p0.Top.toList p2.toList)) else (some false))
def eZ (p0 : M.aK) : Nat → Int → Option Bool
  | 0, _ => none
  | nL1 + 1, v3 => if (decide (v3 < (List.length p0.Buckets : Int))) = true then ((idx p0.Buckets v3).bind fun x6 => ((pL x6).bind fun x11 => (if (!x11) = true then (some false) else (if (decide (v3 > 0)) = true then ((idx p0.Buckets (IntKind.i64.wrap (v3 - 1))).bind fun x15 => ((xV x15 x6.Site x6.Top).bind fun x20 => (if (!x20) = true then (some false) else (eZ p0 nL1 (IntKind.i64.wrap (v3 + 1)))))) else (eZ p0 nL1 (IntKind.i64.wrap (v3 + 1))))))) else (some (decide ((List.length p0.Buckets : Int) ≤ 9)))
def mP (p0 : M.aK) : Option Bool :=
  eZ p0 fuel 0
def cX (p0 : ByteArray) : Nat → Int → Option Bool
  | 0, _ => none
  | nL1 + 1, v3 => if (decide (v3 < (p0.size : Int))) = true then ((aMZ p0 v3).bind fun x5 => (if (decide ((x5.toNat : Int) < 97)) = true then (if ((x5.toNat : Int) != 47) = true then (some false) else (cX p0 nL1 (IntKind.i64.wrap (v3 + 1)))) else (if (decide ((x5.toNat : Int) > 122)) = true then (if ((x5.toNat : Int) != 47) = true then (some false) else (cX p0 nL1 (IntKind.i64.wrap (v3 + 1)))) else (cX p0 nL1 (IntKind.i64.wrap (v3 + 1)))))) else ((bH (p0.size : Int) 1 30).bind fun x13 => (some x13))
def pX (p0 : ByteArray) : Option Bool :=
  cX p0 fuel 0
def bT (p0 : M.aQ) (v3 : Int) (x6 : M.bZ) (k18 : Int → Option Bool) : Nat → Int → Option Bool
  | 0, _ => none
  | nL2 + 1, v5_L2 => if (decide (v5_L2 < v3)) = true then ((idx p0.Locks v5_L2).bind fun x27 => (if x6.Held = true then (if (x27.Name.toList == x6.Name.toList) = true then (if (!x27.Held) = true then (some false) else (if (!x6.Shared) = true then (some false) else (if (!x27.Shared) = true then (some false) else (bT p0 v3 x6 k18 nL2 (IntKind.i64.wrap (v5_L2 + 1)))))) else (bT p0 v3 x6 k18 nL2 (IntKind.i64.wrap (v5_L2 + 1)))) else (bT p0 v3 x6 k18 nL2 (IntKind.i64.wrap (v5_L2 + 1))))) else (k18 v5_L2)
def eT (p0 : M.aQ) : Nat → Int → Option Bool
  | 0, _ => none
  | nL1 + 1, v3 => if (decide (v3 < (List.length p0.Locks : Int))) = true then ((idx p0.Locks v3).bind fun x6 => ((pX x6.Name).bind fun x11 => (if (!x11) = true then (some false) else ((bH x6.bF 1 1000000000000).bind fun x14 => (if (!x14) = true then (some false) else (bT p0 v3 x6 (fun (v5_L2 : Int) => eT p0 nL1 (IntKind.i64.wrap (v3 + 1))) fuel 0)))))) else (some (decide ((List.length p0.Locks : Int) ≤ 12)))
def nC (p0 : M.aQ) : Option Bool :=
  eT p0 fuel 0
def dE (p0 : M.World) : Nat → Int → Option Bool
  | 0, _ => none
  | nL2 + 1, v4 => if (decide (v4 < (List.length p0.Pages : Int))) = true then ((idx p0.Pages v4).bind fun x38 => ((aAH x38).bind fun x43 => (if (!x43) = true then (some false) else (if (decide (x38.Id ≥ p0.NextPage)) = true then (some false) else (if (decide (v4 > 0)) = true then ((idx p0.Pages (IntKind.i64.wrap (v4 - 1))).bind fun x48 => (if (decide (x48.Id ≥ x38.Id)) = true then (some false) else ((lH p0.aK x38.Site x38.Top).bind fun x54 => (if (decide (x54 < 0)) = true then (some false) else (dE p0 nL2 (IntKind.i64.wrap (v4 + 1))))))) else ((lH p0.aK x38.Site x38.Top).bind fun x57 => (if (decide (x57 < 0)) = true then (some false) else (dE p0 nL2 (IntKind.i64.wrap (v4 + 1)))))))))) else ((bH p0.Now 0 999999990000).bind fun x60 => (if x60 = true then ((bH p0.Device 1 1000000).bind fun x63 => (if x63 = true then ((mP p0.aK).bind fun x66 => (if x66 = true then ((bH p0.NextPage 1 1000000000000).bind fun x69 => (if x69 = true then ((nC p0.Locks).bind fun x72 => (some x72)) else (some false))) else (some false))) else (some false))) else (some false)))
def hY (p0 : M.World) : Nat → Int → Option Bool
  | 0, _ => none
  | nL1 + 1, v3 => if (decide (v3 < 3)) = true then ((idx p0.Sites v3).bind fun x9 => ((zQ x9).bind fun x14 => (if (!x14) = true then (some false) else ((aAD).bind fun x17 => ((idx x17 v3).bind fun x19 => (if (!(x9.Name.toList == x19.toList)) = true then (some false) else ((idx p0.Servers v3).bind fun x25 => ((wI x25).bind fun x30 => (if (!x30) = true then (some false) else (hY p0 nL1 (IntKind.i64.wrap (v3 + 1)))))))))))) else (dE p0 fuel 0)
def xJ (p0 : M.World) : Option Bool :=
  if ((List.length p0.Sites : Int) != 3) = true then (some false) else (if ((List.length p0.Servers : Int) != 3) = true then (some false) else (if (decide ((List.length p0.Pages : Int) > 6)) = true then (some false) else (hY p0 fuel 0)))
def jH (p0 : List M.bF) (p1 : Int) : Nat → Int → Option Int
  | 0, _ => none
  | nL1 + 1, v5 => if (decide (v5 < (List.length p0 : Int))) = true then ((idx p0 v5).bind fun x6 => (if (x6.Id == p1) = true then (some v5) else (jH p0 p1 nL1 (IntKind.i64.wrap (v5 + 1))))) else (some (-1))
def tS (p0 : List M.bF) (p1 : Int) : Option Int :=
  jH p0 p1 fuel 0
def rZ (p0 : M.World) (p1 : Int) : Option Int :=
  (tS p0.Pages p1).bind fun x1 => (some x1)
def yC (p0 : M.bF) (p1 : M.bF) : Option Bool :=
  if (p0.Site.toList == p1.Site.toList) = true then (if (p0.Top.toList == p1.Top.toList) = true then (some (p0.Id != p1.Id)) else (some false)) else (some false)
def gS (p0 : M.Channel) (p1 : Int) : Nat → Int → List M.cN → Option (List M.cN)
  | 0, _, _ => none
  | nL1 + 1, v6, r7 => if (decide (v6 < (List.length p0.Mails : Int))) = true then ((idx p0.Mails v6).bind fun x15 => (if (x15.To == p1) = true then ((app 24 r7 ([x15])).bind fun x21 => (gS p0 p1 nL1 (IntKind.i64.wrap (v6 + 1)) (r7 ++ [x15]))) else (gS p0 p1 nL1 (IntKind.i64.wrap (v6 + 1)) r7))) else (some r7)
def vU (p0 : M.Channel) (p1 : Int) : Option (List M.cN) :=
  gS p0 p1 fuel 0 ([] : List M.cN)
def dS (p1 : List M.bF) (p2 : Int) (p3 : Int) (x3 : Int) : Nat → Int → Int → List M.cN → Option (M.Channel × Int)
  | 0, _, _, _ => none
  | nL1 + 1, v12, v13, r15 => if (decide (v13 < (List.length p1 : Int))) = true then ((idx p1 x3).bind fun x19 => ((idx p1 v13).bind fun x24 => ((yC x19 x24).bind fun x29 => (if x29 = true then ((vU (⟨r15⟩ : M.Channel) x24.Id).bind fun x32 => (if (decide ((List.length x32 : Int) < 5)) = true then ((app 24 r15 ([(⟨x24.Id, p2, p3⟩ : M.cN)])).bind fun x35 => (dS p1 p2 p3 x3 nL1 (IntKind.i64.wrap (v12 + 1)) (IntKind.i64.wrap (v13 + 1)) (r15 ++ [(⟨x24.Id, p2, p3⟩ : M.cN)]))) else (dS p1 p2 p3 x3 nL1 v12 (IntKind.i64.wrap (v13 + 1)) r15))) else (dS p1 p2 p3 x3 nL1 v12 (IntKind.i64.wrap (v13 + 1)) r15))))) else (some ((⟨r15⟩ : M.Channel), v12))
def tJ (p0 : M.Channel) (p1 : List M.bF) (p2 : Int) (p3 : Int) : Option (M.Channel × Int) :=
  (jK p0).bind fun x1 => ((tS p1 p2).bind fun x3 => (if (decide (x3 < 0)) = true then (some (x1, 0)) else (dS p1 p2 p3 x3 fuel 0 0 x1.Mails)))
def vD (p0 : M.World) (p1 : Int) (p2 : Int) : Option (M.World × Int) :=
  (yX p0).bind fun x1 => ((xJ p0).bind fun x3 => (if (!x3) = true then (some (x1, 0)) else ((rZ p0 p1).bind fun x6 => (if (decide (x6 < 0)) = true then (some (x1, 0)) else ((tJ p0.Channel p0.Pages p1 p2).bind fun x9 => (some ((⟨x1.Now, x1.Online, x1.Device, x1.aK, x1.Pages, x1.NextPage, x1.Locks, x9.1, x1.Sites, x1.Servers⟩ : M.World), x9.2)))))))
def iR (p0 : List Int) : Option (List Int) :=
  (app 1 ([] : List Int) p0).bind fun x1 => (some p0)
def lT (p0 : M.Response) : Option M.Response :=
  (iR p0.Body).bind fun x1 => (some (⟨p0.Type_, p0.Status, p0.Version, x1, p0.Shares⟩ : M.Response))
def fN (x11 : M.Cache) (k17 : Int → List M.Cached → Option M.aT) : Nat → Int → List M.Cached → Option M.aT
  | 0, _, _ => none
  | nL2 + 1, v23_L2, r50000_L2 => if (decide (v23_L2 < (List.length x11.Entries : Int))) = true then ((idx x11.Entries v23_L2).bind fun x34 => ((lT x34.Response).bind fun x39 => ((app 88 r50000_L2 ([(⟨x34.Site, x34.Path, x39⟩ : M.Cached)])).bind fun x41 => (fN x11 k17 nL2 (IntKind.i64.wrap (v23_L2 + 1)) (r50000_L2 ++ [(⟨x34.Site, x34.Path, x39⟩ : M.Cached)]))))) else (k17 v23_L2 r50000_L2)
def dY (p0 : M.aT) : Nat → Int → List M.Cache → Option M.aT
  | 0, _, _ => none
  | nL1 + 1, v13, r50100 => if (decide (v13 < (List.length p0.Caches : Int))) = true then ((idx p0.Caches v13).bind fun x11 => (fN x11 (fun (v23_L2 : Int) (r50000_L2 : List M.Cached) => (app 32 r50100 ([(⟨x11.Version, r50000_L2⟩ : M.Cache)])).bind fun x58 => (dY p0 nL1 (IntKind.i64.wrap (v13 + 1)) (r50100 ++ [(⟨x11.Version, r50000_L2⟩ : M.Cache)]))) fuel 0 ([] : List M.Cached))) else (some (⟨r50100⟩ : M.aT))
def mC (p0 : M.aT) : Option M.aT :=
  dY p0 fuel 0 ([] : List M.Cache)
def pR (p0 : M.aU) : Option M.aU :=
  (app 24 ([] : List M.Field) p0.Fields).bind fun x1 => (some p0)
def pU (p0 : M.Item) : Option M.Item :=
  (pR p0.aU).bind fun x1 => (some (⟨p0.Key, x1⟩ : M.Item))
def hM (p0 : M.aG) : Nat → Int → List M.Item → Option M.aG
  | 0, _, _ => none
  | nL1 + 1, v14, r50000 => if (decide (v14 < (List.length p0.Items : Int))) = true then ((idx p0.Items v14).bind fun x11 => ((pU x11).bind fun x16 => ((app 56 r50000 ([x16])).bind fun x18 => (hM p0 nL1 (IntKind.i64.wrap (v14 + 1)) (r50000 ++ [x16]))))) else (some (⟨p0.Name, r50000, p0.Auto⟩ : M.aG))
def kO (p0 : M.aG) : Option M.aG :=
  hM p0 fuel 0 ([] : List M.Item)
def fL (p0 : M.Database) : Nat → Int → List M.aG → Option M.Database
  | 0, _, _ => none
  | nL1 + 1, v18, r50000 => if (decide (v18 < (List.length p0.Stores : Int))) = true then ((idx p0.Stores v18).bind fun x22 => ((kO x22).bind fun x27 => ((app 48 r50000 ([x27])).bind fun x29 => (fL p0 nL1 (IntKind.i64.wrap (v18 + 1)) (r50000 ++ [x27]))))) else (some (⟨p0.Name, p0.Version, r50000, p0.Unique⟩ : M.Database))
def lV (p0 : M.Database) : Option M.Database :=
  (app 32 ([] : List M.aA) p0.Unique).bind fun x1 => (fL p0 fuel 0 ([] : List M.aG))
def vK (p0 : M.bG) : Option M.bG :=
  (lV p0.Base).bind fun x1 => ((iR p0.Log).bind fun x3 => (some (⟨x1, x3, p0.Count⟩ : M.bG)))
def qL (p0 : M.aV) : Option M.aV :=
  (app 72 ([] : List M.aW) p0.Writes).bind fun x1 => (some p0)
def uS (p0 : M.Sync) : Option M.Sync :=
  (qL p0.aV).bind fun x1 => (some (⟨x1, p0.Tries, p0.WaitUntil⟩ : M.Sync))
def nQ (p0 : M.aC) : Option M.aC :=
  (kO p0.Base).bind fun x1 => ((uS p0.Sync).bind fun x3 => (some (⟨x1, p0.Seen, x3⟩ : M.aC)))
def oY (p0 : M.aE) : Option M.aE :=
  (mC p0.Caches).bind fun x1 => ((vK p0.bG).bind fun x3 => ((nQ p0.aC).bind fun x5 => (some (⟨p0.Site, p0.Top, p0.Registration, x1, x3, x5, p0.LastUsed, p0.Persistent⟩ : M.aE))))
def fX (p0 : M.aK) : Nat → Int → List M.aE → Option M.aK
  | 0, _, _ => none
  | nL1 + 1, v10, r50000 => if (decide (v10 < (List.length p0.Buckets : Int))) = true then ((idx p0.Buckets v10).bind fun x11 => ((oY x11).bind fun x16 => ((app 328 r50000 ([x16])).bind fun x18 => (fX p0 nL1 (IntKind.i64.wrap (v10 + 1)) (r50000 ++ [x16]))))) else (some (⟨r50000⟩ : M.aK))
def nO (p0 : M.aK) : Option M.aK :=
  fX p0 fuel 0 ([] : List M.aE)
def nS (p0 : M.Machine) : Option M.Machine :=
  (app 40 ([] : List M.Instr) p0.Script).bind fun x1 => ((app 8 ([] : List Int) p0.Regs).bind fun x11 => (some p0))
def wJ (p0 : M.bF) : Option M.bF :=
  (app 24 ([] : List M.aM) p0.aM).bind fun x1 => ((nS p0.Machine).bind fun x9 => (some (⟨p0.Id, p0.Site, p0.Top, p0.Version, p0.aM, x9⟩ : M.bF)))
def hO (p0 : List M.bF) : Nat → Int → List M.bF → Option (List M.bF)
  | 0, _, _ => none
  | nL1 + 1, v9, r6 => if (decide (v9 < (List.length p0 : Int))) = true then ((idx p0 v9).bind fun x12 => ((wJ x12).bind fun x17 => ((app 144 r6 ([x17])).bind fun x19 => (hO p0 nL1 (IntKind.i64.wrap (v9 + 1)) (r6 ++ [x17]))))) else (some r6)
def sH (p0 : List M.bF) : Option (List M.bF) :=
  hO p0 fuel 0 ([] : List M.bF)
def tK (p0 : M.aQ) : Option M.aQ :=
  (app 32 ([] : List M.bZ) p0.Locks).bind fun x1 => (some p0)
def gV (p0 : M.Channel) : Option M.Channel :=
  (app 24 ([] : List M.cN) p0.Mails).bind fun x1 => (some p0)
def vY (p0 : M.Site) : Option M.Site :=
  (app 16 ([] : List ByteArray) p0.Files).bind fun x1 => (some p0)
def pK (p0 : M.Server) : Option M.Server :=
  (kO p0.aG).bind fun x1 => ((app 16 ([] : List M.aH) p0.aH).bind fun x3 => ((app 72 ([] : List M.aW) p0.Changes).bind fun x5 => (some (⟨x1, p0.aH, p0.Changes⟩ : M.Server))))
def eX (p0 : M.World) (x1 : M.aK) (x3 : (List M.bF)) (x5 : M.aQ) (x7 : M.Channel) (r50000 : List M.Site) : Nat → Int → List M.Server → Option M.World
  | 0, _, _ => none
  | nL2 + 1, v45, r50100 => if (decide (v45 < (List.length p0.Servers : Int))) = true then ((idx p0.Servers v45).bind fun x64 => ((pK x64).bind fun x69 => ((app 96 r50100 ([x69])).bind fun x71 => (eX p0 x1 x3 x5 x7 r50000 nL2 (IntKind.i64.wrap (v45 + 1)) (r50100 ++ [x69]))))) else (some (⟨p0.Now, p0.Online, p0.Device, x1, x3, p0.NextPage, x5, x7, r50000, r50100⟩ : M.World))
def fW (p0 : M.World) (x1 : M.aK) (x3 : (List M.bF)) (x5 : M.aQ) (x7 : M.Channel) : Nat → Int → List M.Site → Option M.World
  | 0, _, _ => none
  | nL1 + 1, v29, r50000 => if (decide (v29 < (List.length p0.Sites : Int))) = true then ((idx p0.Sites v29).bind fun x25 => ((vY x25).bind fun x30 => ((app 56 r50000 ([x30])).bind fun x32 => (fW p0 x1 x3 x5 x7 nL1 (IntKind.i64.wrap (v29 + 1)) (r50000 ++ [x30]))))) else (eX p0 x1 x3 x5 x7 r50000 fuel 0 ([] : List M.Server))
def rX (p0 : M.World) : Option M.World :=
  (nO p0.aK).bind fun x1 => ((sH p0.Pages).bind fun x3 => ((tK p0.Locks).bind fun x5 => ((gV p0.Channel).bind fun x7 => (fW p0 x1 x3 x5 x7 fuel 0 ([] : List M.Site)))))
def aZ (p0 : Int) (p1 : Int) (p2 : Int) : Option Bool :=
  if (decide (p1 ≤ p0)) = true then (some (decide (p0 ≤ p2))) else (some false)
def gA (p0 : ByteArray) (p1 : Int) (p2 : Bool) : Nat → Int → Option Bool
  | 0, _ => none
  | nL1 + 1, v7 => if (decide (v7 < (p0.size : Int))) = true then ((aMZ p0 v7).bind fun x7 => (if (decide ((x7.toNat : Int) ≥ 97)) = true then (if (decide ((x7.toNat : Int) ≤ 122)) = true then (gA p0 p1 p2 nL1 (IntKind.i64.wrap (v7 + 1))) else (if p2 = true then (if (!((x7.toNat : Int) == 47)) = true then (some false) else (gA p0 p1 p2 nL1 (IntKind.i64.wrap (v7 + 1)))) else (some false))) else (if p2 = true then (if (!((x7.toNat : Int) == 47)) = true then (some false) else (gA p0 p1 p2 nL1 (IntKind.i64.wrap (v7 + 1)))) else (some false)))) else ((aZ (p0.size : Int) 1 p1).bind fun x17 => (some x17))
def wL (p0 : ByteArray) (p1 : Int) (p2 : Bool) : Option Bool :=
  gA p0 p1 p2 fuel 0
def bR (p0 : ByteArray) : Option Bool :=
  (wL p0 8 false).bind fun x1 => (some x1)
def cR (p0 : M.Registration) : Nat → Int → Int → Option Bool
  | 0, _, _ => none
  | nL1 + 1, v3, v14 => if (decide (v14 < ((3 : Nat) : Int))) = true then ((idx ([p0.Active, p0.Waiting, p0.Installing]) v14).bind fun x18 => ((aZ x18 0 1000000000000).bind fun x23 => (if (!x23) = true then (some false) else (if (x18 != 0) = true then (if (decide (x18 ≤ v3)) = true then (some false) else (cR p0 nL1 (if x18 > v3 then x18 else v3) (IntKind.i64.wrap (v14 + 1)))) else (cR p0 nL1 (if x18 > v3 then x18 else v3) (IntKind.i64.wrap (v14 + 1))))))) else ((bR p0.Site).bind fun x28 => (some x28))
def nL (p0 : M.Registration) : Option Bool :=
  cR p0 fuel 0 0
def rN (p0 : M.Cached) (c0 : ByteArray) (c1 : ByteArray) : Option Bool :=
  if (p0.Site.toList == c0.toList) = true then (some (p0.Path.toList == c1.toList)) else (some false)
def bP (p0 : List M.Cached) (p1 : M.Cached → Option Bool) : Nat → Int → Option Int
  | 0, _ => none
  | nL1 + 1, v8 => if (decide (v8 < (List.length p0 : Int))) = true then ((idx p0 v8).bind fun x7 => ((p1 x7).bind fun x12 => (if x12 = true then (some v8) else (bP p0 p1 nL1 (IntKind.i64.wrap (v8 + 1)))))) else (some (-1))
def gZ (p0 : List M.Cached) (p1 : M.Cached → Option Bool) : Option Int :=
  bP p0 p1 fuel 0
def tW (p0 : M.Cache) (p1 : ByteArray) (p2 : ByteArray) : Option Int :=
  (gZ p0.Entries (fun z0 => rN z0 p1 p2)).bind fun x1 => (some x1)
def lB (p0 : M.Response) : Option Bool :=
  (aZ p0.Type_ 1 4).bind fun x1 => (if x1 = true then ((aZ p0.Status 0 999).bind fun x4 => (if x4 = true then ((aZ p0.Version 0 1000000000000).bind fun x7 => (if x7 = true then (some (decide ((List.length p0.Body : Int) ≤ 60))) else (some false))) else (some false))) else (some false))
def eN (x8 : M.Cache) (k25 : Int → Option Bool) : Nat → Int → Option Bool
  | 0, _ => none
  | nL2 + 1, v44_L2 => if (decide (v44_L2 < (List.length x8.Entries : Int))) = true then ((idx x8.Entries v44_L2).bind fun x38 => ((bR x38.Site).bind fun x43 => (if (!x43) = true then (some false) else ((bR x38.Path).bind fun x46 => (if (!x46) = true then (some false) else ((tW x8 x38.Site x38.Path).bind fun x49 => (if (x49 != v44_L2) = true then (some false) else ((lB x38.Response).bind fun x52 => (if (!x52) = true then (some false) else (eN x8 k25 nL2 (IntKind.i64.wrap (v44_L2 + 1)))))))))))) else (k25 v44_L2)
def eB (x8 : M.Cache) (k57 : Int → Option Bool) : Nat → Int → Option Bool
  | 0, _ => none
  | nL3 + 1, v44_L3 => if (decide (v44_L3 < (List.length x8.Entries : Int))) = true then ((idx x8.Entries v44_L3).bind fun x70 => ((bR x70.Site).bind fun x75 => (if (!x75) = true then (some false) else ((bR x70.Path).bind fun x78 => (if (!x78) = true then (some false) else ((tW x8 x70.Site x70.Path).bind fun x81 => (if (x81 != v44_L3) = true then (some false) else ((lB x70.Response).bind fun x84 => (if (!x84) = true then (some false) else (eB x8 k57 nL3 (IntKind.i64.wrap (v44_L3 + 1)))))))))))) else (k57 v44_L3)
def eD (p0 : M.aT) : Nat → Int → Option Bool
  | 0, _ => none
  | nL1 + 1, v10 => if (decide (v10 < (List.length p0.Caches : Int))) = true then ((idx p0.Caches v10).bind fun x8 => ((aZ x8.Version 1 1000000000000).bind fun x13 => (if (!x13) = true then (some false) else (if (decide (v10 > 0)) = true then ((idx p0.Caches (IntKind.i64.wrap (v10 - 1))).bind fun x17 => (if (decide (x8.Version ≤ x17.Version)) = true then (some false) else (if (decide ((List.length x8.Entries : Int) > 12)) = true then (some false) else (eN x8 (fun (v44_L2 : Int) => eD p0 nL1 (IntKind.i64.wrap (v10 + 1))) fuel 0)))) else (if (decide ((List.length x8.Entries : Int) > 12)) = true then (some false) else (eB x8 (fun (v44_L3 : Int) => eD p0 nL1 (IntKind.i64.wrap (v10 + 1))) fuel 0)))))) else (some (decide ((List.length p0.Caches : Int) ≤ 4)))
def oS (p0 : M.aT) : Option Bool :=
  eD p0 fuel 0
def dW (p0 : ByteArray) : Nat → Int → Option Bool
  | 0, _ => none
  | nL1 + 1, v3 => if (decide (v3 < (p0.size : Int))) = true then ((aMZ p0 v3).bind fun x5 => (if (decide ((x5.toNat : Int) ≥ 97)) = true then (if (decide ((x5.toNat : Int) ≤ 122)) = true then (dW p0 nL1 (IntKind.i64.wrap (v3 + 1))) else (if (decide ((x5.toNat : Int) ≥ 48)) = true then (if (!(decide ((x5.toNat : Int) ≤ 57))) = true then (some false) else (dW p0 nL1 (IntKind.i64.wrap (v3 + 1)))) else (some false))) else (if (decide ((x5.toNat : Int) ≥ 48)) = true then (if (!(decide ((x5.toNat : Int) ≤ 57))) = true then (some false) else (dW p0 nL1 (IntKind.i64.wrap (v3 + 1)))) else (some false)))) else (some (decide ((p0.size : Int) ≤ 12)))
def rH (p0 : ByteArray) : Option Bool :=
  dW p0 fuel 0
def nK (p0 : M.Key) : Option Bool :=
  (aZ p0.Kind 1 3).bind fun x1 => (if (!x1) = true then (some false) else ((aZ p0.N (-1000000000000) 1000000000000).bind fun x4 => (if (!x4) = true then (some false) else ((rH p0.Text).bind fun x7 => (if (!x7) = true then (some false) else (if (p0.Kind == 2) = true then (if (!(p0.N != 0)) = true then (if (p0.Kind == 1) = true then (some (!(!(p0.Text.toList == (⟨#[]⟩ : ByteArray).toList)))) else (some true)) else (some false)) else (if (p0.Kind == 1) = true then (some (!(!(p0.Text.toList == (⟨#[]⟩ : ByteArray).toList)))) else (some true))))))))
def fS (p0 : M.aU) : Nat → Int → Option Bool
  | 0, _ => none
  | nL1 + 1, v8 => if (decide (v8 < (List.length p0.Fields : Int))) = true then ((idx p0.Fields v8).bind fun x8 => ((bR x8.Name).bind fun x13 => (if (!x13) = true then (some false) else ((aZ x8.N 0 1000000000).bind fun x16 => (if (!x16) = true then (some false) else (if (decide (v8 > 0)) = true then ((idx p0.Fields (IntKind.i64.wrap (v8 - 1))).bind fun x20 => (if (Op.bytesLess x8.Name.toList x20.Name.toList || x8.Name.toList == x20.Name.toList) = true then (some false) else (fS p0 nL1 (IntKind.i64.wrap (v8 + 1))))) else (fS p0 nL1 (IntKind.i64.wrap (v8 + 1))))))))) else (some (decide ((List.length p0.Fields : Int) ≤ 6)))
def pV (p0 : M.aU) : Option Bool :=
  fS p0 fuel 0
def mZ (p0 : Int) (p1 : Int) : Option Int :=
  if (decide (p0 < p1)) = true then (some (-1)) else (if (decide (p0 > p1)) = true then (some 1) else (some 0))
def iT (p0 : ByteArray) (p1 : ByteArray) : Option Int := some (Lib.compareBytes p0.data.toList p1.data.toList)
def wT (p0 : ByteArray) (p1 : ByteArray) : Option Int :=
  (iT p0 p1).bind fun x1 => (some x1)
def jU (p0 : M.Key) (p1 : M.Key) : Option Int :=
  (nK p0).bind fun x1 => (if (!x1) = true then (some 0) else ((nK p1).bind fun x4 => (if (!x4) = true then (some 0) else ((mZ p0.Kind p1.Kind).bind fun x7 => (if (x7 != 0) = true then (some x7) else ((mZ p0.N p1.N).bind fun x10 => (if (x10 != 0) = true then (some x10) else ((wT p0.Text p1.Text).bind fun x13 => (some x13)))))))))
def gC (p0 : M.aG) : Nat → Int → Option Bool
  | 0, _ => none
  | nL1 + 1, v8 => if (decide (v8 < (List.length p0.Items : Int))) = true then ((idx p0.Items v8).bind fun x8 => ((nK x8.Key).bind fun x13 => (if (!x13) = true then (some false) else ((pV x8.aU).bind fun x16 => (if (!x16) = true then (some false) else (if (decide (v8 > 0)) = true then ((idx p0.Items (IntKind.i64.wrap (v8 - 1))).bind fun x20 => ((jU x20.Key x8.Key).bind fun x25 => (if (decide (x25 ≥ 0)) = true then (some false) else (gC p0 nL1 (IntKind.i64.wrap (v8 + 1)))))) else (gC p0 nL1 (IntKind.i64.wrap (v8 + 1))))))))) else ((bR p0.Name).bind fun x28 => (if x28 = true then (if (decide ((List.length p0.Items : Int) ≤ 16)) = true then ((aZ p0.Auto 0 1000000).bind fun x32 => (some x32)) else (some false)) else (some false)))
def oJ (p0 : M.aG) : Option Bool :=
  gC p0 fuel 0
def nM (p0 : M.aG) (c0 : ByteArray) : Option Bool :=
  some (p0.Name.toList == c0.toList)
def bU (p0 : List M.aG) (p1 : M.aG → Option Bool) : Nat → Int → Option Int
  | 0, _ => none
  | nL1 + 1, v8 => if (decide (v8 < (List.length p0 : Int))) = true then ((idx p0 v8).bind fun x7 => ((p1 x7).bind fun x12 => (if x12 = true then (some v8) else (bU p0 p1 nL1 (IntKind.i64.wrap (v8 + 1)))))) else (some (-1))
def iF (p0 : List M.aG) (p1 : M.aG → Option Bool) : Option Int :=
  bU p0 p1 fuel 0
def sS (p0 : M.Database) (p1 : ByteArray) : Option Int :=
  (iF p0.Stores (fun z0 => nM z0 p1)).bind fun x1 => (some x1)
def dD (p0 : List M.aA) (p1 : M.aA) : Nat → Int → Option Int
  | 0, _ => none
  | nL1 + 1, v8 => if (decide (v8 < (List.length p0 : Int))) = true then ((idx p0 v8).bind fun x8 => (if ((p1.aG.toList == x8.aG.toList) && (p1.Field.toList == x8.Field.toList)) = true then (some v8) else (dD p0 p1 nL1 (IntKind.i64.wrap (v8 + 1))))) else (some (-1))
def iL (p0 : List M.aA) (p1 : M.aA) : Option Int :=
  dD p0 p1 fuel 0
def gM (p0 : List M.aA) (p1 : M.aA) : Option Bool :=
  (iL p0 p1).bind fun x1 => (some (decide (x1 ≥ 0)))
def sR (p0 : M.Field) (c0 : ByteArray) : Option Bool :=
  some (p0.Name.toList == c0.toList)
def bV (p0 : List M.Field) (p1 : M.Field → Option Bool) : Nat → Int → Option Int
  | 0, _ => none
  | nL1 + 1, v8 => if (decide (v8 < (List.length p0 : Int))) = true then ((idx p0 v8).bind fun x7 => ((p1 x7).bind fun x12 => (if x12 = true then (some v8) else (bV p0 p1 nL1 (IntKind.i64.wrap (v8 + 1)))))) else (some (-1))
def iB (p0 : List M.Field) (p1 : M.Field → Option Bool) : Option Int :=
  bV p0 p1 fuel 0
def aAr (p0 : M.aU) (p1 : ByteArray) : Option Int :=
  (iB p0.Fields (fun z0 => sR z0 p1)).bind fun x1 => (some x1)
def iK (p0 : M.aU) (p1 : ByteArray) : Option (Int × Bool) :=
  (aAr p0 p1).bind fun x1 => (if (decide (x1 < 0)) = true then (some (0, false)) else ((idx p0.Fields x1).bind fun x4 => (some (x4.N, true))))
def nZ (p0 : M.Item) (p1 : M.Item) (p2 : ByteArray) : Option Bool :=
  (iK p0.aU p2).bind fun x1 => ((iK p1.aU p2).bind fun x3 => (if (decide (x1.1 < x3.1)) = true then (some true) else (if (x1.1 == x3.1) = true then ((jU p0.Key p1.Key).bind fun x7 => (some (decide (x7 < 0)))) else (some false))))
def gB (p1 : ByteArray) (r11 : List M.Item) (x15 : M.Item) (k24 : Int → Option (List M.Item)) : Nat → Int → Option (List M.Item)
  | 0, _ => none
  | nL2 + 1, v10_L2 => if (decide (v10_L2 > 0)) = true then ((idx r11 (IntKind.i64.wrap (v10_L2 - 1))).bind fun x36 => ((nZ x15 x36 p1).bind fun x41 => (if x41 = true then (gB p1 r11 x15 k24 nL2 (IntKind.i64.wrap (v10_L2 - 1))) else (k24 v10_L2)))) else (k24 v10_L2)
def gH (p0 : M.aG) (p1 : ByteArray) : Nat → Int → List M.Item → Option (List M.Item)
  | 0, _, _ => none
  | nL1 + 1, v15, r11 => if (decide (v15 < (List.length p0.Items : Int))) = true then ((idx p0.Items v15).bind fun x15 => ((iK x15.aU p1).bind fun x20 => (if (!x20.2) = true then (gH p0 p1 nL1 (IntKind.i64.wrap (v15 + 1)) r11) else (gB p1 r11 x15 (fun (v10_L2 : Int) => (pU x15).bind fun x55 => ((aLs 56 r11 v10_L2 ([x55])).bind fun x57 => (gH p0 p1 nL1 (IntKind.i64.wrap (v15 + 1)) (List.take v10_L2.toNat r11 ++ ([x55] ++ List.drop v10_L2.toNat r11))))) fuel (List.length r11 : Int))))) else (some r11)
def yO (p0 : M.aG) (p1 : ByteArray) : Option (List M.Item) :=
  gH p0 p1 fuel 0 ([] : List M.Item)
def eS (p1 : ByteArray) (x1 : (List M.Item)) : Nat → Int → Option (M.Key × M.Key × Bool)
  | 0, _ => none
  | nL1 + 1, v8 => if (decide (v8 < (List.length x1 : Int))) = true then ((idx x1 (IntKind.i64.wrap (v8 - 1))).bind fun x13 => ((iK x13.aU p1).bind fun x18 => ((idx x1 v8).bind fun x20 => ((iK x20.aU p1).bind fun x25 => (if (x18.1 == x25.1) = true then (some (x13.Key, x20.Key, true)) else (eS p1 x1 nL1 (IntKind.i64.wrap (v8 + 1)))))))) else (some ((⟨0, 0, (⟨#[]⟩ : ByteArray)⟩ : M.Key), (⟨0, 0, (⟨#[]⟩ : ByteArray)⟩ : M.Key), false))
def gX (p0 : M.aG) (p1 : ByteArray) : Option (M.Key × M.Key × Bool) :=
  (yO p0 p1).bind fun x1 => (eS p1 x1 fuel 1)
def dA (p0 : M.Database) : Nat → Int → Option Bool
  | 0, _ => none
  | nL2 + 1, v64 => if (decide (v64 < (List.length p0.Unique : Int))) = true then ((idx p0.Unique v64).bind fun x38 => ((sS p0 x38.aG).bind fun x43 => (if (decide (x43 < 0)) = true then (some false) else ((bR x38.Field).bind fun x46 => (if (!x46) = true then (some false) else ((aHu p0.Unique v64).bind fun x49 => ((gM (List.take v64.toNat p0.Unique) x38).bind fun x51 => (if x51 = true then (some false) else ((idx p0.Stores x43).bind fun x54 => ((gX x54 x38.Field).bind fun x59 => (if x59.2.2 = true then (some false) else (dA p0 nL2 (IntKind.i64.wrap (v64 + 1)))))))))))))) else (some true)
def cY (p0 : M.Database) : Nat → Int → Option Bool
  | 0, _ => none
  | nL1 + 1, v36 => if (decide (v36 < (List.length p0.Stores : Int))) = true then ((idx p0.Stores v36).bind fun x16 => ((oJ x16).bind fun x21 => (if (!x21) = true then (some false) else (if (decide (v36 > 0)) = true then ((idx p0.Stores (IntKind.i64.wrap (v36 - 1))).bind fun x25 => (if (Op.bytesLess x16.Name.toList x25.Name.toList || x16.Name.toList == x25.Name.toList) = true then (some false) else (cY p0 nL1 (IntKind.i64.wrap (v36 + 1))))) else (cY p0 nL1 (IntKind.i64.wrap (v36 + 1))))))) else (dA p0 fuel 0)
def pC (p0 : M.Database) : Option Bool :=
  (bR p0.Name).bind fun x1 => (if (!x1) = true then (some false) else ((aZ p0.Version 0 1000).bind fun x4 => (if (!x4) = true then (some false) else (if (decide ((List.length p0.Stores : Int) > 4)) = true then (some false) else (if (decide ((List.length p0.Unique : Int) > 4)) = true then (some false) else (cY p0 fuel 0))))))
def iM (p0 : M.aW) : Option Bool :=
  (aZ p0.Device 1 1000000).bind fun x1 => (if x1 = true then ((aZ p0.Seq 1 1000000).bind fun x4 => (if x4 = true then ((nK p0.Key).bind fun x7 => (if x7 = true then ((bR p0.Field).bind fun x10 => (if x10 = true then ((aZ p0.N 0 1000000000).bind fun x13 => (some x13)) else (some false))) else (some false))) else (some false))) else (some false))
def iJ (p0 : M.aV) : Nat → Int → Option Bool
  | 0, _ => none
  | nL1 + 1, v12 => if (decide (v12 < (List.length p0.Writes : Int))) = true then ((idx p0.Writes v12).bind fun x9 => ((iM x9).bind fun x14 => (if (!x14) = true then (some false) else (if (x9.Device != p0.Device) = true then (some false) else (if (x9.Seq != (IntKind.i64.wrap ((IntKind.i64.wrap (p0.Next - (List.length p0.Writes : Int))) + v12))) = true then (some false) else (iJ p0 nL1 (IntKind.i64.wrap (v12 + 1)))))))) else ((aZ p0.Device 1 1000000).bind fun x19 => (if x19 = true then ((aZ p0.Next 1 1000000).bind fun x22 => (if x22 = true then (some (decide ((List.length p0.Writes : Int) ≤ 20))) else (some false))) else (some false)))
def uQ (p0 : M.aV) : Option Bool :=
  iJ p0 fuel 0
def rV (p0 : M.aC) : Option Bool :=
  (oJ p0.Base).bind fun x1 => (if x1 = true then (if (p0.Base.Name.toList == (⟨#[110, 111, 116, 101, 115]⟩ : ByteArray).toList) = true then ((aZ p0.Seen 0 1000000000000).bind fun x5 => (if x5 = true then ((uQ p0.Sync.aV).bind fun x8 => (some x8)) else (some false))) else (some false)) else (some false))
def pS (p0 : M.Response) (p1 : Bool) : Option Int :=
  if p1 = true then (some 76) else (some (IntKind.i64.wrap (16 + (List.length p0.Body : Int))))
def gN (x7 : M.Cache) (k13 : Int → Int → Option Int) : Nat → Int → Int → Option Int
  | 0, _, _ => none
  | nL2 + 1, v3_L2, v18_L2 => if (decide (v18_L2 < (List.length x7.Entries : Int))) = true then ((idx x7.Entries v18_L2).bind fun x23 => ((pS x23.Response (x23.Response.Type_ == 3)).bind fun x28 => (gN x7 k13 nL2 (IntKind.i64.wrap (v3_L2 + x28)) (IntKind.i64.wrap (v18_L2 + 1))))) else (k13 v3_L2 v18_L2)
def eL (p0 : M.aT) : Nat → Int → Int → Option Int
  | 0, _, _ => none
  | nL1 + 1, v3, v11 => if (decide (v11 < (List.length p0.Caches : Int))) = true then ((idx p0.Caches v11).bind fun x7 => (gN x7 (fun (v3_L2 : Int) (v18_L2 : Int) => eL p0 nL1 v3_L2 (IntKind.i64.wrap (v11 + 1))) fuel v3 0)) else (some v3)
def pP (p0 : M.aT) : Option Int :=
  eL p0 fuel 0 0
def dP (p0 : M.Key) : Nat → Int → List Int → Option (List Int)
  | 0, _, _ => none
  | nL1 + 1, v4, r12 => if (decide (v4 ≥ 0)) = true then (if (decide (0 ≤ (IntKind.i64.wrap (8 * v4)))) = true then ((app 1 r12 ([(IntKind.u8.wrap (Int.fdiv (IntKind.i64.wrap (p0.N + 1000000000000)) (2 ^ (min (IntKind.i64.wrap (8 * v4)).toNat IntKind.i64.bits))))])).bind fun x18 => (dP p0 nL1 (IntKind.i64.wrap (v4 - 1)) (r12 ++ [(IntKind.u8.wrap (Int.fdiv (IntKind.i64.wrap (p0.N + 1000000000000)) (2 ^ (min (IntKind.i64.wrap (8 * v4)).toNat IntKind.i64.bits))))]))) else none) else ((app 1 r12 (kU p0.Text)).bind fun x26 => (some (r12 ++ kU p0.Text)))
def sX (p0 : M.Key) : Option (List Int) :=
  (nK p0).bind fun x1 => (if (!x1) = true then (some ([] : List Int)) else (if (p0.Kind != 2) = true then (dP p0 fuel 5 ([(IntKind.u8.wrap p0.Kind)])) else ((app 1 ([(IntKind.u8.wrap p0.Kind)]) (kU p0.Text)).bind fun x28 => (some ([(IntKind.u8.wrap p0.Kind)] ++ kU p0.Text)))))
def fE  : Nat → Int → List Int → Option (List Int)
  | 0, _, _ => none
  | nL1 + 1, v1, r7 => if (decide (v1 ≥ 128)) = true then ((app 1 r7 ([(IntKind.u8.wrap (IntKind.i64.wrap ((Int.tmod v1 128) + 128)))])).bind fun x11 => (fE nL1 (IntKind.i64.wrap (Int.tdiv v1 128)) (r7 ++ [(IntKind.u8.wrap (IntKind.i64.wrap ((Int.tmod v1 128) + 128)))]))) else ((app 1 r7 ([(IntKind.u8.wrap v1)])).bind fun x17 => (some (r7 ++ [(IntKind.u8.wrap v1)])))
def gO (p0 : List Int) (p1 : Int) : Option (List Int) :=
  (iR p0).bind fun x1 => ((aZ p1 0 1000000000000).bind fun x3 => (if (!x3) = true then (some x1) else (fE fuel p1 x1)))
def nE (p0 : List Int) (p1 : List Int) : Option (List Int) :=
  (gO p0 (List.length p1 : Int)).bind fun x1 => ((app 1 x1 p1).bind fun x3 => (some (x1 ++ p1)))
def fO (p0 : M.aU) : Nat → Int → List Int → Option (List Int)
  | 0, _, _ => none
  | nL1 + 1, v17, r50000 => if (decide (v17 < (List.length p0.Fields : Int))) = true then ((idx p0.Fields v17).bind fun x13 => ((nE r50000 (kU x13.Name)).bind fun x18 => ((gO x18 x13.N).bind fun x20 => (fO p0 nL1 (IntKind.i64.wrap (v17 + 1)) x20)))) else (some r50000)
def lS (p0 : M.aU) : Option (List Int) :=
  (pV p0).bind fun x1 => (if (!x1) = true then (some ([] : List Int)) else ((gO ([] : List Int) (List.length p0.Fields : Int)).bind fun x4 => (fO p0 fuel 0 x4)))
def hP (p0 : M.aG) : Nat → Int → Int → Option Int
  | 0, _, _ => none
  | nL1 + 1, v3, v9 => if (decide (v9 < (List.length p0.Items : Int))) = true then ((idx p0.Items v9).bind fun x7 => ((sX x7.Key).bind fun x12 => ((lS x7.aU).bind fun x14 => (hP p0 nL1 (IntKind.i64.wrap (v3 + (IntKind.i64.wrap ((List.length x12 : Int) + (List.length x14 : Int))))) (IntKind.i64.wrap (v9 + 1)))))) else (some v3)
def mO (p0 : M.aG) : Option Int :=
  hP p0 fuel 0 0
def fI (p0 : M.Database) : Nat → Int → Int → Option Int
  | 0, _, _ => none
  | nL1 + 1, v3, v9 => if (decide (v9 < (List.length p0.Stores : Int))) = true then ((idx p0.Stores v9).bind fun x7 => ((mO x7).bind fun x12 => (fI p0 nL1 (IntKind.i64.wrap (v3 + x12)) (IntKind.i64.wrap (v9 + 1))))) else (some v3)
def lQ (p0 : M.Database) : Option Int :=
  fI p0 fuel 0 0
def aAc (p0 : M.bG) : Option Int :=
  (lQ p0.Base).bind fun x1 => (some (IntKind.i64.wrap (x1 + (List.length p0.Log : Int))))
def xY (p0 : M.aE) : Option Int :=
  (pP p0.Caches).bind fun x1 => ((aAc p0.bG).bind fun x3 => ((mO p0.aC.Base).bind fun x5 => (some (IntKind.i64.wrap ((IntKind.i64.wrap ((IntKind.i64.wrap (x1 + x3)) + x5)) + (IntKind.i64.wrap (40 * (List.length p0.aC.Sync.aV.Writes : Int))))))))
def pF (p0 : M.aE) : Option Bool :=
  (bR p0.Site).bind fun x1 => (if x1 = true then ((bR p0.Top).bind fun x4 => (if x4 = true then ((nL p0.Registration).bind fun x7 => (if x7 = true then (if (p0.Registration.Site.toList == p0.Site.toList) = true then ((oS p0.Caches).bind fun x11 => (if x11 = true then ((pC p0.bG.Base).bind fun x14 => (if x14 = true then ((rV p0.aC).bind fun x17 => (if x17 = true then ((aZ p0.LastUsed 0 1000000000000).bind fun x20 => (if x20 = true then ((xY p0).bind fun x23 => (some (decide (x23 ≤ 2500)))) else (some false))) else (some false))) else (some false))) else (some false))) else (some false)) else (some false))) else (some false))) else (some false))
def mA (p0 : M.aE) (p1 : M.aE) : Option Bool :=
  if (Op.bytesLess p0.Site.toList p1.Site.toList) = true then (some true) else (if (p0.Site.toList == p1.Site.toList) = true then (some (Op.bytesLess p0.Top.toList p1.Top.toList)) else (some false))
def eW (p0 : M.aK) : Nat → Int → Option Bool
  | 0, _ => none
  | nL1 + 1, v8 => if (decide (v8 < (List.length p0.Buckets : Int))) = true then ((idx p0.Buckets v8).bind fun x8 => ((pF x8).bind fun x13 => (if (!x13) = true then (some false) else (if (decide (v8 > 0)) = true then ((idx p0.Buckets (IntKind.i64.wrap (v8 - 1))).bind fun x17 => ((mA x17 x8).bind fun x22 => (if (!x22) = true then (some false) else (eW p0 nL1 (IntKind.i64.wrap (v8 + 1)))))) else (eW p0 nL1 (IntKind.i64.wrap (v8 + 1))))))) else (some (decide ((List.length p0.Buckets : Int) ≤ 9)))
def mV (p0 : M.aK) : Option Bool :=
  eW p0 fuel 0
def pH (p0 : ByteArray) : Option Bool :=
  (wL p0 30 true).bind fun x1 => (some x1)
def bM (p0 : M.aQ) (v10 : Int) (x8 : M.bZ) (k22 : Int → Option Bool) : Nat → Int → Option Bool
  | 0, _ => none
  | nL2 + 1, v30_L2 => if (decide (v30_L2 < (List.length (List.take v10.toNat p0.Locks) : Int))) = true then ((idx (List.take v10.toNat p0.Locks) v30_L2).bind fun x35 => (if (x35.Name.toList == x8.Name.toList) = true then (if x8.Held = true then (if (!x35.Held) = true then (some false) else (if (!x8.Shared) = true then (some false) else (if (!x35.Shared) = true then (some false) else (bM p0 v10 x8 k22 nL2 (IntKind.i64.wrap (v30_L2 + 1)))))) else (bM p0 v10 x8 k22 nL2 (IntKind.i64.wrap (v30_L2 + 1)))) else (bM p0 v10 x8 k22 nL2 (IntKind.i64.wrap (v30_L2 + 1))))) else (k22 v30_L2)
def dK (p0 : M.aQ) : Nat → Int → Option Bool
  | 0, _ => none
  | nL1 + 1, v10 => if (decide (v10 < (List.length p0.Locks : Int))) = true then ((idx p0.Locks v10).bind fun x8 => ((pH x8.Name).bind fun x13 => (if (!x13) = true then (some false) else ((aZ x8.bF 1 1000000000000).bind fun x16 => (if (!x16) = true then (some false) else ((aHu p0.Locks v10).bind fun x19 => (bM p0 v10 x8 (fun (v30_L2 : Int) => dK p0 nL1 (IntKind.i64.wrap (v10 + 1))) fuel 0))))))) else (some (decide ((List.length p0.Locks : Int) ≤ 12)))
def oC (p0 : M.aQ) : Option Bool :=
  dK p0 fuel 0
def kJ (p0 : M.bF) : Nat → Int → Option Bool
  | 0, _ => none
  | nL1 + 1, v8 => if (decide (v8 < (List.length p0.aM : Int))) = true then ((idx p0.aM v8).bind fun x8 => ((bR x8.Path).bind fun x13 => (if (!x13) = true then (some false) else (if (x8.Version != p0.Version) = true then (some false) else (kJ p0 nL1 (IntKind.i64.wrap (v8 + 1))))))) else ((aZ p0.Id 1 1000000000000).bind fun x17 => (if x17 = true then ((bR p0.Site).bind fun x20 => (if x20 = true then ((bR p0.Top).bind fun x23 => (if x23 = true then ((aZ p0.Version 1 1000000000000).bind fun x26 => (if x26 = true then (some (decide ((List.length p0.aM : Int) ≤ 8))) else (some false))) else (some false))) else (some false))) else (some false)))
def aAM (p0 : M.bF) : Option Bool :=
  kJ p0 fuel 0
def lY (p0 : M.aE) (c0 : ByteArray) (c1 : ByteArray) : Option Bool :=
  if (p0.Site.toList == c0.toList) = true then (some (p0.Top.toList == c1.toList)) else (some false)
def bQ (p0 : List M.aE) (p1 : M.aE → Option Bool) : Nat → Int → Option Int
  | 0, _ => none
  | nL1 + 1, v8 => if (decide (v8 < (List.length p0 : Int))) = true then ((idx p0 v8).bind fun x7 => ((p1 x7).bind fun x12 => (if x12 = true then (some v8) else (bQ p0 p1 nL1 (IntKind.i64.wrap (v8 + 1)))))) else (some (-1))
def gY (p0 : List M.aE) (p1 : M.aE → Option Bool) : Option Int :=
  bQ p0 p1 fuel 0
def lM (p0 : M.aK) (p1 : ByteArray) (p2 : ByteArray) : Option Int :=
  (gY p0.Buckets (fun z0 => lY z0 p1 p2)).bind fun x1 => (some x1)
def hD (p0 : M.Site) : Nat → Int → Option Bool
  | 0, _ => none
  | nL1 + 1, v8 => if (decide (v8 < (List.length p0.Files : Int))) = true then ((idx p0.Files v8).bind fun x8 => ((bR x8).bind fun x13 => (if (!x13) = true then (some false) else (if (decide (v8 > 0)) = true then ((idx p0.Files (IntKind.i64.wrap (v8 - 1))).bind fun x17 => (if (Op.bytesLess x8.toList x17.toList || x8.toList == x17.toList) = true then (some false) else (hD p0 nL1 (IntKind.i64.wrap (v8 + 1))))) else (hD p0 nL1 (IntKind.i64.wrap (v8 + 1))))))) else ((bR p0.Name).bind fun x23 => (if x23 = true then ((aZ p0.Version 1 1000000000000).bind fun x26 => (if x26 = true then ((aZ (List.length p0.Files : Int) 1 6).bind fun x29 => (some x29)) else (some false))) else (some false)))
def zW (p0 : M.Site) : Option Bool :=
  hD p0 fuel 0
def eO (p0 : List ByteArray) (p1 : ByteArray) : Nat → Int → Option Int
  | 0, _ => none
  | nL1 + 1, v8 => if (decide (v8 < (List.length p0 : Int))) = true then ((idx p0 v8).bind fun x7 => (if (p1.toList == x7.toList) = true then (some v8) else (eO p0 p1 nL1 (IntKind.i64.wrap (v8 + 1))))) else (some (-1))
def oF (p0 : List ByteArray) (p1 : ByteArray) : Option Int :=
  eO p0 p1 fuel 0
def pY (p0 : ByteArray) : Option Int :=
  (oF ([(⟨#[98, 97, 110, 107]⟩ : ByteArray), (⟨#[110, 101, 119, 115]⟩ : ByteArray), (⟨#[115, 104, 111, 112]⟩ : ByteArray)]) p0).bind fun x1 => (some x1)
def gR (p0 : M.Server) : Nat → Int → Option Bool
  | 0, _ => none
  | nL2 + 1, v45 => if (decide (v45 < (List.length p0.Changes : Int))) = true then ((idx p0.Changes v45).bind fun x33 => ((iM x33).bind fun x38 => (if (!x38) = true then (some false) else (gR p0 nL2 (IntKind.i64.wrap (v45 + 1)))))) else ((oJ p0.aG).bind fun x41 => (if x41 = true then (if (p0.aG.Name.toList == (⟨#[110, 111, 116, 101, 115]⟩ : ByteArray).toList) = true then (some (decide ((List.length p0.aH : Int) ≤ 60))) else (some false)) else (some false)))
def fQ (p0 : M.Server) : Nat → Int → Option Bool
  | 0, _ => none
  | nL1 + 1, v10 => if (decide (v10 < (List.length p0.aH : Int))) = true then ((idx p0.aH v10).bind fun x8 => ((aZ x8.Device 1 1000000).bind fun x13 => (if (!x13) = true then (some false) else ((aZ x8.Seq 0 1000000).bind fun x16 => (if (!x16) = true then (some false) else (if (decide (v10 > 0)) = true then ((idx p0.aH (IntKind.i64.wrap (v10 - 1))).bind fun x20 => (if (decide (x8.Device ≤ x20.Device)) = true then (some false) else (fQ p0 nL1 (IntKind.i64.wrap (v10 + 1))))) else (fQ p0 nL1 (IntKind.i64.wrap (v10 + 1))))))))) else (gR p0 fuel 0)
def vC (p0 : M.Server) : Option Bool :=
  fQ p0 fuel 0
def gI (p0 : M.World) : Nat → Int → Option Bool
  | 0, _ => none
  | nL2 + 1, v101 => if (decide (v101 < (List.length p0.Sites : Int))) = true then ((idx p0.Sites v101).bind fun x55 => ((zW x55).bind fun x60 => (if (!x60) = true then (some false) else ((pY x55.Name).bind fun x63 => (if (x63 != v101) = true then (some false) else ((idx p0.Servers v101).bind fun x66 => ((vC x66).bind fun x71 => (if (!x71) = true then (some false) else (gI p0 nL2 (IntKind.i64.wrap (v101 + 1))))))))))) else (some true)
def eP (p0 : M.World) : Nat → Int → Option Bool
  | 0, _ => none
  | nL1 + 1, v56 => if (decide (v56 < (List.length p0.Pages : Int))) = true then ((idx p0.Pages v56).bind fun x26 => ((aAM x26).bind fun x31 => (if (!x31) = true then (some false) else (if (decide (x26.Id ≥ p0.NextPage)) = true then (some false) else (if (decide (v56 > 0)) = true then ((idx p0.Pages (IntKind.i64.wrap (v56 - 1))).bind fun x36 => (if (decide (x26.Id ≤ x36.Id)) = true then (some false) else ((lM p0.aK x26.Site x26.Top).bind fun x42 => (if (decide (x42 < 0)) = true then (some false) else (eP p0 nL1 (IntKind.i64.wrap (v56 + 1))))))) else ((lM p0.aK x26.Site x26.Top).bind fun x45 => (if (decide (x45 < 0)) = true then (some false) else (eP p0 nL1 (IntKind.i64.wrap (v56 + 1)))))))))) else (gI p0 fuel 0)
def xA (p0 : M.World) : Option Bool :=
  (aZ p0.Now 0 999999990000).bind fun x1 => (if (!x1) = true then (some false) else ((aZ p0.Device 1 1000000).bind fun x4 => (if (!x4) = true then (some false) else ((mV p0.aK).bind fun x7 => (if (!x7) = true then (some false) else (if (decide ((List.length p0.Pages : Int) > 6)) = true then (some false) else ((aZ p0.NextPage 1 1000000000000).bind fun x11 => (if (!x11) = true then (some false) else ((oC p0.Locks).bind fun x14 => (if (!x14) = true then (some false) else (if ((List.length p0.Sites : Int) != 3) = true then (some false) else (if ((List.length p0.Servers : Int) != 3) = true then (some false) else (eP p0 fuel 0)))))))))))))
def nX (p0 : M.bF) (c0 : Int) : Option Bool :=
  some (p0.Id == c0)
def bY (p0 : List M.bF) (p1 : M.bF → Option Bool) : Nat → Int → Option Int
  | 0, _ => none
  | nL1 + 1, v8 => if (decide (v8 < (List.length p0 : Int))) = true then ((idx p0 v8).bind fun x7 => ((p1 x7).bind fun x12 => (if x12 = true then (some v8) else (bY p0 p1 nL1 (IntKind.i64.wrap (v8 + 1)))))) else (some (-1))
def fB (p0 : List M.bF) (p1 : M.bF → Option Bool) : Option Int :=
  bY p0 p1 fuel 0
def sU (p0 : M.World) (p1 : Int) : Option Int :=
  (fB p0.Pages (fun z0 => nX z0 p1)).bind fun x1 => (some x1)
def nW (p0 : M.bF) (c0 : Int) : Option Bool :=
  some (p0.Id == c0)
def xM (p0 : M.bF) (p1 : M.bF) : Option Bool :=
  if (p0.Site.toList == p1.Site.toList) = true then (if (p0.Top.toList == p1.Top.toList) = true then (some (p0.Id != p1.Id)) else (some false)) else (some false)
def gU (p0 : M.Channel) (p1 : Int) : Nat → Int → List M.cN → Option (List M.cN)
  | 0, _, _ => none
  | nL1 + 1, v12, r8 => if (decide (v12 < (List.length p0.Mails : Int))) = true then ((idx p0.Mails v12).bind fun x15 => (if (x15.To == p1) = true then ((app 24 r8 ([x15])).bind fun x21 => (gU p0 p1 nL1 (IntKind.i64.wrap (v12 + 1)) (r8 ++ [x15]))) else (gU p0 p1 nL1 (IntKind.i64.wrap (v12 + 1)) r8))) else (some r8)
def uV (p0 : M.Channel) (p1 : Int) : Option (List M.cN) :=
  gU p0 p1 fuel 0 ([] : List M.cN)
def cP (p1 : List M.bF) (p2 : Int) (p3 : Int) (x3 : Int) : Nat → Int → Int → List M.cN → Option (M.Channel × Int)
  | 0, _, _, _ => none
  | nL1 + 1, v12, v25, r16 => if (decide (v25 < (List.length p1 : Int))) = true then ((idx p1 v25).bind fun x22 => ((idx p1 x3).bind fun x27 => ((xM x27 x22).bind fun x32 => (if x32 = true then ((uV (⟨r16⟩ : M.Channel) x22.Id).bind fun x35 => (if (decide ((List.length x35 : Int) < 5)) = true then ((app 24 r16 ([(⟨x22.Id, p2, p3⟩ : M.cN)])).bind fun x38 => (cP p1 p2 p3 x3 nL1 (IntKind.i64.wrap (v12 + 1)) (IntKind.i64.wrap (v25 + 1)) (r16 ++ [(⟨x22.Id, p2, p3⟩ : M.cN)]))) else (cP p1 p2 p3 x3 nL1 v12 (IntKind.i64.wrap (v25 + 1)) r16))) else (cP p1 p2 p3 x3 nL1 v12 (IntKind.i64.wrap (v25 + 1)) r16))))) else (some ((⟨r16⟩ : M.Channel), v12))
def tQ (p0 : M.Channel) (p1 : List M.bF) (p2 : Int) (p3 : Int) : Option (M.Channel × Int) :=
  (gV p0).bind fun x1 => ((fB p1 (fun z0 => nW z0 p2)).bind fun x3 => (if (decide (x3 < 0)) = true then (some (x1, 0)) else (cP p1 p2 p3 x3 fuel 0 0 x1.Mails)))
def pE (p0 : M.World) (p1 : Int) (p2 : Int) : Option (M.World × Int) :=
  (rX p0).bind fun x1 => ((xA p0).bind fun x3 => (if (!x3) = true then (some (x1, 0)) else ((sU p0 p1).bind fun x6 => (if (decide (x6 < 0)) = true then (some (x1, 0)) else ((tQ p0.Channel p0.Pages p1 p2).bind fun x9 => (some ((⟨x1.Now, x1.Online, x1.Device, x1.aK, x1.Pages, x1.NextPage, x1.Locks, x9.1, x1.Sites, x1.Servers⟩ : M.World), x9.2)))))))
def jM (p0 : M.Registration) (p1 : M.Registration) : Option Bool :=
  if (!(p0.Site.toList == p1.Site.toList)) = true then (some false) else (if (p0.Installing != p1.Installing) = true then (some false) else (if (p0.Waiting != p1.Waiting) = true then (some false) else (if (p0.Active != p1.Active) = true then (some false) else (some true))))
def kY (p0 : List Int) (p1 : List Int) : Nat → Int → Option Bool
  | 0, _ => none
  | nL1 + 1, v5 => if (decide (v5 < (List.length p0 : Int))) = true then ((idx p0 v5).bind fun x7 => ((idx p1 v5).bind fun x12 => (if (x7 != x12) = true then (some false) else (kY p0 p1 nL1 (IntKind.i64.wrap (v5 + 1)))))) else (some true)
def tT (p0 : List Int) (p1 : List Int) : Option Bool :=
  if ((List.length p0 : Int) != (List.length p1 : Int)) = true then (some false) else (kY p0 p1 fuel 0)
def qB (p0 : M.Response) (p1 : M.Response) : Option Bool :=
  if (p0.Type_ != p1.Type_) = true then (some false) else (if (p0.Status != p1.Status) = true then (some false) else (if (p0.Version != p1.Version) = true then (some false) else ((tT p0.Body p1.Body).bind fun x4 => (if (!x4) = true then (some false) else (if (!(p0.Shares == p1.Shares)) = true then (some false) else (some true))))))
def vJ (p0 : M.Cached) (p1 : M.Cached) : Option Bool :=
  if (!(p0.Site.toList == p1.Site.toList)) = true then (some false) else (if (!(p0.Path.toList == p1.Path.toList)) = true then (some false) else ((qB p0.Response p1.Response).bind fun x3 => (if (!x3) = true then (some false) else (some true))))
def jA (p0 : List M.Cached) (p1 : List M.Cached) : Nat → Int → Option Bool
  | 0, _ => none
  | nL1 + 1, v5 => if (decide (v5 < (List.length p0 : Int))) = true then ((idx p0 v5).bind fun x7 => ((idx p1 v5).bind fun x12 => ((vJ x7 x12).bind fun x17 => (if (!x17) = true then (some false) else (jA p0 p1 nL1 (IntKind.i64.wrap (v5 + 1))))))) else (some true)
def sI (p0 : List M.Cached) (p1 : List M.Cached) : Option Bool :=
  if ((List.length p0 : Int) != (List.length p1 : Int)) = true then (some false) else (jA p0 p1 fuel 0)
def yJ (p0 : M.Cache) (p1 : M.Cache) : Option Bool :=
  if (p0.Version != p1.Version) = true then (some false) else ((sI p0.Entries p1.Entries).bind fun x2 => (if (!x2) = true then (some false) else (some true)))
def kF (p0 : List M.Cache) (p1 : List M.Cache) : Nat → Int → Option Bool
  | 0, _ => none
  | nL1 + 1, v5 => if (decide (v5 < (List.length p0 : Int))) = true then ((idx p0 v5).bind fun x7 => ((idx p1 v5).bind fun x12 => ((yJ x7 x12).bind fun x17 => (if (!x17) = true then (some false) else (kF p0 p1 nL1 (IntKind.i64.wrap (v5 + 1))))))) else (some true)
def uP (p0 : List M.Cache) (p1 : List M.Cache) : Option Bool :=
  if ((List.length p0 : Int) != (List.length p1 : Int)) = true then (some false) else (kF p0 p1 fuel 0)
def qJ (p0 : M.aT) (p1 : M.aT) : Option Bool :=
  (uP p0.Caches p1.Caches).bind fun x1 => (if (!x1) = true then (some false) else (some true))
def zI (p0 : M.Key) (p1 : M.Key) : Option Bool :=
  if (p0.Kind != p1.Kind) = true then (some false) else (if (p0.N != p1.N) = true then (some false) else (if (!(p0.Text.toList == p1.Text.toList)) = true then (some false) else (some true)))
def xR (p0 : M.Field) (p1 : M.Field) : Option Bool :=
  if (!(p0.Name.toList == p1.Name.toList)) = true then (some false) else (if (p0.N != p1.N) = true then (some false) else (some true))
def jY (p0 : List M.Field) (p1 : List M.Field) : Nat → Int → Option Bool
  | 0, _ => none
  | nL1 + 1, v5 => if (decide (v5 < (List.length p0 : Int))) = true then ((idx p0 v5).bind fun x7 => ((idx p1 v5).bind fun x12 => ((xR x7 x12).bind fun x17 => (if (!x17) = true then (some false) else (jY p0 p1 nL1 (IntKind.i64.wrap (v5 + 1))))))) else (some true)
def vW (p0 : List M.Field) (p1 : List M.Field) : Option Bool :=
  if ((List.length p0 : Int) != (List.length p1 : Int)) = true then (some false) else (jY p0 p1 fuel 0)
def uK (p0 : M.aU) (p1 : M.aU) : Option Bool :=
  (vW p0.Fields p1.Fields).bind fun x1 => (if (!x1) = true then (some false) else (some true))
def aAj (p0 : M.Item) (p1 : M.Item) : Option Bool :=
  (zI p0.Key p1.Key).bind fun x1 => (if (!x1) = true then (some false) else ((uK p0.aU p1.aU).bind fun x4 => (if (!x4) = true then (some false) else (some true))))
def lI (p0 : List M.Item) (p1 : List M.Item) : Nat → Int → Option Bool
  | 0, _ => none
  | nL1 + 1, v5 => if (decide (v5 < (List.length p0 : Int))) = true then ((idx p0 v5).bind fun x7 => ((idx p1 v5).bind fun x12 => ((aAj x7 x12).bind fun x17 => (if (!x17) = true then (some false) else (lI p0 p1 nL1 (IntKind.i64.wrap (v5 + 1))))))) else (some true)
def xD (p0 : List M.Item) (p1 : List M.Item) : Option Bool :=
  if ((List.length p0 : Int) != (List.length p1 : Int)) = true then (some false) else (lI p0 p1 fuel 0)
def oG (p0 : M.aG) (p1 : M.aG) : Option Bool :=
  if (!(p0.Name.toList == p1.Name.toList)) = true then (some false) else ((xD p0.Items p1.Items).bind fun x2 => (if (!x2) = true then (some false) else (if (p0.Auto != p1.Auto) = true then (some false) else (some true))))
def kC (p0 : List M.aG) (p1 : List M.aG) : Nat → Int → Option Bool
  | 0, _ => none
  | nL1 + 1, v5 => if (decide (v5 < (List.length p0 : Int))) = true then ((idx p0 v5).bind fun x7 => ((idx p1 v5).bind fun x12 => ((oG x7 x12).bind fun x17 => (if (!x17) = true then (some false) else (kC p0 p1 nL1 (IntKind.i64.wrap (v5 + 1))))))) else (some true)
def vA (p0 : List M.aG) (p1 : List M.aG) : Option Bool :=
  if ((List.length p0 : Int) != (List.length p1 : Int)) = true then (some false) else (kC p0 p1 fuel 0)
def qC (p0 : M.aA) (p1 : M.aA) : Option Bool :=
  if (!(p0.aG.toList == p1.aG.toList)) = true then (some false) else (if (!(p0.Field.toList == p1.Field.toList)) = true then (some false) else (some true))
def iA (p0 : List M.aA) (p1 : List M.aA) : Nat → Int → Option Bool
  | 0, _ => none
  | nL1 + 1, v5 => if (decide (v5 < (List.length p0 : Int))) = true then ((idx p0 v5).bind fun x7 => ((idx p1 v5).bind fun x12 => ((qC x7 x12).bind fun x17 => (if (!x17) = true then (some false) else (iA p0 p1 nL1 (IntKind.i64.wrap (v5 + 1))))))) else (some true)
def nY (p0 : List M.aA) (p1 : List M.aA) : Option Bool :=
  if ((List.length p0 : Int) != (List.length p1 : Int)) = true then (some false) else (iA p0 p1 fuel 0)
def qI (p0 : M.Database) (p1 : M.Database) : Option Bool :=
  if (!(p0.Name.toList == p1.Name.toList)) = true then (some false) else (if (p0.Version != p1.Version) = true then (some false) else ((vA p0.Stores p1.Stores).bind fun x3 => (if (!x3) = true then (some false) else ((nY p0.Unique p1.Unique).bind fun x6 => (if (!x6) = true then (some false) else (some true))))))
def zO (p0 : M.bG) (p1 : M.bG) : Option Bool :=
  (qI p0.Base p1.Base).bind fun x1 => (if (!x1) = true then (some false) else ((tT p0.Log p1.Log).bind fun x4 => (if (!x4) = true then (some false) else (if (p0.Count != p1.Count) = true then (some false) else (some true)))))
def xX (p0 : M.aW) (p1 : M.aW) : Option Bool :=
  if (p0.Device != p1.Device) = true then (some false) else (if (p0.Seq != p1.Seq) = true then (some false) else ((zI p0.Key p1.Key).bind fun x3 => (if (!x3) = true then (some false) else (if (!(p0.Field.toList == p1.Field.toList)) = true then (some false) else (if (p0.N != p1.N) = true then (some false) else (some true))))))
def kH (p0 : List M.aW) (p1 : List M.aW) : Nat → Int → Option Bool
  | 0, _ => none
  | nL1 + 1, v5 => if (decide (v5 < (List.length p0 : Int))) = true then ((idx p0 v5).bind fun x7 => ((idx p1 v5).bind fun x12 => ((xX x7 x12).bind fun x17 => (if (!x17) = true then (some false) else (kH p0 p1 nL1 (IntKind.i64.wrap (v5 + 1))))))) else (some true)
def qH (p0 : List M.aW) (p1 : List M.aW) : Option Bool :=
  if ((List.length p0 : Int) != (List.length p1 : Int)) = true then (some false) else (kH p0 p1 fuel 0)
def uW (p0 : M.aV) (p1 : M.aV) : Option Bool :=
  if (p0.Device != p1.Device) = true then (some false) else (if (p0.Next != p1.Next) = true then (some false) else ((qH p0.Writes p1.Writes).bind fun x3 => (if (!x3) = true then (some false) else (some true))))
def aAV (p0 : M.Sync) (p1 : M.Sync) : Option Bool :=
  (uW p0.aV p1.aV).bind fun x1 => (if (!x1) = true then (some false) else (if (p0.Tries != p1.Tries) = true then (some false) else (if (p0.WaitUntil != p1.WaitUntil) = true then (some false) else (some true))))
def sV (p0 : M.aC) (p1 : M.aC) : Option Bool :=
  (oG p0.Base p1.Base).bind fun x1 => (if (!x1) = true then (some false) else (if (p0.Seen != p1.Seen) = true then (some false) else ((aAV p0.Sync p1.Sync).bind fun x5 => (if (!x5) = true then (some false) else (some true)))))
def vX (p0 : M.aE) (p1 : M.aE) : Option Bool :=
  if (!(p0.Site.toList == p1.Site.toList)) = true then (some false) else (if (!(p0.Top.toList == p1.Top.toList)) = true then (some false) else ((jM p0.Registration p1.Registration).bind fun x3 => (if (!x3) = true then (some false) else ((qJ p0.Caches p1.Caches).bind fun x6 => (if (!x6) = true then (some false) else ((zO p0.bG p1.bG).bind fun x9 => (if (!x9) = true then (some false) else ((sV p0.aC p1.aC).bind fun x12 => (if (!x12) = true then (some false) else (if (p0.LastUsed != p1.LastUsed) = true then (some false) else (if (!(p0.Persistent == p1.Persistent)) = true then (some false) else (some true))))))))))))
def iX (p0 : List M.aE) (p1 : List M.aE) : Nat → Int → Option Bool
  | 0, _ => none
  | nL1 + 1, v5 => if (decide (v5 < (List.length p0 : Int))) = true then ((idx p0 v5).bind fun x7 => ((idx p1 v5).bind fun x12 => ((vX x7 x12).bind fun x17 => (if (!x17) = true then (some false) else (iX p0 p1 nL1 (IntKind.i64.wrap (v5 + 1))))))) else (some true)
def rP (p0 : List M.aE) (p1 : List M.aE) : Option Bool :=
  if ((List.length p0 : Int) != (List.length p1 : Int)) = true then (some false) else (iX p0 p1 fuel 0)
def tP (p0 : M.aK) (p1 : M.aK) : Option Bool :=
  (rP p0.Buckets p1.Buckets).bind fun x1 => (if (!x1) = true then (some false) else (some true))
def uJ (p0 : M.aM) (p1 : M.aM) : Option Bool :=
  if (!(p0.Path.toList == p1.Path.toList)) = true then (some false) else (if (p0.Version != p1.Version) = true then (some false) else (some true))
def jG (p0 : List M.aM) (p1 : List M.aM) : Nat → Int → Option Bool
  | 0, _ => none
  | nL1 + 1, v5 => if (decide (v5 < (List.length p0 : Int))) = true then ((idx p0 v5).bind fun x7 => ((idx p1 v5).bind fun x12 => ((uJ x7 x12).bind fun x17 => (if (!x17) = true then (some false) else (jG p0 p1 nL1 (IntKind.i64.wrap (v5 + 1))))))) else (some true)
def tE (p0 : List M.aM) (p1 : List M.aM) : Option Bool :=
  if ((List.length p0 : Int) != (List.length p1 : Int)) = true then (some false) else (jG p0 p1 fuel 0)
def zA (p0 : M.Instr) (p1 : M.Instr) : Option Bool :=
  if (p0.Kind != p1.Kind) = true then (some false) else (if (p0.R != p1.R) = true then (some false) else (if (p0.N != p1.N) = true then (some false) else (if (!(p0.Text.toList == p1.Text.toList)) = true then (some false) else (some true))))
def jS (p0 : List M.Instr) (p1 : List M.Instr) : Nat → Int → Option Bool
  | 0, _ => none
  | nL1 + 1, v5 => if (decide (v5 < (List.length p0 : Int))) = true then ((idx p0 v5).bind fun x7 => ((idx p1 v5).bind fun x12 => ((zA x7 x12).bind fun x17 => (if (!x17) = true then (some false) else (jS p0 p1 nL1 (IntKind.i64.wrap (v5 + 1))))))) else (some true)
def vV (p0 : List M.Instr) (p1 : List M.Instr) : Option Bool :=
  if ((List.length p0 : Int) != (List.length p1 : Int)) = true then (some false) else (jS p0 p1 fuel 0)
def mN (p0 : List Int) (p1 : List Int) : Nat → Int → Option Bool
  | 0, _ => none
  | nL1 + 1, v5 => if (decide (v5 < (List.length p0 : Int))) = true then ((idx p0 v5).bind fun x7 => ((idx p1 v5).bind fun x12 => (if (x7 != x12) = true then (some false) else (mN p0 p1 nL1 (IntKind.i64.wrap (v5 + 1)))))) else (some true)
def aAU (p0 : List Int) (p1 : List Int) : Option Bool :=
  if ((List.length p0 : Int) != (List.length p1 : Int)) = true then (some false) else (mN p0 p1 fuel 0)
def rT (p0 : M.Machine) (p1 : M.Machine) : Option Bool :=
  (vV p0.Script p1.Script).bind fun x1 => (if (!x1) = true then (some false) else (if (p0.Pc != p1.Pc) = true then (some false) else ((aAU p0.Regs p1.Regs).bind fun x5 => (if (!x5) = true then (some false) else (if (p0.Steps != p1.Steps) = true then (some false) else (if (!(p0.Done == p1.Done)) = true then (some false) else (if (!(p0.Wait == p1.Wait)) = true then (some false) else (some true))))))))
def aAe (p0 : M.bF) (p1 : M.bF) : Option Bool :=
  if (p0.Id != p1.Id) = true then (some false) else (if (!(p0.Site.toList == p1.Site.toList)) = true then (some false) else (if (!(p0.Top.toList == p1.Top.toList)) = true then (some false) else (if (p0.Version != p1.Version) = true then (some false) else ((tE p0.aM p1.aM).bind fun x5 => (if (!x5) = true then (some false) else ((rT p0.Machine p1.Machine).bind fun x8 => (if (!x8) = true then (some false) else (some true))))))))
def lK (p0 : List M.bF) (p1 : List M.bF) : Nat → Int → Option Bool
  | 0, _ => none
  | nL1 + 1, v5 => if (decide (v5 < (List.length p0 : Int))) = true then ((idx p0 v5).bind fun x7 => ((idx p1 v5).bind fun x12 => ((aAe x7 x12).bind fun x17 => (if (!x17) = true then (some false) else (lK p0 p1 nL1 (IntKind.i64.wrap (v5 + 1))))))) else (some true)
def xS (p0 : List M.bF) (p1 : List M.bF) : Option Bool :=
  if ((List.length p0 : Int) != (List.length p1 : Int)) = true then (some false) else (lK p0 p1 fuel 0)
def aAa (p0 : M.bZ) (p1 : M.bZ) : Option Bool :=
  if (!(p0.Name.toList == p1.Name.toList)) = true then (some false) else (if (p0.bF != p1.bF) = true then (some false) else (if (!(p0.Shared == p1.Shared)) = true then (some false) else (if (!(p0.Held == p1.Held)) = true then (some false) else (some true))))
def lF (p0 : List M.bZ) (p1 : List M.bZ) : Nat → Int → Option Bool
  | 0, _ => none
  | nL1 + 1, v5 => if (decide (v5 < (List.length p0 : Int))) = true then ((idx p0 v5).bind fun x7 => ((idx p1 v5).bind fun x12 => ((aAa x7 x12).bind fun x17 => (if (!x17) = true then (some false) else (lF p0 p1 nL1 (IntKind.i64.wrap (v5 + 1))))))) else (some true)
def yL (p0 : List M.bZ) (p1 : List M.bZ) : Option Bool :=
  if ((List.length p0 : Int) != (List.length p1 : Int)) = true then (some false) else (lF p0 p1 fuel 0)
def nA (p0 : M.aQ) (p1 : M.aQ) : Option Bool :=
  (yL p0.Locks p1.Locks).bind fun x1 => (if (!x1) = true then (some false) else (some true))
def aAi (p0 : M.cN) (p1 : M.cN) : Option Bool :=
  if (p0.To != p1.To) = true then (some false) else (if (p0.From != p1.From) = true then (some false) else (if (p0.N != p1.N) = true then (some false) else (some true)))
def lC (p0 : List M.cN) (p1 : List M.cN) : Nat → Int → Option Bool
  | 0, _ => none
  | nL1 + 1, v5 => if (decide (v5 < (List.length p0 : Int))) = true then ((idx p0 v5).bind fun x7 => ((idx p1 v5).bind fun x12 => ((aAi x7 x12).bind fun x17 => (if (!x17) = true then (some false) else (lC p0 p1 nL1 (IntKind.i64.wrap (v5 + 1))))))) else (some true)
def xQ (p0 : List M.cN) (p1 : List M.cN) : Option Bool :=
  if ((List.length p0 : Int) != (List.length p1 : Int)) = true then (some false) else (lC p0 p1 fuel 0)
def sZ (p0 : M.Channel) (p1 : M.Channel) : Option Bool :=
  (xQ p0.Mails p1.Mails).bind fun x1 => (if (!x1) = true then (some false) else (some true))
def iZ (p0 : List ByteArray) (p1 : List ByteArray) : Nat → Int → Option Bool
  | 0, _ => none
  | nL1 + 1, v5 => if (decide (v5 < (List.length p0 : Int))) = true then ((idx p0 v5).bind fun x7 => ((idx p1 v5).bind fun x12 => (if (!(x7.toList == x12.toList)) = true then (some false) else (iZ p0 p1 nL1 (IntKind.i64.wrap (v5 + 1)))))) else (some true)
def sC (p0 : List ByteArray) (p1 : List ByteArray) : Option Bool :=
  if ((List.length p0 : Int) != (List.length p1 : Int)) = true then (some false) else (iZ p0 p1 fuel 0)
def aAf (p0 : M.Site) (p1 : M.Site) : Option Bool :=
  if (!(p0.Name.toList == p1.Name.toList)) = true then (some false) else (if (p0.Version != p1.Version) = true then (some false) else ((sC p0.Files p1.Files).bind fun x3 => (if (!x3) = true then (some false) else (if (!(p0.Shared == p1.Shared)) = true then (some false) else (some true)))))
def lO (p0 : List M.Site) (p1 : List M.Site) : Nat → Int → Option Bool
  | 0, _ => none
  | nL1 + 1, v5 => if (decide (v5 < (List.length p0 : Int))) = true then ((idx p0 v5).bind fun x7 => ((idx p1 v5).bind fun x12 => ((aAf x7 x12).bind fun x17 => (if (!x17) = true then (some false) else (lO p0 p1 nL1 (IntKind.i64.wrap (v5 + 1))))))) else (some true)
def xC (p0 : List M.Site) (p1 : List M.Site) : Option Bool :=
  if ((List.length p0 : Int) != (List.length p1 : Int)) = true then (some false) else (lO p0 p1 fuel 0)
def rU (p0 : M.aH) (p1 : M.aH) : Option Bool :=
  if (p0.Device != p1.Device) = true then (some false) else (if (p0.Seq != p1.Seq) = true then (some false) else (some true))
def iN (p0 : List M.aH) (p1 : List M.aH) : Nat → Int → Option Bool
  | 0, _ => none
  | nL1 + 1, v5 => if (decide (v5 < (List.length p0 : Int))) = true then ((idx p0 v5).bind fun x7 => ((idx p1 v5).bind fun x12 => ((rU x7 x12).bind fun x17 => (if (!x17) = true then (some false) else (iN p0 p1 nL1 (IntKind.i64.wrap (v5 + 1))))))) else (some true)
def pN (p0 : List M.aH) (p1 : List M.aH) : Option Bool :=
  if ((List.length p0 : Int) != (List.length p1 : Int)) = true then (some false) else (iN p0 p1 fuel 0)
def uM (p0 : M.Server) (p1 : M.Server) : Option Bool :=
  (oG p0.aG p1.aG).bind fun x1 => (if (!x1) = true then (some false) else ((pN p0.aH p1.aH).bind fun x4 => (if (!x4) = true then (some false) else ((qH p0.Changes p1.Changes).bind fun x7 => (if (!x7) = true then (some false) else (some true))))))
def jE (p0 : List M.Server) (p1 : List M.Server) : Nat → Int → Option Bool
  | 0, _ => none
  | nL1 + 1, v5 => if (decide (v5 < (List.length p0 : Int))) = true then ((idx p0 v5).bind fun x7 => ((idx p1 v5).bind fun x12 => ((uM x7 x12).bind fun x17 => (if (!x17) = true then (some false) else (jE p0 p1 nL1 (IntKind.i64.wrap (v5 + 1))))))) else (some true)
def rJ (p0 : List M.Server) (p1 : List M.Server) : Option Bool :=
  if ((List.length p0 : Int) != (List.length p1 : Int)) = true then (some false) else (jE p0 p1 fuel 0)
def kX (p0 : M.World) (p1 : M.World) : Option Bool :=
  if (p0.Now != p1.Now) = true then (some false) else (if (!(p0.Online == p1.Online)) = true then (some false) else (if (p0.Device != p1.Device) = true then (some false) else ((tP p0.aK p1.aK).bind fun x4 => (if (!x4) = true then (some false) else ((xS p0.Pages p1.Pages).bind fun x7 => (if (!x7) = true then (some false) else (if (p0.NextPage != p1.NextPage) = true then (some false) else ((nA p0.Locks p1.Locks).bind fun x11 => (if (!x11) = true then (some false) else ((sZ p0.Channel p1.Channel).bind fun x14 => (if (!x14) = true then (some false) else ((xC p0.Sites p1.Sites).bind fun x17 => (if (!x17) = true then (some false) else ((rJ p0.Servers p1.Servers).bind fun x20 => (if (!x20) = true then (some false) else (some true))))))))))))))))
def kA  : Nat → Int → ByteArray → Option ByteArray
  | 0, _, _ => none
  | nL1 + 1, v0, v3 => if (decide (v0 > 0)) = true then ((toStr ([(IntKind.u8.wrap (IntKind.i64.wrap (48 + (Int.tmod v0 10))))])).bind fun x6 => ((cat (aBW ([(IntKind.u8.wrap (IntKind.i64.wrap (48 + (Int.tmod v0 10))))])) v3).bind fun x8 => (kA nL1 (IntKind.i64.wrap (Int.tdiv v0 10)) ((aBW ([(IntKind.u8.wrap (IntKind.i64.wrap (48 + (Int.tmod v0 10))))])) ++ v3)))) else ((cat (⟨#[109]⟩ : ByteArray) v3).bind fun x13 => (some ((⟨#[109]⟩ : ByteArray) ++ v3)))
def aF (p0 : Int) : Option ByteArray :=
  if (decide (p0 ≤ 0)) = true then (some (⟨#[109, 48]⟩ : ByteArray)) else (kA fuel p0 (⟨#[]⟩ : ByteArray))
def dM  : Nat → Int → Int → List Int → Option (List Int × Int)
  | 0, _, _, _ => none
  | nL1 + 1, v1, v5, r99 => if (decide (v5 < (List.length r99 : Int))) = true then ((idx r99 v5).bind fun x8 => ((some (List.set r99 v5.toNat (IntKind.u8.wrap v1))).bind fun y13 => (dM nL1 (IntKind.i64.wrap (v1 + 1)) (IntKind.i64.wrap (v5 + 1)) y13))) else (some (r99, v1))
def mQ (p0 : List Int) (p1 : Int) : Option (List Int × Int) :=
  dM fuel p1 0 p0
def cF  : Nat → Int → Int → List M.Cached → Option (List M.Cached × Int)
  | 0, _, _, _ => none
  | nL1 + 1, v1, v5, r99 => if (decide (v5 < (List.length r99 : Int))) = true then ((aF v1).bind fun x8 => ((idx r99 v5).bind fun x10 => ((some (List.set r99 v5.toNat (⟨x8, x10.Path, x10.Response⟩ : M.Cached))).bind fun y15 => ((aF (IntKind.i64.wrap (v1 + 1))).bind fun x23 => ((idx y15 v5).bind fun x25 => ((some (List.set y15 v5.toNat (⟨x25.Site, x23, x25.Response⟩ : M.Cached))).bind fun y30 => ((idx y30 v5).bind fun x38 => ((some (List.set y30 v5.toNat (⟨x38.Site, x38.Path, (⟨(IntKind.i64.wrap ((IntKind.i64.wrap (v1 + 1)) + 1)), x38.Response.Status, x38.Response.Version, x38.Response.Body, x38.Response.Shares⟩ : M.Response)⟩ : M.Cached))).bind fun y43 => ((idx y43 v5).bind fun x51 => ((some (List.set y43 v5.toNat (⟨x51.Site, x51.Path, (⟨x51.Response.Type_, (IntKind.i64.wrap ((IntKind.i64.wrap ((IntKind.i64.wrap (v1 + 1)) + 1)) + 1)), x51.Response.Version, x51.Response.Body, x51.Response.Shares⟩ : M.Response)⟩ : M.Cached))).bind fun y56 => ((idx y56 v5).bind fun x64 => ((some (List.set y56 v5.toNat (⟨x64.Site, x64.Path, (⟨x64.Response.Type_, x64.Response.Status, (IntKind.i64.wrap ((IntKind.i64.wrap ((IntKind.i64.wrap ((IntKind.i64.wrap (v1 + 1)) + 1)) + 1)) + 1)), x64.Response.Body, x64.Response.Shares⟩ : M.Response)⟩ : M.Cached))).bind fun y69 => ((idx y69 v5).bind fun x77 => ((mQ x77.Response.Body (IntKind.i64.wrap ((IntKind.i64.wrap ((IntKind.i64.wrap ((IntKind.i64.wrap ((IntKind.i64.wrap (v1 + 1)) + 1)) + 1)) + 1)) + 1))).bind fun x82 => ((some (List.set y69 v5.toNat (⟨x77.Site, x77.Path, (⟨x77.Response.Type_, x77.Response.Status, x77.Response.Version, x82.1, x77.Response.Shares⟩ : M.Response)⟩ : M.Cached))).bind fun y84 => ((idx y84 v5).bind fun x92 => ((some (List.set y84 v5.toNat (⟨x92.Site, x92.Path, (⟨x92.Response.Type_, x92.Response.Status, x92.Response.Version, x92.Response.Body, ((Int.tmod x82.2 3) == 0)⟩ : M.Response)⟩ : M.Cached))).bind fun y97 => (cF nL1 (IntKind.i64.wrap (x82.2 + 1)) (IntKind.i64.wrap (v5 + 1)) y97)))))))))))))))))) else (some (r99, v1))
def nJ (p0 : List M.Cached) (p1 : Int) : Option (List M.Cached × Int) :=
  cF fuel p1 0 p0
def cT  : Nat → Int → Int → List M.Cache → Option (List M.Cache × Int)
  | 0, _, _, _ => none
  | nL1 + 1, v1, v5, r99 => if (decide (v5 < (List.length r99 : Int))) = true then ((idx r99 v5).bind fun x8 => ((some (List.set r99 v5.toNat (⟨v1, x8.Entries⟩ : M.Cache))).bind fun y13 => ((idx y13 v5).bind fun x21 => ((nJ x21.Entries (IntKind.i64.wrap (v1 + 1))).bind fun x26 => ((some (List.set y13 v5.toNat (⟨x21.Version, x26.1⟩ : M.Cache))).bind fun y28 => (cT nL1 x26.2 (IntKind.i64.wrap (v5 + 1)) y28)))))) else (some (r99, v1))
def pD (p0 : List M.Cache) (p1 : Int) : Option (List M.Cache × Int) :=
  cT fuel p1 0 p0
def cV  : Nat → Int → Int → List M.Field → Option (List M.Field × Int)
  | 0, _, _, _ => none
  | nL1 + 1, v1, v5, r99 => if (decide (v5 < (List.length r99 : Int))) = true then ((aF v1).bind fun x8 => ((idx r99 v5).bind fun x10 => ((some (List.set r99 v5.toNat (⟨x8, x10.N⟩ : M.Field))).bind fun y15 => ((idx y15 v5).bind fun x23 => ((some (List.set y15 v5.toNat (⟨x23.Name, (IntKind.i64.wrap (v1 + 1))⟩ : M.Field))).bind fun y28 => (cV nL1 (IntKind.i64.wrap ((IntKind.i64.wrap (v1 + 1)) + 1)) (IntKind.i64.wrap (v5 + 1)) y28)))))) else (some (r99, v1))
def pW (p0 : List M.Field) (p1 : Int) : Option (List M.Field × Int) :=
  cV fuel p1 0 p0
def dO  : Nat → Int → Int → List M.Item → Option (List M.Item × Int)
  | 0, _, _, _ => none
  | nL1 + 1, v1, v5, r99 => if (decide (v5 < (List.length r99 : Int))) = true then ((idx r99 v5).bind fun x8 => ((some (List.set r99 v5.toNat (⟨(⟨v1, x8.Key.N, x8.Key.Text⟩ : M.Key), x8.aU⟩ : M.Item))).bind fun y13 => ((idx y13 v5).bind fun x21 => ((some (List.set y13 v5.toNat (⟨(⟨x21.Key.Kind, (IntKind.i64.wrap (v1 + 1)), x21.Key.Text⟩ : M.Key), x21.aU⟩ : M.Item))).bind fun y26 => ((aF (IntKind.i64.wrap ((IntKind.i64.wrap (v1 + 1)) + 1))).bind fun x34 => ((idx y26 v5).bind fun x36 => ((some (List.set y26 v5.toNat (⟨(⟨x36.Key.Kind, x36.Key.N, x34⟩ : M.Key), x36.aU⟩ : M.Item))).bind fun y41 => ((idx y41 v5).bind fun x49 => ((pW x49.aU.Fields (IntKind.i64.wrap ((IntKind.i64.wrap ((IntKind.i64.wrap (v1 + 1)) + 1)) + 1))).bind fun x54 => ((some (List.set y41 v5.toNat (⟨x49.Key, (⟨x54.1⟩ : M.aU)⟩ : M.Item))).bind fun y56 => (dO nL1 x54.2 (IntKind.i64.wrap (v5 + 1)) y56))))))))))) else (some (r99, v1))
def kL (p0 : List M.Item) (p1 : Int) : Option (List M.Item × Int) :=
  dO fuel p1 0 p0
def cZ  : Nat → Int → Int → List M.aG → Option (List M.aG × Int)
  | 0, _, _, _ => none
  | nL1 + 1, v1, v5, r99 => if (decide (v5 < (List.length r99 : Int))) = true then ((aF v1).bind fun x8 => ((idx r99 v5).bind fun x10 => ((some (List.set r99 v5.toNat (⟨x8, x10.Items, x10.Auto⟩ : M.aG))).bind fun y15 => ((idx y15 v5).bind fun x23 => ((kL x23.Items (IntKind.i64.wrap (v1 + 1))).bind fun x28 => ((some (List.set y15 v5.toNat (⟨x23.Name, x28.1, x23.Auto⟩ : M.aG))).bind fun y30 => ((idx y30 v5).bind fun x38 => ((some (List.set y30 v5.toNat (⟨x38.Name, x38.Items, x28.2⟩ : M.aG))).bind fun y43 => (cZ nL1 (IntKind.i64.wrap (x28.2 + 1)) (IntKind.i64.wrap (v5 + 1)) y43))))))))) else (some (r99, v1))
def pB (p0 : List M.aG) (p1 : Int) : Option (List M.aG × Int) :=
  cZ fuel p1 0 p0
def bS  : Nat → Int → Int → List M.aA → Option (List M.aA × Int)
  | 0, _, _, _ => none
  | nL1 + 1, v1, v5, r99 => if (decide (v5 < (List.length r99 : Int))) = true then ((aF v1).bind fun x8 => ((idx r99 v5).bind fun x10 => ((some (List.set r99 v5.toNat (⟨x8, x10.Field⟩ : M.aA))).bind fun y15 => ((aF (IntKind.i64.wrap (v1 + 1))).bind fun x23 => ((idx y15 v5).bind fun x25 => ((some (List.set y15 v5.toNat (⟨x25.aG, x23⟩ : M.aA))).bind fun y30 => (bS nL1 (IntKind.i64.wrap ((IntKind.i64.wrap (v1 + 1)) + 1)) (IntKind.i64.wrap (v5 + 1)) y30))))))) else (some (r99, v1))
def kR (p0 : List M.aA) (p1 : Int) : Option (List M.aA × Int) :=
  bS fuel p1 0 p0
def cW  : Nat → Int → Int → List M.aW → Option (List M.aW × Int)
  | 0, _, _, _ => none
  | nL1 + 1, v1, v5, r99 => if (decide (v5 < (List.length r99 : Int))) = true then ((idx r99 v5).bind fun x8 => ((some (List.set r99 v5.toNat (⟨v1, x8.Seq, x8.Key, x8.Field, x8.N⟩ : M.aW))).bind fun y13 => ((idx y13 v5).bind fun x21 => ((some (List.set y13 v5.toNat (⟨x21.Device, (IntKind.i64.wrap (v1 + 1)), x21.Key, x21.Field, x21.N⟩ : M.aW))).bind fun y26 => ((idx y26 v5).bind fun x34 => ((some (List.set y26 v5.toNat (⟨x34.Device, x34.Seq, (⟨(IntKind.i64.wrap ((IntKind.i64.wrap (v1 + 1)) + 1)), x34.Key.N, x34.Key.Text⟩ : M.Key), x34.Field, x34.N⟩ : M.aW))).bind fun y39 => ((idx y39 v5).bind fun x47 => ((some (List.set y39 v5.toNat (⟨x47.Device, x47.Seq, (⟨x47.Key.Kind, (IntKind.i64.wrap ((IntKind.i64.wrap ((IntKind.i64.wrap (v1 + 1)) + 1)) + 1)), x47.Key.Text⟩ : M.Key), x47.Field, x47.N⟩ : M.aW))).bind fun y52 => ((aF (IntKind.i64.wrap ((IntKind.i64.wrap ((IntKind.i64.wrap ((IntKind.i64.wrap (v1 + 1)) + 1)) + 1)) + 1))).bind fun x60 => ((idx y52 v5).bind fun x62 => ((some (List.set y52 v5.toNat (⟨x62.Device, x62.Seq, (⟨x62.Key.Kind, x62.Key.N, x60⟩ : M.Key), x62.Field, x62.N⟩ : M.aW))).bind fun y67 => ((aF (IntKind.i64.wrap ((IntKind.i64.wrap ((IntKind.i64.wrap ((IntKind.i64.wrap ((IntKind.i64.wrap (v1 + 1)) + 1)) + 1)) + 1)) + 1))).bind fun x75 => ((idx y67 v5).bind fun x77 => ((some (List.set y67 v5.toNat (⟨x77.Device, x77.Seq, x77.Key, x75, x77.N⟩ : M.aW))).bind fun y82 => ((idx y82 v5).bind fun x90 => ((some (List.set y82 v5.toNat (⟨x90.Device, x90.Seq, x90.Key, x90.Field, (IntKind.i64.wrap ((IntKind.i64.wrap ((IntKind.i64.wrap ((IntKind.i64.wrap ((IntKind.i64.wrap ((IntKind.i64.wrap (v1 + 1)) + 1)) + 1)) + 1)) + 1)) + 1))⟩ : M.aW))).bind fun y95 => (cW nL1 (IntKind.i64.wrap ((IntKind.i64.wrap ((IntKind.i64.wrap ((IntKind.i64.wrap ((IntKind.i64.wrap ((IntKind.i64.wrap ((IntKind.i64.wrap (v1 + 1)) + 1)) + 1)) + 1)) + 1)) + 1)) + 1)) (IntKind.i64.wrap (v5 + 1)) y95))))))))))))))))) else (some (r99, v1))
def lE (p0 : List M.aW) (p1 : Int) : Option (List M.aW × Int) :=
  cW fuel p1 0 p0
def cM  : Nat → Int → Int → List M.aE → Option (List M.aE × Int)
  | 0, _, _, _ => none
  | nL1 + 1, v1, v5, r99 => if (decide (v5 < (List.length r99 : Int))) = true then ((aF v1).bind fun x8 => ((idx r99 v5).bind fun x10 => ((some (List.set r99 v5.toNat (⟨x8, x10.Top, x10.Registration, x10.Caches, x10.bG, x10.aC, x10.LastUsed, x10.Persistent⟩ : M.aE))).bind fun y15 => ((aF (IntKind.i64.wrap (v1 + 1))).bind fun x23 => ((idx y15 v5).bind fun x25 => ((some (List.set y15 v5.toNat (⟨x25.Site, x23, x25.Registration, x25.Caches, x25.bG, x25.aC, x25.LastUsed, x25.Persistent⟩ : M.aE))).bind fun y30 => ((aF (IntKind.i64.wrap ((IntKind.i64.wrap (v1 + 1)) + 1))).bind fun x38 => ((idx y30 v5).bind fun x40 => ((some (List.set y30 v5.toNat (⟨x40.Site, x40.Top, (⟨x38, x40.Registration.Installing, x40.Registration.Waiting, x40.Registration.Active⟩ : M.Registration), x40.Caches, x40.bG, x40.aC, x40.LastUsed, x40.Persistent⟩ : M.aE))).bind fun y45 => ((idx y45 v5).bind fun x53 => ((some (List.set y45 v5.toNat (⟨x53.Site, x53.Top, (⟨x53.Registration.Site, (IntKind.i64.wrap ((IntKind.i64.wrap ((IntKind.i64.wrap (v1 + 1)) + 1)) + 1)), x53.Registration.Waiting, x53.Registration.Active⟩ : M.Registration), x53.Caches, x53.bG, x53.aC, x53.LastUsed, x53.Persistent⟩ : M.aE))).bind fun y58 => ((idx y58 v5).bind fun x66 => ((some (List.set y58 v5.toNat (⟨x66.Site, x66.Top, (⟨x66.Registration.Site, x66.Registration.Installing, (IntKind.i64.wrap ((IntKind.i64.wrap ((IntKind.i64.wrap ((IntKind.i64.wrap (v1 + 1)) + 1)) + 1)) + 1)), x66.Registration.Active⟩ : M.Registration), x66.Caches, x66.bG, x66.aC, x66.LastUsed, x66.Persistent⟩ : M.aE))).bind fun y71 => ((idx y71 v5).bind fun x79 => ((some (List.set y71 v5.toNat (⟨x79.Site, x79.Top, (⟨x79.Registration.Site, x79.Registration.Installing, x79.Registration.Waiting, (IntKind.i64.wrap ((IntKind.i64.wrap ((IntKind.i64.wrap ((IntKind.i64.wrap ((IntKind.i64.wrap (v1 + 1)) + 1)) + 1)) + 1)) + 1))⟩ : M.Registration), x79.Caches, x79.bG, x79.aC, x79.LastUsed, x79.Persistent⟩ : M.aE))).bind fun y84 => ((idx y84 v5).bind fun x92 => ((pD x92.Caches.Caches (IntKind.i64.wrap ((IntKind.i64.wrap ((IntKind.i64.wrap ((IntKind.i64.wrap ((IntKind.i64.wrap ((IntKind.i64.wrap (v1 + 1)) + 1)) + 1)) + 1)) + 1)) + 1))).bind fun x97 => ((some (List.set y84 v5.toNat (⟨x92.Site, x92.Top, x92.Registration, (⟨x97.1⟩ : M.aT), x92.bG, x92.aC, x92.LastUsed, x92.Persistent⟩ : M.aE))).bind fun y99 => ((aF x97.2).bind fun x107 => ((idx y99 v5).bind fun x109 => ((some (List.set y99 v5.toNat (⟨x109.Site, x109.Top, x109.Registration, x109.Caches, (⟨(⟨x107, x109.bG.Base.Version, x109.bG.Base.Stores, x109.bG.Base.Unique⟩ : M.Database), x109.bG.Log, x109.bG.Count⟩ : M.bG), x109.aC, x109.LastUsed, x109.Persistent⟩ : M.aE))).bind fun y114 => ((idx y114 v5).bind fun x122 => ((some (List.set y114 v5.toNat (⟨x122.Site, x122.Top, x122.Registration, x122.Caches, (⟨(⟨x122.bG.Base.Name, (IntKind.i64.wrap (x97.2 + 1)), x122.bG.Base.Stores, x122.bG.Base.Unique⟩ : M.Database), x122.bG.Log, x122.bG.Count⟩ : M.bG), x122.aC, x122.LastUsed, x122.Persistent⟩ : M.aE))).bind fun y127 => ((idx y127 v5).bind fun x135 => ((pB x135.bG.Base.Stores (IntKind.i64.wrap ((IntKind.i64.wrap (x97.2 + 1)) + 1))).bind fun x140 => ((some (List.set y127 v5.toNat (⟨x135.Site, x135.Top, x135.Registration, x135.Caches, (⟨(⟨x135.bG.Base.Name, x135.bG.Base.Version, x140.1, x135.bG.Base.Unique⟩ : M.Database), x135.bG.Log, x135.bG.Count⟩ : M.bG), x135.aC, x135.LastUsed, x135.Persistent⟩ : M.aE))).bind fun y142 => ((idx y142 v5).bind fun x150 => ((kR x150.bG.Base.Unique x140.2).bind fun x155 => ((some (List.set y142 v5.toNat (⟨x150.Site, x150.Top, x150.Registration, x150.Caches, (⟨(⟨x150.bG.Base.Name, x150.bG.Base.Version, x150.bG.Base.Stores, x155.1⟩ : M.Database), x150.bG.Log, x150.bG.Count⟩ : M.bG), x150.aC, x150.LastUsed, x150.Persistent⟩ : M.aE))).bind fun y157 => ((idx y157 v5).bind fun x165 => ((mQ x165.bG.Log x155.2).bind fun x170 => ((some (List.set y157 v5.toNat (⟨x165.Site, x165.Top, x165.Registration, x165.Caches, (⟨x165.bG.Base, x170.1, x165.bG.Count⟩ : M.bG), x165.aC, x165.LastUsed, x165.Persistent⟩ : M.aE))).bind fun y172 => ((idx y172 v5).bind fun x180 => ((some (List.set y172 v5.toNat (⟨x180.Site, x180.Top, x180.Registration, x180.Caches, (⟨x180.bG.Base, x180.bG.Log, x170.2⟩ : M.bG), x180.aC, x180.LastUsed, x180.Persistent⟩ : M.aE))).bind fun y185 => ((aF (IntKind.i64.wrap (x170.2 + 1))).bind fun x193 => ((idx y185 v5).bind fun x195 => ((some (List.set y185 v5.toNat (⟨x195.Site, x195.Top, x195.Registration, x195.Caches, x195.bG, (⟨(⟨x193, x195.aC.Base.Items, x195.aC.Base.Auto⟩ : M.aG), x195.aC.Seen, x195.aC.Sync⟩ : M.aC), x195.LastUsed, x195.Persistent⟩ : M.aE))).bind fun y200 => ((idx y200 v5).bind fun x208 => ((kL x208.aC.Base.Items (IntKind.i64.wrap ((IntKind.i64.wrap (x170.2 + 1)) + 1))).bind fun x213 => ((some (List.set y200 v5.toNat (⟨x208.Site, x208.Top, x208.Registration, x208.Caches, x208.bG, (⟨(⟨x208.aC.Base.Name, x213.1, x208.aC.Base.Auto⟩ : M.aG), x208.aC.Seen, x208.aC.Sync⟩ : M.aC), x208.LastUsed, x208.Persistent⟩ : M.aE))).bind fun y215 => ((idx y215 v5).bind fun x223 => ((some (List.set y215 v5.toNat (⟨x223.Site, x223.Top, x223.Registration, x223.Caches, x223.bG, (⟨(⟨x223.aC.Base.Name, x223.aC.Base.Items, x213.2⟩ : M.aG), x223.aC.Seen, x223.aC.Sync⟩ : M.aC), x223.LastUsed, x223.Persistent⟩ : M.aE))).bind fun y228 => ((idx y228 v5).bind fun x236 => ((some (List.set y228 v5.toNat (⟨x236.Site, x236.Top, x236.Registration, x236.Caches, x236.bG, (⟨x236.aC.Base, (IntKind.i64.wrap (x213.2 + 1)), x236.aC.Sync⟩ : M.aC), x236.LastUsed, x236.Persistent⟩ : M.aE))).bind fun y241 => ((idx y241 v5).bind fun x249 => ((some (List.set y241 v5.toNat (⟨x249.Site, x249.Top, x249.Registration, x249.Caches, x249.bG, (⟨x249.aC.Base, x249.aC.Seen, (⟨(⟨(IntKind.i64.wrap ((IntKind.i64.wrap (x213.2 + 1)) + 1)), x249.aC.Sync.aV.Next, x249.aC.Sync.aV.Writes⟩ : M.aV), x249.aC.Sync.Tries, x249.aC.Sync.WaitUntil⟩ : M.Sync)⟩ : M.aC), x249.LastUsed, x249.Persistent⟩ : M.aE))).bind fun y254 => ((idx y254 v5).bind fun x262 => ((some (List.set y254 v5.toNat (⟨x262.Site, x262.Top, x262.Registration, x262.Caches, x262.bG, (⟨x262.aC.Base, x262.aC.Seen, (⟨(⟨x262.aC.Sync.aV.Device, (IntKind.i64.wrap ((IntKind.i64.wrap ((IntKind.i64.wrap (x213.2 + 1)) + 1)) + 1)), x262.aC.Sync.aV.Writes⟩ : M.aV), x262.aC.Sync.Tries, x262.aC.Sync.WaitUntil⟩ : M.Sync)⟩ : M.aC), x262.LastUsed, x262.Persistent⟩ : M.aE))).bind fun y267 => ((idx y267 v5).bind fun x275 => ((lE x275.aC.Sync.aV.Writes (IntKind.i64.wrap ((IntKind.i64.wrap ((IntKind.i64.wrap ((IntKind.i64.wrap (x213.2 + 1)) + 1)) + 1)) + 1))).bind fun x280 => ((some (List.set y267 v5.toNat (⟨x275.Site, x275.Top, x275.Registration, x275.Caches, x275.bG, (⟨x275.aC.Base, x275.aC.Seen, (⟨(⟨x275.aC.Sync.aV.Device, x275.aC.Sync.aV.Next, x280.1⟩ : M.aV), x275.aC.Sync.Tries, x275.aC.Sync.WaitUntil⟩ : M.Sync)⟩ : M.aC), x275.LastUsed, x275.Persistent⟩ : M.aE))).bind fun y282 => ((idx y282 v5).bind fun x290 => ((some (List.set y282 v5.toNat (⟨x290.Site, x290.Top, x290.Registration, x290.Caches, x290.bG, (⟨x290.aC.Base, x290.aC.Seen, (⟨x290.aC.Sync.aV, x280.2, x290.aC.Sync.WaitUntil⟩ : M.Sync)⟩ : M.aC), x290.LastUsed, x290.Persistent⟩ : M.aE))).bind fun y295 => ((idx y295 v5).bind fun x303 => ((some (List.set y295 v5.toNat (⟨x303.Site, x303.Top, x303.Registration, x303.Caches, x303.bG, (⟨x303.aC.Base, x303.aC.Seen, (⟨x303.aC.Sync.aV, x303.aC.Sync.Tries, (IntKind.i64.wrap (x280.2 + 1))⟩ : M.Sync)⟩ : M.aC), x303.LastUsed, x303.Persistent⟩ : M.aE))).bind fun y308 => ((idx y308 v5).bind fun x316 => ((some (List.set y308 v5.toNat (⟨x316.Site, x316.Top, x316.Registration, x316.Caches, x316.bG, x316.aC, (IntKind.i64.wrap ((IntKind.i64.wrap (x280.2 + 1)) + 1)), x316.Persistent⟩ : M.aE))).bind fun y321 => ((idx y321 v5).bind fun x329 => ((some (List.set y321 v5.toNat (⟨x329.Site, x329.Top, x329.Registration, x329.Caches, x329.bG, x329.aC, x329.LastUsed, ((Int.tmod (IntKind.i64.wrap ((IntKind.i64.wrap ((IntKind.i64.wrap (x280.2 + 1)) + 1)) + 1)) 3) == 0)⟩ : M.aE))).bind fun y334 => (cM nL1 (IntKind.i64.wrap ((IntKind.i64.wrap ((IntKind.i64.wrap ((IntKind.i64.wrap (x280.2 + 1)) + 1)) + 1)) + 1)) (IntKind.i64.wrap (v5 + 1)) y334)))))))))))))))))))))))))))))))))))))))))))))))))))))))))))) else (some (r99, v1))
def nB (p0 : List M.aE) (p1 : Int) : Option (List M.aE × Int) :=
  cM fuel p1 0 p0
def uA (p0 : M.aK) (p1 : Int) : Option (List M.aE × Int) :=
  (nB p0.Buckets p1).bind fun x1 => (some (x1.1, x1.2))
def cE  : Nat → Int → Int → List M.aM → Option (List M.aM × Int)
  | 0, _, _, _ => none
  | nL1 + 1, v1, v5, r99 => if (decide (v5 < (List.length r99 : Int))) = true then ((aF v1).bind fun x8 => ((idx r99 v5).bind fun x10 => ((some (List.set r99 v5.toNat (⟨x8, x10.Version⟩ : M.aM))).bind fun y15 => ((idx y15 v5).bind fun x23 => ((some (List.set y15 v5.toNat (⟨x23.Path, (IntKind.i64.wrap (v1 + 1))⟩ : M.aM))).bind fun y28 => (cE nL1 (IntKind.i64.wrap ((IntKind.i64.wrap (v1 + 1)) + 1)) (IntKind.i64.wrap (v5 + 1)) y28)))))) else (some (r99, v1))
def nF (p0 : List M.aM) (p1 : Int) : Option (List M.aM × Int) :=
  cE fuel p1 0 p0
def cU  : Nat → Int → Int → List M.Instr → Option (List M.Instr × Int)
  | 0, _, _, _ => none
  | nL1 + 1, v1, v5, r99 => if (decide (v5 < (List.length r99 : Int))) = true then ((idx r99 v5).bind fun x8 => ((some (List.set r99 v5.toNat (⟨v1, x8.R, x8.N, x8.Text⟩ : M.Instr))).bind fun y13 => ((idx y13 v5).bind fun x21 => ((some (List.set y13 v5.toNat (⟨x21.Kind, (IntKind.i64.wrap (v1 + 1)), x21.N, x21.Text⟩ : M.Instr))).bind fun y26 => ((idx y26 v5).bind fun x34 => ((some (List.set y26 v5.toNat (⟨x34.Kind, x34.R, (IntKind.i64.wrap ((IntKind.i64.wrap (v1 + 1)) + 1)), x34.Text⟩ : M.Instr))).bind fun y39 => ((aF (IntKind.i64.wrap ((IntKind.i64.wrap ((IntKind.i64.wrap (v1 + 1)) + 1)) + 1))).bind fun x47 => ((idx y39 v5).bind fun x49 => ((some (List.set y39 v5.toNat (⟨x49.Kind, x49.R, x49.N, x47⟩ : M.Instr))).bind fun y54 => (cU nL1 (IntKind.i64.wrap ((IntKind.i64.wrap ((IntKind.i64.wrap ((IntKind.i64.wrap (v1 + 1)) + 1)) + 1)) + 1)) (IntKind.i64.wrap (v5 + 1)) y54)))))))))) else (some (r99, v1))
def qE (p0 : List M.Instr) (p1 : Int) : Option (List M.Instr × Int) :=
  cU fuel p1 0 p0
def eQ  : Nat → Int → Int → List Int → Option (List Int × Int)
  | 0, _, _, _ => none
  | nL1 + 1, v1, v5, r99 => if (decide (v5 < (List.length r99 : Int))) = true then ((idx r99 v5).bind fun x8 => ((some (List.set r99 v5.toNat v1)).bind fun y13 => (eQ nL1 (IntKind.i64.wrap (v1 + 1)) (IntKind.i64.wrap (v5 + 1)) y13))) else (some (r99, v1))
def wD (p0 : List Int) (p1 : Int) : Option (List Int × Int) :=
  eQ fuel p1 0 p0
def dR  : Nat → Int → Int → List M.bF → Option (List M.bF × Int)
  | 0, _, _, _ => none
  | nL1 + 1, v1, v5, r99 => if (decide (v5 < (List.length r99 : Int))) = true then ((idx r99 v5).bind fun x8 => ((some (List.set r99 v5.toNat (⟨v1, x8.Site, x8.Top, x8.Version, x8.aM, x8.Machine⟩ : M.bF))).bind fun y13 => ((aF (IntKind.i64.wrap (v1 + 1))).bind fun x21 => ((idx y13 v5).bind fun x23 => ((some (List.set y13 v5.toNat (⟨x23.Id, x21, x23.Top, x23.Version, x23.aM, x23.Machine⟩ : M.bF))).bind fun y28 => ((aF (IntKind.i64.wrap ((IntKind.i64.wrap (v1 + 1)) + 1))).bind fun x36 => ((idx y28 v5).bind fun x38 => ((some (List.set y28 v5.toNat (⟨x38.Id, x38.Site, x36, x38.Version, x38.aM, x38.Machine⟩ : M.bF))).bind fun y43 => ((idx y43 v5).bind fun x51 => ((some (List.set y43 v5.toNat (⟨x51.Id, x51.Site, x51.Top, (IntKind.i64.wrap ((IntKind.i64.wrap ((IntKind.i64.wrap (v1 + 1)) + 1)) + 1)), x51.aM, x51.Machine⟩ : M.bF))).bind fun y56 => ((idx y56 v5).bind fun x64 => ((nF x64.aM (IntKind.i64.wrap ((IntKind.i64.wrap ((IntKind.i64.wrap ((IntKind.i64.wrap (v1 + 1)) + 1)) + 1)) + 1))).bind fun x69 => ((some (List.set y56 v5.toNat (⟨x64.Id, x64.Site, x64.Top, x64.Version, x69.1, x64.Machine⟩ : M.bF))).bind fun y71 => ((idx y71 v5).bind fun x79 => ((qE x79.Machine.Script x69.2).bind fun x84 => ((some (List.set y71 v5.toNat (⟨x79.Id, x79.Site, x79.Top, x79.Version, x79.aM, (⟨x84.1, x79.Machine.Pc, x79.Machine.Regs, x79.Machine.Steps, x79.Machine.Done, x79.Machine.Wait⟩ : M.Machine)⟩ : M.bF))).bind fun y86 => ((idx y86 v5).bind fun x94 => ((some (List.set y86 v5.toNat (⟨x94.Id, x94.Site, x94.Top, x94.Version, x94.aM, (⟨x94.Machine.Script, x84.2, x94.Machine.Regs, x94.Machine.Steps, x94.Machine.Done, x94.Machine.Wait⟩ : M.Machine)⟩ : M.bF))).bind fun y99 => ((idx y99 v5).bind fun x107 => ((wD x107.Machine.Regs (IntKind.i64.wrap (x84.2 + 1))).bind fun x112 => ((some (List.set y99 v5.toNat (⟨x107.Id, x107.Site, x107.Top, x107.Version, x107.aM, (⟨x107.Machine.Script, x107.Machine.Pc, x112.1, x107.Machine.Steps, x107.Machine.Done, x107.Machine.Wait⟩ : M.Machine)⟩ : M.bF))).bind fun y114 => ((idx y114 v5).bind fun x122 => ((some (List.set y114 v5.toNat (⟨x122.Id, x122.Site, x122.Top, x122.Version, x122.aM, (⟨x122.Machine.Script, x122.Machine.Pc, x122.Machine.Regs, x112.2, x122.Machine.Done, x122.Machine.Wait⟩ : M.Machine)⟩ : M.bF))).bind fun y127 => ((idx y127 v5).bind fun x135 => ((some (List.set y127 v5.toNat (⟨x135.Id, x135.Site, x135.Top, x135.Version, x135.aM, (⟨x135.Machine.Script, x135.Machine.Pc, x135.Machine.Regs, x135.Machine.Steps, ((Int.tmod (IntKind.i64.wrap (x112.2 + 1)) 3) == 0), x135.Machine.Wait⟩ : M.Machine)⟩ : M.bF))).bind fun y140 => ((idx y140 v5).bind fun x148 => ((some (List.set y140 v5.toNat (⟨x148.Id, x148.Site, x148.Top, x148.Version, x148.aM, (⟨x148.Machine.Script, x148.Machine.Pc, x148.Machine.Regs, x148.Machine.Steps, x148.Machine.Done, ((Int.tmod (IntKind.i64.wrap ((IntKind.i64.wrap (x112.2 + 1)) + 1)) 3) == 0)⟩ : M.Machine)⟩ : M.bF))).bind fun y153 => (dR nL1 (IntKind.i64.wrap ((IntKind.i64.wrap ((IntKind.i64.wrap (x112.2 + 1)) + 1)) + 1)) (IntKind.i64.wrap (v5 + 1)) y153)))))))))))))))))))))))))))) else (some (r99, v1))
def sP (p0 : List M.bF) (p1 : Int) : Option (List M.bF × Int) :=
  dR fuel p1 0 p0
def dU  : Nat → Int → Int → List M.bZ → Option (List M.bZ × Int)
  | 0, _, _, _ => none
  | nL1 + 1, v1, v5, r99 => if (decide (v5 < (List.length r99 : Int))) = true then ((aF v1).bind fun x8 => ((idx r99 v5).bind fun x10 => ((some (List.set r99 v5.toNat (⟨x8, x10.bF, x10.Shared, x10.Held⟩ : M.bZ))).bind fun y15 => ((idx y15 v5).bind fun x23 => ((some (List.set y15 v5.toNat (⟨x23.Name, (IntKind.i64.wrap (v1 + 1)), x23.Shared, x23.Held⟩ : M.bZ))).bind fun y28 => ((idx y28 v5).bind fun x36 => ((some (List.set y28 v5.toNat (⟨x36.Name, x36.bF, ((Int.tmod (IntKind.i64.wrap ((IntKind.i64.wrap (v1 + 1)) + 1)) 3) == 0), x36.Held⟩ : M.bZ))).bind fun y41 => ((idx y41 v5).bind fun x49 => ((some (List.set y41 v5.toNat (⟨x49.Name, x49.bF, x49.Shared, ((Int.tmod (IntKind.i64.wrap ((IntKind.i64.wrap ((IntKind.i64.wrap (v1 + 1)) + 1)) + 1)) 3) == 0)⟩ : M.bZ))).bind fun y54 => (dU nL1 (IntKind.i64.wrap ((IntKind.i64.wrap ((IntKind.i64.wrap ((IntKind.i64.wrap (v1 + 1)) + 1)) + 1)) + 1)) (IntKind.i64.wrap (v5 + 1)) y54)))))))))) else (some (r99, v1))
def rK (p0 : List M.bZ) (p1 : Int) : Option (List M.bZ × Int) :=
  dU fuel p1 0 p0
def oR (p0 : M.aQ) (p1 : Int) : Option (List M.bZ × Int) :=
  (rK p0.Locks p1).bind fun x1 => (some (x1.1, x1.2))
def dV  : Nat → Int → Int → List M.cN → Option (List M.cN × Int)
  | 0, _, _, _ => none
  | nL1 + 1, v1, v5, r99 => if (decide (v5 < (List.length r99 : Int))) = true then ((idx r99 v5).bind fun x8 => ((some (List.set r99 v5.toNat (⟨v1, x8.From, x8.N⟩ : M.cN))).bind fun y13 => ((idx y13 v5).bind fun x21 => ((some (List.set y13 v5.toNat (⟨x21.To, (IntKind.i64.wrap (v1 + 1)), x21.N⟩ : M.cN))).bind fun y26 => ((idx y26 v5).bind fun x34 => ((some (List.set y26 v5.toNat (⟨x34.To, x34.From, (IntKind.i64.wrap ((IntKind.i64.wrap (v1 + 1)) + 1))⟩ : M.cN))).bind fun y39 => (dV nL1 (IntKind.i64.wrap ((IntKind.i64.wrap ((IntKind.i64.wrap (v1 + 1)) + 1)) + 1)) (IntKind.i64.wrap (v5 + 1)) y39))))))) else (some (r99, v1))
def rR (p0 : List M.cN) (p1 : Int) : Option (List M.cN × Int) :=
  dV fuel p1 0 p0
def uG (p0 : M.Channel) (p1 : Int) : Option (List M.cN × Int) :=
  (rR p0.Mails p1).bind fun x1 => (some (x1.1, x1.2))
def cK  : Nat → Int → Int → List ByteArray → Option (List ByteArray × Int)
  | 0, _, _, _ => none
  | nL1 + 1, v1, v5, r99 => if (decide (v5 < (List.length r99 : Int))) = true then ((aF v1).bind fun x8 => ((idx r99 v5).bind fun x10 => ((some (List.set r99 v5.toNat x8)).bind fun y15 => (cK nL1 (IntKind.i64.wrap (v1 + 1)) (IntKind.i64.wrap (v5 + 1)) y15)))) else (some (r99, v1))
def mY (p0 : List ByteArray) (p1 : Int) : Option (List ByteArray × Int) :=
  cK fuel p1 0 p0
def dN  : Nat → Int → Int → List M.Site → Option (List M.Site × Int)
  | 0, _, _, _ => none
  | nL1 + 1, v1, v5, r99 => if (decide (v5 < (List.length r99 : Int))) = true then ((aF v1).bind fun x8 => ((idx r99 v5).bind fun x10 => ((some (List.set r99 v5.toNat (⟨x8, x10.Version, x10.Files, x10.Shared⟩ : M.Site))).bind fun y15 => ((idx y15 v5).bind fun x23 => ((some (List.set y15 v5.toNat (⟨x23.Name, (IntKind.i64.wrap (v1 + 1)), x23.Files, x23.Shared⟩ : M.Site))).bind fun y28 => ((idx y28 v5).bind fun x36 => ((mY x36.Files (IntKind.i64.wrap ((IntKind.i64.wrap (v1 + 1)) + 1))).bind fun x41 => ((some (List.set y28 v5.toNat (⟨x36.Name, x36.Version, x41.1, x36.Shared⟩ : M.Site))).bind fun y43 => ((idx y43 v5).bind fun x51 => ((some (List.set y43 v5.toNat (⟨x51.Name, x51.Version, x51.Files, ((Int.tmod x41.2 3) == 0)⟩ : M.Site))).bind fun y56 => (dN nL1 (IntKind.i64.wrap (x41.2 + 1)) (IntKind.i64.wrap (v5 + 1)) y56))))))))))) else (some (r99, v1))
def tM (p0 : List M.Site) (p1 : Int) : Option (List M.Site × Int) :=
  dN fuel p1 0 p0
def bW  : Nat → Int → Int → List M.aH → Option (List M.aH × Int)
  | 0, _, _, _ => none
  | nL1 + 1, v1, v5, r99 => if (decide (v5 < (List.length r99 : Int))) = true then ((idx r99 v5).bind fun x8 => ((some (List.set r99 v5.toNat (⟨v1, x8.Seq⟩ : M.aH))).bind fun y13 => ((idx y13 v5).bind fun x21 => ((some (List.set y13 v5.toNat (⟨x21.Device, (IntKind.i64.wrap (v1 + 1))⟩ : M.aH))).bind fun y26 => (bW nL1 (IntKind.i64.wrap ((IntKind.i64.wrap (v1 + 1)) + 1)) (IntKind.i64.wrap (v5 + 1)) y26))))) else (some (r99, v1))
def lX (p0 : List M.aH) (p1 : Int) : Option (List M.aH × Int) :=
  bW fuel p1 0 p0
def cH  : Nat → Int → Int → List M.Server → Option (List M.Server × Int)
  | 0, _, _, _ => none
  | nL1 + 1, v1, v5, r99 => if (decide (v5 < (List.length r99 : Int))) = true then ((aF v1).bind fun x8 => ((idx r99 v5).bind fun x10 => ((some (List.set r99 v5.toNat (⟨(⟨x8, x10.aG.Items, x10.aG.Auto⟩ : M.aG), x10.aH, x10.Changes⟩ : M.Server))).bind fun y15 => ((idx y15 v5).bind fun x23 => ((kL x23.aG.Items (IntKind.i64.wrap (v1 + 1))).bind fun x28 => ((some (List.set y15 v5.toNat (⟨(⟨x23.aG.Name, x28.1, x23.aG.Auto⟩ : M.aG), x23.aH, x23.Changes⟩ : M.Server))).bind fun y30 => ((idx y30 v5).bind fun x38 => ((some (List.set y30 v5.toNat (⟨(⟨x38.aG.Name, x38.aG.Items, x28.2⟩ : M.aG), x38.aH, x38.Changes⟩ : M.Server))).bind fun y43 => ((idx y43 v5).bind fun x51 => ((lX x51.aH (IntKind.i64.wrap (x28.2 + 1))).bind fun x56 => ((some (List.set y43 v5.toNat (⟨x51.aG, x56.1, x51.Changes⟩ : M.Server))).bind fun y58 => ((idx y58 v5).bind fun x66 => ((lE x66.Changes x56.2).bind fun x71 => ((some (List.set y58 v5.toNat (⟨x66.aG, x66.aH, x71.1⟩ : M.Server))).bind fun y73 => (cH nL1 x71.2 (IntKind.i64.wrap (v5 + 1)) y73))))))))))))))) else (some (r99, v1))
def oA (p0 : List M.Server) (p1 : Int) : Option (List M.Server × Int) :=
  cH fuel p1 0 p0
def mU (p0 : M.World) (p1 : Int) : Option (List M.aE × List M.bF × List M.bZ × List M.cN × List M.Site × List M.Server × Int) :=
  (uA p0.aK p1).bind fun x1 => ((sP p0.Pages x1.2).bind fun x8 => ((oR p0.Locks x8.2).bind fun x15 => ((uG p0.Channel x15.2).bind fun x22 => ((tM p0.Sites x22.2).bind fun x29 => ((oA p0.Servers x29.2).bind fun x36 => (some (x1.1, x8.1, x15.1, x22.1, x29.1, x36.1, x36.2)))))))
def eY (p0 : List Int) : Nat → Int → Int → Option Int
  | 0, _, _ => none
  | nL1 + 1, v1, v5 => if (decide (v5 < (List.length p0 : Int))) = true then ((idx p0 v5).bind fun x6 => (if (x6 != (IntKind.u8.wrap v1)) = true then (some (-1)) else (eY p0 nL1 (IntKind.i64.wrap (v1 + 1)) (IntKind.i64.wrap (v5 + 1))))) else (some v1)
def mT (p0 : List Int) (p1 : Int) : Option Int :=
  eY p0 fuel p1 0
def dF (p0 : List M.Cached) : Nat → Int → Int → Option Int
  | 0, _, _ => none
  | nL1 + 1, v1, v5 => if (decide (v5 < (List.length p0 : Int))) = true then ((idx p0 v5).bind fun x6 => ((aF v1).bind fun x11 => (if (!(x6.Site.toList == x11.toList)) = true then (some (-1)) else ((aF (IntKind.i64.wrap (v1 + 1))).bind fun x14 => (if (!(x6.Path.toList == x14.toList)) = true then (some (-1)) else (if (x6.Response.Type_ != (IntKind.i64.wrap ((IntKind.i64.wrap (v1 + 1)) + 1))) = true then (some (-1)) else (if (x6.Response.Status != (IntKind.i64.wrap ((IntKind.i64.wrap ((IntKind.i64.wrap (v1 + 1)) + 1)) + 1))) = true then (some (-1)) else (if (x6.Response.Version != (IntKind.i64.wrap ((IntKind.i64.wrap ((IntKind.i64.wrap ((IntKind.i64.wrap (v1 + 1)) + 1)) + 1)) + 1))) = true then (some (-1)) else ((mT x6.Response.Body (IntKind.i64.wrap ((IntKind.i64.wrap ((IntKind.i64.wrap ((IntKind.i64.wrap ((IntKind.i64.wrap (v1 + 1)) + 1)) + 1)) + 1)) + 1))).bind fun x20 => (if (decide (x20 < 0)) = true then (some (-1)) else (if (!(x6.Response.Shares == ((Int.tmod x20 3) == 0))) = true then (some (-1)) else (dF p0 nL1 (IntKind.i64.wrap (x20 + 1)) (IntKind.i64.wrap (v5 + 1)))))))))))))) else (some v1)
def mX (p0 : List M.Cached) (p1 : Int) : Option Int :=
  dF p0 fuel p1 0
def eE (p0 : List M.Cache) : Nat → Int → Int → Option Int
  | 0, _, _ => none
  | nL1 + 1, v1, v5 => if (decide (v5 < (List.length p0 : Int))) = true then ((idx p0 v5).bind fun x6 => (if (x6.Version != v1) = true then (some (-1)) else ((mX x6.Entries (IntKind.i64.wrap (v1 + 1))).bind fun x12 => (if (decide (x12 < 0)) = true then (some (-1)) else (eE p0 nL1 x12 (IntKind.i64.wrap (v5 + 1))))))) else (some v1)
def pT (p0 : List M.Cache) (p1 : Int) : Option Int :=
  eE p0 fuel p1 0
def eK (p0 : List M.Field) : Nat → Int → Int → Option Int
  | 0, _, _ => none
  | nL1 + 1, v1, v5 => if (decide (v5 < (List.length p0 : Int))) = true then ((idx p0 v5).bind fun x6 => ((aF v1).bind fun x11 => (if (!(x6.Name.toList == x11.toList)) = true then (some (-1)) else (if (x6.N != (IntKind.i64.wrap (v1 + 1))) = true then (some (-1)) else (eK p0 nL1 (IntKind.i64.wrap ((IntKind.i64.wrap (v1 + 1)) + 1)) (IntKind.i64.wrap (v5 + 1))))))) else (some v1)
def qD (p0 : List M.Field) (p1 : Int) : Option Int :=
  eK p0 fuel p1 0
def fD (p0 : List M.Item) : Nat → Int → Int → Option Int
  | 0, _, _ => none
  | nL1 + 1, v1, v5 => if (decide (v5 < (List.length p0 : Int))) = true then ((idx p0 v5).bind fun x6 => (if (x6.Key.Kind != v1) = true then (some (-1)) else (if (x6.Key.N != (IntKind.i64.wrap (v1 + 1))) = true then (some (-1)) else ((aF (IntKind.i64.wrap ((IntKind.i64.wrap (v1 + 1)) + 1))).bind fun x13 => (if (!(x6.Key.Text.toList == x13.toList)) = true then (some (-1)) else ((qD x6.aU.Fields (IntKind.i64.wrap ((IntKind.i64.wrap ((IntKind.i64.wrap (v1 + 1)) + 1)) + 1))).bind fun x16 => (if (decide (x16 < 0)) = true then (some (-1)) else (fD p0 nL1 x16 (IntKind.i64.wrap (v5 + 1)))))))))) else (some v1)
def kI (p0 : List M.Item) (p1 : Int) : Option Int :=
  fD p0 fuel p1 0
def eM (p0 : List M.aG) : Nat → Int → Int → Option Int
  | 0, _, _ => none
  | nL1 + 1, v1, v5 => if (decide (v5 < (List.length p0 : Int))) = true then ((idx p0 v5).bind fun x6 => ((aF v1).bind fun x11 => (if (!(x6.Name.toList == x11.toList)) = true then (some (-1)) else ((kI x6.Items (IntKind.i64.wrap (v1 + 1))).bind fun x14 => (if (decide (x14 < 0)) = true then (some (-1)) else (if (x6.Auto != x14) = true then (some (-1)) else (eM p0 nL1 (IntKind.i64.wrap (x14 + 1)) (IntKind.i64.wrap (v5 + 1))))))))) else (some v1)
def pO (p0 : List M.aG) (p1 : Int) : Option Int :=
  eM p0 fuel p1 0
def cC (p0 : List M.aA) : Nat → Int → Int → Option Int
  | 0, _, _ => none
  | nL1 + 1, v1, v5 => if (decide (v5 < (List.length p0 : Int))) = true then ((idx p0 v5).bind fun x6 => ((aF v1).bind fun x11 => (if (!(x6.aG.toList == x11.toList)) = true then (some (-1)) else ((aF (IntKind.i64.wrap (v1 + 1))).bind fun x14 => (if (!(x6.Field.toList == x14.toList)) = true then (some (-1)) else (cC p0 nL1 (IntKind.i64.wrap ((IntKind.i64.wrap (v1 + 1)) + 1)) (IntKind.i64.wrap (v5 + 1)))))))) else (some v1)
def kQ (p0 : List M.aA) (p1 : Int) : Option Int :=
  cC p0 fuel p1 0
def eG (p0 : List M.aW) : Nat → Int → Int → Option Int
  | 0, _, _ => none
  | nL1 + 1, v1, v5 => if (decide (v5 < (List.length p0 : Int))) = true then ((idx p0 v5).bind fun x6 => (if (x6.Device != v1) = true then (some (-1)) else (if (x6.Seq != (IntKind.i64.wrap (v1 + 1))) = true then (some (-1)) else (if (x6.Key.Kind != (IntKind.i64.wrap ((IntKind.i64.wrap (v1 + 1)) + 1))) = true then (some (-1)) else (if (x6.Key.N != (IntKind.i64.wrap ((IntKind.i64.wrap ((IntKind.i64.wrap (v1 + 1)) + 1)) + 1))) = true then (some (-1)) else ((aF (IntKind.i64.wrap ((IntKind.i64.wrap ((IntKind.i64.wrap ((IntKind.i64.wrap (v1 + 1)) + 1)) + 1)) + 1))).bind fun x15 => (if (!(x6.Key.Text.toList == x15.toList)) = true then (some (-1)) else ((aF (IntKind.i64.wrap ((IntKind.i64.wrap ((IntKind.i64.wrap ((IntKind.i64.wrap ((IntKind.i64.wrap (v1 + 1)) + 1)) + 1)) + 1)) + 1))).bind fun x18 => (if (!(x6.Field.toList == x18.toList)) = true then (some (-1)) else (if (x6.N != (IntKind.i64.wrap ((IntKind.i64.wrap ((IntKind.i64.wrap ((IntKind.i64.wrap ((IntKind.i64.wrap ((IntKind.i64.wrap (v1 + 1)) + 1)) + 1)) + 1)) + 1)) + 1))) = true then (some (-1)) else (eG p0 nL1 (IntKind.i64.wrap ((IntKind.i64.wrap ((IntKind.i64.wrap ((IntKind.i64.wrap ((IntKind.i64.wrap ((IntKind.i64.wrap ((IntKind.i64.wrap (v1 + 1)) + 1)) + 1)) + 1)) + 1)) + 1)) + 1)) (IntKind.i64.wrap (v5 + 1))))))))))))) else (some v1)
def lG (p0 : List M.aW) (p1 : Int) : Option Int :=
  eG p0 fuel p1 0
def cG (p0 : List M.aE) : Nat → Int → Int → Option Int
  | 0, _, _ => none
  | nL1 + 1, v1, v5 => if (decide (v5 < (List.length p0 : Int))) = true then ((idx p0 v5).bind fun x6 => ((aF v1).bind fun x11 => (if (!(x6.Site.toList == x11.toList)) = true then (some (-1)) else ((aF (IntKind.i64.wrap (v1 + 1))).bind fun x14 => (if (!(x6.Top.toList == x14.toList)) = true then (some (-1)) else ((aF (IntKind.i64.wrap ((IntKind.i64.wrap (v1 + 1)) + 1))).bind fun x17 => (if (!(x6.Registration.Site.toList == x17.toList)) = true then (some (-1)) else (if (x6.Registration.Installing != (IntKind.i64.wrap ((IntKind.i64.wrap ((IntKind.i64.wrap (v1 + 1)) + 1)) + 1))) = true then (some (-1)) else (if (x6.Registration.Waiting != (IntKind.i64.wrap ((IntKind.i64.wrap ((IntKind.i64.wrap ((IntKind.i64.wrap (v1 + 1)) + 1)) + 1)) + 1))) = true then (some (-1)) else (if (x6.Registration.Active != (IntKind.i64.wrap ((IntKind.i64.wrap ((IntKind.i64.wrap ((IntKind.i64.wrap ((IntKind.i64.wrap (v1 + 1)) + 1)) + 1)) + 1)) + 1))) = true then (some (-1)) else ((pT x6.Caches.Caches (IntKind.i64.wrap ((IntKind.i64.wrap ((IntKind.i64.wrap ((IntKind.i64.wrap ((IntKind.i64.wrap ((IntKind.i64.wrap (v1 + 1)) + 1)) + 1)) + 1)) + 1)) + 1))).bind fun x27 => (if (decide (x27 < 0)) = true then (some (-1)) else ((aF x27).bind fun x30 => (if (!(x6.bG.Base.Name.toList == x30.toList)) = true then (some (-1)) else (if (x6.bG.Base.Version != (IntKind.i64.wrap (x27 + 1))) = true then (some (-1)) else ((pO x6.bG.Base.Stores (IntKind.i64.wrap ((IntKind.i64.wrap (x27 + 1)) + 1))).bind fun x34 => (if (decide (x34 < 0)) = true then (some (-1)) else ((kQ x6.bG.Base.Unique x34).bind fun x37 => (if (decide (x37 < 0)) = true then (some (-1)) else ((mT x6.bG.Log x37).bind fun x40 => (if (decide (x40 < 0)) = true then (some (-1)) else (if (x6.bG.Count != x40) = true then (some (-1)) else ((aF (IntKind.i64.wrap (x40 + 1))).bind fun x48 => (if (!(x6.aC.Base.Name.toList == x48.toList)) = true then (some (-1)) else ((kI x6.aC.Base.Items (IntKind.i64.wrap ((IntKind.i64.wrap (x40 + 1)) + 1))).bind fun x51 => (if (decide (x51 < 0)) = true then (some (-1)) else (if (x6.aC.Base.Auto != x51) = true then (some (-1)) else (if (x6.aC.Seen != (IntKind.i64.wrap (x51 + 1))) = true then (some (-1)) else (if (x6.aC.Sync.aV.Device != (IntKind.i64.wrap ((IntKind.i64.wrap (x51 + 1)) + 1))) = true then (some (-1)) else (if (x6.aC.Sync.aV.Next != (IntKind.i64.wrap ((IntKind.i64.wrap ((IntKind.i64.wrap (x51 + 1)) + 1)) + 1))) = true then (some (-1)) else ((lG x6.aC.Sync.aV.Writes (IntKind.i64.wrap ((IntKind.i64.wrap ((IntKind.i64.wrap ((IntKind.i64.wrap (x51 + 1)) + 1)) + 1)) + 1))).bind fun x62 => (if (decide (x62 < 0)) = true then (some (-1)) else (if (x6.aC.Sync.Tries != x62) = true then (some (-1)) else (if (x6.aC.Sync.WaitUntil != (IntKind.i64.wrap (x62 + 1))) = true then (some (-1)) else (if (x6.LastUsed != (IntKind.i64.wrap ((IntKind.i64.wrap (x62 + 1)) + 1))) = true then (some (-1)) else (if (!(x6.Persistent == ((Int.tmod (IntKind.i64.wrap ((IntKind.i64.wrap ((IntKind.i64.wrap (x62 + 1)) + 1)) + 1)) 3) == 0))) = true then (some (-1)) else (cG p0 nL1 (IntKind.i64.wrap ((IntKind.i64.wrap ((IntKind.i64.wrap ((IntKind.i64.wrap (x62 + 1)) + 1)) + 1)) + 1)) (IntKind.i64.wrap (v5 + 1))))))))))))))))))))))))))))))))))))))) else (some v1)
def oE (p0 : List M.aE) (p1 : Int) : Option Int :=
  cG p0 fuel p1 0
def uD (p0 : M.aK) (p1 : Int) : Option Int :=
  (oE p0.Buckets p1).bind fun x1 => (if (decide (x1 < 0)) = true then (some (-1)) else (some x1))
def dG (p0 : List M.aM) : Nat → Int → Int → Option Int
  | 0, _, _ => none
  | nL1 + 1, v1, v5 => if (decide (v5 < (List.length p0 : Int))) = true then ((idx p0 v5).bind fun x6 => ((aF v1).bind fun x11 => (if (!(x6.Path.toList == x11.toList)) = true then (some (-1)) else (if (x6.Version != (IntKind.i64.wrap (v1 + 1))) = true then (some (-1)) else (dG p0 nL1 (IntKind.i64.wrap ((IntKind.i64.wrap (v1 + 1)) + 1)) (IntKind.i64.wrap (v5 + 1))))))) else (some v1)
def nH (p0 : List M.aM) (p1 : Int) : Option Int :=
  dG p0 fuel p1 0
def dZ (p0 : List M.Instr) : Nat → Int → Int → Option Int
  | 0, _, _ => none
  | nL1 + 1, v1, v5 => if (decide (v5 < (List.length p0 : Int))) = true then ((idx p0 v5).bind fun x6 => (if (x6.Kind != v1) = true then (some (-1)) else (if (x6.R != (IntKind.i64.wrap (v1 + 1))) = true then (some (-1)) else (if (x6.N != (IntKind.i64.wrap ((IntKind.i64.wrap (v1 + 1)) + 1))) = true then (some (-1)) else ((aF (IntKind.i64.wrap ((IntKind.i64.wrap ((IntKind.i64.wrap (v1 + 1)) + 1)) + 1))).bind fun x14 => (if (!(x6.Text.toList == x14.toList)) = true then (some (-1)) else (dZ p0 nL1 (IntKind.i64.wrap ((IntKind.i64.wrap ((IntKind.i64.wrap ((IntKind.i64.wrap (v1 + 1)) + 1)) + 1)) + 1)) (IntKind.i64.wrap (v5 + 1))))))))) else (some v1)
def qM (p0 : List M.Instr) (p1 : Int) : Option Int :=
  dZ p0 fuel p1 0
def fR (p0 : List Int) : Nat → Int → Int → Option Int
  | 0, _, _ => none
  | nL1 + 1, v1, v5 => if (decide (v5 < (List.length p0 : Int))) = true then ((idx p0 v5).bind fun x6 => (if (x6 != v1) = true then (some (-1)) else (fR p0 nL1 (IntKind.i64.wrap (v1 + 1)) (IntKind.i64.wrap (v5 + 1))))) else (some v1)
def wF (p0 : List Int) (p1 : Int) : Option Int :=
  fR p0 fuel p1 0
def dQ (p0 : List M.bF) : Nat → Int → Int → Option Int
  | 0, _, _ => none
  | nL1 + 1, v1, v5 => if (decide (v5 < (List.length p0 : Int))) = true then ((idx p0 v5).bind fun x6 => (if (x6.Id != v1) = true then (some (-1)) else ((aF (IntKind.i64.wrap (v1 + 1))).bind fun x12 => (if (!(x6.Site.toList == x12.toList)) = true then (some (-1)) else ((aF (IntKind.i64.wrap ((IntKind.i64.wrap (v1 + 1)) + 1))).bind fun x15 => (if (!(x6.Top.toList == x15.toList)) = true then (some (-1)) else (if (x6.Version != (IntKind.i64.wrap ((IntKind.i64.wrap ((IntKind.i64.wrap (v1 + 1)) + 1)) + 1))) = true then (some (-1)) else ((nH x6.aM (IntKind.i64.wrap ((IntKind.i64.wrap ((IntKind.i64.wrap ((IntKind.i64.wrap (v1 + 1)) + 1)) + 1)) + 1))).bind fun x19 => (if (decide (x19 < 0)) = true then (some (-1)) else ((qM x6.Machine.Script x19).bind fun x22 => (if (decide (x22 < 0)) = true then (some (-1)) else (if (x6.Machine.Pc != x22) = true then (some (-1)) else ((wF x6.Machine.Regs (IntKind.i64.wrap (x22 + 1))).bind fun x30 => (if (decide (x30 < 0)) = true then (some (-1)) else (if (x6.Machine.Steps != x30) = true then (some (-1)) else (if (!(x6.Machine.Done == ((Int.tmod (IntKind.i64.wrap (x30 + 1)) 3) == 0))) = true then (some (-1)) else (if (!(x6.Machine.Wait == ((Int.tmod (IntKind.i64.wrap ((IntKind.i64.wrap (x30 + 1)) + 1)) 3) == 0))) = true then (some (-1)) else (dQ p0 nL1 (IntKind.i64.wrap ((IntKind.i64.wrap ((IntKind.i64.wrap (x30 + 1)) + 1)) + 1)) (IntKind.i64.wrap (v5 + 1)))))))))))))))))))) else (some v1)
def sE (p0 : List M.bF) (p1 : Int) : Option Int :=
  dQ p0 fuel p1 0
def fC (p0 : List M.bZ) : Nat → Int → Int → Option Int
  | 0, _, _ => none
  | nL1 + 1, v1, v5 => if (decide (v5 < (List.length p0 : Int))) = true then ((idx p0 v5).bind fun x6 => ((aF v1).bind fun x11 => (if (!(x6.Name.toList == x11.toList)) = true then (some (-1)) else (if (x6.bF != (IntKind.i64.wrap (v1 + 1))) = true then (some (-1)) else (if (!(x6.Shared == ((Int.tmod (IntKind.i64.wrap ((IntKind.i64.wrap (v1 + 1)) + 1)) 3) == 0))) = true then (some (-1)) else (if (!(x6.Held == ((Int.tmod (IntKind.i64.wrap ((IntKind.i64.wrap ((IntKind.i64.wrap (v1 + 1)) + 1)) + 1)) 3) == 0))) = true then (some (-1)) else (fC p0 nL1 (IntKind.i64.wrap ((IntKind.i64.wrap ((IntKind.i64.wrap ((IntKind.i64.wrap (v1 + 1)) + 1)) + 1)) + 1)) (IntKind.i64.wrap (v5 + 1))))))))) else (some v1)
def tH (p0 : List M.bZ) (p1 : Int) : Option Int :=
  fC p0 fuel p1 0
def oP (p0 : M.aQ) (p1 : Int) : Option Int :=
  (tH p0.Locks p1).bind fun x1 => (if (decide (x1 < 0)) = true then (some (-1)) else (some x1))
def fA (p0 : List M.cN) : Nat → Int → Int → Option Int
  | 0, _, _ => none
  | nL1 + 1, v1, v5 => if (decide (v5 < (List.length p0 : Int))) = true then ((idx p0 v5).bind fun x6 => (if (x6.To != v1) = true then (some (-1)) else (if (x6.From != (IntKind.i64.wrap (v1 + 1))) = true then (some (-1)) else (if (x6.N != (IntKind.i64.wrap ((IntKind.i64.wrap (v1 + 1)) + 1))) = true then (some (-1)) else (fA p0 nL1 (IntKind.i64.wrap ((IntKind.i64.wrap ((IntKind.i64.wrap (v1 + 1)) + 1)) + 1)) (IntKind.i64.wrap (v5 + 1))))))) else (some v1)
def rL (p0 : List M.cN) (p1 : Int) : Option Int :=
  fA p0 fuel p1 0
def uE (p0 : M.Channel) (p1 : Int) : Option Int :=
  (rL p0.Mails p1).bind fun x1 => (if (decide (x1 < 0)) = true then (some (-1)) else (some x1))
def dJ (p0 : List ByteArray) : Nat → Int → Int → Option Int
  | 0, _, _ => none
  | nL1 + 1, v1, v5 => if (decide (v5 < (List.length p0 : Int))) = true then ((idx p0 v5).bind fun x6 => ((aF v1).bind fun x11 => (if (!(x6.toList == x11.toList)) = true then (some (-1)) else (dJ p0 nL1 (IntKind.i64.wrap (v1 + 1)) (IntKind.i64.wrap (v5 + 1)))))) else (some v1)
def mW (p0 : List ByteArray) (p1 : Int) : Option Int :=
  dJ p0 fuel p1 0
def eU (p0 : List M.Site) : Nat → Int → Int → Option Int
  | 0, _, _ => none
  | nL1 + 1, v1, v5 => if (decide (v5 < (List.length p0 : Int))) = true then ((idx p0 v5).bind fun x6 => ((aF v1).bind fun x11 => (if (!(x6.Name.toList == x11.toList)) = true then (some (-1)) else (if (x6.Version != (IntKind.i64.wrap (v1 + 1))) = true then (some (-1)) else ((mW x6.Files (IntKind.i64.wrap ((IntKind.i64.wrap (v1 + 1)) + 1))).bind fun x15 => (if (decide (x15 < 0)) = true then (some (-1)) else (if (!(x6.Shared == ((Int.tmod x15 3) == 0))) = true then (some (-1)) else (eU p0 nL1 (IntKind.i64.wrap (x15 + 1)) (IntKind.i64.wrap (v5 + 1)))))))))) else (some v1)
def tF (p0 : List M.Site) (p1 : Int) : Option Int :=
  eU p0 fuel p1 0
def cQ (p0 : List M.aH) : Nat → Int → Int → Option Int
  | 0, _, _ => none
  | nL1 + 1, v1, v5 => if (decide (v5 < (List.length p0 : Int))) = true then ((idx p0 v5).bind fun x6 => (if (x6.Device != v1) = true then (some (-1)) else (if (x6.Seq != (IntKind.i64.wrap (v1 + 1))) = true then (some (-1)) else (cQ p0 nL1 (IntKind.i64.wrap ((IntKind.i64.wrap (v1 + 1)) + 1)) (IntKind.i64.wrap (v5 + 1)))))) else (some v1)
def lU (p0 : List M.aH) (p1 : Int) : Option Int :=
  cQ p0 fuel p1 0
def cJ (p0 : List M.Server) : Nat → Int → Int → Option Int
  | 0, _, _ => none
  | nL1 + 1, v1, v5 => if (decide (v5 < (List.length p0 : Int))) = true then ((idx p0 v5).bind fun x6 => ((aF v1).bind fun x11 => (if (!(x6.aG.Name.toList == x11.toList)) = true then (some (-1)) else ((kI x6.aG.Items (IntKind.i64.wrap (v1 + 1))).bind fun x14 => (if (decide (x14 < 0)) = true then (some (-1)) else (if (x6.aG.Auto != x14) = true then (some (-1)) else ((lU x6.aH (IntKind.i64.wrap (x14 + 1))).bind fun x18 => (if (decide (x18 < 0)) = true then (some (-1)) else ((lG x6.Changes x18).bind fun x21 => (if (decide (x21 < 0)) = true then (some (-1)) else (cJ p0 nL1 x21 (IntKind.i64.wrap (v5 + 1))))))))))))) else (some v1)
def nN (p0 : List M.Server) (p1 : Int) : Option Int :=
  cJ p0 fuel p1 0
def mS (p0 : M.World) (p1 : Int) : Option Int :=
  (uD p0.aK p1).bind fun x1 => (if (decide (x1 < 0)) = true then (some (-1)) else ((sE p0.Pages x1).bind fun x4 => (if (decide (x4 < 0)) = true then (some (-1)) else ((oP p0.Locks x4).bind fun x7 => (if (decide (x7 < 0)) = true then (some (-1)) else ((uE p0.Channel x7).bind fun x10 => (if (decide (x10 < 0)) = true then (some (-1)) else ((tF p0.Sites x10).bind fun x13 => (if (decide (x13 < 0)) = true then (some (-1)) else ((nN p0.Servers x13).bind fun x16 => (if (decide (x16 < 0)) = true then (some (-1)) else (some x16))))))))))))
def mI (p0 : M.World) (p1 : Int) (p2 : Int) : Option Bool :=
  (xU p0 1048576).bind fun x1 => (if (decide (x1 < 0)) = true then (some true) else ((kW p0).bind fun x4 => ((vD x4 p1 p2).bind fun x6 => ((kW p0).bind fun x8 => ((pE x8 p1 p2).bind fun x10 => ((kX x10.1 x6.1).bind fun x12 => (if (!x12) = true then (some false) else (if (x10.2 != x6.2) = true then (some false) else ((kW p0).bind fun x16 => ((kX x8 x16).bind fun x18 => (if (!x18) = true then (some false) else ((mU x8 1).bind fun x21 => (if (decide (x21.2.2.2.2.2.2 < 0)) = true then (some false) else ((kX x10.1 x6.1).bind fun x48 => (if (!x48) = true then (some false) else ((mU x10.1 1).bind fun x51 => ((mS (⟨x10.1.Now, x10.1.Online, x10.1.Device, (⟨x51.1⟩ : M.aK), x51.2.1, x10.1.NextPage, (⟨x51.2.2.1⟩ : M.aQ), (⟨x51.2.2.2.1⟩ : M.Channel), x51.2.2.2.2.1, x51.2.2.2.2.2.1⟩ : M.World) 1).bind fun x76 => (if (decide (x76 < 0)) = true then (some false) else (if (x76 != x51.2.2.2.2.2.2) = true then (some false) else ((kW p0).bind fun x80 => ((pE x80 p1 p2).bind fun x82 => ((kX x82.1 x6.1).bind fun x84 => (if (!x84) = true then (some false) else (if (x82.2 != x6.2) = true then (some false) else ((mS (⟨x10.1.Now, x10.1.Online, x10.1.Device, (⟨x51.1⟩ : M.aK), x51.2.1, x10.1.NextPage, (⟨x51.2.2.1⟩ : M.aQ), (⟨x51.2.2.2.1⟩ : M.Channel), x51.2.2.2.2.1, x51.2.2.2.2.2.1⟩ : M.World) 1).bind fun x88 => (if (decide (x88 < 0)) = true then (some false) else (if (x88 != x51.2.2.2.2.2.2) = true then (some false) else (some true))))))))))))))))))))))))))))
end Go.Proofs.YtecmnmaaopkdfaaGreat.gen
