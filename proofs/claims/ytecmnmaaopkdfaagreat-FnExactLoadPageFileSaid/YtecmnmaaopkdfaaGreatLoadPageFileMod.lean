/-
  Helper text. No conditions.
-/
import Derived.Test.YtecmnmaaopkdfaaGreatShS
namespace Go.Proofs.YtecmnmaaopkdfaaGreat.gen
open Go Go.Sh
set_option linter.unusedVariables false
set_option linter.unusedSimpArgs false
structure M.Registration where
  Site : ByteArray
  Installing : Int
  Waiting : Int
  Active : Int
def M.Registration.en (x : M.Registration) : List D := [.str x.Site, .int .i64 x.Installing, .int .i64 x.Waiting, .int .i64 x.Active]
theorem M.Registration.en.fl (l : List M.Registration) : (List.map M.Registration.en l).all (fun y => y.all D.flat) = true := aEl (fun _ => rfl) l
structure M.Response where
  Type_ : Int
  Status : Int
  Version : Int
  Body : List Int
  Shares : Bool
def M.Response.en (x : M.Response) : List D := [.int .i64 x.Type_, .int .i64 x.Status, .int .i64 x.Version, .sl (List.map enB x.Body), .bool x.Shares]
structure M.Cached where
  Site : ByteArray
  Path : ByteArray
  Response : M.Response
def M.Cached.en (x : M.Cached) : List D := [.str x.Site, .str x.Path, .int .i64 x.Response.Type_, .int .i64 x.Response.Status, .int .i64 x.Response.Version, .sl (List.map enB x.Response.Body), .bool x.Response.Shares]
structure M.Cache where
  Version : Int
  Entries : List M.Cached
def M.Cache.en (x : M.Cache) : List D := [.int .i64 x.Version, .sl (List.map M.Cached.en x.Entries)]
structure M.aP where
  Caches : List M.Cache
def M.aP.en (x : M.aP) : List D := [.sl (List.map M.Cache.en x.Caches)]
structure M.Key where
  Kind : Int
  N : Int
  Text : ByteArray
def M.Key.en (x : M.Key) : List D := [.int .i64 x.Kind, .int .i64 x.N, .str x.Text]
theorem M.Key.en.fl (l : List M.Key) : (List.map M.Key.en l).all (fun y => y.all D.flat) = true := aEl (fun _ => rfl) l
structure M.Field where
  Name : ByteArray
  N : Int
def M.Field.en (x : M.Field) : List D := [.str x.Name, .int .i64 x.N]
theorem M.Field.en.fl (l : List M.Field) : (List.map M.Field.en l).all (fun y => y.all D.flat) = true := aEl (fun _ => rfl) l
structure M.aU where
  Fields : List M.Field
def M.aU.en (x : M.aU) : List D := [.sl (List.map M.Field.en x.Fields)]
structure M.Item where
  Key : M.Key
  aU : M.aU
def M.Item.en (x : M.Item) : List D := [.int .i64 x.Key.Kind, .int .i64 x.Key.N, .str x.Key.Text, .sl (List.map M.Field.en x.aU.Fields)]
structure M.aG where
  Name : ByteArray
  Items : List M.Item
  Auto : Int
def M.aG.en (x : M.aG) : List D := [.str x.Name, .sl (List.map M.Item.en x.Items), .int .i64 x.Auto]
structure M.aA where
  aG : ByteArray
  Field : ByteArray
def M.aA.en (x : M.aA) : List D := [.str x.aG, .str x.Field]
theorem M.aA.en.fl (l : List M.aA) : (List.map M.aA.en l).all (fun y => y.all D.flat) = true := aEl (fun _ => rfl) l
structure M.Database where
  Name : ByteArray
  Version : Int
  Stores : List M.aG
  Unique : List M.aA
def M.Database.en (x : M.Database) : List D := [.str x.Name, .int .i64 x.Version, .sl (List.map M.aG.en x.Stores), .sl (List.map M.aA.en x.Unique)]
structure M.bF where
  Base : M.Database
  Log : List Int
  Count : Int
def M.bF.en (x : M.bF) : List D := [.str x.Base.Name, .int .i64 x.Base.Version, .sl (List.map M.aG.en x.Base.Stores), .sl (List.map M.aA.en x.Base.Unique), .sl (List.map enB x.Log), .int .i64 x.Count]
structure M.aW where
  Device : Int
  Seq : Int
  Key : M.Key
  Field : ByteArray
  N : Int
def M.aW.en (x : M.aW) : List D := [.int .i64 x.Device, .int .i64 x.Seq, .int .i64 x.Key.Kind, .int .i64 x.Key.N, .str x.Key.Text, .str x.Field, .int .i64 x.N]
theorem M.aW.en.fl (l : List M.aW) : (List.map M.aW.en l).all (fun y => y.all D.flat) = true := aEl (fun _ => rfl) l
structure M.aV where
  Device : Int
  Next : Int
  Writes : List M.aW
def M.aV.en (x : M.aV) : List D := [.int .i64 x.Device, .int .i64 x.Next, .sl (List.map M.aW.en x.Writes)]
structure M.Sync where
  aV : M.aV
  Tries : Int
  WaitUntil : Int
def M.Sync.en (x : M.Sync) : List D := [.int .i64 x.aV.Device, .int .i64 x.aV.Next, .sl (List.map M.aW.en x.aV.Writes), .int .i64 x.Tries, .int .i64 x.WaitUntil]
structure M.aC where
  Base : M.aG
  Seen : Int
  Sync : M.Sync
def M.aC.en (x : M.aC) : List D := [.str x.Base.Name, .sl (List.map M.Item.en x.Base.Items), .int .i64 x.Base.Auto, .int .i64 x.Seen, .int .i64 x.Sync.aV.Device, .int .i64 x.Sync.aV.Next, .sl (List.map M.aW.en x.Sync.aV.Writes), .int .i64 x.Sync.Tries, .int .i64 x.Sync.WaitUntil]
structure M.aE where
  Site : ByteArray
  Top : ByteArray
  Registration : M.Registration
  Caches : M.aP
  bF : M.bF
  aC : M.aC
  LastUsed : Int
  Persistent : Bool
def M.aE.en (x : M.aE) : List D := [.str x.Site, .str x.Top, .str x.Registration.Site, .int .i64 x.Registration.Installing, .int .i64 x.Registration.Waiting, .int .i64 x.Registration.Active, .sl (List.map M.Cache.en x.Caches.Caches), .str x.bF.Base.Name, .int .i64 x.bF.Base.Version, .sl (List.map M.aG.en x.bF.Base.Stores), .sl (List.map M.aA.en x.bF.Base.Unique), .sl (List.map enB x.bF.Log), .int .i64 x.bF.Count, .str x.aC.Base.Name, .sl (List.map M.Item.en x.aC.Base.Items), .int .i64 x.aC.Base.Auto, .int .i64 x.aC.Seen, .int .i64 x.aC.Sync.aV.Device, .int .i64 x.aC.Sync.aV.Next, .sl (List.map M.aW.en x.aC.Sync.aV.Writes), .int .i64 x.aC.Sync.Tries, .int .i64 x.aC.Sync.WaitUntil, .int .i64 x.LastUsed, .bool x.Persistent]
structure M.aK where
  Buckets : List M.aE
def M.aK.en (x : M.aK) : List D := [.sl (List.map M.aE.en x.Buckets)]
structure M.aJ where
  Path : ByteArray
  Version : Int
def M.aJ.en (x : M.aJ) : List D := [.str x.Path, .int .i64 x.Version]
theorem M.aJ.en.fl (l : List M.aJ) : (List.map M.aJ.en l).all (fun y => y.all D.flat) = true := aEl (fun _ => rfl) l
structure M.Instr where
  Kind : Int
  R : Int
  N : Int
  Text : ByteArray
def M.Instr.en (x : M.Instr) : List D := [.int .i64 x.Kind, .int .i64 x.R, .int .i64 x.N, .str x.Text]
theorem M.Instr.en.fl (l : List M.Instr) : (List.map M.Instr.en l).all (fun y => y.all D.flat) = true := aEl (fun _ => rfl) l
structure M.Machine where
  Script : List M.Instr
  Pc : Int
  Regs : List Int
  Steps : Int
  Done : Bool
  Wait : Bool
def M.Machine.en (x : M.Machine) : List D := [.sl (List.map M.Instr.en x.Script), .int .i64 x.Pc, .sl (List.map enI x.Regs), .int .i64 x.Steps, .bool x.Done, .bool x.Wait]
structure M.bG where
  Id : Int
  Site : ByteArray
  Top : ByteArray
  Version : Int
  aJ : List M.aJ
  Machine : M.Machine
def M.bG.en (x : M.bG) : List D := [.int .i64 x.Id, .str x.Site, .str x.Top, .int .i64 x.Version, .sl (List.map M.aJ.en x.aJ), .sl (List.map M.Instr.en x.Machine.Script), .int .i64 x.Machine.Pc, .sl (List.map enI x.Machine.Regs), .int .i64 x.Machine.Steps, .bool x.Machine.Done, .bool x.Machine.Wait]
structure M.cF where
  Name : ByteArray
  bG : Int
  Shared : Bool
  Held : Bool
def M.cF.en (x : M.cF) : List D := [.str x.Name, .int .i64 x.bG, .bool x.Shared, .bool x.Held]
theorem M.cF.en.fl (l : List M.cF) : (List.map M.cF.en l).all (fun y => y.all D.flat) = true := aEl (fun _ => rfl) l
structure M.aR where
  Locks : List M.cF
def M.aR.en (x : M.aR) : List D := [.sl (List.map M.cF.en x.Locks)]
structure M.fH where
  To : Int
  From : Int
  N : Int
def M.fH.en (x : M.fH) : List D := [.int .i64 x.To, .int .i64 x.From, .int .i64 x.N]
theorem M.fH.en.fl (l : List M.fH) : (List.map M.fH.en l).all (fun y => y.all D.flat) = true := aEl (fun _ => rfl) l
structure M.Channel where
  Mails : List M.fH
def M.Channel.en (x : M.Channel) : List D := [.sl (List.map M.fH.en x.Mails)]
structure M.Site where
  Name : ByteArray
  Version : Int
  Files : List ByteArray
  Shared : Bool
def M.Site.en (x : M.Site) : List D := [.str x.Name, .int .i64 x.Version, .sl (List.map enS x.Files), .bool x.Shared]
structure M.aH where
  Device : Int
  Seq : Int
def M.aH.en (x : M.aH) : List D := [.int .i64 x.Device, .int .i64 x.Seq]
theorem M.aH.en.fl (l : List M.aH) : (List.map M.aH.en l).all (fun y => y.all D.flat) = true := aEl (fun _ => rfl) l
structure M.Server where
  aG : M.aG
  aH : List M.aH
  Changes : List M.aW
def M.Server.en (x : M.Server) : List D := [.str x.aG.Name, .sl (List.map M.Item.en x.aG.Items), .int .i64 x.aG.Auto, .sl (List.map M.aH.en x.aH), .sl (List.map M.aW.en x.Changes)]
structure M.World where
  Now : Int
  Online : Bool
  Device : Int
  aK : M.aK
  Pages : List M.bG
  NextPage : Int
  Locks : M.aR
  Channel : M.Channel
  Sites : List M.Site
  Servers : List M.Server
def M.World.en (x : M.World) : List D := [.int .i64 x.Now, .bool x.Online, .int .i64 x.Device, .sl (List.map M.aE.en x.aK.Buckets), .sl (List.map M.bG.en x.Pages), .int .i64 x.NextPage, .sl (List.map M.cF.en x.Locks.Locks), .sl (List.map M.fH.en x.Channel.Mails), .sl (List.map M.Site.en x.Sites), .sl (List.map M.Server.en x.Servers)]
def kH (p0 : M.Registration) (p1 : Int) : Option Int :=
  if (decide ((IntKind.i64.wrap (p1 - (p0.Site.size : Int))) < 0)) = true then (some (-1)) else (some (IntKind.i64.wrap (p1 - (p0.Site.size : Int))))
def vH (p0 : List Int) (p1 : Int) : Option Int :=
  if (decide ((IntKind.i64.wrap (p1 - (List.length p0 : Int))) < 0)) = true then (some (-1)) else (some (IntKind.i64.wrap (p1 - (List.length p0 : Int))))
def qA (p0 : M.Response) (p1 : Int) : Option Int :=
  (vH p0.Body p1).bind fun x1 => (if (decide (x1 < 0)) = true then (some (-1)) else (some x1))
def wB (p0 : M.Cached) (p1 : Int) : Option Int :=
  if (decide ((IntKind.i64.wrap (p1 - (p0.Site.size : Int))) < 0)) = true then (some (-1)) else (if (decide ((IntKind.i64.wrap ((IntKind.i64.wrap (p1 - (p0.Site.size : Int))) - (p0.Path.size : Int))) < 0)) = true then (some (-1)) else ((qA p0.Response (IntKind.i64.wrap ((IntKind.i64.wrap (p1 - (p0.Site.size : Int))) - (p0.Path.size : Int)))).bind fun x3 => (if (decide (x3 < 0)) = true then (some (-1)) else (some x3))))
def sM (p0 : List M.Cached) : Nat → Int → Int → Option Int
  | 0, _, _ => none
  | nL1 + 1, v1, v5 => if (decide (v5 < (List.length p0 : Int))) = true then ((idx p0 v5).bind fun x7 => ((wB x7 v1).bind fun x12 => (if (decide (x12 < 0)) = true then (some (-1)) else (sM p0 nL1 x12 (IntKind.i64.wrap (v5 + 1)))))) else (some v1)
def uP (p0 : List M.Cached) (p1 : Int) : Option Int :=
  if (decide ((IntKind.i64.wrap (p1 - (List.length p0 : Int))) < 0)) = true then (some (-1)) else (sM p0 fuel (IntKind.i64.wrap (p1 - (List.length p0 : Int))) 0)
def zZ (p0 : M.Cache) (p1 : Int) : Option Int :=
  (uP p0.Entries p1).bind fun x1 => (if (decide (x1 < 0)) = true then (some (-1)) else (some x1))
def vN (p0 : List M.Cache) : Nat → Int → Int → Option Int
  | 0, _, _ => none
  | nL1 + 1, v1, v5 => if (decide (v5 < (List.length p0 : Int))) = true then ((idx p0 v5).bind fun x7 => ((zZ x7 v1).bind fun x12 => (if (decide (x12 < 0)) = true then (some (-1)) else (vN p0 nL1 x12 (IntKind.i64.wrap (v5 + 1)))))) else (some v1)
def xB (p0 : List M.Cache) (p1 : Int) : Option Int :=
  if (decide ((IntKind.i64.wrap (p1 - (List.length p0 : Int))) < 0)) = true then (some (-1)) else (vN p0 fuel (IntKind.i64.wrap (p1 - (List.length p0 : Int))) 0)
def rX (p0 : M.aP) (p1 : Int) : Option Int :=
  (xB p0.Caches p1).bind fun x1 => (if (decide (x1 < 0)) = true then (some (-1)) else (some x1))
def aAP (p0 : M.Key) (p1 : Int) : Option Int :=
  if (decide ((IntKind.i64.wrap (p1 - (p0.Text.size : Int))) < 0)) = true then (some (-1)) else (some (IntKind.i64.wrap (p1 - (p0.Text.size : Int))))
def zN (p0 : M.Field) (p1 : Int) : Option Int :=
  if (decide ((IntKind.i64.wrap (p1 - (p0.Name.size : Int))) < 0)) = true then (some (-1)) else (some (IntKind.i64.wrap (p1 - (p0.Name.size : Int))))
def vX (p0 : List M.Field) : Nat → Int → Int → Option Int
  | 0, _, _ => none
  | nL1 + 1, v1, v5 => if (decide (v5 < (List.length p0 : Int))) = true then ((idx p0 v5).bind fun x7 => ((zN x7 v1).bind fun x12 => (if (decide (x12 < 0)) = true then (some (-1)) else (vX p0 nL1 x12 (IntKind.i64.wrap (v5 + 1)))))) else (some v1)
def wI (p0 : List M.Field) (p1 : Int) : Option Int :=
  if (decide ((IntKind.i64.wrap (p1 - (List.length p0 : Int))) < 0)) = true then (some (-1)) else (vX p0 fuel (IntKind.i64.wrap (p1 - (List.length p0 : Int))) 0)
def xJ (p0 : M.aU) (p1 : Int) : Option Int :=
  (wI p0.Fields p1).bind fun x1 => (if (decide (x1 < 0)) = true then (some (-1)) else (some x1))
def aAy (p0 : M.Item) (p1 : Int) : Option Int :=
  (aAP p0.Key p1).bind fun x1 => (if (decide (x1 < 0)) = true then (some (-1)) else ((xJ p0.aU x1).bind fun x4 => (if (decide (x4 < 0)) = true then (some (-1)) else (some x4))))
def yB (p0 : List M.Item) : Nat → Int → Int → Option Int
  | 0, _, _ => none
  | nL1 + 1, v1, v5 => if (decide (v5 < (List.length p0 : Int))) = true then ((idx p0 v5).bind fun x7 => ((aAy x7 v1).bind fun x12 => (if (decide (x12 < 0)) = true then (some (-1)) else (yB p0 nL1 x12 (IntKind.i64.wrap (v5 + 1)))))) else (some v1)
def yS (p0 : List M.Item) (p1 : Int) : Option Int :=
  if (decide ((IntKind.i64.wrap (p1 - (List.length p0 : Int))) < 0)) = true then (some (-1)) else (yB p0 fuel (IntKind.i64.wrap (p1 - (List.length p0 : Int))) 0)
def pJ (p0 : M.aG) (p1 : Int) : Option Int :=
  if (decide ((IntKind.i64.wrap (p1 - (p0.Name.size : Int))) < 0)) = true then (some (-1)) else ((yS p0.Items (IntKind.i64.wrap (p1 - (p0.Name.size : Int)))).bind fun x2 => (if (decide (x2 < 0)) = true then (some (-1)) else (some x2)))
def vY (p0 : List M.aG) : Nat → Int → Int → Option Int
  | 0, _, _ => none
  | nL1 + 1, v1, v5 => if (decide (v5 < (List.length p0 : Int))) = true then ((idx p0 v5).bind fun x7 => ((pJ x7 v1).bind fun x12 => (if (decide (x12 < 0)) = true then (some (-1)) else (vY p0 nL1 x12 (IntKind.i64.wrap (v5 + 1)))))) else (some v1)
def xO (p0 : List M.aG) (p1 : Int) : Option Int :=
  if (decide ((IntKind.i64.wrap (p1 - (List.length p0 : Int))) < 0)) = true then (some (-1)) else (vY p0 fuel (IntKind.i64.wrap (p1 - (List.length p0 : Int))) 0)
def rO (p0 : M.aA) (p1 : Int) : Option Int :=
  if (decide ((IntKind.i64.wrap (p1 - (p0.aG.size : Int))) < 0)) = true then (some (-1)) else (if (decide ((IntKind.i64.wrap ((IntKind.i64.wrap (p1 - (p0.aG.size : Int))) - (p0.Field.size : Int))) < 0)) = true then (some (-1)) else (some (IntKind.i64.wrap ((IntKind.i64.wrap (p1 - (p0.aG.size : Int))) - (p0.Field.size : Int)))))
def pB (p0 : List M.aA) : Nat → Int → Int → Option Int
  | 0, _, _ => none
  | nL1 + 1, v1, v5 => if (decide (v5 < (List.length p0 : Int))) = true then ((idx p0 v5).bind fun x7 => ((rO x7 v1).bind fun x12 => (if (decide (x12 < 0)) = true then (some (-1)) else (pB p0 nL1 x12 (IntKind.i64.wrap (v5 + 1)))))) else (some v1)
def nV (p0 : List M.aA) (p1 : Int) : Option Int :=
  if (decide ((IntKind.i64.wrap (p1 - (List.length p0 : Int))) < 0)) = true then (some (-1)) else (pB p0 fuel (IntKind.i64.wrap (p1 - (List.length p0 : Int))) 0)
def pZ (p0 : M.Database) (p1 : Int) : Option Int :=
  if (decide ((IntKind.i64.wrap (p1 - (p0.Name.size : Int))) < 0)) = true then (some (-1)) else ((xO p0.Stores (IntKind.i64.wrap (p1 - (p0.Name.size : Int)))).bind fun x2 => (if (decide (x2 < 0)) = true then (some (-1)) else ((nV p0.Unique x2).bind fun x5 => (if (decide (x5 < 0)) = true then (some (-1)) else (some x5)))))
def aAo (p0 : M.bF) (p1 : Int) : Option Int :=
  (pZ p0.Base p1).bind fun x1 => (if (decide (x1 < 0)) = true then (some (-1)) else ((vH p0.Log x1).bind fun x4 => (if (decide (x4 < 0)) = true then (some (-1)) else (some x4))))
def aAH (p0 : M.aW) (p1 : Int) : Option Int :=
  (aAP p0.Key p1).bind fun x1 => (if (decide (x1 < 0)) = true then (some (-1)) else (if (decide ((IntKind.i64.wrap (x1 - (p0.Field.size : Int))) < 0)) = true then (some (-1)) else (some (IntKind.i64.wrap (x1 - (p0.Field.size : Int))))))
def vT (p0 : List M.aW) : Nat → Int → Int → Option Int
  | 0, _, _ => none
  | nL1 + 1, v1, v5 => if (decide (v5 < (List.length p0 : Int))) = true then ((idx p0 v5).bind fun x7 => ((aAH x7 v1).bind fun x12 => (if (decide (x12 < 0)) = true then (some (-1)) else (vT p0 nL1 x12 (IntKind.i64.wrap (v5 + 1)))))) else (some v1)
def sD (p0 : List M.aW) (p1 : Int) : Option Int :=
  if (decide ((IntKind.i64.wrap (p1 - (List.length p0 : Int))) < 0)) = true then (some (-1)) else (vT p0 fuel (IntKind.i64.wrap (p1 - (List.length p0 : Int))) 0)
def xA (p0 : M.aV) (p1 : Int) : Option Int :=
  (sD p0.Writes p1).bind fun x1 => (if (decide (x1 < 0)) = true then (some (-1)) else (some x1))
def aAm (p0 : M.Sync) (p1 : Int) : Option Int :=
  (xA p0.aV p1).bind fun x1 => (if (decide (x1 < 0)) = true then (some (-1)) else (some x1))
def uO (p0 : M.aC) (p1 : Int) : Option Int :=
  (pJ p0.Base p1).bind fun x1 => (if (decide (x1 < 0)) = true then (some (-1)) else ((aAm p0.Sync x1).bind fun x4 => (if (decide (x4 < 0)) = true then (some (-1)) else (some x4))))
def xN (p0 : M.aE) (p1 : Int) : Option Int :=
  if (decide ((IntKind.i64.wrap (p1 - (p0.Site.size : Int))) < 0)) = true then (some (-1)) else (if (decide ((IntKind.i64.wrap ((IntKind.i64.wrap (p1 - (p0.Site.size : Int))) - (p0.Top.size : Int))) < 0)) = true then (some (-1)) else ((kH p0.Registration (IntKind.i64.wrap ((IntKind.i64.wrap (p1 - (p0.Site.size : Int))) - (p0.Top.size : Int)))).bind fun x3 => (if (decide (x3 < 0)) = true then (some (-1)) else ((rX p0.Caches x3).bind fun x6 => (if (decide (x6 < 0)) = true then (some (-1)) else ((aAo p0.bF x6).bind fun x9 => (if (decide (x9 < 0)) = true then (some (-1)) else ((uO p0.aC x9).bind fun x12 => (if (decide (x12 < 0)) = true then (some (-1)) else (some x12))))))))))
def sR (p0 : List M.aE) : Nat → Int → Int → Option Int
  | 0, _, _ => none
  | nL1 + 1, v1, v5 => if (decide (v5 < (List.length p0 : Int))) = true then ((idx p0 v5).bind fun x7 => ((xN x7 v1).bind fun x12 => (if (decide (x12 < 0)) = true then (some (-1)) else (sR p0 nL1 x12 (IntKind.i64.wrap (v5 + 1)))))) else (some v1)
def uU (p0 : List M.aE) (p1 : Int) : Option Int :=
  if (decide ((IntKind.i64.wrap (p1 - (List.length p0 : Int))) < 0)) = true then (some (-1)) else (sR p0 fuel (IntKind.i64.wrap (p1 - (List.length p0 : Int))) 0)
def tU (p0 : M.aK) (p1 : Int) : Option Int :=
  (uU p0.Buckets p1).bind fun x1 => (if (decide (x1 < 0)) = true then (some (-1)) else (some x1))
def xD (p0 : M.aJ) (p1 : Int) : Option Int :=
  if (decide ((IntKind.i64.wrap (p1 - (p0.Path.size : Int))) < 0)) = true then (some (-1)) else (some (IntKind.i64.wrap (p1 - (p0.Path.size : Int))))
def sJ (p0 : List M.aJ) : Nat → Int → Int → Option Int
  | 0, _, _ => none
  | nL1 + 1, v1, v5 => if (decide (v5 < (List.length p0 : Int))) = true then ((idx p0 v5).bind fun x7 => ((xD x7 v1).bind fun x12 => (if (decide (x12 < 0)) = true then (some (-1)) else (sJ p0 nL1 x12 (IntKind.i64.wrap (v5 + 1)))))) else (some v1)
def uJ (p0 : List M.aJ) (p1 : Int) : Option Int :=
  if (decide ((IntKind.i64.wrap (p1 - (List.length p0 : Int))) < 0)) = true then (some (-1)) else (sJ p0 fuel (IntKind.i64.wrap (p1 - (List.length p0 : Int))) 0)
def zM (p0 : M.Instr) (p1 : Int) : Option Int :=
  if (decide ((IntKind.i64.wrap (p1 - (p0.Text.size : Int))) < 0)) = true then (some (-1)) else (some (IntKind.i64.wrap (p1 - (p0.Text.size : Int))))
def vQ (p0 : List M.Instr) : Nat → Int → Int → Option Int
  | 0, _, _ => none
  | nL1 + 1, v1, v5 => if (decide (v5 < (List.length p0 : Int))) = true then ((idx p0 v5).bind fun x7 => ((zM x7 v1).bind fun x12 => (if (decide (x12 < 0)) = true then (some (-1)) else (vQ p0 nL1 x12 (IntKind.i64.wrap (v5 + 1)))))) else (some v1)
def wT (p0 : List M.Instr) (p1 : Int) : Option Int :=
  if (decide ((IntKind.i64.wrap (p1 - (List.length p0 : Int))) < 0)) = true then (some (-1)) else (vQ p0 fuel (IntKind.i64.wrap (p1 - (List.length p0 : Int))) 0)
def aAd (p0 : List Int) (p1 : Int) : Option Int :=
  if (decide ((IntKind.i64.wrap (p1 - (List.length p0 : Int))) < 0)) = true then (some (-1)) else (some (IntKind.i64.wrap (p1 - (List.length p0 : Int))))
def tS (p0 : M.Machine) (p1 : Int) : Option Int :=
  (wT p0.Script p1).bind fun x1 => (if (decide (x1 < 0)) = true then (some (-1)) else ((aAd p0.Regs x1).bind fun x4 => (if (decide (x4 < 0)) = true then (some (-1)) else (some x4))))
def aA5 (p0 : M.bG) (p1 : Int) : Option Int :=
  if (decide ((IntKind.i64.wrap (p1 - (p0.Site.size : Int))) < 0)) = true then (some (-1)) else (if (decide ((IntKind.i64.wrap ((IntKind.i64.wrap (p1 - (p0.Site.size : Int))) - (p0.Top.size : Int))) < 0)) = true then (some (-1)) else ((uJ p0.aJ (IntKind.i64.wrap ((IntKind.i64.wrap (p1 - (p0.Site.size : Int))) - (p0.Top.size : Int)))).bind fun x3 => (if (decide (x3 < 0)) = true then (some (-1)) else ((tS p0.Machine x3).bind fun x6 => (if (decide (x6 < 0)) = true then (some (-1)) else (some x6))))))
def yC (p0 : List M.bG) : Nat → Int → Int → Option Int
  | 0, _, _ => none
  | nL1 + 1, v1, v5 => if (decide (v5 < (List.length p0 : Int))) = true then ((idx p0 v5).bind fun x7 => ((aA5 x7 v1).bind fun x12 => (if (decide (x12 < 0)) = true then (some (-1)) else (yC p0 nL1 x12 (IntKind.i64.wrap (v5 + 1)))))) else (some v1)
def zH (p0 : List M.bG) (p1 : Int) : Option Int :=
  if (decide ((IntKind.i64.wrap (p1 - (List.length p0 : Int))) < 0)) = true then (some (-1)) else (yC p0 fuel (IntKind.i64.wrap (p1 - (List.length p0 : Int))) 0)
def aBI (p0 : M.cF) (p1 : Int) : Option Int :=
  if (decide ((IntKind.i64.wrap (p1 - (p0.Name.size : Int))) < 0)) = true then (some (-1)) else (some (IntKind.i64.wrap (p1 - (p0.Name.size : Int))))
def xU (p0 : List M.cF) : Nat → Int → Int → Option Int
  | 0, _, _ => none
  | nL1 + 1, v1, v5 => if (decide (v5 < (List.length p0 : Int))) = true then ((idx p0 v5).bind fun x7 => ((aBI x7 v1).bind fun x12 => (if (decide (x12 < 0)) = true then (some (-1)) else (xU p0 nL1 x12 (IntKind.i64.wrap (v5 + 1)))))) else (some v1)
def yL (p0 : List M.cF) (p1 : Int) : Option Int :=
  if (decide ((IntKind.i64.wrap (p1 - (List.length p0 : Int))) < 0)) = true then (some (-1)) else (xU p0 fuel (IntKind.i64.wrap (p1 - (List.length p0 : Int))) 0)
def oV (p0 : M.aR) (p1 : Int) : Option Int :=
  (yL p0.Locks p1).bind fun x1 => (if (decide (x1 < 0)) = true then (some (-1)) else (some x1))
def aAG (p0 : List M.fH) (p1 : Int) : Option Int :=
  if (decide ((IntKind.i64.wrap (p1 - (List.length p0 : Int))) < 0)) = true then (some (-1)) else (some (IntKind.i64.wrap (p1 - (List.length p0 : Int))))
def uF (p0 : M.Channel) (p1 : Int) : Option Int :=
  (aAG p0.Mails p1).bind fun x1 => (if (decide (x1 < 0)) = true then (some (-1)) else (some x1))
def sH (p0 : List ByteArray) : Nat → Int → Int → Option Int
  | 0, _, _ => none
  | nL1 + 1, v1, v5 => if (decide (v5 < (List.length p0 : Int))) = true then ((idx p0 v5).bind fun x7 => (if (decide ((IntKind.i64.wrap (v1 - (x7.size : Int))) < 0)) = true then (some (-1)) else (sH p0 nL1 (IntKind.i64.wrap (v1 - (x7.size : Int))) (IntKind.i64.wrap (v5 + 1))))) else (some v1)
def tZ (p0 : List ByteArray) (p1 : Int) : Option Int :=
  if (decide ((IntKind.i64.wrap (p1 - (List.length p0 : Int))) < 0)) = true then (some (-1)) else (sH p0 fuel (IntKind.i64.wrap (p1 - (List.length p0 : Int))) 0)
def aA3 (p0 : M.Site) (p1 : Int) : Option Int :=
  if (decide ((IntKind.i64.wrap (p1 - (p0.Name.size : Int))) < 0)) = true then (some (-1)) else ((tZ p0.Files (IntKind.i64.wrap (p1 - (p0.Name.size : Int)))).bind fun x2 => (if (decide (x2 < 0)) = true then (some (-1)) else (some x2)))
def yD (p0 : List M.Site) : Nat → Int → Int → Option Int
  | 0, _, _ => none
  | nL1 + 1, v1, v5 => if (decide (v5 < (List.length p0 : Int))) = true then ((idx p0 v5).bind fun x7 => ((aA3 x7 v1).bind fun x12 => (if (decide (x12 < 0)) = true then (some (-1)) else (yD p0 nL1 x12 (IntKind.i64.wrap (v5 + 1)))))) else (some v1)
def yY (p0 : List M.Site) (p1 : Int) : Option Int :=
  if (decide ((IntKind.i64.wrap (p1 - (List.length p0 : Int))) < 0)) = true then (some (-1)) else (yD p0 fuel (IntKind.i64.wrap (p1 - (List.length p0 : Int))) 0)
def qJ (p0 : List M.aH) (p1 : Int) : Option Int :=
  if (decide ((IntKind.i64.wrap (p1 - (List.length p0 : Int))) < 0)) = true then (some (-1)) else (some (IntKind.i64.wrap (p1 - (List.length p0 : Int))))
def wS (p0 : M.Server) (p1 : Int) : Option Int :=
  (pJ p0.aG p1).bind fun x1 => (if (decide (x1 < 0)) = true then (some (-1)) else ((qJ p0.aH x1).bind fun x4 => (if (decide (x4 < 0)) = true then (some (-1)) else ((sD p0.Changes x4).bind fun x7 => (if (decide (x7 < 0)) = true then (some (-1)) else (some x7))))))
def sN (p0 : List M.Server) : Nat → Int → Int → Option Int
  | 0, _, _ => none
  | nL1 + 1, v1, v5 => if (decide (v5 < (List.length p0 : Int))) = true then ((idx p0 v5).bind fun x7 => ((wS x7 v1).bind fun x12 => (if (decide (x12 < 0)) = true then (some (-1)) else (sN p0 nL1 x12 (IntKind.i64.wrap (v5 + 1)))))) else (some v1)
def uE (p0 : List M.Server) (p1 : Int) : Option Int :=
  if (decide ((IntKind.i64.wrap (p1 - (List.length p0 : Int))) < 0)) = true then (some (-1)) else (sN p0 fuel (IntKind.i64.wrap (p1 - (List.length p0 : Int))) 0)
def zS (p0 : M.World) (p1 : Int) : Option Int :=
  (tU p0.aK p1).bind fun x1 => (if (decide (x1 < 0)) = true then (some (-1)) else ((zH p0.Pages x1).bind fun x4 => (if (decide (x4 < 0)) = true then (some (-1)) else ((oV p0.Locks x4).bind fun x7 => (if (decide (x7 < 0)) = true then (some (-1)) else ((uF p0.Channel x7).bind fun x10 => (if (decide (x10 < 0)) = true then (some (-1)) else ((yY p0.Sites x10).bind fun x13 => (if (decide (x13 < 0)) = true then (some (-1)) else ((uE p0.Servers x13).bind fun x16 => (if (decide (x16 < 0)) = true then (some (-1)) else (some x16))))))))))))
def kF (p0 : M.Registration) : Option M.Registration :=
  some p0
def mA (p0 : List Int) : Nat → Int → List Int → Option (List Int)
  | 0, _, _ => none
  | nL1 + 1, v4, r7 => if (decide (v4 < (List.length p0 : Int))) = true then ((idx p0 v4).bind fun x13 => ((idx r7 v4).bind fun x18 => (mA p0 nL1 (IntKind.i64.wrap (v4 + 1)) (List.set r7 v4.toNat x13)))) else (some r7)
def vE (p0 : List Int) : Option (List Int) :=
  (mkL 1 (List.length p0 : Int) 0).bind fun x1 => (mA p0 fuel 0 (List.replicate (List.length p0 : Int).toNat 0))
def qX (p0 : M.Response) : Option M.Response :=
  (vE p0.Body).bind fun x1 => (some (⟨p0.Type_, p0.Status, p0.Version, x1, p0.Shares⟩ : M.Response))
def wV (p0 : M.Cached) : Option M.Cached :=
  (qX p0.Response).bind fun x1 => (some (⟨p0.Site, p0.Path, x1⟩ : M.Cached))
def jK (p0 : List M.Cached) : Nat → Int → List M.Cached → Option (List M.Cached)
  | 0, _, _ => none
  | nL1 + 1, v4, r7 => if (decide (v4 < (List.length p0 : Int))) = true then ((idx p0 v4).bind fun x13 => ((wV x13).bind fun x18 => ((idx r7 v4).bind fun x20 => (jK p0 nL1 (IntKind.i64.wrap (v4 + 1)) (List.set r7 v4.toNat x18))))) else (some r7)
def tL (p0 : List M.Cached) : Option (List M.Cached) :=
  (mkL 88 (List.length p0 : Int) (⟨(⟨#[]⟩ : ByteArray), (⟨#[]⟩ : ByteArray), (⟨0, 0, 0, ([] : List Int), false⟩ : M.Response)⟩ : M.Cached)).bind fun x1 => (jK p0 fuel 0 (List.replicate (List.length p0 : Int).toNat (⟨(⟨#[]⟩ : ByteArray), (⟨#[]⟩ : ByteArray), (⟨0, 0, 0, ([] : List Int), false⟩ : M.Response)⟩ : M.Cached)))
def aAI (p0 : M.Cache) : Option M.Cache :=
  (tL p0.Entries).bind fun x1 => (some (⟨p0.Version, x1⟩ : M.Cache))
def kZ (p0 : List M.Cache) : Nat → Int → List M.Cache → Option (List M.Cache)
  | 0, _, _ => none
  | nL1 + 1, v4, r7 => if (decide (v4 < (List.length p0 : Int))) = true then ((idx p0 v4).bind fun x13 => ((aAI x13).bind fun x18 => ((idx r7 v4).bind fun x20 => (kZ p0 nL1 (IntKind.i64.wrap (v4 + 1)) (List.set r7 v4.toNat x18))))) else (some r7)
def wX (p0 : List M.Cache) : Option (List M.Cache) :=
  (mkL 32 (List.length p0 : Int) (⟨0, ([] : List M.Cached)⟩ : M.Cache)).bind fun x1 => (kZ p0 fuel 0 (List.replicate (List.length p0 : Int).toNat (⟨0, ([] : List M.Cached)⟩ : M.Cache)))
def rD (p0 : M.aP) : Option M.aP :=
  (wX p0.Caches).bind fun x1 => (some (⟨x1⟩ : M.aP))
def aAN (p0 : M.Key) : Option M.Key :=
  some p0
def yK (p0 : M.Field) : Option M.Field :=
  some p0
def kT (p0 : List M.Field) : Nat → Int → List M.Field → Option (List M.Field)
  | 0, _, _ => none
  | nL1 + 1, v4, r7 => if (decide (v4 < (List.length p0 : Int))) = true then ((idx p0 v4).bind fun x13 => ((yK x13).bind fun x18 => ((idx r7 v4).bind fun x20 => (kT p0 nL1 (IntKind.i64.wrap (v4 + 1)) (List.set r7 v4.toNat x18))))) else (some r7)
def wF (p0 : List M.Field) : Option (List M.Field) :=
  (mkL 24 (List.length p0 : Int) (⟨(⟨#[]⟩ : ByteArray), 0⟩ : M.Field)).bind fun x1 => (kT p0 fuel 0 (List.replicate (List.length p0 : Int).toNat (⟨(⟨#[]⟩ : ByteArray), 0⟩ : M.Field)))
def xQ (p0 : M.aU) : Option M.aU :=
  (wF p0.Fields).bind fun x1 => (some (⟨x1⟩ : M.aU))
def aAj (p0 : M.Item) : Option M.Item :=
  (aAN p0.Key).bind fun x1 => ((xQ p0.aU).bind fun x3 => (some (⟨x1, x3⟩ : M.Item)))
def mG (p0 : List M.Item) : Nat → Int → List M.Item → Option (List M.Item)
  | 0, _, _ => none
  | nL1 + 1, v4, r7 => if (decide (v4 < (List.length p0 : Int))) = true then ((idx p0 v4).bind fun x13 => ((aAj x13).bind fun x18 => ((idx r7 v4).bind fun x20 => (mG p0 nL1 (IntKind.i64.wrap (v4 + 1)) (List.set r7 v4.toNat x18))))) else (some r7)
def zC (p0 : List M.Item) : Option (List M.Item) :=
  (mkL 56 (List.length p0 : Int) (⟨(⟨0, 0, (⟨#[]⟩ : ByteArray)⟩ : M.Key), (⟨([] : List M.Field)⟩ : M.aU)⟩ : M.Item)).bind fun x1 => (mG p0 fuel 0 (List.replicate (List.length p0 : Int).toNat (⟨(⟨0, 0, (⟨#[]⟩ : ByteArray)⟩ : M.Key), (⟨([] : List M.Field)⟩ : M.aU)⟩ : M.Item)))
def pQ (p0 : M.aG) : Option M.aG :=
  (zC p0.Items).bind fun x1 => (some (⟨p0.Name, x1, p0.Auto⟩ : M.aG))
def kV (p0 : List M.aG) : Nat → Int → List M.aG → Option (List M.aG)
  | 0, _, _ => none
  | nL1 + 1, v4, r7 => if (decide (v4 < (List.length p0 : Int))) = true then ((idx p0 v4).bind fun x13 => ((pQ x13).bind fun x18 => ((idx r7 v4).bind fun x20 => (kV p0 nL1 (IntKind.i64.wrap (v4 + 1)) (List.set r7 v4.toNat x18))))) else (some r7)
def xI (p0 : List M.aG) : Option (List M.aG) :=
  (mkL 48 (List.length p0 : Int) (⟨(⟨#[]⟩ : ByteArray), ([] : List M.Item), 0⟩ : M.aG)).bind fun x1 => (kV p0 fuel 0 (List.replicate (List.length p0 : Int).toNat (⟨(⟨#[]⟩ : ByteArray), ([] : List M.Item), 0⟩ : M.aG)))
def qC (p0 : M.aA) : Option M.aA :=
  some p0
def iM (p0 : List M.aA) : Nat → Int → List M.aA → Option (List M.aA)
  | 0, _, _ => none
  | nL1 + 1, v4, r7 => if (decide (v4 < (List.length p0 : Int))) = true then ((idx p0 v4).bind fun x13 => ((qC x13).bind fun x18 => ((idx r7 v4).bind fun x20 => (iM p0 nL1 (IntKind.i64.wrap (v4 + 1)) (List.set r7 v4.toNat x18))))) else (some r7)
def oS (p0 : List M.aA) : Option (List M.aA) :=
  (mkL 32 (List.length p0 : Int) (⟨(⟨#[]⟩ : ByteArray), (⟨#[]⟩ : ByteArray)⟩ : M.aA)).bind fun x1 => (iM p0 fuel 0 (List.replicate (List.length p0 : Int).toNat (⟨(⟨#[]⟩ : ByteArray), (⟨#[]⟩ : ByteArray)⟩ : M.aA)))
def qL (p0 : M.Database) : Option M.Database :=
  (xI p0.Stores).bind fun x1 => ((oS p0.Unique).bind fun x3 => (some (⟨p0.Name, p0.Version, x1, x3⟩ : M.Database)))
def aA6 (p0 : M.bF) : Option M.bF :=
  (qL p0.Base).bind fun x1 => ((vE p0.Log).bind fun x3 => (some (⟨x1, x3, p0.Count⟩ : M.bF)))
def zL (p0 : M.aW) : Option M.aW :=
  (aAN p0.Key).bind fun x1 => (some (⟨p0.Device, p0.Seq, x1, p0.Field, p0.N⟩ : M.aW))
def kQ (p0 : List M.aW) : Nat → Int → List M.aW → Option (List M.aW)
  | 0, _, _ => none
  | nL1 + 1, v4, r7 => if (decide (v4 < (List.length p0 : Int))) = true then ((idx p0 v4).bind fun x13 => ((zL x13).bind fun x18 => ((idx r7 v4).bind fun x20 => (kQ p0 nL1 (IntKind.i64.wrap (v4 + 1)) (List.set r7 v4.toNat x18))))) else (some r7)
def qV (p0 : List M.aW) : Option (List M.aW) :=
  (mkL 72 (List.length p0 : Int) (⟨0, 0, (⟨0, 0, (⟨#[]⟩ : ByteArray)⟩ : M.Key), (⟨#[]⟩ : ByteArray), 0⟩ : M.aW)).bind fun x1 => (kQ p0 fuel 0 (List.replicate (List.length p0 : Int).toNat (⟨0, 0, (⟨0, 0, (⟨#[]⟩ : ByteArray)⟩ : M.Key), (⟨#[]⟩ : ByteArray), 0⟩ : M.aW)))
def wA (p0 : M.aV) : Option M.aV :=
  (qV p0.Writes).bind fun x1 => (some (⟨p0.Device, p0.Next, x1⟩ : M.aV))
def aAi (p0 : M.Sync) : Option M.Sync :=
  (wA p0.aV).bind fun x1 => (some (⟨x1, p0.Tries, p0.WaitUntil⟩ : M.Sync))
def tV (p0 : M.aC) : Option M.aC :=
  (pQ p0.Base).bind fun x1 => ((aAi p0.Sync).bind fun x3 => (some (⟨x1, p0.Seen, x3⟩ : M.aC)))
def wG (p0 : M.aE) : Option M.aE :=
  (kF p0.Registration).bind fun x1 => ((rD p0.Caches).bind fun x3 => ((aA6 p0.bF).bind fun x5 => ((tV p0.aC).bind fun x7 => (some (⟨p0.Site, p0.Top, x1, x3, x5, x7, p0.LastUsed, p0.Persistent⟩ : M.aE)))))
def jW (p0 : List M.aE) : Nat → Int → List M.aE → Option (List M.aE)
  | 0, _, _ => none
  | nL1 + 1, v4, r7 => if (decide (v4 < (List.length p0 : Int))) = true then ((idx p0 v4).bind fun x13 => ((wG x13).bind fun x18 => ((idx r7 v4).bind fun x20 => (jW p0 nL1 (IntKind.i64.wrap (v4 + 1)) (List.set r7 v4.toNat x18))))) else (some r7)
def uL (p0 : List M.aE) : Option (List M.aE) :=
  (mkL 328 (List.length p0 : Int) (⟨(⟨#[]⟩ : ByteArray), (⟨#[]⟩ : ByteArray), (⟨(⟨#[]⟩ : ByteArray), 0, 0, 0⟩ : M.Registration), (⟨([] : List M.Cache)⟩ : M.aP), (⟨(⟨(⟨#[]⟩ : ByteArray), 0, ([] : List M.aG), ([] : List M.aA)⟩ : M.Database), ([] : List Int), 0⟩ : M.bF), (⟨(⟨(⟨#[]⟩ : ByteArray), ([] : List M.Item), 0⟩ : M.aG), 0, (⟨(⟨0, 0, ([] : List M.aW)⟩ : M.aV), 0, 0⟩ : M.Sync)⟩ : M.aC), 0, false⟩ : M.aE)).bind fun x1 => (jW p0 fuel 0 (List.replicate (List.length p0 : Int).toNat (⟨(⟨#[]⟩ : ByteArray), (⟨#[]⟩ : ByteArray), (⟨(⟨#[]⟩ : ByteArray), 0, 0, 0⟩ : M.Registration), (⟨([] : List M.Cache)⟩ : M.aP), (⟨(⟨(⟨#[]⟩ : ByteArray), 0, ([] : List M.aG), ([] : List M.aA)⟩ : M.Database), ([] : List Int), 0⟩ : M.bF), (⟨(⟨(⟨#[]⟩ : ByteArray), ([] : List M.Item), 0⟩ : M.aG), 0, (⟨(⟨0, 0, ([] : List M.aW)⟩ : M.aV), 0, 0⟩ : M.Sync)⟩ : M.aC), 0, false⟩ : M.aE)))
def uX (p0 : M.aK) : Option M.aK :=
  (uL p0.Buckets).bind fun x1 => (some (⟨x1⟩ : M.aK))
def xT (p0 : M.aJ) : Option M.aJ :=
  some p0
def jP (p0 : List M.aJ) : Nat → Int → List M.aJ → Option (List M.aJ)
  | 0, _, _ => none
  | nL1 + 1, v4, r7 => if (decide (v4 < (List.length p0 : Int))) = true then ((idx p0 v4).bind fun x13 => ((xT x13).bind fun x18 => ((idx r7 v4).bind fun x20 => (jP p0 nL1 (IntKind.i64.wrap (v4 + 1)) (List.set r7 v4.toNat x18))))) else (some r7)
def uM (p0 : List M.aJ) : Option (List M.aJ) :=
  (mkL 24 (List.length p0 : Int) (⟨(⟨#[]⟩ : ByteArray), 0⟩ : M.aJ)).bind fun x1 => (jP p0 fuel 0 (List.replicate (List.length p0 : Int).toNat (⟨(⟨#[]⟩ : ByteArray), 0⟩ : M.aJ)))
def aAC (p0 : M.Instr) : Option M.Instr :=
  some p0
def kW (p0 : List M.Instr) : Nat → Int → List M.Instr → Option (List M.Instr)
  | 0, _, _ => none
  | nL1 + 1, v4, r7 => if (decide (v4 < (List.length p0 : Int))) = true then ((idx p0 v4).bind fun x13 => ((aAC x13).bind fun x18 => ((idx r7 v4).bind fun x20 => (kW p0 nL1 (IntKind.i64.wrap (v4 + 1)) (List.set r7 v4.toNat x18))))) else (some r7)
def vZ (p0 : List M.Instr) : Option (List M.Instr) :=
  (mkL 40 (List.length p0 : Int) (⟨0, 0, 0, (⟨#[]⟩ : ByteArray)⟩ : M.Instr)).bind fun x1 => (kW p0 fuel 0 (List.replicate (List.length p0 : Int).toNat (⟨0, 0, 0, (⟨#[]⟩ : ByteArray)⟩ : M.Instr)))
def nH (p0 : List Int) : Nat → Int → List Int → Option (List Int)
  | 0, _, _ => none
  | nL1 + 1, v4, r7 => if (decide (v4 < (List.length p0 : Int))) = true then ((idx p0 v4).bind fun x13 => ((idx r7 v4).bind fun x18 => (nH p0 nL1 (IntKind.i64.wrap (v4 + 1)) (List.set r7 v4.toNat x13)))) else (some r7)
def aAn (p0 : List Int) : Option (List Int) :=
  (mkL 8 (List.length p0 : Int) 0).bind fun x1 => (nH p0 fuel 0 (List.replicate (List.length p0 : Int).toNat 0))
def tO (p0 : M.Machine) : Option M.Machine :=
  (vZ p0.Script).bind fun x1 => ((aAn p0.Regs).bind fun x3 => (some (⟨x1, p0.Pc, x3, p0.Steps, p0.Done, p0.Wait⟩ : M.Machine)))
def aAp (p0 : M.bG) : Option M.bG :=
  (uM p0.aJ).bind fun x1 => ((tO p0.Machine).bind fun x3 => (some (⟨p0.Id, p0.Site, p0.Top, p0.Version, x1, x3⟩ : M.bG)))
def lX (p0 : List M.bG) : Nat → Int → List M.bG → Option (List M.bG)
  | 0, _, _ => none
  | nL1 + 1, v4, r7 => if (decide (v4 < (List.length p0 : Int))) = true then ((idx p0 v4).bind fun x13 => ((aAp x13).bind fun x18 => ((idx r7 v4).bind fun x20 => (lX p0 nL1 (IntKind.i64.wrap (v4 + 1)) (List.set r7 v4.toNat x18))))) else (some r7)
def zR (p0 : List M.bG) : Option (List M.bG) :=
  (mkL 144 (List.length p0 : Int) (⟨0, (⟨#[]⟩ : ByteArray), (⟨#[]⟩ : ByteArray), 0, ([] : List M.aJ), (⟨([] : List M.Instr), 0, ([] : List Int), 0, false, false⟩ : M.Machine)⟩ : M.bG)).bind fun x1 => (lX p0 fuel 0 (List.replicate (List.length p0 : Int).toNat (⟨0, (⟨#[]⟩ : ByteArray), (⟨#[]⟩ : ByteArray), 0, ([] : List M.aJ), (⟨([] : List M.Instr), 0, ([] : List Int), 0, false, false⟩ : M.Machine)⟩ : M.bG)))
def aAV (p0 : M.cF) : Option M.cF :=
  some p0
def lW (p0 : List M.cF) : Nat → Int → List M.cF → Option (List M.cF)
  | 0, _, _ => none
  | nL1 + 1, v4, r7 => if (decide (v4 < (List.length p0 : Int))) = true then ((idx p0 v4).bind fun x13 => ((aAV x13).bind fun x18 => ((idx r7 v4).bind fun x20 => (lW p0 nL1 (IntKind.i64.wrap (v4 + 1)) (List.set r7 v4.toNat x18))))) else (some r7)
def yW (p0 : List M.cF) : Option (List M.cF) :=
  (mkL 32 (List.length p0 : Int) (⟨(⟨#[]⟩ : ByteArray), 0, false, false⟩ : M.cF)).bind fun x1 => (lW p0 fuel 0 (List.replicate (List.length p0 : Int).toNat (⟨(⟨#[]⟩ : ByteArray), 0, false, false⟩ : M.cF)))
def oO (p0 : M.aR) : Option M.aR :=
  (yW p0.Locks).bind fun x1 => (some (⟨x1⟩ : M.aR))
def aAf (p0 : M.fH) : Option M.fH :=
  some p0
def mI (p0 : List M.fH) : Nat → Int → List M.fH → Option (List M.fH)
  | 0, _, _ => none
  | nL1 + 1, v4, r7 => if (decide (v4 < (List.length p0 : Int))) = true then ((idx p0 v4).bind fun x13 => ((aAf x13).bind fun x18 => ((idx r7 v4).bind fun x20 => (mI p0 nL1 (IntKind.i64.wrap (v4 + 1)) (List.set r7 v4.toNat x18))))) else (some r7)
def aAA (p0 : List M.fH) : Option (List M.fH) :=
  (mkL 24 (List.length p0 : Int) (⟨0, 0, 0⟩ : M.fH)).bind fun x1 => (mI p0 fuel 0 (List.replicate (List.length p0 : Int).toNat (⟨0, 0, 0⟩ : M.fH)))
def uI (p0 : M.Channel) : Option M.Channel :=
  (aAA p0.Mails).bind fun x1 => (some (⟨x1⟩ : M.Channel))
def jT (p0 : List ByteArray) : Nat → Int → List ByteArray → Option (List ByteArray)
  | 0, _, _ => none
  | nL1 + 1, v4, r7 => if (decide (v4 < (List.length p0 : Int))) = true then ((idx p0 v4).bind fun x13 => ((idx r7 v4).bind fun x18 => (jT p0 nL1 (IntKind.i64.wrap (v4 + 1)) (List.set r7 v4.toNat x13)))) else (some r7)
def uT (p0 : List ByteArray) : Option (List ByteArray) :=
  (mkL 16 (List.length p0 : Int) (⟨#[]⟩ : ByteArray)).bind fun x1 => (jT p0 fuel 0 (List.replicate (List.length p0 : Int).toNat (⟨#[]⟩ : ByteArray)))
def aAv (p0 : M.Site) : Option M.Site :=
  (uT p0.Files).bind fun x1 => (some (⟨p0.Name, p0.Version, x1, p0.Shared⟩ : M.Site))
def mH (p0 : List M.Site) : Nat → Int → List M.Site → Option (List M.Site)
  | 0, _, _ => none
  | nL1 + 1, v4, r7 => if (decide (v4 < (List.length p0 : Int))) = true then ((idx p0 v4).bind fun x13 => ((aAv x13).bind fun x18 => ((idx r7 v4).bind fun x20 => (mH p0 nL1 (IntKind.i64.wrap (v4 + 1)) (List.set r7 v4.toNat x18))))) else (some r7)
def yV (p0 : List M.Site) : Option (List M.Site) :=
  (mkL 56 (List.length p0 : Int) (⟨(⟨#[]⟩ : ByteArray), 0, ([] : List ByteArray), false⟩ : M.Site)).bind fun x1 => (mH p0 fuel 0 (List.replicate (List.length p0 : Int).toNat (⟨(⟨#[]⟩ : ByteArray), 0, ([] : List ByteArray), false⟩ : M.Site)))
def sZ (p0 : M.aH) : Option M.aH :=
  some p0
def jC (p0 : List M.aH) : Nat → Int → List M.aH → Option (List M.aH)
  | 0, _, _ => none
  | nL1 + 1, v4, r7 => if (decide (v4 < (List.length p0 : Int))) = true then ((idx p0 v4).bind fun x13 => ((sZ x13).bind fun x18 => ((idx r7 v4).bind fun x20 => (jC p0 nL1 (IntKind.i64.wrap (v4 + 1)) (List.set r7 v4.toNat x18))))) else (some r7)
def rA (p0 : List M.aH) : Option (List M.aH) :=
  (mkL 16 (List.length p0 : Int) (⟨0, 0⟩ : M.aH)).bind fun x1 => (jC p0 fuel 0 (List.replicate (List.length p0 : Int).toNat (⟨0, 0⟩ : M.aH)))
def xL (p0 : M.Server) : Option M.Server :=
  (pQ p0.aG).bind fun x1 => ((rA p0.aH).bind fun x3 => ((qV p0.Changes).bind fun x5 => (some (⟨x1, x3, x5⟩ : M.Server))))
def jM (p0 : List M.Server) : Nat → Int → List M.Server → Option (List M.Server)
  | 0, _, _ => none
  | nL1 + 1, v4, r7 => if (decide (v4 < (List.length p0 : Int))) = true then ((idx p0 v4).bind fun x13 => ((xL x13).bind fun x18 => ((idx r7 v4).bind fun x20 => (jM p0 nL1 (IntKind.i64.wrap (v4 + 1)) (List.set r7 v4.toNat x18))))) else (some r7)
def tB (p0 : List M.Server) : Option (List M.Server) :=
  (mkL 96 (List.length p0 : Int) (⟨(⟨(⟨#[]⟩ : ByteArray), ([] : List M.Item), 0⟩ : M.aG), ([] : List M.aH), ([] : List M.aW)⟩ : M.Server)).bind fun x1 => (jM p0 fuel 0 (List.replicate (List.length p0 : Int).toNat (⟨(⟨(⟨#[]⟩ : ByteArray), ([] : List M.Item), 0⟩ : M.aG), ([] : List M.aH), ([] : List M.aW)⟩ : M.Server)))
def lS (p0 : M.World) : Option M.World :=
  (uX p0.aK).bind fun x1 => ((zR p0.Pages).bind fun x3 => ((oO p0.Locks).bind fun x5 => ((uI p0.Channel).bind fun x7 => ((yV p0.Sites).bind fun x9 => ((tB p0.Servers).bind fun x11 => (some (⟨p0.Now, p0.Online, p0.Device, x1, x3, p0.NextPage, x5, x7, x9, x11⟩ : M.World)))))))
def pR (p0 : M.Response) : Option M.Response :=
  (app 1 ([] : List Int) p0.Body).bind fun x1 => (some p0)
def iT (p0 : M.Cache) : Nat → Int → List M.Cached → Option M.Cache
  | 0, _, _ => none
  | nL1 + 1, v4, r50000 => if (decide (v4 < (List.length p0.Entries : Int))) = true then ((idx p0.Entries v4).bind fun x11 => ((pR x11.Response).bind fun x16 => ((app 88 r50000 ([(⟨x11.Site, x11.Path, x16⟩ : M.Cached)])).bind fun x18 => (iT p0 nL1 (IntKind.i64.wrap (v4 + 1)) (r50000 ++ [(⟨x11.Site, x11.Path, x16⟩ : M.Cached)]))))) else (some (⟨p0.Version, r50000⟩ : M.Cache))
def xM (p0 : M.Cache) : Option M.Cache :=
  iT p0 fuel 0 ([] : List M.Cached)
def jX (p0 : M.aP) : Nat → Int → List M.Cache → Option M.aP
  | 0, _, _ => none
  | nL1 + 1, v4, r50000 => if (decide (v4 < (List.length p0.Caches : Int))) = true then ((idx p0.Caches v4).bind fun x11 => ((xM x11).bind fun x16 => ((app 32 r50000 ([x16])).bind fun x18 => (jX p0 nL1 (IntKind.i64.wrap (v4 + 1)) (r50000 ++ [x16]))))) else (some (⟨r50000⟩ : M.aP))
def yM (p0 : M.aP) : Option M.aP :=
  jX p0 fuel 0 ([] : List M.Cache)
def aBD (p0 : M.aU) : Option M.aU :=
  (app 24 ([] : List M.Field) p0.Fields).bind fun x1 => (some p0)
def yF (p0 : M.Item) : Option M.Item :=
  (aBD p0.aU).bind fun x1 => (some (⟨p0.Key, x1⟩ : M.Item))
def lD (p0 : M.aG) : Nat → Int → List M.Item → Option M.aG
  | 0, _, _ => none
  | nL1 + 1, v4, r50000 => if (decide (v4 < (List.length p0.Items : Int))) = true then ((idx p0.Items v4).bind fun x11 => ((yF x11).bind fun x16 => ((app 56 r50000 ([x16])).bind fun x18 => (lD p0 nL1 (IntKind.i64.wrap (v4 + 1)) (r50000 ++ [x16]))))) else (some (⟨p0.Name, r50000, p0.Auto⟩ : M.aG))
def sG (p0 : M.aG) : Option M.aG :=
  lD p0 fuel 0 ([] : List M.Item)
def lK (p0 : M.Database) : Nat → Int → List M.aG → Option M.Database
  | 0, _, _ => none
  | nL1 + 1, v4, r50000 => if (decide (v4 < (List.length p0.Stores : Int))) = true then ((idx p0.Stores v4).bind fun x22 => ((sG x22).bind fun x27 => ((app 48 r50000 ([x27])).bind fun x29 => (lK p0 nL1 (IntKind.i64.wrap (v4 + 1)) (r50000 ++ [x27]))))) else (some (⟨p0.Name, p0.Version, r50000, p0.Unique⟩ : M.Database))
def aA8 (p0 : M.Database) : Option M.Database :=
  (app 32 ([] : List M.aA) p0.Unique).bind fun x1 => (lK p0 fuel 0 ([] : List M.aG))
def zY (p0 : M.bF) : Option M.bF :=
  (aA8 p0.Base).bind fun x1 => ((app 1 ([] : List Int) p0.Log).bind fun x3 => (some (⟨x1, p0.Log, p0.Count⟩ : M.bF)))
def aAB (p0 : M.aV) : Option M.aV :=
  (app 72 ([] : List M.aW) p0.Writes).bind fun x1 => (some p0)
def aAE (p0 : M.Sync) : Option M.Sync :=
  (aAB p0.aV).bind fun x1 => (some (⟨x1, p0.Tries, p0.WaitUntil⟩ : M.Sync))
def zK (p0 : M.aC) : Option M.aC :=
  (sG p0.Base).bind fun x1 => ((aAE p0.Sync).bind fun x3 => (some (⟨x1, p0.Seen, x3⟩ : M.aC)))
def zP (p0 : M.aE) : Option M.aE :=
  (yM p0.Caches).bind fun x1 => ((zY p0.bF).bind fun x3 => ((zK p0.aC).bind fun x5 => (some (⟨p0.Site, p0.Top, p0.Registration, x1, x3, x5, p0.LastUsed, p0.Persistent⟩ : M.aE))))
def jY (p0 : M.aK) : Nat → Int → List M.aE → Option M.aK
  | 0, _, _ => none
  | nL1 + 1, v4, r50000 => if (decide (v4 < (List.length p0.Buckets : Int))) = true then ((idx p0.Buckets v4).bind fun x11 => ((zP x11).bind fun x16 => ((app 328 r50000 ([x16])).bind fun x18 => (jY p0 nL1 (IntKind.i64.wrap (v4 + 1)) (r50000 ++ [x16]))))) else (some (⟨r50000⟩ : M.aK))
def yU (p0 : M.aK) : Option M.aK :=
  jY p0 fuel 0 ([] : List M.aE)
def uA (p0 : List M.Instr) : Option (List M.Instr) :=
  (app 40 ([] : List M.Instr) p0).bind fun x1 => (some p0)
def aAD (p0 : M.Machine) : Option M.Machine :=
  (uA p0.Script).bind fun x1 => ((app 8 ([] : List Int) p0.Regs).bind fun x3 => (some (⟨x1, p0.Pc, p0.Regs, p0.Steps, p0.Done, p0.Wait⟩ : M.Machine)))
def iS (p0 : M.bG) : Option M.bG :=
  (app 24 ([] : List M.aJ) p0.aJ).bind fun x1 => ((aAD p0.Machine).bind fun x11 => (some (⟨p0.Id, p0.Site, p0.Top, p0.Version, p0.aJ, x11⟩ : M.bG)))
def vG (p0 : M.aR) : Option M.aR :=
  (app 32 ([] : List M.cF) p0.Locks).bind fun x1 => (some p0)
def vJ (p0 : M.Channel) : Option M.Channel :=
  (app 24 ([] : List M.fH) p0.Mails).bind fun x1 => (some p0)
def yJ (p0 : M.Site) : Option M.Site :=
  (app 16 ([] : List ByteArray) p0.Files).bind fun x1 => (some p0)
def aAF (p0 : M.Server) : Option M.Server :=
  (sG p0.aG).bind fun x1 => ((app 16 ([] : List M.aH) p0.aH).bind fun x3 => ((app 72 ([] : List M.aW) p0.Changes).bind fun x5 => (some (⟨x1, p0.aH, p0.Changes⟩ : M.Server))))
def gG (p0 : M.World) (x1 : M.aK) (r12 : List M.bG) (x42 : M.aR) (x44 : M.Channel) (r40 : List M.Site) : Nat → Int → List M.Server → Option M.World
  | 0, _, _ => none
  | nL3 + 1, v6, r60 => if (decide (v6 < (List.length p0.Servers : Int))) = true then ((idx p0.Servers v6).bind fun x122 => ((aAF x122).bind fun x127 => ((app 96 r60 ([x127])).bind fun x129 => (gG p0 x1 r12 x42 x44 r40 nL3 (IntKind.i64.wrap (v6 + 1)) (r60 ++ [x127]))))) else (some (⟨p0.Now, p0.Online, p0.Device, x1, r12, p0.NextPage, x42, x44, r40, r60⟩ : M.World))
def gK (p0 : M.World) (x1 : M.aK) (r12 : List M.bG) (x42 : M.aR) (x44 : M.Channel) : Nat → Int → List M.Site → Option M.World
  | 0, _, _ => none
  | nL2 + 1, v5, r40 => if (decide (v5 < (List.length p0.Sites : Int))) = true then ((idx p0.Sites v5).bind fun x72 => ((yJ x72).bind fun x77 => ((app 56 r40 ([x77])).bind fun x79 => (gK p0 x1 r12 x42 x44 nL2 (IntKind.i64.wrap (v5 + 1)) (r40 ++ [x77]))))) else (gG p0 x1 r12 x42 x44 r40 fuel 0 ([] : List M.Server))
def iR (p0 : M.World) (x1 : M.aK) : Nat → Int → List M.bG → Option M.World
  | 0, _, _ => none
  | nL1 + 1, v4, r12 => if (decide (v4 < (List.length p0.Pages : Int))) = true then ((idx p0.Pages v4).bind fun x23 => ((iS x23).bind fun x28 => ((app 144 r12 ([x28])).bind fun x30 => (iR p0 x1 nL1 (IntKind.i64.wrap (v4 + 1)) (r12 ++ [x28]))))) else ((vG p0.Locks).bind fun x42 => ((vJ p0.Channel).bind fun x44 => (gK p0 x1 r12 x42 x44 fuel 0 ([] : List M.Site))))
def yP (p0 : M.World) : Option M.World :=
  (yU p0.aK).bind fun x1 => (iR p0 x1 fuel 0 ([] : List M.bG))
def jO (p0 : List M.bG) (p1 : Int) : Nat → Int → Option Int
  | 0, _ => none
  | nL1 + 1, v5 => if (decide (v5 < (List.length p0 : Int))) = true then ((idx p0 v5).bind fun x6 => (if (x6.Id == p1) = true then (some v5) else (jO p0 p1 nL1 (IntKind.i64.wrap (v5 + 1))))) else (some (-1))
def zX (p0 : List M.bG) (p1 : Int) : Option Int :=
  jO p0 p1 fuel 0
def tM (p0 : M.World) (p1 : Int) : Option Int :=
  (zX p0.Pages p1).bind fun x1 => (some x1)
def bH (p0 : Int) (p1 : Int) (p2 : Int) : Option Bool :=
  if (decide (p0 ≥ p1)) = true then (some (decide (p0 ≤ p2))) else (some false)
def jD (p0 : ByteArray) : Nat → Int → Option Bool
  | 0, _ => none
  | nL1 + 1, v3 => if (decide (v3 < (p0.size : Int))) = true then ((aNJ p0 v3).bind fun x5 => (if (decide ((x5.toNat : Int) < 97)) = true then (some false) else (if (decide ((x5.toNat : Int) > 122)) = true then (some false) else (jD p0 nL1 (IntKind.i64.wrap (v3 + 1)))))) else ((bH (p0.size : Int) 1 8).bind fun x11 => (some x11))
def cJ (p0 : ByteArray) : Option Bool :=
  jD p0 fuel 0
def hY (p0 : M.Site) : Nat → Int → Option Bool
  | 0, _ => none
  | nL1 + 1, v3 => if (decide (v3 < (List.length p0.Files : Int))) = true then ((idx p0.Files v3).bind fun x6 => ((cJ x6).bind fun x11 => (if (!x11) = true then (some false) else (if (decide (v3 > 0)) = true then ((idx p0.Files (IntKind.i64.wrap (v3 - 1))).bind fun x15 => (if (!(Op.bytesLess x15.toList x6.toList)) = true then (some false) else (hY p0 nL1 (IntKind.i64.wrap (v3 + 1))))) else (hY p0 nL1 (IntKind.i64.wrap (v3 + 1))))))) else ((cJ p0.Name).bind fun x21 => (if x21 = true then ((bH p0.Version 1 1000000000000).bind fun x24 => (if x24 = true then ((bH (List.length p0.Files : Int) 1 6).bind fun x27 => (some x27)) else (some false))) else (some false)))
def sQ (p0 : M.Site) : Option Bool :=
  hY p0 fuel 0
def rY  : Option (List ByteArray) :=
  some ([(⟨#[98, 97, 110, 107]⟩ : ByteArray), (⟨#[110, 101, 119, 115]⟩ : ByteArray), (⟨#[115, 104, 111, 112]⟩ : ByteArray)])
def gE (p0 : ByteArray) : Nat → Int → Option Bool
  | 0, _ => none
  | nL1 + 1, v3 => if (decide (v3 < (p0.size : Int))) = true then ((aNJ p0 v3).bind fun x5 => (if (decide ((x5.toNat : Int) < 97)) = true then (if (decide ((x5.toNat : Int) < 48)) = true then (some false) else (if (decide ((x5.toNat : Int) > 57)) = true then (some false) else (gE p0 nL1 (IntKind.i64.wrap (v3 + 1))))) else (if (decide ((x5.toNat : Int) > 122)) = true then (if (decide ((x5.toNat : Int) < 48)) = true then (some false) else (if (decide ((x5.toNat : Int) > 57)) = true then (some false) else (gE p0 nL1 (IntKind.i64.wrap (v3 + 1))))) else (gE p0 nL1 (IntKind.i64.wrap (v3 + 1)))))) else (some (decide ((p0.size : Int) ≤ 12)))
def xY (p0 : ByteArray) : Option Bool :=
  gE p0 fuel 0
def pD (p0 : M.Key) : Option Bool :=
  (bH p0.Kind 1 3).bind fun x1 => (if x1 = true then ((bH p0.N (-1000000000000) 1000000000000).bind fun x4 => (if x4 = true then (if (p0.Kind != 2) = true then ((xY p0.Text).bind fun x8 => (if x8 = true then (if (p0.Kind != 1) = true then (some true) else (some (p0.Text.toList == (⟨#[]⟩ : ByteArray).toList))) else (some false))) else (if (p0.N == 0) = true then ((xY p0.Text).bind fun x13 => (if x13 = true then (if (p0.Kind != 1) = true then (some true) else (some (p0.Text.toList == (⟨#[]⟩ : ByteArray).toList))) else (some false))) else (some false))) else (some false))) else (some false))
def jB (p0 : M.aW) : Option Bool :=
  (bH p0.Device 1 1000000).bind fun x1 => (if x1 = true then ((bH p0.Seq 1 1000000).bind fun x4 => (if x4 = true then ((pD p0.Key).bind fun x7 => (if x7 = true then ((cJ p0.Field).bind fun x10 => (if x10 = true then ((bH p0.N 0 1000000000).bind fun x13 => (some x13)) else (some false))) else (some false))) else (some false))) else (some false))
def fT (p0 : M.aU) : Nat → Int → Option Bool
  | 0, _ => none
  | nL1 + 1, v3 => if (decide (v3 < (List.length p0.Fields : Int))) = true then ((idx p0.Fields v3).bind fun x6 => ((cJ x6.Name).bind fun x11 => (if (!x11) = true then (some false) else ((bH x6.N 0 1000000000).bind fun x14 => (if (!x14) = true then (some false) else (if (decide (v3 > 0)) = true then ((idx p0.Fields (IntKind.i64.wrap (v3 - 1))).bind fun x18 => (if (!(Op.bytesLess x18.Name.toList x6.Name.toList)) = true then (some false) else (fT p0 nL1 (IntKind.i64.wrap (v3 + 1))))) else (fT p0 nL1 (IntKind.i64.wrap (v3 + 1))))))))) else (some (decide ((List.length p0.Fields : Int) ≤ 6)))
def qN (p0 : M.aU) : Option Bool :=
  fT p0 fuel 0
def yA (p0 : Bool) (p1 : Bool) : Option Int :=
  if p0 = true then (some (-1)) else (if p1 = true then (some 1) else (some 0))
def lA (p0 : M.Key) (p1 : M.Key) : Option Int :=
  (pD p0).bind fun x1 => (if (!x1) = true then (some 0) else ((pD p1).bind fun x4 => (if (!x4) = true then (some 0) else (if (p0.Kind != p1.Kind) = true then ((yA (decide (p0.Kind < p1.Kind)) true).bind fun x8 => (some x8)) else (if (p0.N != p1.N) = true then ((yA (decide (p0.N < p1.N)) true).bind fun x11 => (some x11)) else ((yA (Op.bytesLess p0.Text.toList p1.Text.toList) (!(Op.bytesLess p0.Text.toList p1.Text.toList || p0.Text.toList == p1.Text.toList))).bind fun x13 => (some x13)))))))
def gQ (p0 : M.aG) : Nat → Int → Option Bool
  | 0, _ => none
  | nL1 + 1, v3 => if (decide (v3 < (List.length p0.Items : Int))) = true then ((idx p0.Items v3).bind fun x6 => ((pD x6.Key).bind fun x11 => (if (!x11) = true then (some false) else ((qN x6.aU).bind fun x14 => (if (!x14) = true then (some false) else (if (decide (v3 > 0)) = true then ((idx p0.Items (IntKind.i64.wrap (v3 - 1))).bind fun x18 => ((lA x18.Key x6.Key).bind fun x23 => (if (decide (x23 ≥ 0)) = true then (some false) else (gQ p0 nL1 (IntKind.i64.wrap (v3 + 1)))))) else (gQ p0 nL1 (IntKind.i64.wrap (v3 + 1))))))))) else ((cJ p0.Name).bind fun x26 => (if x26 = true then (if (decide ((List.length p0.Items : Int) ≤ 16)) = true then ((bH p0.Auto 0 1000000).bind fun x30 => (some x30)) else (some false)) else (some false)))
def pO (p0 : M.aG) : Option Bool :=
  gQ p0 fuel 0
def hH (p0 : M.Server) : Nat → Int → Option Bool
  | 0, _ => none
  | nL2 + 1, v4 => if (decide (v4 < (List.length p0.Changes : Int))) = true then ((idx p0.Changes v4).bind fun x29 => ((jB x29).bind fun x34 => (if (!x34) = true then (some false) else (hH p0 nL2 (IntKind.i64.wrap (v4 + 1)))))) else ((pO p0.aG).bind fun x37 => (if x37 = true then (if (p0.aG.Name.toList == (⟨#[110, 111, 116, 101, 115]⟩ : ByteArray).toList) = true then (some (decide ((List.length p0.aH : Int) ≤ 60))) else (some false)) else (some false)))
def fS (p0 : M.Server) : Nat → Int → Option Bool
  | 0, _ => none
  | nL1 + 1, v3 => if (decide (v3 < (List.length p0.aH : Int))) = true then ((idx p0.aH v3).bind fun x6 => ((bH x6.Device 1 1000000).bind fun x11 => (if (!x11) = true then (some false) else ((bH x6.Seq 0 1000000).bind fun x14 => (if (!x14) = true then (some false) else (if (decide (v3 > 0)) = true then ((idx p0.aH (IntKind.i64.wrap (v3 - 1))).bind fun x18 => (if (decide (x18.Device ≥ x6.Device)) = true then (some false) else (fS p0 nL1 (IntKind.i64.wrap (v3 + 1))))) else (fS p0 nL1 (IntKind.i64.wrap (v3 + 1))))))))) else (hH p0 fuel 0)
def xC (p0 : M.Server) : Option Bool :=
  fS p0 fuel 0
def lF (p0 : M.bG) : Nat → Int → Option Bool
  | 0, _ => none
  | nL1 + 1, v3 => if (decide (v3 < (List.length p0.aJ : Int))) = true then ((idx p0.aJ v3).bind fun x6 => ((cJ x6.Path).bind fun x11 => (if (!x11) = true then (some false) else (if (x6.Version != p0.Version) = true then (some false) else (lF p0 nL1 (IntKind.i64.wrap (v3 + 1))))))) else ((bH p0.Id 1 1000000000000).bind fun x15 => (if x15 = true then ((cJ p0.Site).bind fun x18 => (if x18 = true then ((cJ p0.Top).bind fun x21 => (if x21 = true then ((bH p0.Version 1 1000000000000).bind fun x24 => (if x24 = true then (some (decide ((List.length p0.aJ : Int) ≤ 8))) else (some false))) else (some false))) else (some false))) else (some false)))
def sI (p0 : M.bG) : Option Bool :=
  lF p0 fuel 0
def fJ (p0 : M.aK) (p1 : ByteArray) (p2 : ByteArray) : Nat → Int → Option Int
  | 0, _ => none
  | nL1 + 1, v7 => if (decide (v7 < (List.length p0.Buckets : Int))) = true then ((idx p0.Buckets v7).bind fun x8 => (if (x8.Site.toList == p1.toList) = true then (if (x8.Top.toList == p2.toList) = true then (some v7) else (fJ p0 p1 p2 nL1 (IntKind.i64.wrap (v7 + 1)))) else (fJ p0 p1 p2 nL1 (IntKind.i64.wrap (v7 + 1))))) else (some (-1))
def jL (p0 : M.aK) (p1 : ByteArray) (p2 : ByteArray) : Option Int :=
  fJ p0 p1 p2 fuel 0
def bN (p0 : M.Registration) : Nat → Int → Int → Option Bool
  | 0, _, _ => none
  | nL1 + 1, v3, v5 => if (decide (v5 < ((3 : Nat) : Int))) = true then ((idx ([p0.Active, p0.Waiting, p0.Installing]) v5).bind fun x15 => ((bH x15 0 1000000000000).bind fun x20 => (if (!x20) = true then (some false) else (if (x15 != 0) = true then (if (decide (x15 ≤ v3)) = true then (some false) else (bN p0 nL1 x15 (IntKind.i64.wrap (v5 + 1)))) else (bN p0 nL1 v3 (IntKind.i64.wrap (v5 + 1))))))) else ((cJ p0.Site).bind fun x25 => (some x25))
def iH (p0 : M.Registration) : Option Bool :=
  bN p0 fuel 0 0
def rC (p0 : M.Response) : Option Bool :=
  (bH p0.Type_ 1 4).bind fun x1 => (if x1 = true then ((bH p0.Status 0 999).bind fun x4 => (if x4 = true then ((bH p0.Version 0 1000000000000).bind fun x7 => (if x7 = true then (some (decide ((List.length p0.Body : Int) ≤ 60))) else (some false))) else (some false))) else (some false))
def fI (p0 : List M.Cached) (v3 : Int) (x5 : M.Cached) (k20 : Int → Option Bool) : Nat → Int → Option Bool
  | 0, _ => none
  | nL2 + 1, v4_L2 => if (decide (v4_L2 < v3)) = true then ((idx p0 v4_L2).bind fun x26 => (if (x26.Site.toList == x5.Site.toList) = true then (if (x26.Path.toList == x5.Path.toList) = true then (some false) else (fI p0 v3 x5 k20 nL2 (IntKind.i64.wrap (v4_L2 + 1)))) else (fI p0 v3 x5 k20 nL2 (IntKind.i64.wrap (v4_L2 + 1))))) else (k20 v4_L2)
def eK (p0 : List M.Cached) : Nat → Int → Option Bool
  | 0, _ => none
  | nL1 + 1, v3 => if (decide (v3 < (List.length p0 : Int))) = true then ((idx p0 v3).bind fun x5 => ((cJ x5.Site).bind fun x10 => (if (!x10) = true then (some false) else ((cJ x5.Path).bind fun x13 => (if (!x13) = true then (some false) else ((rC x5.Response).bind fun x16 => (if (!x16) = true then (some false) else (fI p0 v3 x5 (fun (v4_L2 : Int) => eK p0 nL1 (IntKind.i64.wrap (v3 + 1))) fuel 0)))))))) else (some (decide ((List.length p0 : Int) ≤ 12)))
def mD (p0 : List M.Cached) : Option Bool :=
  eK p0 fuel 0
def eN (p0 : M.aP) : Nat → Int → Option Bool
  | 0, _ => none
  | nL1 + 1, v3 => if (decide (v3 < (List.length p0.Caches : Int))) = true then ((idx p0.Caches v3).bind fun x6 => ((bH x6.Version 1 1000000000000).bind fun x11 => (if (!x11) = true then (some false) else (if (decide (v3 > 0)) = true then ((idx p0.Caches (IntKind.i64.wrap (v3 - 1))).bind fun x15 => (if (decide (x15.Version ≥ x6.Version)) = true then (some false) else ((mD x6.Entries).bind fun x21 => (if (!x21) = true then (some false) else (eN p0 nL1 (IntKind.i64.wrap (v3 + 1))))))) else ((mD x6.Entries).bind fun x24 => (if (!x24) = true then (some false) else (eN p0 nL1 (IntKind.i64.wrap (v3 + 1))))))))) else (some (decide ((List.length p0.Caches : Int) ≤ 4)))
def qW (p0 : M.aP) : Option Bool :=
  eN p0 fuel 0
def iF (p0 : M.Database) (p1 : ByteArray) : Nat → Int → Option Int
  | 0, _ => none
  | nL1 + 1, v5 => if (decide (v5 < (List.length p0.Stores : Int))) = true then ((idx p0.Stores v5).bind fun x7 => (if (x7.Name.toList == p1.toList) = true then (some v5) else (iF p0 p1 nL1 (IntKind.i64.wrap (v5 + 1))))) else (some (-1))
def tH (p0 : M.Database) (p1 : ByteArray) : Option Int :=
  iF p0 p1 fuel 0
def kK (p0 : M.aU) (p1 : ByteArray) : Nat → Int → Option (Int × Bool)
  | 0, _ => none
  | nL1 + 1, v6 => if (decide (v6 < (List.length p0.Fields : Int))) = true then ((idx p0.Fields v6).bind fun x7 => (if (x7.Name.toList == p1.toList) = true then (some (x7.N, true)) else (kK p0 p1 nL1 (IntKind.i64.wrap (v6 + 1))))) else (some (0, false))
def kI (p0 : M.aU) (p1 : ByteArray) : Option (Int × Bool) :=
  kK p0 p1 fuel 0
def aAa (p0 : M.Item) (p1 : M.Item) (p2 : ByteArray) : Option Bool :=
  (kI p0.aU p2).bind fun x1 => ((kI p1.aU p2).bind fun x3 => (if (decide (x1.1 < x3.1)) = true then (some true) else (if (x1.1 == x3.1) = true then ((lA p0.Key p1.Key).bind fun x7 => (some (decide (x7 < 0)))) else (some false))))
def gM (p1 : ByteArray) (r50000 : List M.Item) (x15 : M.Item) (k24 : Int → Option (List M.Item)) : Nat → Int → Option (List M.Item)
  | 0, _ => none
  | nL2 + 1, v9_L2 => if (decide (v9_L2 > 0)) = true then ((idx r50000 (IntKind.i64.wrap (v9_L2 - 1))).bind fun x34 => ((aAa x15 x34 p1).bind fun x39 => (if x39 = true then (gM p1 r50000 x15 k24 nL2 (IntKind.i64.wrap (v9_L2 - 1))) else (k24 v9_L2)))) else (k24 v9_L2)
def gP (p0 : M.aG) (p1 : ByteArray) : Nat → Int → List M.Item → Option (List M.Item)
  | 0, _, _ => none
  | nL1 + 1, v6, r50000 => if (decide (v6 < (List.length p0.Items : Int))) = true then ((idx p0.Items v6).bind fun x15 => ((kI x15.aU p1).bind fun x20 => (if (!x20.2) = true then (gP p0 p1 nL1 (IntKind.i64.wrap (v6 + 1)) r50000) else (gM p1 r50000 x15 (fun (v9_L2 : Int) => (aIl r50000 v9_L2).bind fun x79 => ((app 56 ([] : List M.Item) (List.take v9_L2.toNat r50000)).bind fun x81 => ((yF x15).bind fun x93 => ((app 56 (List.take v9_L2.toNat r50000) ([x93])).bind fun x95 => ((app 56 ((List.take v9_L2.toNat r50000) ++ [x93]) (List.drop v9_L2.toNat r50000)).bind fun x107 => (gP p0 p1 nL1 (IntKind.i64.wrap (v6 + 1)) (((List.take v9_L2.toNat r50000) ++ [x93]) ++ (List.drop v9_L2.toNat r50000)))))))) fuel (List.length r50000 : Int))))) else (some r50000)
def zD (p0 : M.aG) (p1 : ByteArray) : Option (List M.Item) :=
  gP p0 p1 fuel 0 ([] : List M.Item)
def iO (p1 : ByteArray) (x1 : (List M.Item)) : Nat → Int → Option (M.Key × M.Key × Bool)
  | 0, _ => none
  | nL1 + 1, v8 => if (decide (v8 < (List.length x1 : Int))) = true then ((idx x1 (IntKind.i64.wrap (v8 - 1))).bind fun x13 => ((kI x13.aU p1).bind fun x18 => ((idx x1 v8).bind fun x20 => ((kI x20.aU p1).bind fun x25 => (if (x18.1 == x25.1) = true then (some (x13.Key, x20.Key, true)) else (iO p1 x1 nL1 (IntKind.i64.wrap (v8 + 1)))))))) else (some ((⟨0, 0, (⟨#[]⟩ : ByteArray)⟩ : M.Key), (⟨0, 0, (⟨#[]⟩ : ByteArray)⟩ : M.Key), false))
def oQ (p0 : M.aG) (p1 : ByteArray) : Option (M.Key × M.Key × Bool) :=
  (zD p0 p1).bind fun x1 => (iO p1 x1 fuel 1)
def fK (p0 : M.Database) (v4 : Int) (x26 : M.aA) (k46 : Int → Option Bool) : Nat → Int → Option Bool
  | 0, _ => none
  | nL3 + 1, v9_L3 => if (decide (v9_L3 < v4)) = true then ((idx p0.Unique v9_L3).bind fun x53 => (if ((x53.aG.toList == x26.aG.toList) && (x53.Field.toList == x26.Field.toList)) = true then (some false) else (fK p0 v4 x26 k46 nL3 (IntKind.i64.wrap (v9_L3 + 1))))) else (k46 v9_L3)
def eH (p0 : M.Database) : Nat → Int → Option Bool
  | 0, _ => none
  | nL2 + 1, v4 => if (decide (v4 < (List.length p0.Unique : Int))) = true then ((idx p0.Unique v4).bind fun x26 => ((tH p0 x26.aG).bind fun x31 => (if (decide (x31 < 0)) = true then (some false) else ((cJ x26.Field).bind fun x34 => (if (!x34) = true then (some false) else ((idx p0.Stores x31).bind fun x37 => ((oQ x37 x26.Field).bind fun x42 => (if x42.2.2 = true then (some false) else (fK p0 v4 x26 (fun (v9_L3 : Int) => eH p0 nL2 (IntKind.i64.wrap (v4 + 1))) fuel 0))))))))) else ((cJ p0.Name).bind fun x59 => (if x59 = true then ((bH p0.Version 0 1000).bind fun x62 => (if x62 = true then (if (decide ((List.length p0.Stores : Int) ≤ 4)) = true then (some (decide ((List.length p0.Unique : Int) ≤ 4))) else (some false)) else (some false))) else (some false)))
def eL (p0 : M.Database) : Nat → Int → Option Bool
  | 0, _ => none
  | nL1 + 1, v3 => if (decide (v3 < (List.length p0.Stores : Int))) = true then ((idx p0.Stores v3).bind fun x6 => ((pO x6).bind fun x11 => (if (!x11) = true then (some false) else (if (decide (v3 > 0)) = true then ((idx p0.Stores (IntKind.i64.wrap (v3 - 1))).bind fun x15 => (if (!(Op.bytesLess x15.Name.toList x6.Name.toList)) = true then (some false) else (eL p0 nL1 (IntKind.i64.wrap (v3 + 1))))) else (eL p0 nL1 (IntKind.i64.wrap (v3 + 1))))))) else (eH p0 fuel 0)
def rM (p0 : M.Database) : Option Bool :=
  eL p0 fuel 0
def iW (p0 : M.aV) : Nat → Int → Option Bool
  | 0, _ => none
  | nL1 + 1, v4 => if (decide (v4 < (List.length p0.Writes : Int))) = true then ((idx p0.Writes v4).bind fun x14 => ((jB x14).bind fun x19 => (if (!x19) = true then (some false) else (if (x14.Device != p0.Device) = true then (some false) else (if (x14.Seq != (IntKind.i64.wrap ((IntKind.i64.wrap (p0.Next - (List.length p0.Writes : Int))) + v4))) = true then (some false) else (iW p0 nL1 (IntKind.i64.wrap (v4 + 1)))))))) else (some true)
def wY (p0 : M.aV) : Option Bool :=
  (bH p0.Device 1 1000000).bind fun x1 => (if (!x1) = true then (some false) else ((bH p0.Next 1 1000000).bind fun x4 => (if (!x4) = true then (some false) else (if (decide ((List.length p0.Writes : Int) > 20)) = true then (some false) else (iW p0 fuel 0)))))
def tW (p0 : M.aC) : Option Bool :=
  (pO p0.Base).bind fun x1 => (if x1 = true then (if (p0.Base.Name.toList == (⟨#[110, 111, 116, 101, 115]⟩ : ByteArray).toList) = true then ((bH p0.Seen 0 1000000000000).bind fun x5 => (if x5 = true then ((wY p0.Sync.aV).bind fun x8 => (some x8)) else (some false))) else (some false)) else (some false))
def sC (p0 : M.Response) (p1 : Bool) : Option Int :=
  if p1 = true then (some 76) else (some (IntKind.i64.wrap (16 + (List.length p0.Body : Int))))
def gU (p0 : M.aP) (v4 : Int) (k8 : Int → Int → Option Int) : Nat → Int → Int → Option Int
  | 0, _, _ => none
  | nL2 + 1, v3_L2, v5_L2 => (idx p0.Caches v4).bind fun x15 => (if (decide (v5_L2 < (List.length x15.Entries : Int))) = true then ((idx x15.Entries v5_L2).bind fun x21 => ((sC x21.Response (x21.Response.Type_ == 3)).bind fun x26 => (gU p0 v4 k8 nL2 (IntKind.i64.wrap (v3_L2 + x26)) (IntKind.i64.wrap (v5_L2 + 1))))) else (k8 v3_L2 v5_L2))
def eF (p0 : M.aP) : Nat → Int → Int → Option Int
  | 0, _, _ => none
  | nL1 + 1, v3, v4 => if (decide (v4 < (List.length p0.Caches : Int))) = true then (gU p0 v4 (fun (v3_L2 : Int) (v5_L2 : Int) => eF p0 nL1 v3_L2 (IntKind.i64.wrap (v4 + 1))) fuel v3 0) else (some v3)
def qQ (p0 : M.aP) : Option Int :=
  eF p0 fuel 0 0
def cD (p0 : M.Key) : Nat → Int → List Int → Option (List Int)
  | 0, _, _ => none
  | nL1 + 1, v4, r12 => if (decide (v4 ≥ 0)) = true then (if (p0.Kind != 2) = true then (if (decide (0 ≤ (IntKind.i64.wrap (8 * v4)))) = true then ((app 1 r12 ([(IntKind.u8.wrap (IntKind.i64.wrap (BitVec.ofInt (IntKind.i64.bits) (Int.fdiv (IntKind.i64.wrap (p0.N + 1000000000000)) (2 ^ (min (IntKind.i64.wrap (8 * v4)).toNat IntKind.i64.bits))) &&& BitVec.ofInt (IntKind.i64.bits) 255).toNat))])).bind fun x18 => (cD p0 nL1 (IntKind.i64.wrap (v4 - 1)) (r12 ++ [(IntKind.u8.wrap (IntKind.i64.wrap (BitVec.ofInt (IntKind.i64.bits) (Int.fdiv (IntKind.i64.wrap (p0.N + 1000000000000)) (2 ^ (min (IntKind.i64.wrap (8 * v4)).toNat IntKind.i64.bits))) &&& BitVec.ofInt (IntKind.i64.bits) 255).toNat))]))) else none) else ((app 1 r12 (fE p0.Text)).bind fun x26 => (some (r12 ++ (fE p0.Text))))) else ((app 1 r12 (fE p0.Text)).bind fun x28 => (some (r12 ++ (fE p0.Text))))
def uR (p0 : M.Key) : Option (List Int) :=
  (pD p0).bind fun x1 => (if (!x1) = true then (some ([] : List Int)) else (cD p0 fuel 5 ([(IntKind.u8.wrap p0.Kind)])))
def dM  : Nat → Int → List Int → Option (List Int)
  | 0, _, _ => none
  | nL1 + 1, v1, r6 => if (decide (v1 > 127)) = true then ((app 1 r6 ([(IntKind.u8.wrap (IntKind.i64.wrap (BitVec.ofInt (IntKind.i64.bits) (IntKind.i64.wrap (BitVec.ofInt (IntKind.i64.bits) v1 &&& BitVec.ofInt (IntKind.i64.bits) 127).toNat) ||| BitVec.ofInt (IntKind.i64.bits) 128).toNat))])).bind fun x15 => (dM nL1 (Int.fdiv v1 (2 ^ (min (7 : Int).toNat IntKind.i64.bits))) (r6 ++ [(IntKind.u8.wrap (IntKind.i64.wrap (BitVec.ofInt (IntKind.i64.bits) (IntKind.i64.wrap (BitVec.ofInt (IntKind.i64.bits) v1 &&& BitVec.ofInt (IntKind.i64.bits) 127).toNat) ||| BitVec.ofInt (IntKind.i64.bits) 128).toNat))]))) else ((app 1 r6 ([(IntKind.u8.wrap v1)])).bind fun x21 => (some (r6 ++ [(IntKind.u8.wrap v1)])))
def gV (p0 : List Int) (p1 : Int) : Option (List Int) :=
  (app 1 ([] : List Int) p0).bind fun x1 => ((bH p1 0 1000000000000).bind fun x7 => (if (!x7) = true then (some p0) else (dM fuel p1 p0)))
def oZ (p0 : List Int) (p1 : List Int) : Option (List Int) :=
  (gV p0 (List.length p1 : Int)).bind fun x1 => ((app 1 x1 p1).bind fun x3 => (some (x1 ++ p1)))
def fQ (p0 : M.aU) : Nat → Int → List Int → Option (List Int)
  | 0, _, _ => none
  | nL1 + 1, v4, r50000 => if (decide (v4 < (List.length p0.Fields : Int))) = true then ((idx p0.Fields v4).bind fun x18 => ((oZ r50000 (fE x18.Name)).bind fun x23 => ((gV x23 x18.N).bind fun x25 => (fQ p0 nL1 (IntKind.i64.wrap (v4 + 1)) x25)))) else (some r50000)
def mZ (p0 : M.aU) : Option (List Int) :=
  (qN p0).bind fun x1 => (if (!x1) = true then (some ([] : List Int)) else ((gV ([] : List Int) (List.length p0.Fields : Int)).bind fun x4 => (fQ p0 fuel 0 x4)))
def iD (p0 : M.aG) : Nat → Int → Int → Option Int
  | 0, _, _ => none
  | nL1 + 1, v3, v4 => if (decide (v4 < (List.length p0.Items : Int))) = true then ((idx p0.Items v4).bind fun x7 => ((uR x7.Key).bind fun x12 => ((mZ x7.aU).bind fun x14 => (iD p0 nL1 (IntKind.i64.wrap ((IntKind.i64.wrap (v3 + (List.length x12 : Int))) + (List.length x14 : Int))) (IntKind.i64.wrap (v4 + 1)))))) else (some v3)
def nO (p0 : M.aG) : Option Int :=
  iD p0 fuel 0 0
def fN (p0 : M.Database) : Nat → Int → Int → Option Int
  | 0, _, _ => none
  | nL1 + 1, v3, v4 => if (decide (v4 < (List.length p0.Stores : Int))) = true then ((idx p0.Stores v4).bind fun x7 => ((nO x7).bind fun x12 => (fN p0 nL1 (IntKind.i64.wrap (v3 + x12)) (IntKind.i64.wrap (v4 + 1))))) else (some v3)
def mQ (p0 : M.Database) : Option Int :=
  fN p0 fuel 0 0
def aAw (p0 : M.bF) : Option Int :=
  (mQ p0.Base).bind fun x1 => (some (IntKind.i64.wrap (x1 + (List.length p0.Log : Int))))
def zG (p0 : M.aE) : Option Int :=
  (qQ p0.Caches).bind fun x1 => ((aAw p0.bF).bind fun x3 => ((nO p0.aC.Base).bind fun x5 => (some (IntKind.i64.wrap ((IntKind.i64.wrap ((IntKind.i64.wrap (x1 + x3)) + x5)) + (IntKind.i64.wrap (40 * (List.length p0.aC.Sync.aV.Writes : Int))))))))
def rK (p0 : M.aE) : Option Bool :=
  (cJ p0.Site).bind fun x1 => (if x1 = true then ((cJ p0.Top).bind fun x4 => (if x4 = true then ((iH p0.Registration).bind fun x7 => (if x7 = true then (if (p0.Registration.Site.toList == p0.Site.toList) = true then ((qW p0.Caches).bind fun x11 => (if x11 = true then ((rM p0.bF.Base).bind fun x14 => (if x14 = true then ((tW p0.aC).bind fun x17 => (if x17 = true then ((bH p0.LastUsed 0 1000000000000).bind fun x20 => (if x20 = true then ((zG p0).bind fun x23 => (some (decide (x23 ≤ 2500)))) else (some false))) else (some false))) else (some false))) else (some false))) else (some false)) else (some false))) else (some false))) else (some false))
def zO (p0 : M.aE) (p1 : ByteArray) (p2 : ByteArray) : Option Bool :=
  if (Op.bytesLess p0.Site.toList p1.toList) = true then (some true) else (if (p0.Site.toList == p1.toList) = true then (some (Op.bytesLess p0.Top.toList p2.toList)) else (some false))
def eY (p0 : M.aK) : Nat → Int → Option Bool
  | 0, _ => none
  | nL1 + 1, v3 => if (decide (v3 < (List.length p0.Buckets : Int))) = true then ((idx p0.Buckets v3).bind fun x6 => ((rK x6).bind fun x11 => (if (!x11) = true then (some false) else (if (decide (v3 > 0)) = true then ((idx p0.Buckets (IntKind.i64.wrap (v3 - 1))).bind fun x15 => ((zO x15 x6.Site x6.Top).bind fun x20 => (if (!x20) = true then (some false) else (eY p0 nL1 (IntKind.i64.wrap (v3 + 1)))))) else (eY p0 nL1 (IntKind.i64.wrap (v3 + 1))))))) else (some (decide ((List.length p0.Buckets : Int) ≤ 9)))
def nR (p0 : M.aK) : Option Bool :=
  eY p0 fuel 0
def cZ (p0 : ByteArray) : Nat → Int → Option Bool
  | 0, _ => none
  | nL1 + 1, v3 => if (decide (v3 < (p0.size : Int))) = true then ((aNJ p0 v3).bind fun x5 => (if (decide ((x5.toNat : Int) < 97)) = true then (if ((x5.toNat : Int) != 47) = true then (some false) else (cZ p0 nL1 (IntKind.i64.wrap (v3 + 1)))) else (if (decide ((x5.toNat : Int) > 122)) = true then (if ((x5.toNat : Int) != 47) = true then (some false) else (cZ p0 nL1 (IntKind.i64.wrap (v3 + 1)))) else (cZ p0 nL1 (IntKind.i64.wrap (v3 + 1)))))) else ((bH (p0.size : Int) 1 30).bind fun x13 => (some x13))
def rN (p0 : ByteArray) : Option Bool :=
  cZ p0 fuel 0
def bY (p0 : M.aR) (v3 : Int) (x6 : M.cF) (k18 : Int → Option Bool) : Nat → Int → Option Bool
  | 0, _ => none
  | nL2 + 1, v5_L2 => if (decide (v5_L2 < v3)) = true then ((idx p0.Locks v5_L2).bind fun x27 => (if x6.Held = true then (if (x27.Name.toList == x6.Name.toList) = true then (if (!x27.Held) = true then (some false) else (if (!x6.Shared) = true then (some false) else (if (!x27.Shared) = true then (some false) else (bY p0 v3 x6 k18 nL2 (IntKind.i64.wrap (v5_L2 + 1)))))) else (bY p0 v3 x6 k18 nL2 (IntKind.i64.wrap (v5_L2 + 1)))) else (bY p0 v3 x6 k18 nL2 (IntKind.i64.wrap (v5_L2 + 1))))) else (k18 v5_L2)
def eU (p0 : M.aR) : Nat → Int → Option Bool
  | 0, _ => none
  | nL1 + 1, v3 => if (decide (v3 < (List.length p0.Locks : Int))) = true then ((idx p0.Locks v3).bind fun x6 => ((rN x6.Name).bind fun x11 => (if (!x11) = true then (some false) else ((bH x6.bG 1 1000000000000).bind fun x14 => (if (!x14) = true then (some false) else (bY p0 v3 x6 (fun (v5_L2 : Int) => eU p0 nL1 (IntKind.i64.wrap (v3 + 1))) fuel 0)))))) else (some (decide ((List.length p0.Locks : Int) ≤ 12)))
def nU (p0 : M.aR) : Option Bool :=
  eU p0 fuel 0
def dI (p0 : M.World) : Nat → Int → Option Bool
  | 0, _ => none
  | nL2 + 1, v4 => if (decide (v4 < (List.length p0.Pages : Int))) = true then ((idx p0.Pages v4).bind fun x38 => ((sI x38).bind fun x43 => (if (!x43) = true then (some false) else (if (decide (x38.Id ≥ p0.NextPage)) = true then (some false) else (if (decide (v4 > 0)) = true then ((idx p0.Pages (IntKind.i64.wrap (v4 - 1))).bind fun x48 => (if (decide (x48.Id ≥ x38.Id)) = true then (some false) else ((jL p0.aK x38.Site x38.Top).bind fun x54 => (if (decide (x54 < 0)) = true then (some false) else (dI p0 nL2 (IntKind.i64.wrap (v4 + 1))))))) else ((jL p0.aK x38.Site x38.Top).bind fun x57 => (if (decide (x57 < 0)) = true then (some false) else (dI p0 nL2 (IntKind.i64.wrap (v4 + 1)))))))))) else ((bH p0.Now 0 999999990000).bind fun x60 => (if x60 = true then ((bH p0.Device 1 1000000).bind fun x63 => (if x63 = true then ((nR p0.aK).bind fun x66 => (if x66 = true then ((bH p0.NextPage 1 1000000000000).bind fun x69 => (if x69 = true then ((nU p0.Locks).bind fun x72 => (some x72)) else (some false))) else (some false))) else (some false))) else (some false)))
def iJ (p0 : M.World) : Nat → Int → Option Bool
  | 0, _ => none
  | nL1 + 1, v3 => if (decide (v3 < 3)) = true then ((idx p0.Sites v3).bind fun x9 => ((sQ x9).bind fun x14 => (if (!x14) = true then (some false) else ((rY).bind fun x17 => ((idx x17 v3).bind fun x19 => (if (!(x9.Name.toList == x19.toList)) = true then (some false) else ((idx p0.Servers v3).bind fun x25 => ((xC x25).bind fun x30 => (if (!x30) = true then (some false) else (iJ p0 nL1 (IntKind.i64.wrap (v3 + 1)))))))))))) else (dI p0 fuel 0)
def yQ (p0 : M.World) : Option Bool :=
  if ((List.length p0.Sites : Int) != 3) = true then (some false) else (if ((List.length p0.Servers : Int) != 3) = true then (some false) else (if (decide ((List.length p0.Pages : Int) > 6)) = true then (some false) else (iJ p0 fuel 0)))
def gW (p0 : ByteArray) (x1 : (List ByteArray)) : Nat → Int → Option Int
  | 0, _ => none
  | nL1 + 1, v4 => if (decide (v4 < (List.length x1 : Int))) = true then ((idx x1 v4).bind fun x9 => (if (x9.toList == p0.toList) = true then (some v4) else (gW p0 x1 nL1 (IntKind.i64.wrap (v4 + 1))))) else (some (-1))
def qM (p0 : ByteArray) : Option Int :=
  (rY).bind fun x1 => (gW p0 x1 fuel 0)
def bT  : Option M.Response :=
  some (⟨4, 0, 0, ([] : List Int), false⟩ : M.Response)
def iA (p0 : M.aP) (p1 : Int) : Nat → Int → Option Int
  | 0, _ => none
  | nL1 + 1, v5 => if (decide (v5 < (List.length p0.Caches : Int))) = true then ((idx p0.Caches v5).bind fun x7 => (if (x7.Version == p1) = true then (some v5) else (iA p0 p1 nL1 (IntKind.i64.wrap (v5 + 1))))) else (some (-1))
def tF (p0 : M.aP) (p1 : Int) : Option Int :=
  iA p0 p1 fuel 0
def iP (p0 : M.Cache) (p1 : ByteArray) (p2 : ByteArray) : Nat → Int → Option Int
  | 0, _ => none
  | nL1 + 1, v7 => if (decide (v7 < (List.length p0.Entries : Int))) = true then ((idx p0.Entries v7).bind fun x8 => (if (x8.Site.toList == p1.toList) = true then (if (x8.Path.toList == p2.toList) = true then (some v7) else (iP p0 p1 p2 nL1 (IntKind.i64.wrap (v7 + 1)))) else (iP p0 p1 p2 nL1 (IntKind.i64.wrap (v7 + 1))))) else (some (-1))
def zQ (p0 : M.Cache) (p1 : ByteArray) (p2 : ByteArray) : Option Int :=
  iP p0 p1 p2 fuel 0
def qD (p0 : M.aP) (p1 : Int) (p2 : ByteArray) (p3 : ByteArray) : Option (M.Response × Bool) :=
  (tF p0 p1).bind fun x1 => (if (decide (x1 < 0)) = true then ((bT).bind fun x4 => (some (x4, false))) else ((idx p0.Caches x1).bind fun x6 => ((zQ x6 p2 p3).bind fun x11 => (if (decide (x11 < 0)) = true then ((bT).bind fun x14 => (some (x14, false))) else ((idx x6.Entries x11).bind fun x16 => ((pR x16.Response).bind fun x21 => (some (x21, true))))))))
def aBu (p0 : Int) (p1 : Int) : Option Int :=
  if (decide (p1 > p0)) = true then (some p1) else (some p0)
def lM (p0 : M.Site) (p1 : Int) : Option Bool :=
  (sQ p0).bind fun x1 => (if x1 = true then ((aBu 1 (IntKind.i64.wrap ((IntKind.i64.wrap (p0.Version - 2)) + 1))).bind fun x4 => ((bH p1 x4 p0.Version).bind fun x6 => (some x6))) else (some false))
def kA (p0 : M.Site) (p1 : ByteArray) : Nat → Int → Option Bool
  | 0, _ => none
  | nL1 + 1, v5 => if (decide (v5 < (List.length p0.Files : Int))) = true then ((idx p0.Files v5).bind fun x7 => (if (x7.toList == p1.toList) = true then (some true) else (kA p0 p1 nL1 (IntKind.i64.wrap (v5 + 1))))) else (some false)
def zJ (p0 : M.Site) (p1 : ByteArray) : Option Bool :=
  kA p0 p1 fuel 0
def gD (p0 : List Int) : Nat → Int → List Int → Option (List Int)
  | 0, _, _ => none
  | nL1 + 1, v4, r7 => if (decide (v4 < (List.length p0 : Int))) = true then ((idx p0 v4).bind fun x11 => ((app 8 r7 ([(IntKind.i64.wrap x11)])).bind fun x16 => (gD p0 nL1 (IntKind.i64.wrap (v4 + 1)) (r7 ++ [(IntKind.i64.wrap x11)])))) else (some r7)
def oM (p0 : List Int) : Option (List Int) :=
  gD p0 fuel 0 ([(List.length p0 : Int)])
def aCV (p0 : Int) (p1 : Int) : Option Int :=
  (bH p1 1 1000000000000).bind fun x1 => (if (!x1) = true then (some 0) else (if (decide (p1 = 0)) = true then none else (some (Int.tmod (IntKind.i64.wrap ((Int.tmod p0 p1) + p1)) p1))))
def pN (p0 : List Int) : Nat → Int → Int → Option Int
  | 0, _, _ => none
  | nL1 + 1, v3, v4 => if (decide (v4 < (List.length p0 : Int))) = true then ((idx p0 v4).bind fun x6 => ((aCV x6 2147483647).bind fun x11 => (pN p0 nL1 (Int.tmod (IntKind.i64.wrap ((IntKind.i64.wrap ((IntKind.i64.wrap (v3 * 1000003)) + x11)) + 13)) 2147483647) (IntKind.i64.wrap (v4 + 1))))) else (some v3)
def aB0 (p0 : List Int) : Option Int :=
  pN p0 fuel 11 0
def nG (p0 : Int) (p1 : List Int) : Option Int :=
  (app 8 ([p0]) p1).bind fun x1 => ((app 8 ([p0] ++ p1) ([p0])).bind fun x3 => ((aB0 (([p0] ++ p1) ++ [p0])).bind fun x5 => (some x5)))
def gJ (p0 : Int) (p1 : ByteArray) : Option Int :=
  (oM (fE p1)).bind fun x1 => ((nG p0 x1).bind fun x3 => ((aBu 1 x3).bind fun x5 => (some x5)))
def lI (x5 : Int) : Nat → Int → List Int → Option (List Int)
  | 0, _, _ => none
  | nL1 + 1, v9, r19 => if (decide (v9 ≥ 0)) = true then (if (decide (0 ≤ (IntKind.i64.wrap (8 * v9)))) = true then ((app 1 r19 ([(IntKind.u8.wrap (IntKind.i64.wrap (BitVec.ofInt (IntKind.i64.bits) (Int.fdiv x5 (2 ^ (min (IntKind.i64.wrap (8 * v9)).toNat IntKind.i64.bits))) &&& BitVec.ofInt (IntKind.i64.bits) 255).toNat))])).bind fun x20 => (lI x5 nL1 (IntKind.i64.wrap (v9 - 1)) (r19 ++ [(IntKind.u8.wrap (IntKind.i64.wrap (BitVec.ofInt (IntKind.i64.bits) (Int.fdiv x5 (2 ^ (min (IntKind.i64.wrap (8 * v9)).toNat IntKind.i64.bits))) &&& BitVec.ofInt (IntKind.i64.bits) 255).toNat))]))) else none) else (some r19)
def aA7 (p0 : M.Site) (p1 : ByteArray) (p2 : Int) : Option (List Int) :=
  (gJ 107 p0.Name).bind fun x1 => ((gJ 109 p1).bind fun x3 => ((nG (IntKind.i64.wrap (1 + p2)) ([103, x1, x3])).bind fun x5 => (lI x5 fuel 5 ([] : List Int))))
def vC (p0 : M.Site) (p1 : ByteArray) (p2 : Int) : Option M.Response :=
  (sQ p0).bind fun x1 => (if (!x1) = true then ((bT).bind fun x4 => (some x4)) else ((lM p0 p2).bind fun x6 => (if (!x6) = true then (some (⟨1, 404, p0.Version, ([] : List Int), false⟩ : M.Response)) else ((zJ p0 p1).bind fun x9 => (if (!x9) = true then (some (⟨1, 404, p0.Version, ([] : List Int), false⟩ : M.Response)) else ((aA7 p0 p1 p2).bind fun x12 => (some (⟨1, 200, p2, x12, p0.Shared⟩ : M.Response))))))))
def oU (p0 : M.aP) (p1 : M.Site) (p2 : Int) (p3 : ByteArray) (p4 : Bool) : Option M.Response :=
  (qD p0 p2 p1.Name p3).bind fun x1 => (if x1.2 = true then (some x1.1) else (if p4 = true then ((vC p1 p3 p2).bind fun x5 => (some x5)) else ((bT).bind fun x7 => (some x7))))
def tT (p0 : M.World) (p1 : M.bG) (p2 : ByteArray) : Option M.Response :=
  (jL p0.aK p1.Site p1.Top).bind fun x1 => ((qM p1.Site).bind fun x3 => (if (decide (x1 < 0)) = true then ((bT).bind fun x6 => (some x6)) else (if (decide (x3 < 0)) = true then ((bT).bind fun x9 => (some x9)) else ((idx p0.aK.Buckets x1).bind fun x11 => ((idx p0.Sites x3).bind fun x16 => ((oU x11.Caches x16 p1.Version p2 p0.Online).bind fun x21 => (some x21)))))))
def wW (p0 : M.bG) (p1 : ByteArray) (p2 : M.Response) : Option (M.bG × Bool) :=
  (iS p0).bind fun x1 => ((app 24 x1.aJ ([(⟨p1, p2.Version⟩ : M.aJ)])).bind fun x3 => (if (p2.Status != 200) = true then ((iS p0).bind fun x18 => (some (x18, false))) else (if (p2.Version != p0.Version) = true then ((iS p0).bind fun x21 => (some (x21, false))) else ((sI p0).bind fun x23 => (if (!x23) = true then ((iS p0).bind fun x26 => (some (x26, false))) else ((sI (⟨x1.Id, x1.Site, x1.Top, x1.Version, (x1.aJ ++ [(⟨p1, p2.Version⟩ : M.aJ)]), x1.Machine⟩ : M.bG)).bind fun x28 => (if (!x28) = true then ((iS p0).bind fun x31 => (some (x31, false))) else (some ((⟨x1.Id, x1.Site, x1.Top, x1.Version, (x1.aJ ++ [(⟨p1, p2.Version⟩ : M.aJ)]), x1.Machine⟩ : M.bG), true)))))))))
def mX (p0 : M.World) (p1 : Int) (p2 : ByteArray) : Option (M.World × Int) :=
  (yP p0).bind fun x1 => ((tM p0 p1).bind fun x3 => ((yQ p0).bind fun x5 => (if (!x5) = true then (some (x1, (-1))) else (if (decide (x3 < 0)) = true then (some (x1, (-1))) else ((idx p0.Pages x3).bind fun x9 => ((tT p0 x9 p2).bind fun x14 => ((wW x9 p2 x14).bind fun x16 => (if x16.2 = true then ((idx x1.Pages x3).bind fun x19 => (some ((⟨x1.Now, x1.Online, x1.Device, x1.aK, (List.set x1.Pages x3.toNat x16.1), x1.NextPage, x1.Locks, x1.Channel, x1.Sites, x1.Servers⟩ : M.World), x14.Status))) else (some (x1, x14.Status))))))))))
def hU (p0 : List Int) : Option (List Int) :=
  (app 1 ([] : List Int) p0).bind fun x1 => (some p0)
def iB (p0 : M.Response) : Option M.Response :=
  (hU p0.Body).bind fun x1 => (some (⟨p0.Type_, p0.Status, p0.Version, x1, p0.Shares⟩ : M.Response))
def fM (x11 : M.Cache) (k17 : Int → List M.Cached → Option M.aP) : Nat → Int → List M.Cached → Option M.aP
  | 0, _, _ => none
  | nL2 + 1, v23_L2, r50000_L2 => if (decide (v23_L2 < (List.length x11.Entries : Int))) = true then ((idx x11.Entries v23_L2).bind fun x34 => ((iB x34.Response).bind fun x39 => ((app 88 r50000_L2 ([(⟨x34.Site, x34.Path, x39⟩ : M.Cached)])).bind fun x41 => (fM x11 k17 nL2 (IntKind.i64.wrap (v23_L2 + 1)) (r50000_L2 ++ [(⟨x34.Site, x34.Path, x39⟩ : M.Cached)]))))) else (k17 v23_L2 r50000_L2)
def eA (p0 : M.aP) : Nat → Int → List M.Cache → Option M.aP
  | 0, _, _ => none
  | nL1 + 1, v13, r50100 => if (decide (v13 < (List.length p0.Caches : Int))) = true then ((idx p0.Caches v13).bind fun x11 => (fM x11 (fun (v23_L2 : Int) (r50000_L2 : List M.Cached) => (app 32 r50100 ([(⟨x11.Version, r50000_L2⟩ : M.Cache)])).bind fun x58 => (eA p0 nL1 (IntKind.i64.wrap (v13 + 1)) (r50100 ++ [(⟨x11.Version, r50000_L2⟩ : M.Cache)]))) fuel 0 ([] : List M.Cached))) else (some (⟨r50100⟩ : M.aP))
def mV (p0 : M.aP) : Option M.aP :=
  eA p0 fuel 0 ([] : List M.Cache)
def rH (p0 : M.aU) : Option M.aU :=
  (app 24 ([] : List M.Field) p0.Fields).bind fun x1 => (some p0)
def qF (p0 : M.Item) : Option M.Item :=
  (rH p0.aU).bind fun x1 => (some (⟨p0.Key, x1⟩ : M.Item))
def iE (p0 : M.aG) : Nat → Int → List M.Item → Option M.aG
  | 0, _, _ => none
  | nL1 + 1, v14, r50000 => if (decide (v14 < (List.length p0.Items : Int))) = true then ((idx p0.Items v14).bind fun x11 => ((qF x11).bind fun x16 => ((app 56 r50000 ([x16])).bind fun x18 => (iE p0 nL1 (IntKind.i64.wrap (v14 + 1)) (r50000 ++ [x16]))))) else (some (⟨p0.Name, r50000, p0.Auto⟩ : M.aG))
def lC (p0 : M.aG) : Option M.aG :=
  iE p0 fuel 0 ([] : List M.Item)
def fL (p0 : M.Database) : Nat → Int → List M.aG → Option M.Database
  | 0, _, _ => none
  | nL1 + 1, v18, r50000 => if (decide (v18 < (List.length p0.Stores : Int))) = true then ((idx p0.Stores v18).bind fun x22 => ((lC x22).bind fun x27 => ((app 48 r50000 ([x27])).bind fun x29 => (fL p0 nL1 (IntKind.i64.wrap (v18 + 1)) (r50000 ++ [x27]))))) else (some (⟨p0.Name, p0.Version, r50000, p0.Unique⟩ : M.Database))
def mO (p0 : M.Database) : Option M.Database :=
  (app 32 ([] : List M.aA) p0.Unique).bind fun x1 => (fL p0 fuel 0 ([] : List M.aG))
def wR (p0 : M.bF) : Option M.bF :=
  (mO p0.Base).bind fun x1 => ((hU p0.Log).bind fun x3 => (some (⟨x1, x3, p0.Count⟩ : M.bF)))
def rZ (p0 : M.aV) : Option M.aV :=
  (app 72 ([] : List M.aW) p0.Writes).bind fun x1 => (some p0)
def wO (p0 : M.Sync) : Option M.Sync :=
  (rZ p0.aV).bind fun x1 => (some (⟨x1, p0.Tries, p0.WaitUntil⟩ : M.Sync))
def pF (p0 : M.aC) : Option M.aC :=
  (lC p0.Base).bind fun x1 => ((wO p0.Sync).bind fun x3 => (some (⟨x1, p0.Seen, x3⟩ : M.aC)))
def qT (p0 : M.aE) : Option M.aE :=
  (mV p0.Caches).bind fun x1 => ((wR p0.bF).bind fun x3 => ((pF p0.aC).bind fun x5 => (some (⟨p0.Site, p0.Top, p0.Registration, x1, x3, x5, p0.LastUsed, p0.Persistent⟩ : M.aE))))
def fZ (p0 : M.aK) : Nat → Int → List M.aE → Option M.aK
  | 0, _, _ => none
  | nL1 + 1, v10, r50000 => if (decide (v10 < (List.length p0.Buckets : Int))) = true then ((idx p0.Buckets v10).bind fun x11 => ((qT x11).bind fun x16 => ((app 328 r50000 ([x16])).bind fun x18 => (fZ p0 nL1 (IntKind.i64.wrap (v10 + 1)) (r50000 ++ [x16]))))) else (some (⟨r50000⟩ : M.aK))
def nY (p0 : M.aK) : Option M.aK :=
  fZ p0 fuel 0 ([] : List M.aE)
def nW (p0 : M.Machine) : Option M.Machine :=
  (app 40 ([] : List M.Instr) p0.Script).bind fun x1 => ((app 8 ([] : List Int) p0.Regs).bind fun x11 => (some p0))
def hO (p0 : M.bG) : Option M.bG :=
  (app 24 ([] : List M.aJ) p0.aJ).bind fun x1 => ((nW p0.Machine).bind fun x9 => (some (⟨p0.Id, p0.Site, p0.Top, p0.Version, p0.aJ, x9⟩ : M.bG)))
def iC (p0 : List M.bG) : Nat → Int → List M.bG → Option (List M.bG)
  | 0, _, _ => none
  | nL1 + 1, v9, r6 => if (decide (v9 < (List.length p0 : Int))) = true then ((idx p0 v9).bind fun x12 => ((hO x12).bind fun x17 => ((app 144 r6 ([x17])).bind fun x19 => (iC p0 nL1 (IntKind.i64.wrap (v9 + 1)) (r6 ++ [x17]))))) else (some r6)
def vD (p0 : List M.bG) : Option (List M.bG) :=
  iC p0 fuel 0 ([] : List M.bG)
def vA (p0 : M.aR) : Option M.aR :=
  (app 32 ([] : List M.cF) p0.Locks).bind fun x1 => (some p0)
def oJ (p0 : M.Channel) : Option M.Channel :=
  (app 24 ([] : List M.fH) p0.Mails).bind fun x1 => (some p0)
def wL (p0 : M.Site) : Option M.Site :=
  (app 16 ([] : List ByteArray) p0.Files).bind fun x1 => (some p0)
def qE (p0 : M.Server) : Option M.Server :=
  (lC p0.aG).bind fun x1 => ((app 16 ([] : List M.aH) p0.aH).bind fun x3 => ((app 72 ([] : List M.aW) p0.Changes).bind fun x5 => (some (⟨x1, p0.aH, p0.Changes⟩ : M.Server))))
def fF (p0 : M.World) (x1 : M.aK) (x3 : (List M.bG)) (x5 : M.aR) (x7 : M.Channel) (r50000 : List M.Site) : Nat → Int → List M.Server → Option M.World
  | 0, _, _ => none
  | nL2 + 1, v45, r50100 => if (decide (v45 < (List.length p0.Servers : Int))) = true then ((idx p0.Servers v45).bind fun x64 => ((qE x64).bind fun x69 => ((app 96 r50100 ([x69])).bind fun x71 => (fF p0 x1 x3 x5 x7 r50000 nL2 (IntKind.i64.wrap (v45 + 1)) (r50100 ++ [x69]))))) else (some (⟨p0.Now, p0.Online, p0.Device, x1, x3, p0.NextPage, x5, x7, r50000, r50100⟩ : M.World))
def fY (p0 : M.World) (x1 : M.aK) (x3 : (List M.bG)) (x5 : M.aR) (x7 : M.Channel) : Nat → Int → List M.Site → Option M.World
  | 0, _, _ => none
  | nL1 + 1, v29, r50000 => if (decide (v29 < (List.length p0.Sites : Int))) = true then ((idx p0.Sites v29).bind fun x25 => ((wL x25).bind fun x30 => ((app 56 r50000 ([x30])).bind fun x32 => (fY p0 x1 x3 x5 x7 nL1 (IntKind.i64.wrap (v29 + 1)) (r50000 ++ [x30]))))) else (fF p0 x1 x3 x5 x7 r50000 fuel 0 ([] : List M.Server))
def tC (p0 : M.World) : Option M.World :=
  (nY p0.aK).bind fun x1 => ((vD p0.Pages).bind fun x3 => ((vA p0.Locks).bind fun x5 => ((oJ p0.Channel).bind fun x7 => (fY p0 x1 x3 x5 x7 fuel 0 ([] : List M.Site)))))
def pE (p0 : M.bG) (c0 : Int) : Option Bool :=
  some (p0.Id == c0)
def cE (p0 : List M.bG) (p1 : M.bG → Option Bool) : Nat → Int → Option Int
  | 0, _ => none
  | nL1 + 1, v8 => if (decide (v8 < (List.length p0 : Int))) = true then ((idx p0 v8).bind fun x7 => ((p1 x7).bind fun x12 => (if x12 = true then (some v8) else (cE p0 p1 nL1 (IntKind.i64.wrap (v8 + 1)))))) else (some (-1))
def iV (p0 : List M.bG) (p1 : M.bG → Option Bool) : Option Int :=
  cE p0 p1 fuel 0
def uQ (p0 : M.World) (p1 : Int) : Option Int :=
  (iV p0.Pages (fun z0 => pE z0 p1)).bind fun x1 => (some x1)
def aZ (p0 : Int) (p1 : Int) (p2 : Int) : Option Bool :=
  if (decide (p1 ≤ p0)) = true then (some (decide (p0 ≤ p2))) else (some false)
def gF (p0 : ByteArray) (p1 : Int) (p2 : Bool) : Nat → Int → Option Bool
  | 0, _ => none
  | nL1 + 1, v7 => if (decide (v7 < (p0.size : Int))) = true then ((aNJ p0 v7).bind fun x7 => (if (decide ((x7.toNat : Int) ≥ 97)) = true then (if (decide ((x7.toNat : Int) ≤ 122)) = true then (gF p0 p1 p2 nL1 (IntKind.i64.wrap (v7 + 1))) else (if p2 = true then (if (!((x7.toNat : Int) == 47)) = true then (some false) else (gF p0 p1 p2 nL1 (IntKind.i64.wrap (v7 + 1)))) else (some false))) else (if p2 = true then (if (!((x7.toNat : Int) == 47)) = true then (some false) else (gF p0 p1 p2 nL1 (IntKind.i64.wrap (v7 + 1)))) else (some false)))) else ((aZ (p0.size : Int) 1 p1).bind fun x17 => (some x17))
def yE (p0 : ByteArray) (p1 : Int) (p2 : Bool) : Option Bool :=
  gF p0 p1 p2 fuel 0
def bV (p0 : ByteArray) : Option Bool :=
  (yE p0 8 false).bind fun x1 => (some x1)
def cV (p0 : M.Registration) : Nat → Int → Int → Option Bool
  | 0, _, _ => none
  | nL1 + 1, v3, v14 => if (decide (v14 < ((3 : Nat) : Int))) = true then ((idx ([p0.Active, p0.Waiting, p0.Installing]) v14).bind fun x18 => ((aZ x18 0 1000000000000).bind fun x23 => (if (!x23) = true then (some false) else (if (x18 != 0) = true then (if (decide (x18 ≤ v3)) = true then (some false) else (cV p0 nL1 (if x18 > v3 then x18 else v3) (IntKind.i64.wrap (v14 + 1)))) else (cV p0 nL1 (if x18 > v3 then x18 else v3) (IntKind.i64.wrap (v14 + 1))))))) else ((bV p0.Site).bind fun x28 => (some x28))
def pG (p0 : M.Registration) : Option Bool :=
  cV p0 fuel 0 0
def nI (p0 : M.Cached) (c0 : ByteArray) (c1 : ByteArray) : Option Bool :=
  if (p0.Site.toList == c0.toList) = true then (some (p0.Path.toList == c1.toList)) else (some false)
def bQ (p0 : List M.Cached) (p1 : M.Cached → Option Bool) : Nat → Int → Option Int
  | 0, _ => none
  | nL1 + 1, v8 => if (decide (v8 < (List.length p0 : Int))) = true then ((idx p0 v8).bind fun x7 => ((p1 x7).bind fun x12 => (if x12 = true then (some v8) else (bQ p0 p1 nL1 (IntKind.i64.wrap (v8 + 1)))))) else (some (-1))
def hM (p0 : List M.Cached) (p1 : M.Cached → Option Bool) : Option Int :=
  bQ p0 p1 fuel 0
def kC (p0 : M.Cache) (p1 : ByteArray) (p2 : ByteArray) : Option Int :=
  (hM p0.Entries (fun z0 => nI z0 p1 p2)).bind fun x1 => (some x1)
def mJ (p0 : M.Response) : Option Bool :=
  (aZ p0.Type_ 1 4).bind fun x1 => (if x1 = true then ((aZ p0.Status 0 999).bind fun x4 => (if x4 = true then ((aZ p0.Version 0 1000000000000).bind fun x7 => (if x7 = true then (some (decide ((List.length p0.Body : Int) ≤ 60))) else (some false))) else (some false))) else (some false))
def eI (x8 : M.Cache) (k25 : Int → Option Bool) : Nat → Int → Option Bool
  | 0, _ => none
  | nL2 + 1, v44_L2 => if (decide (v44_L2 < (List.length x8.Entries : Int))) = true then ((idx x8.Entries v44_L2).bind fun x38 => ((bV x38.Site).bind fun x43 => (if (!x43) = true then (some false) else ((bV x38.Path).bind fun x46 => (if (!x46) = true then (some false) else ((kC x8 x38.Site x38.Path).bind fun x49 => (if (x49 != v44_L2) = true then (some false) else ((mJ x38.Response).bind fun x52 => (if (!x52) = true then (some false) else (eI x8 k25 nL2 (IntKind.i64.wrap (v44_L2 + 1)))))))))))) else (k25 v44_L2)
def eB (x8 : M.Cache) (k57 : Int → Option Bool) : Nat → Int → Option Bool
  | 0, _ => none
  | nL3 + 1, v44_L3 => if (decide (v44_L3 < (List.length x8.Entries : Int))) = true then ((idx x8.Entries v44_L3).bind fun x70 => ((bV x70.Site).bind fun x75 => (if (!x75) = true then (some false) else ((bV x70.Path).bind fun x78 => (if (!x78) = true then (some false) else ((kC x8 x70.Site x70.Path).bind fun x81 => (if (x81 != v44_L3) = true then (some false) else ((mJ x70.Response).bind fun x84 => (if (!x84) = true then (some false) else (eB x8 k57 nL3 (IntKind.i64.wrap (v44_L3 + 1)))))))))))) else (k57 v44_L3)
def eM (p0 : M.aP) : Nat → Int → Option Bool
  | 0, _ => none
  | nL1 + 1, v10 => if (decide (v10 < (List.length p0.Caches : Int))) = true then ((idx p0.Caches v10).bind fun x8 => ((aZ x8.Version 1 1000000000000).bind fun x13 => (if (!x13) = true then (some false) else (if (decide (v10 > 0)) = true then ((idx p0.Caches (IntKind.i64.wrap (v10 - 1))).bind fun x17 => (if (decide (x8.Version ≤ x17.Version)) = true then (some false) else (if (decide ((List.length x8.Entries : Int) > 12)) = true then (some false) else (eI x8 (fun (v44_L2 : Int) => eM p0 nL1 (IntKind.i64.wrap (v10 + 1))) fuel 0)))) else (if (decide ((List.length x8.Entries : Int) > 12)) = true then (some false) else (eB x8 (fun (v44_L3 : Int) => eM p0 nL1 (IntKind.i64.wrap (v10 + 1))) fuel 0)))))) else (some (decide ((List.length p0.Caches : Int) ≤ 4)))
def qU (p0 : M.aP) : Option Bool :=
  eM p0 fuel 0
def dY (p0 : ByteArray) : Nat → Int → Option Bool
  | 0, _ => none
  | nL1 + 1, v3 => if (decide (v3 < (p0.size : Int))) = true then ((aNJ p0 v3).bind fun x5 => (if (decide ((x5.toNat : Int) ≥ 97)) = true then (if (decide ((x5.toNat : Int) ≤ 122)) = true then (dY p0 nL1 (IntKind.i64.wrap (v3 + 1))) else (if (decide ((x5.toNat : Int) ≥ 48)) = true then (if (!(decide ((x5.toNat : Int) ≤ 57))) = true then (some false) else (dY p0 nL1 (IntKind.i64.wrap (v3 + 1)))) else (some false))) else (if (decide ((x5.toNat : Int) ≥ 48)) = true then (if (!(decide ((x5.toNat : Int) ≤ 57))) = true then (some false) else (dY p0 nL1 (IntKind.i64.wrap (v3 + 1)))) else (some false)))) else (some (decide ((p0.size : Int) ≤ 12)))
def uN (p0 : ByteArray) : Option Bool :=
  dY p0 fuel 0
def nZ (p0 : M.Key) : Option Bool :=
  (aZ p0.Kind 1 3).bind fun x1 => (if (!x1) = true then (some false) else ((aZ p0.N (-1000000000000) 1000000000000).bind fun x4 => (if (!x4) = true then (some false) else ((uN p0.Text).bind fun x7 => (if (!x7) = true then (some false) else (if (p0.Kind == 2) = true then (if (!(p0.N != 0)) = true then (if (p0.Kind == 1) = true then (some (!(!(p0.Text.toList == (⟨#[]⟩ : ByteArray).toList)))) else (some true)) else (some false)) else (if (p0.Kind == 1) = true then (some (!(!(p0.Text.toList == (⟨#[]⟩ : ByteArray).toList)))) else (some true))))))))
def fU (p0 : M.aU) : Nat → Int → Option Bool
  | 0, _ => none
  | nL1 + 1, v8 => if (decide (v8 < (List.length p0.Fields : Int))) = true then ((idx p0.Fields v8).bind fun x8 => ((bV x8.Name).bind fun x13 => (if (!x13) = true then (some false) else ((aZ x8.N 0 1000000000).bind fun x16 => (if (!x16) = true then (some false) else (if (decide (v8 > 0)) = true then ((idx p0.Fields (IntKind.i64.wrap (v8 - 1))).bind fun x20 => (if (Op.bytesLess x8.Name.toList x20.Name.toList || x8.Name.toList == x20.Name.toList) = true then (some false) else (fU p0 nL1 (IntKind.i64.wrap (v8 + 1))))) else (fU p0 nL1 (IntKind.i64.wrap (v8 + 1))))))))) else (some (decide ((List.length p0.Fields : Int) ≤ 6)))
def qY (p0 : M.aU) : Option Bool :=
  fU p0 fuel 0
def oT (p0 : Int) (p1 : Int) : Option Int :=
  if (decide (p0 < p1)) = true then (some (-1)) else (if (decide (p0 > p1)) = true then (some 1) else (some 0))
def jF (p0 : ByteArray) (p1 : ByteArray) : Option Int := some (Lib.compareBytes p0.data.toList p1.data.toList)
def xW (p0 : ByteArray) (p1 : ByteArray) : Option Int :=
  (jF p0 p1).bind fun x1 => (some x1)
def kR (p0 : M.Key) (p1 : M.Key) : Option Int :=
  (nZ p0).bind fun x1 => (if (!x1) = true then (some 0) else ((nZ p1).bind fun x4 => (if (!x4) = true then (some 0) else ((oT p0.Kind p1.Kind).bind fun x7 => (if (x7 != 0) = true then (some x7) else ((oT p0.N p1.N).bind fun x10 => (if (x10 != 0) = true then (some x10) else ((xW p0.Text p1.Text).bind fun x13 => (some x13)))))))))
def gI (p0 : M.aG) : Nat → Int → Option Bool
  | 0, _ => none
  | nL1 + 1, v8 => if (decide (v8 < (List.length p0.Items : Int))) = true then ((idx p0.Items v8).bind fun x8 => ((nZ x8.Key).bind fun x13 => (if (!x13) = true then (some false) else ((qY x8.aU).bind fun x16 => (if (!x16) = true then (some false) else (if (decide (v8 > 0)) = true then ((idx p0.Items (IntKind.i64.wrap (v8 - 1))).bind fun x20 => ((kR x20.Key x8.Key).bind fun x25 => (if (decide (x25 ≥ 0)) = true then (some false) else (gI p0 nL1 (IntKind.i64.wrap (v8 + 1)))))) else (gI p0 nL1 (IntKind.i64.wrap (v8 + 1))))))))) else ((bV p0.Name).bind fun x28 => (if x28 = true then (if (decide ((List.length p0.Items : Int) ≤ 16)) = true then ((aZ p0.Auto 0 1000000).bind fun x32 => (some x32)) else (some false)) else (some false)))
def pK (p0 : M.aG) : Option Bool :=
  gI p0 fuel 0
def nX (p0 : M.aG) (c0 : ByteArray) : Option Bool :=
  some (p0.Name.toList == c0.toList)
def bZ (p0 : List M.aG) (p1 : M.aG → Option Bool) : Nat → Int → Option Int
  | 0, _ => none
  | nL1 + 1, v8 => if (decide (v8 < (List.length p0 : Int))) = true then ((idx p0 v8).bind fun x7 => ((p1 x7).bind fun x12 => (if x12 = true then (some v8) else (bZ p0 p1 nL1 (IntKind.i64.wrap (v8 + 1)))))) else (some (-1))
def iN (p0 : List M.aG) (p1 : M.aG → Option Bool) : Option Int :=
  bZ p0 p1 fuel 0
def uZ (p0 : M.Database) (p1 : ByteArray) : Option Int :=
  (iN p0.Stores (fun z0 => nX z0 p1)).bind fun x1 => (some x1)
def dF (p0 : List M.aA) (p1 : M.aA) : Nat → Int → Option Int
  | 0, _ => none
  | nL1 + 1, v8 => if (decide (v8 < (List.length p0 : Int))) = true then ((idx p0 v8).bind fun x8 => (if ((p1.aG.toList == x8.aG.toList) && (p1.Field.toList == x8.Field.toList)) = true then (some v8) else (dF p0 p1 nL1 (IntKind.i64.wrap (v8 + 1))))) else (some (-1))
def iU (p0 : List M.aA) (p1 : M.aA) : Option Int :=
  dF p0 p1 fuel 0
def gT (p0 : List M.aA) (p1 : M.aA) : Option Bool :=
  (iU p0 p1).bind fun x1 => (some (decide (x1 ≥ 0)))
def uY (p0 : M.Field) (c0 : ByteArray) : Option Bool :=
  some (p0.Name.toList == c0.toList)
def bW (p0 : List M.Field) (p1 : M.Field → Option Bool) : Nat → Int → Option Int
  | 0, _ => none
  | nL1 + 1, v8 => if (decide (v8 < (List.length p0 : Int))) = true then ((idx p0 v8).bind fun x7 => ((p1 x7).bind fun x12 => (if x12 = true then (some v8) else (bW p0 p1 nL1 (IntKind.i64.wrap (v8 + 1)))))) else (some (-1))
def iK (p0 : List M.Field) (p1 : M.Field → Option Bool) : Option Int :=
  bW p0 p1 fuel 0
def aBQ (p0 : M.aU) (p1 : ByteArray) : Option Int :=
  (iK p0.Fields (fun z0 => uY z0 p1)).bind fun x1 => (some x1)
def iY (p0 : M.aU) (p1 : ByteArray) : Option (Int × Bool) :=
  (aBQ p0 p1).bind fun x1 => (if (decide (x1 < 0)) = true then (some (0, false)) else ((idx p0.Fields x1).bind fun x4 => (some (x4.N, true))))
def oF (p0 : M.Item) (p1 : M.Item) (p2 : ByteArray) : Option Bool :=
  (iY p0.aU p2).bind fun x1 => ((iY p1.aU p2).bind fun x3 => (if (decide (x1.1 < x3.1)) = true then (some true) else (if (x1.1 == x3.1) = true then ((kR p0.Key p1.Key).bind fun x7 => (some (decide (x7 < 0)))) else (some false))))
def gN (p1 : ByteArray) (r11 : List M.Item) (x15 : M.Item) (k24 : Int → Option (List M.Item)) : Nat → Int → Option (List M.Item)
  | 0, _ => none
  | nL2 + 1, v10_L2 => if (decide (v10_L2 > 0)) = true then ((idx r11 (IntKind.i64.wrap (v10_L2 - 1))).bind fun x36 => ((oF x15 x36 p1).bind fun x41 => (if x41 = true then (gN p1 r11 x15 k24 nL2 (IntKind.i64.wrap (v10_L2 - 1))) else (k24 v10_L2)))) else (k24 v10_L2)
def gH (p0 : M.aG) (p1 : ByteArray) : Nat → Int → List M.Item → Option (List M.Item)
  | 0, _, _ => none
  | nL1 + 1, v15, r11 => if (decide (v15 < (List.length p0.Items : Int))) = true then ((idx p0.Items v15).bind fun x15 => ((iY x15.aU p1).bind fun x20 => (if (!x20.2) = true then (gH p0 p1 nL1 (IntKind.i64.wrap (v15 + 1)) r11) else (gN p1 r11 x15 (fun (v10_L2 : Int) => (qF x15).bind fun x55 => ((aMq 56 r11 v10_L2 ([x55])).bind fun x57 => (gH p0 p1 nL1 (IntKind.i64.wrap (v15 + 1)) (List.take v10_L2.toNat r11 ++ ([x55] ++ List.drop v10_L2.toNat r11))))) fuel (List.length r11 : Int))))) else (some r11)
def yT (p0 : M.aG) (p1 : ByteArray) : Option (List M.Item) :=
  gH p0 p1 fuel 0 ([] : List M.Item)
def eV (p1 : ByteArray) (x1 : (List M.Item)) : Nat → Int → Option (M.Key × M.Key × Bool)
  | 0, _ => none
  | nL1 + 1, v8 => if (decide (v8 < (List.length x1 : Int))) = true then ((idx x1 (IntKind.i64.wrap (v8 - 1))).bind fun x13 => ((iY x13.aU p1).bind fun x18 => ((idx x1 v8).bind fun x20 => ((iY x20.aU p1).bind fun x25 => (if (x18.1 == x25.1) = true then (some (x13.Key, x20.Key, true)) else (eV p1 x1 nL1 (IntKind.i64.wrap (v8 + 1)))))))) else (some ((⟨0, 0, (⟨#[]⟩ : ByteArray)⟩ : M.Key), (⟨0, 0, (⟨#[]⟩ : ByteArray)⟩ : M.Key), false))
def gZ (p0 : M.aG) (p1 : ByteArray) : Option (M.Key × M.Key × Bool) :=
  (yT p0 p1).bind fun x1 => (eV p1 x1 fuel 1)
def dB (p0 : M.Database) : Nat → Int → Option Bool
  | 0, _ => none
  | nL2 + 1, v64 => if (decide (v64 < (List.length p0.Unique : Int))) = true then ((idx p0.Unique v64).bind fun x38 => ((uZ p0 x38.aG).bind fun x43 => (if (decide (x43 < 0)) = true then (some false) else ((bV x38.Field).bind fun x46 => (if (!x46) = true then (some false) else ((aIl p0.Unique v64).bind fun x49 => ((gT (List.take v64.toNat p0.Unique) x38).bind fun x51 => (if x51 = true then (some false) else ((idx p0.Stores x43).bind fun x54 => ((gZ x54 x38.Field).bind fun x59 => (if x59.2.2 = true then (some false) else (dB p0 nL2 (IntKind.i64.wrap (v64 + 1)))))))))))))) else (some true)
def cY (p0 : M.Database) : Nat → Int → Option Bool
  | 0, _ => none
  | nL1 + 1, v36 => if (decide (v36 < (List.length p0.Stores : Int))) = true then ((idx p0.Stores v36).bind fun x16 => ((pK x16).bind fun x21 => (if (!x21) = true then (some false) else (if (decide (v36 > 0)) = true then ((idx p0.Stores (IntKind.i64.wrap (v36 - 1))).bind fun x25 => (if (Op.bytesLess x16.Name.toList x25.Name.toList || x16.Name.toList == x25.Name.toList) = true then (some false) else (cY p0 nL1 (IntKind.i64.wrap (v36 + 1))))) else (cY p0 nL1 (IntKind.i64.wrap (v36 + 1))))))) else (dB p0 fuel 0)
def rT (p0 : M.Database) : Option Bool :=
  (bV p0.Name).bind fun x1 => (if (!x1) = true then (some false) else ((aZ p0.Version 0 1000).bind fun x4 => (if (!x4) = true then (some false) else (if (decide ((List.length p0.Stores : Int) > 4)) = true then (some false) else (if (decide ((List.length p0.Unique : Int) > 4)) = true then (some false) else (cY p0 fuel 0))))))
def jA (p0 : M.aW) : Option Bool :=
  (aZ p0.Device 1 1000000).bind fun x1 => (if x1 = true then ((aZ p0.Seq 1 1000000).bind fun x4 => (if x4 = true then ((nZ p0.Key).bind fun x7 => (if x7 = true then ((bV p0.Field).bind fun x10 => (if x10 = true then ((aZ p0.N 0 1000000000).bind fun x13 => (some x13)) else (some false))) else (some false))) else (some false))) else (some false))
def iX (p0 : M.aV) : Nat → Int → Option Bool
  | 0, _ => none
  | nL1 + 1, v12 => if (decide (v12 < (List.length p0.Writes : Int))) = true then ((idx p0.Writes v12).bind fun x9 => ((jA x9).bind fun x14 => (if (!x14) = true then (some false) else (if (x9.Device != p0.Device) = true then (some false) else (if (x9.Seq != (IntKind.i64.wrap ((IntKind.i64.wrap (p0.Next - (List.length p0.Writes : Int))) + v12))) = true then (some false) else (iX p0 nL1 (IntKind.i64.wrap (v12 + 1)))))))) else ((aZ p0.Device 1 1000000).bind fun x19 => (if x19 = true then ((aZ p0.Next 1 1000000).bind fun x22 => (if x22 = true then (some (decide ((List.length p0.Writes : Int) ≤ 20))) else (some false))) else (some false)))
def xH (p0 : M.aV) : Option Bool :=
  iX p0 fuel 0
def tG (p0 : M.aC) : Option Bool :=
  (pK p0.Base).bind fun x1 => (if x1 = true then (if (p0.Base.Name.toList == (⟨#[110, 111, 116, 101, 115]⟩ : ByteArray).toList) = true then ((aZ p0.Seen 0 1000000000000).bind fun x5 => (if x5 = true then ((xH p0.Sync.aV).bind fun x8 => (some x8)) else (some false))) else (some false)) else (some false))
def qS (p0 : M.Response) (p1 : Bool) : Option Int :=
  if p1 = true then (some 76) else (some (IntKind.i64.wrap (16 + (List.length p0.Body : Int))))
def gY (x7 : M.Cache) (k13 : Int → Int → Option Int) : Nat → Int → Int → Option Int
  | 0, _, _ => none
  | nL2 + 1, v3_L2, v18_L2 => if (decide (v18_L2 < (List.length x7.Entries : Int))) = true then ((idx x7.Entries v18_L2).bind fun x23 => ((qS x23.Response (x23.Response.Type_ == 3)).bind fun x28 => (gY x7 k13 nL2 (IntKind.i64.wrap (v3_L2 + x28)) (IntKind.i64.wrap (v18_L2 + 1))))) else (k13 v3_L2 v18_L2)
def eJ (p0 : M.aP) : Nat → Int → Int → Option Int
  | 0, _, _ => none
  | nL1 + 1, v3, v11 => if (decide (v11 < (List.length p0.Caches : Int))) = true then ((idx p0.Caches v11).bind fun x7 => (gY x7 (fun (v3_L2 : Int) (v18_L2 : Int) => eJ p0 nL1 v3_L2 (IntKind.i64.wrap (v11 + 1))) fuel v3 0)) else (some v3)
def qG (p0 : M.aP) : Option Int :=
  eJ p0 fuel 0 0
def dU (p0 : M.Key) : Nat → Int → List Int → Option (List Int)
  | 0, _, _ => none
  | nL1 + 1, v4, r12 => if (decide (v4 ≥ 0)) = true then (if (decide (0 ≤ (IntKind.i64.wrap (8 * v4)))) = true then ((app 1 r12 ([(IntKind.u8.wrap (Int.fdiv (IntKind.i64.wrap (p0.N + 1000000000000)) (2 ^ (min (IntKind.i64.wrap (8 * v4)).toNat IntKind.i64.bits))))])).bind fun x18 => (dU p0 nL1 (IntKind.i64.wrap (v4 - 1)) (r12 ++ [(IntKind.u8.wrap (Int.fdiv (IntKind.i64.wrap (p0.N + 1000000000000)) (2 ^ (min (IntKind.i64.wrap (8 * v4)).toNat IntKind.i64.bits))))]))) else none) else ((app 1 r12 (fE p0.Text)).bind fun x26 => (some (r12 ++ fE p0.Text)))
def tI (p0 : M.Key) : Option (List Int) :=
  (nZ p0).bind fun x1 => (if (!x1) = true then (some ([] : List Int)) else (if (p0.Kind != 2) = true then (dU p0 fuel 5 ([(IntKind.u8.wrap p0.Kind)])) else ((app 1 ([(IntKind.u8.wrap p0.Kind)]) (fE p0.Text)).bind fun x28 => (some ([(IntKind.u8.wrap p0.Kind)] ++ fE p0.Text)))))
def fC  : Nat → Int → List Int → Option (List Int)
  | 0, _, _ => none
  | nL1 + 1, v1, r7 => if (decide (v1 ≥ 128)) = true then ((app 1 r7 ([(IntKind.u8.wrap (IntKind.i64.wrap ((Int.tmod v1 128) + 128)))])).bind fun x11 => (fC nL1 (IntKind.i64.wrap (Int.tdiv v1 128)) (r7 ++ [(IntKind.u8.wrap (IntKind.i64.wrap ((Int.tmod v1 128) + 128)))]))) else ((app 1 r7 ([(IntKind.u8.wrap v1)])).bind fun x17 => (some (r7 ++ [(IntKind.u8.wrap v1)])))
def gX (p0 : List Int) (p1 : Int) : Option (List Int) :=
  (hU p0).bind fun x1 => ((aZ p1 0 1000000000000).bind fun x3 => (if (!x3) = true then (some x1) else (fC fuel p1 x1)))
def pI (p0 : List Int) (p1 : List Int) : Option (List Int) :=
  (gX p0 (List.length p1 : Int)).bind fun x1 => ((app 1 x1 p1).bind fun x3 => (some (x1 ++ p1)))
def fR (p0 : M.aU) : Nat → Int → List Int → Option (List Int)
  | 0, _, _ => none
  | nL1 + 1, v17, r50000 => if (decide (v17 < (List.length p0.Fields : Int))) = true then ((idx p0.Fields v17).bind fun x13 => ((pI r50000 (fE x13.Name)).bind fun x18 => ((gX x18 x13.N).bind fun x20 => (fR p0 nL1 (IntKind.i64.wrap (v17 + 1)) x20)))) else (some r50000)
def mN (p0 : M.aU) : Option (List Int) :=
  (qY p0).bind fun x1 => (if (!x1) = true then (some ([] : List Int)) else ((gX ([] : List Int) (List.length p0.Fields : Int)).bind fun x4 => (fR p0 fuel 0 x4)))
def hZ (p0 : M.aG) : Nat → Int → Int → Option Int
  | 0, _, _ => none
  | nL1 + 1, v3, v9 => if (decide (v9 < (List.length p0.Items : Int))) = true then ((idx p0.Items v9).bind fun x7 => ((tI x7.Key).bind fun x12 => ((mN x7.aU).bind fun x14 => (hZ p0 nL1 (IntKind.i64.wrap (v3 + (IntKind.i64.wrap ((List.length x12 : Int) + (List.length x14 : Int))))) (IntKind.i64.wrap (v9 + 1)))))) else (some v3)
def nP (p0 : M.aG) : Option Int :=
  hZ p0 fuel 0 0
def fP (p0 : M.Database) : Nat → Int → Int → Option Int
  | 0, _, _ => none
  | nL1 + 1, v3, v9 => if (decide (v9 < (List.length p0.Stores : Int))) = true then ((idx p0.Stores v9).bind fun x7 => ((nP x7).bind fun x12 => (fP p0 nL1 (IntKind.i64.wrap (v3 + x12)) (IntKind.i64.wrap (v9 + 1))))) else (some v3)
def mP (p0 : M.Database) : Option Int :=
  fP p0 fuel 0 0
def aBH (p0 : M.bF) : Option Int :=
  (mP p0.Base).bind fun x1 => (some (IntKind.i64.wrap (x1 + (List.length p0.Log : Int))))
def aAJ (p0 : M.aE) : Option Int :=
  (qG p0.Caches).bind fun x1 => ((aBH p0.bF).bind fun x3 => ((nP p0.aC.Base).bind fun x5 => (some (IntKind.i64.wrap ((IntKind.i64.wrap ((IntKind.i64.wrap (x1 + x3)) + x5)) + (IntKind.i64.wrap (40 * (List.length p0.aC.Sync.aV.Writes : Int))))))))
def qI (p0 : M.aE) : Option Bool :=
  (bV p0.Site).bind fun x1 => (if x1 = true then ((bV p0.Top).bind fun x4 => (if x4 = true then ((pG p0.Registration).bind fun x7 => (if x7 = true then (if (p0.Registration.Site.toList == p0.Site.toList) = true then ((qU p0.Caches).bind fun x11 => (if x11 = true then ((rT p0.bF.Base).bind fun x14 => (if x14 = true then ((tG p0.aC).bind fun x17 => (if x17 = true then ((aZ p0.LastUsed 0 1000000000000).bind fun x20 => (if x20 = true then ((aAJ p0).bind fun x23 => (some (decide (x23 ≤ 2500)))) else (some false))) else (some false))) else (some false))) else (some false))) else (some false)) else (some false))) else (some false))) else (some false))
def mL (p0 : M.aE) (p1 : M.aE) : Option Bool :=
  if (Op.bytesLess p0.Site.toList p1.Site.toList) = true then (some true) else (if (p0.Site.toList == p1.Site.toList) = true then (some (Op.bytesLess p0.Top.toList p1.Top.toList)) else (some false))
def eZ (p0 : M.aK) : Nat → Int → Option Bool
  | 0, _ => none
  | nL1 + 1, v8 => if (decide (v8 < (List.length p0.Buckets : Int))) = true then ((idx p0.Buckets v8).bind fun x8 => ((qI x8).bind fun x13 => (if (!x13) = true then (some false) else (if (decide (v8 > 0)) = true then ((idx p0.Buckets (IntKind.i64.wrap (v8 - 1))).bind fun x17 => ((mL x17 x8).bind fun x22 => (if (!x22) = true then (some false) else (eZ p0 nL1 (IntKind.i64.wrap (v8 + 1)))))) else (eZ p0 nL1 (IntKind.i64.wrap (v8 + 1))))))) else (some (decide ((List.length p0.Buckets : Int) ≤ 9)))
def nQ (p0 : M.aK) : Option Bool :=
  eZ p0 fuel 0
def qP (p0 : ByteArray) : Option Bool :=
  (yE p0 30 true).bind fun x1 => (some x1)
def bL (p0 : M.aR) (v10 : Int) (x8 : M.cF) (k22 : Int → Option Bool) : Nat → Int → Option Bool
  | 0, _ => none
  | nL2 + 1, v30_L2 => if (decide (v30_L2 < (List.length (List.take v10.toNat p0.Locks) : Int))) = true then ((idx (List.take v10.toNat p0.Locks) v30_L2).bind fun x35 => (if (x35.Name.toList == x8.Name.toList) = true then (if x8.Held = true then (if (!x35.Held) = true then (some false) else (if (!x8.Shared) = true then (some false) else (if (!x35.Shared) = true then (some false) else (bL p0 v10 x8 k22 nL2 (IntKind.i64.wrap (v30_L2 + 1)))))) else (bL p0 v10 x8 k22 nL2 (IntKind.i64.wrap (v30_L2 + 1)))) else (bL p0 v10 x8 k22 nL2 (IntKind.i64.wrap (v30_L2 + 1))))) else (k22 v30_L2)
def dJ (p0 : M.aR) : Nat → Int → Option Bool
  | 0, _ => none
  | nL1 + 1, v10 => if (decide (v10 < (List.length p0.Locks : Int))) = true then ((idx p0.Locks v10).bind fun x8 => ((qP x8.Name).bind fun x13 => (if (!x13) = true then (some false) else ((aZ x8.bG 1 1000000000000).bind fun x16 => (if (!x16) = true then (some false) else ((aIl p0.Locks v10).bind fun x19 => (bL p0 v10 x8 (fun (v30_L2 : Int) => dJ p0 nL1 (IntKind.i64.wrap (v10 + 1))) fuel 0))))))) else (some (decide ((List.length p0.Locks : Int) ≤ 12)))
def oH (p0 : M.aR) : Option Bool :=
  dJ p0 fuel 0
def lH (p0 : M.bG) : Nat → Int → Option Bool
  | 0, _ => none
  | nL1 + 1, v8 => if (decide (v8 < (List.length p0.aJ : Int))) = true then ((idx p0.aJ v8).bind fun x8 => ((bV x8.Path).bind fun x13 => (if (!x13) = true then (some false) else (if (x8.Version != p0.Version) = true then (some false) else (lH p0 nL1 (IntKind.i64.wrap (v8 + 1))))))) else ((aZ p0.Id 1 1000000000000).bind fun x17 => (if x17 = true then ((bV p0.Site).bind fun x20 => (if x20 = true then ((bV p0.Top).bind fun x23 => (if x23 = true then ((aZ p0.Version 1 1000000000000).bind fun x26 => (if x26 = true then (some (decide ((List.length p0.aJ : Int) ≤ 8))) else (some false))) else (some false))) else (some false))) else (some false)))
def sU (p0 : M.bG) : Option Bool :=
  lH p0 fuel 0
def mY (p0 : M.aE) (c0 : ByteArray) (c1 : ByteArray) : Option Bool :=
  if (p0.Site.toList == c0.toList) = true then (some (p0.Top.toList == c1.toList)) else (some false)
def bR (p0 : List M.aE) (p1 : M.aE → Option Bool) : Nat → Int → Option Int
  | 0, _ => none
  | nL1 + 1, v8 => if (decide (v8 < (List.length p0 : Int))) = true then ((idx p0 v8).bind fun x7 => ((p1 x7).bind fun x12 => (if x12 = true then (some v8) else (bR p0 p1 nL1 (IntKind.i64.wrap (v8 + 1)))))) else (some (-1))
def hP (p0 : List M.aE) (p1 : M.aE → Option Bool) : Option Int :=
  bR p0 p1 fuel 0
def jI (p0 : M.aK) (p1 : ByteArray) (p2 : ByteArray) : Option Int :=
  (hP p0.Buckets (fun z0 => mY z0 p1 p2)).bind fun x1 => (some x1)
def hT (p0 : M.Site) : Nat → Int → Option Bool
  | 0, _ => none
  | nL1 + 1, v8 => if (decide (v8 < (List.length p0.Files : Int))) = true then ((idx p0.Files v8).bind fun x8 => ((bV x8).bind fun x13 => (if (!x13) = true then (some false) else (if (decide (v8 > 0)) = true then ((idx p0.Files (IntKind.i64.wrap (v8 - 1))).bind fun x17 => (if (Op.bytesLess x8.toList x17.toList || x8.toList == x17.toList) = true then (some false) else (hT p0 nL1 (IntKind.i64.wrap (v8 + 1))))) else (hT p0 nL1 (IntKind.i64.wrap (v8 + 1))))))) else ((bV p0.Name).bind fun x23 => (if x23 = true then ((aZ p0.Version 1 1000000000000).bind fun x26 => (if x26 = true then ((aZ (List.length p0.Files : Int) 1 6).bind fun x29 => (some x29)) else (some false))) else (some false)))
def sP (p0 : M.Site) : Option Bool :=
  hT p0 fuel 0
def bO (p0 : List ByteArray) (p1 : ByteArray) : Nat → Int → Option Int
  | 0, _ => none
  | nL1 + 1, v8 => if (decide (v8 < (List.length p0 : Int))) = true then ((idx p0 v8).bind fun x7 => (if (p1.toList == x7.toList) = true then (some v8) else (bO p0 p1 nL1 (IntKind.i64.wrap (v8 + 1))))) else (some (-1))
def iI (p0 : List ByteArray) (p1 : ByteArray) : Option Int :=
  bO p0 p1 fuel 0
def jV (p0 : ByteArray) : Option Int :=
  (iI ([(⟨#[98, 97, 110, 107]⟩ : ByteArray), (⟨#[110, 101, 119, 115]⟩ : ByteArray), (⟨#[115, 104, 111, 112]⟩ : ByteArray)]) p0).bind fun x1 => (some x1)
def hJ (p0 : M.Server) : Nat → Int → Option Bool
  | 0, _ => none
  | nL2 + 1, v45 => if (decide (v45 < (List.length p0.Changes : Int))) = true then ((idx p0.Changes v45).bind fun x33 => ((jA x33).bind fun x38 => (if (!x38) = true then (some false) else (hJ p0 nL2 (IntKind.i64.wrap (v45 + 1)))))) else ((pK p0.aG).bind fun x41 => (if x41 = true then (if (p0.aG.Name.toList == (⟨#[110, 111, 116, 101, 115]⟩ : ByteArray).toList) = true then (some (decide ((List.length p0.aH : Int) ≤ 60))) else (some false)) else (some false)))
def fW (p0 : M.Server) : Nat → Int → Option Bool
  | 0, _ => none
  | nL1 + 1, v10 => if (decide (v10 < (List.length p0.aH : Int))) = true then ((idx p0.aH v10).bind fun x8 => ((aZ x8.Device 1 1000000).bind fun x13 => (if (!x13) = true then (some false) else ((aZ x8.Seq 0 1000000).bind fun x16 => (if (!x16) = true then (some false) else (if (decide (v10 > 0)) = true then ((idx p0.aH (IntKind.i64.wrap (v10 - 1))).bind fun x20 => (if (decide (x8.Device ≤ x20.Device)) = true then (some false) else (fW p0 nL1 (IntKind.i64.wrap (v10 + 1))))) else (fW p0 nL1 (IntKind.i64.wrap (v10 + 1))))))))) else (hJ p0 fuel 0)
def wP (p0 : M.Server) : Option Bool :=
  fW p0 fuel 0
def gL (p0 : M.World) : Nat → Int → Option Bool
  | 0, _ => none
  | nL2 + 1, v101 => if (decide (v101 < (List.length p0.Sites : Int))) = true then ((idx p0.Sites v101).bind fun x55 => ((sP x55).bind fun x60 => (if (!x60) = true then (some false) else ((jV x55.Name).bind fun x63 => (if (x63 != v101) = true then (some false) else ((idx p0.Servers v101).bind fun x66 => ((wP x66).bind fun x71 => (if (!x71) = true then (some false) else (gL p0 nL2 (IntKind.i64.wrap (v101 + 1))))))))))) else (some true)
def eQ (p0 : M.World) : Nat → Int → Option Bool
  | 0, _ => none
  | nL1 + 1, v56 => if (decide (v56 < (List.length p0.Pages : Int))) = true then ((idx p0.Pages v56).bind fun x26 => ((sU x26).bind fun x31 => (if (!x31) = true then (some false) else (if (decide (x26.Id ≥ p0.NextPage)) = true then (some false) else (if (decide (v56 > 0)) = true then ((idx p0.Pages (IntKind.i64.wrap (v56 - 1))).bind fun x36 => (if (decide (x26.Id ≤ x36.Id)) = true then (some false) else ((jI p0.aK x26.Site x26.Top).bind fun x42 => (if (decide (x42 < 0)) = true then (some false) else (eQ p0 nL1 (IntKind.i64.wrap (v56 + 1))))))) else ((jI p0.aK x26.Site x26.Top).bind fun x45 => (if (decide (x45 < 0)) = true then (some false) else (eQ p0 nL1 (IntKind.i64.wrap (v56 + 1)))))))))) else (gL p0 fuel 0)
def yX (p0 : M.World) : Option Bool :=
  (aZ p0.Now 0 999999990000).bind fun x1 => (if (!x1) = true then (some false) else ((aZ p0.Device 1 1000000).bind fun x4 => (if (!x4) = true then (some false) else ((nQ p0.aK).bind fun x7 => (if (!x7) = true then (some false) else (if (decide ((List.length p0.Pages : Int) > 6)) = true then (some false) else ((aZ p0.NextPage 1 1000000000000).bind fun x11 => (if (!x11) = true then (some false) else ((oH p0.Locks).bind fun x14 => (if (!x14) = true then (some false) else (if ((List.length p0.Sites : Int) != 3) = true then (some false) else (if ((List.length p0.Servers : Int) != 3) = true then (some false) else (eQ p0 fuel 0)))))))))))))
def aAq (p0 : M.World) (p1 : ByteArray) (p2 : ByteArray) : Option (M.aE × Bool) :=
  (jI p0.aK p1 p2).bind fun x1 => (if (decide (x1 < 0)) = true then (some ((⟨(⟨#[]⟩ : ByteArray), (⟨#[]⟩ : ByteArray), (⟨(⟨#[]⟩ : ByteArray), 0, 0, 0⟩ : M.Registration), (⟨([] : List M.Cache)⟩ : M.aP), (⟨(⟨(⟨#[]⟩ : ByteArray), 0, ([] : List M.aG), ([] : List M.aA)⟩ : M.Database), ([] : List Int), 0⟩ : M.bF), (⟨(⟨(⟨#[]⟩ : ByteArray), ([] : List M.Item), 0⟩ : M.aG), 0, (⟨(⟨0, 0, ([] : List M.aW)⟩ : M.aV), 0, 0⟩ : M.Sync)⟩ : M.aC), 0, false⟩ : M.aE), false)) else ((idx p0.aK.Buckets x1).bind fun x4 => (some (x4, true))))
def bS  : Option M.Response :=
  some (⟨4, 0, 0, ([] : List Int), false⟩ : M.Response)
def aBp (p0 : M.World) (p1 : ByteArray) : Option M.Site :=
  (jV p1).bind fun x1 => (if (decide (x1 < 0)) = true then (some (⟨(⟨#[]⟩ : ByteArray), 0, ([] : List ByteArray), false⟩ : M.Site)) else (if (decide (x1 ≥ (List.length p0.Sites : Int))) = true then (some (⟨(⟨#[]⟩ : ByteArray), 0, ([] : List ByteArray), false⟩ : M.Site)) else ((idx p0.Sites x1).bind fun x5 => (some x5))))
def oL (p0 : M.Cache) (c0 : Int) : Option Bool :=
  some (p0.Version == c0)
def bX (p0 : List M.Cache) (p1 : M.Cache → Option Bool) : Nat → Int → Option Int
  | 0, _ => none
  | nL1 + 1, v8 => if (decide (v8 < (List.length p0 : Int))) = true then ((idx p0 v8).bind fun x7 => ((p1 x7).bind fun x12 => (if x12 = true then (some v8) else (bX p0 p1 nL1 (IntKind.i64.wrap (v8 + 1)))))) else (some (-1))
def iQ (p0 : List M.Cache) (p1 : M.Cache → Option Bool) : Option Int :=
  bX p0 p1 fuel 0
def tK (p0 : M.aP) (p1 : Int) : Option Int :=
  (iQ p0.Caches (fun z0 => oL z0 p1)).bind fun x1 => (some x1)
def sB (p0 : M.aP) (p1 : Int) (p2 : ByteArray) (p3 : ByteArray) : Option (M.Response × Bool) :=
  (tK p0 p1).bind fun x1 => (if (decide (x1 < 0)) = true then ((bS).bind fun x4 => (some (x4, false))) else ((idx p0.Caches x1).bind fun x6 => ((kC x6 p2 p3).bind fun x11 => (if (decide (x11 < 0)) = true then ((bS).bind fun x14 => (some (x14, false))) else ((idx x6.Entries x11).bind fun x16 => ((iB x16.Response).bind fun x21 => (some (x21, true))))))))
def lP (p0 : M.Site) (p1 : Int) : Option Bool :=
  (sP p0).bind fun x1 => (if x1 = true then (if (decide (p1 > (IntKind.i64.wrap (p0.Version - 2)))) = true then (if (decide (p1 ≤ p0.Version)) = true then (some (decide (p1 ≥ 1))) else (some false)) else (some false)) else (some false))
def kS (p0 : List ByteArray) (p1 : ByteArray) : Option Bool :=
  (iI p0 p1).bind fun x1 => (some (decide (x1 ≥ 0)))
def zI (p0 : M.Site) (p1 : ByteArray) : Option Bool :=
  (kS p0.Files p1).bind fun x1 => (some x1)
def gB (p0 : List Int) : Nat → Int → List Int → Option (List Int)
  | 0, _, _ => none
  | nL1 + 1, v11, r8 => if (decide (v11 < (List.length p0 : Int))) = true then ((idx p0 v11).bind fun x12 => ((app 8 r8 ([(IntKind.i64.wrap x12)])).bind fun x17 => (gB p0 nL1 (IntKind.i64.wrap (v11 + 1)) (r8 ++ [(IntKind.i64.wrap x12)])))) else (some r8)
def oE (p0 : List Int) : Option (List Int) :=
  gB p0 fuel 0 ([(List.length p0 : Int)])
def aCY (p0 : Int) (p1 : Int) : Option Int :=
  (aZ p1 1 1000000000000).bind fun x1 => (if (!x1) = true then (some 0) else (if (decide (p1 = 0)) = true then none else (if (decide ((Int.tmod p0 p1) < 0)) = true then (some (IntKind.i64.wrap ((Int.tmod p0 p1) + p1))) else (some (Int.tmod p0 p1)))))
def pM (p0 : List Int) : Nat → Int → Int → Option Int
  | 0, _, _ => none
  | nL1 + 1, v3, v8 => if (decide (v8 < (List.length p0 : Int))) = true then ((idx p0 v8).bind fun x7 => ((aCY x7 2147483647).bind fun x12 => (pM p0 nL1 (Int.tmod (IntKind.i64.wrap ((IntKind.i64.wrap ((IntKind.i64.wrap (v3 * 1000003)) + x12)) + 13)) 2147483647) (IntKind.i64.wrap (v8 + 1))))) else (some v3)
def aB2 (p0 : List Int) : Option Int :=
  pM p0 fuel 11 0
def nS (p0 : Int) (p1 : List Int) : Option Int :=
  (app 8 ([p0]) p1).bind fun x1 => ((app 8 ([p0] ++ p1) ([p0])).bind fun x3 => ((aB2 (([p0] ++ p1) ++ [p0])).bind fun x5 => (some x5)))
def gO (p0 : Int) (p1 : ByteArray) : Option Int :=
  (oE (fE p1)).bind fun x1 => ((nS p0 x1).bind fun x3 => (if (x3 == 0) = true then (some 1) else (some x3)))
def dG (x5 : Int) : Nat → Int → List Int → Option (List Int)
  | 0, _, _ => none
  | nL1 + 1, v9, r19 => if (decide (v9 ≥ 0)) = true then (if (decide (0 ≤ (IntKind.i64.wrap (8 * v9)))) = true then ((app 1 r19 ([(IntKind.u8.wrap (Int.fdiv x5 (2 ^ (min (IntKind.i64.wrap (8 * v9)).toNat IntKind.i64.bits))))])).bind fun x20 => (dG x5 nL1 (IntKind.i64.wrap (v9 - 1)) (r19 ++ [(IntKind.u8.wrap (Int.fdiv x5 (2 ^ (min (IntKind.i64.wrap (8 * v9)).toNat IntKind.i64.bits))))]))) else none) else (some r19)
def aAY (p0 : M.Site) (p1 : ByteArray) (p2 : Int) : Option (List Int) :=
  (gO 107 p0.Name).bind fun x1 => ((gO 109 p1).bind fun x3 => ((nS (IntKind.i64.wrap (1 + p2)) ([103, x1, x3])).bind fun x5 => (dG x5 fuel 5 ([] : List Int))))
def uW (p0 : M.Site) (p1 : ByteArray) (p2 : Int) : Option M.Response :=
  (sP p0).bind fun x1 => (if (!x1) = true then ((bS).bind fun x4 => (some x4)) else ((lP p0 p2).bind fun x6 => (if (!x6) = true then (some (⟨1, 404, p0.Version, ([] : List Int), false⟩ : M.Response)) else ((zI p0 p1).bind fun x9 => (if (!x9) = true then (some (⟨1, 404, p0.Version, ([] : List Int), false⟩ : M.Response)) else ((aAY p0 p1 p2).bind fun x12 => (some (⟨1, 200, p2, x12, p0.Shared⟩ : M.Response))))))))
def oK (p0 : M.aP) (p1 : M.Site) (p2 : Int) (p3 : ByteArray) (p4 : Bool) : Option M.Response :=
  (sB p0 p2 p1.Name p3).bind fun x1 => (if x1.2 = true then (some x1.1) else (if p4 = true then ((uW p1 p3 p2).bind fun x5 => (some x5)) else ((bS).bind fun x7 => (some x7))))
def wM (p0 : M.World) (p1 : M.bG) (p2 : ByteArray) : Option M.Response :=
  (aAq p0 p1.Site p1.Top).bind fun x1 => (if (!x1.2) = true then ((bS).bind fun x4 => (some x4)) else ((jV p1.Site).bind fun x6 => (if (decide (x6 < 0)) = true then ((bS).bind fun x9 => (some x9)) else ((aBp p0 p1.Site).bind fun x11 => ((oK x1.1.Caches x11 p1.Version p2 p0.Online).bind fun x13 => (some x13))))))
def wJ (p0 : M.bG) (p1 : ByteArray) (p2 : M.Response) : Option (M.bG × Bool) :=
  (hO p0).bind fun x1 => ((app 24 x1.aJ ([(⟨p1, p2.Version⟩ : M.aJ)])).bind fun x3 => (if (p2.Status != 200) = true then ((hO p0).bind fun x18 => (some (x18, false))) else (if (p2.Version != p0.Version) = true then ((hO p0).bind fun x21 => (some (x21, false))) else ((sU p0).bind fun x23 => (if (!x23) = true then ((hO p0).bind fun x26 => (some (x26, false))) else ((sU (⟨x1.Id, x1.Site, x1.Top, x1.Version, (x1.aJ ++ [(⟨p1, p2.Version⟩ : M.aJ)]), x1.Machine⟩ : M.bG)).bind fun x28 => (if (!x28) = true then ((hO p0).bind fun x31 => (some (x31, false))) else (some ((⟨x1.Id, x1.Site, x1.Top, x1.Version, (x1.aJ ++ [(⟨p1, p2.Version⟩ : M.aJ)]), x1.Machine⟩ : M.bG), true)))))))))
def jQ (p0 : M.World) (p1 : Int) (p2 : ByteArray) : Option (M.World × Int) :=
  (tC p0).bind fun x1 => ((uQ p0 p1).bind fun x3 => ((yX p0).bind fun x5 => (if (!x5) = true then (some (x1, (-1))) else (if (decide (x3 < 0)) = true then (some (x1, (-1))) else ((idx p0.Pages x3).bind fun x9 => ((wM p0 x9 p2).bind fun x14 => ((wJ x9 p2 x14).bind fun x16 => ((idx x1.Pages x3).bind fun x18 => (some ((⟨x1.Now, x1.Online, x1.Device, x1.aK, (List.set x1.Pages x3.toNat x16.1), x1.NextPage, x1.Locks, x1.Channel, x1.Sites, x1.Servers⟩ : M.World), x14.Status))))))))))
def kG (p0 : M.Registration) (p1 : M.Registration) : Option Bool :=
  if (!(p0.Site.toList == p1.Site.toList)) = true then (some false) else (if (p0.Installing != p1.Installing) = true then (some false) else (if (p0.Waiting != p1.Waiting) = true then (some false) else (if (p0.Active != p1.Active) = true then (some false) else (some true))))
def mF (p0 : List Int) (p1 : List Int) : Nat → Int → Option Bool
  | 0, _ => none
  | nL1 + 1, v5 => if (decide (v5 < (List.length p0 : Int))) = true then ((idx p0 v5).bind fun x7 => ((idx p1 v5).bind fun x12 => (if (x7 != x12) = true then (some false) else (mF p0 p1 nL1 (IntKind.i64.wrap (v5 + 1)))))) else (some true)
def vF (p0 : List Int) (p1 : List Int) : Option Bool :=
  if ((List.length p0 : Int) != (List.length p1 : Int)) = true then (some false) else (mF p0 p1 fuel 0)
def qH (p0 : M.Response) (p1 : M.Response) : Option Bool :=
  if (p0.Type_ != p1.Type_) = true then (some false) else (if (p0.Status != p1.Status) = true then (some false) else (if (p0.Version != p1.Version) = true then (some false) else ((vF p0.Body p1.Body).bind fun x4 => (if (!x4) = true then (some false) else (if (!(p0.Shares == p1.Shares)) = true then (some false) else (some true))))))
def wN (p0 : M.Cached) (p1 : M.Cached) : Option Bool :=
  if (!(p0.Site.toList == p1.Site.toList)) = true then (some false) else (if (!(p0.Path.toList == p1.Path.toList)) = true then (some false) else ((qH p0.Response p1.Response).bind fun x3 => (if (!x3) = true then (some false) else (some true))))
def jN (p0 : List M.Cached) (p1 : List M.Cached) : Nat → Int → Option Bool
  | 0, _ => none
  | nL1 + 1, v5 => if (decide (v5 < (List.length p0 : Int))) = true then ((idx p0 v5).bind fun x7 => ((idx p1 v5).bind fun x12 => ((wN x7 x12).bind fun x17 => (if (!x17) = true then (some false) else (jN p0 p1 nL1 (IntKind.i64.wrap (v5 + 1))))))) else (some true)
def tQ (p0 : List M.Cached) (p1 : List M.Cached) : Option Bool :=
  if ((List.length p0 : Int) != (List.length p1 : Int)) = true then (some false) else (jN p0 p1 fuel 0)
def yR (p0 : M.Cache) (p1 : M.Cache) : Option Bool :=
  if (p0.Version != p1.Version) = true then (some false) else ((tQ p0.Entries p1.Entries).bind fun x2 => (if (!x2) = true then (some false) else (some true)))
def kP (p0 : List M.Cache) (p1 : List M.Cache) : Nat → Int → Option Bool
  | 0, _ => none
  | nL1 + 1, v5 => if (decide (v5 < (List.length p0 : Int))) = true then ((idx p0 v5).bind fun x7 => ((idx p1 v5).bind fun x12 => ((yR x7 x12).bind fun x17 => (if (!x17) = true then (some false) else (kP p0 p1 nL1 (IntKind.i64.wrap (v5 + 1))))))) else (some true)
def xE (p0 : List M.Cache) (p1 : List M.Cache) : Option Bool :=
  if ((List.length p0 : Int) != (List.length p1 : Int)) = true then (some false) else (kP p0 p1 fuel 0)
def qR (p0 : M.aP) (p1 : M.aP) : Option Bool :=
  (xE p0.Caches p1.Caches).bind fun x1 => (if (!x1) = true then (some false) else (some true))
def aAM (p0 : M.Key) (p1 : M.Key) : Option Bool :=
  if (p0.Kind != p1.Kind) = true then (some false) else (if (p0.N != p1.N) = true then (some false) else (if (!(p0.Text.toList == p1.Text.toList)) = true then (some false) else (some true)))
def zW (p0 : M.Field) (p1 : M.Field) : Option Bool :=
  if (!(p0.Name.toList == p1.Name.toList)) = true then (some false) else (if (p0.N != p1.N) = true then (some false) else (some true))
def kM (p0 : List M.Field) (p1 : List M.Field) : Nat → Int → Option Bool
  | 0, _ => none
  | nL1 + 1, v5 => if (decide (v5 < (List.length p0 : Int))) = true then ((idx p0 v5).bind fun x7 => ((idx p1 v5).bind fun x12 => ((zW x7 x12).bind fun x17 => (if (!x17) = true then (some false) else (kM p0 p1 nL1 (IntKind.i64.wrap (v5 + 1))))))) else (some true)
def xP (p0 : List M.Field) (p1 : List M.Field) : Option Bool :=
  if ((List.length p0 : Int) != (List.length p1 : Int)) = true then (some false) else (kM p0 p1 fuel 0)
def wQ (p0 : M.aU) (p1 : M.aU) : Option Bool :=
  (xP p0.Fields p1.Fields).bind fun x1 => (if (!x1) = true then (some false) else (some true))
def aA1 (p0 : M.Item) (p1 : M.Item) : Option Bool :=
  (aAM p0.Key p1.Key).bind fun x1 => (if (!x1) = true then (some false) else ((wQ p0.aU p1.aU).bind fun x4 => (if (!x4) = true then (some false) else (some true))))
def mC (p0 : List M.Item) (p1 : List M.Item) : Nat → Int → Option Bool
  | 0, _ => none
  | nL1 + 1, v5 => if (decide (v5 < (List.length p0 : Int))) = true then ((idx p0 v5).bind fun x7 => ((idx p1 v5).bind fun x12 => ((aA1 x7 x12).bind fun x17 => (if (!x17) = true then (some false) else (mC p0 p1 nL1 (IntKind.i64.wrap (v5 + 1))))))) else (some true)
def yO (p0 : List M.Item) (p1 : List M.Item) : Option Bool :=
  if ((List.length p0 : Int) != (List.length p1 : Int)) = true then (some false) else (mC p0 p1 fuel 0)
def pP (p0 : M.aG) (p1 : M.aG) : Option Bool :=
  if (!(p0.Name.toList == p1.Name.toList)) = true then (some false) else ((yO p0.Items p1.Items).bind fun x2 => (if (!x2) = true then (some false) else (if (p0.Auto != p1.Auto) = true then (some false) else (some true))))
def kL (p0 : List M.aG) (p1 : List M.aG) : Nat → Int → Option Bool
  | 0, _ => none
  | nL1 + 1, v5 => if (decide (v5 < (List.length p0 : Int))) = true then ((idx p0 v5).bind fun x7 => ((idx p1 v5).bind fun x12 => ((pP x7 x12).bind fun x17 => (if (!x17) = true then (some false) else (kL p0 p1 nL1 (IntKind.i64.wrap (v5 + 1))))))) else (some true)
def xF (p0 : List M.aG) (p1 : List M.aG) : Option Bool :=
  if ((List.length p0 : Int) != (List.length p1 : Int)) = true then (some false) else (kL p0 p1 fuel 0)
def sA (p0 : M.aA) (p1 : M.aA) : Option Bool :=
  if (!(p0.aG.toList == p1.aG.toList)) = true then (some false) else (if (!(p0.Field.toList == p1.Field.toList)) = true then (some false) else (some true))
def iL (p0 : List M.aA) (p1 : List M.aA) : Nat → Int → Option Bool
  | 0, _ => none
  | nL1 + 1, v5 => if (decide (v5 < (List.length p0 : Int))) = true then ((idx p0 v5).bind fun x7 => ((idx p1 v5).bind fun x12 => ((sA x7 x12).bind fun x17 => (if (!x17) = true then (some false) else (iL p0 p1 nL1 (IntKind.i64.wrap (v5 + 1))))))) else (some true)
def oD (p0 : List M.aA) (p1 : List M.aA) : Option Bool :=
  if ((List.length p0 : Int) != (List.length p1 : Int)) = true then (some false) else (iL p0 p1 fuel 0)
def rL (p0 : M.Database) (p1 : M.Database) : Option Bool :=
  if (!(p0.Name.toList == p1.Name.toList)) = true then (some false) else (if (p0.Version != p1.Version) = true then (some false) else ((xF p0.Stores p1.Stores).bind fun x3 => (if (!x3) = true then (some false) else ((oD p0.Unique p1.Unique).bind fun x6 => (if (!x6) = true then (some false) else (some true))))))
def aAW (p0 : M.bF) (p1 : M.bF) : Option Bool :=
  (rL p0.Base p1.Base).bind fun x1 => (if (!x1) = true then (some false) else ((vF p0.Log p1.Log).bind fun x4 => (if (!x4) = true then (some false) else (if (p0.Count != p1.Count) = true then (some false) else (some true)))))
def zB (p0 : M.aW) (p1 : M.aW) : Option Bool :=
  if (p0.Device != p1.Device) = true then (some false) else (if (p0.Seq != p1.Seq) = true then (some false) else ((aAM p0.Key p1.Key).bind fun x3 => (if (!x3) = true then (some false) else (if (!(p0.Field.toList == p1.Field.toList)) = true then (some false) else (if (p0.N != p1.N) = true then (some false) else (some true))))))
def kN (p0 : List M.aW) (p1 : List M.aW) : Nat → Int → Option Bool
  | 0, _ => none
  | nL1 + 1, v5 => if (decide (v5 < (List.length p0 : Int))) = true then ((idx p0 v5).bind fun x7 => ((idx p1 v5).bind fun x12 => ((zB x7 x12).bind fun x17 => (if (!x17) = true then (some false) else (kN p0 p1 nL1 (IntKind.i64.wrap (v5 + 1))))))) else (some true)
def qO (p0 : List M.aW) (p1 : List M.aW) : Option Bool :=
  if ((List.length p0 : Int) != (List.length p1 : Int)) = true then (some false) else (kN p0 p1 fuel 0)
def wD (p0 : M.aV) (p1 : M.aV) : Option Bool :=
  if (p0.Device != p1.Device) = true then (some false) else (if (p0.Next != p1.Next) = true then (some false) else ((qO p0.Writes p1.Writes).bind fun x3 => (if (!x3) = true then (some false) else (some true))))
def aAu (p0 : M.Sync) (p1 : M.Sync) : Option Bool :=
  (wD p0.aV p1.aV).bind fun x1 => (if (!x1) = true then (some false) else (if (p0.Tries != p1.Tries) = true then (some false) else (if (p0.WaitUntil != p1.WaitUntil) = true then (some false) else (some true))))
def uG (p0 : M.aC) (p1 : M.aC) : Option Bool :=
  (pP p0.Base p1.Base).bind fun x1 => (if (!x1) = true then (some false) else (if (p0.Seen != p1.Seen) = true then (some false) else ((aAu p0.Sync p1.Sync).bind fun x5 => (if (!x5) = true then (some false) else (some true)))))
def xR (p0 : M.aE) (p1 : M.aE) : Option Bool :=
  if (!(p0.Site.toList == p1.Site.toList)) = true then (some false) else (if (!(p0.Top.toList == p1.Top.toList)) = true then (some false) else ((kG p0.Registration p1.Registration).bind fun x3 => (if (!x3) = true then (some false) else ((qR p0.Caches p1.Caches).bind fun x6 => (if (!x6) = true then (some false) else ((aAW p0.bF p1.bF).bind fun x9 => (if (!x9) = true then (some false) else ((uG p0.aC p1.aC).bind fun x12 => (if (!x12) = true then (some false) else (if (p0.LastUsed != p1.LastUsed) = true then (some false) else (if (!(p0.Persistent == p1.Persistent)) = true then (some false) else (some true))))))))))))
def jU (p0 : List M.aE) (p1 : List M.aE) : Nat → Int → Option Bool
  | 0, _ => none
  | nL1 + 1, v5 => if (decide (v5 < (List.length p0 : Int))) = true then ((idx p0 v5).bind fun x7 => ((idx p1 v5).bind fun x12 => ((xR x7 x12).bind fun x17 => (if (!x17) = true then (some false) else (jU p0 p1 nL1 (IntKind.i64.wrap (v5 + 1))))))) else (some true)
def uH (p0 : List M.aE) (p1 : List M.aE) : Option Bool :=
  if ((List.length p0 : Int) != (List.length p1 : Int)) = true then (some false) else (jU p0 p1 fuel 0)
def tY (p0 : M.aK) (p1 : M.aK) : Option Bool :=
  (uH p0.Buckets p1.Buckets).bind fun x1 => (if (!x1) = true then (some false) else (some true))
def xK (p0 : M.aJ) (p1 : M.aJ) : Option Bool :=
  if (!(p0.Path.toList == p1.Path.toList)) = true then (some false) else (if (p0.Version != p1.Version) = true then (some false) else (some true))
def jS (p0 : List M.aJ) (p1 : List M.aJ) : Nat → Int → Option Bool
  | 0, _ => none
  | nL1 + 1, v5 => if (decide (v5 < (List.length p0 : Int))) = true then ((idx p0 v5).bind fun x7 => ((idx p1 v5).bind fun x12 => ((xK x7 x12).bind fun x17 => (if (!x17) = true then (some false) else (jS p0 p1 nL1 (IntKind.i64.wrap (v5 + 1))))))) else (some true)
def tP (p0 : List M.aJ) (p1 : List M.aJ) : Option Bool :=
  if ((List.length p0 : Int) != (List.length p1 : Int)) = true then (some false) else (jS p0 p1 fuel 0)
def yN (p0 : M.Instr) (p1 : M.Instr) : Option Bool :=
  if (p0.Kind != p1.Kind) = true then (some false) else (if (p0.R != p1.R) = true then (some false) else (if (p0.N != p1.N) = true then (some false) else (if (!(p0.Text.toList == p1.Text.toList)) = true then (some false) else (some true))))
def kO (p0 : List M.Instr) (p1 : List M.Instr) : Nat → Int → Option Bool
  | 0, _ => none
  | nL1 + 1, v5 => if (decide (v5 < (List.length p0 : Int))) = true then ((idx p0 v5).bind fun x7 => ((idx p1 v5).bind fun x12 => ((yN x7 x12).bind fun x17 => (if (!x17) = true then (some false) else (kO p0 p1 nL1 (IntKind.i64.wrap (v5 + 1))))))) else (some true)
def wE (p0 : List M.Instr) (p1 : List M.Instr) : Option Bool :=
  if ((List.length p0 : Int) != (List.length p1 : Int)) = true then (some false) else (kO p0 p1 fuel 0)
def nM (p0 : List Int) (p1 : List Int) : Nat → Int → Option Bool
  | 0, _ => none
  | nL1 + 1, v5 => if (decide (v5 < (List.length p0 : Int))) = true then ((idx p0 v5).bind fun x7 => ((idx p1 v5).bind fun x12 => (if (x7 != x12) = true then (some false) else (nM p0 p1 nL1 (IntKind.i64.wrap (v5 + 1)))))) else (some true)
def aBF (p0 : List Int) (p1 : List Int) : Option Bool :=
  if ((List.length p0 : Int) != (List.length p1 : Int)) = true then (some false) else (nM p0 p1 fuel 0)
def tE (p0 : M.Machine) (p1 : M.Machine) : Option Bool :=
  (wE p0.Script p1.Script).bind fun x1 => (if (!x1) = true then (some false) else (if (p0.Pc != p1.Pc) = true then (some false) else ((aBF p0.Regs p1.Regs).bind fun x5 => (if (!x5) = true then (some false) else (if (p0.Steps != p1.Steps) = true then (some false) else (if (!(p0.Done == p1.Done)) = true then (some false) else (if (!(p0.Wait == p1.Wait)) = true then (some false) else (some true))))))))
def aAh (p0 : M.bG) (p1 : M.bG) : Option Bool :=
  if (p0.Id != p1.Id) = true then (some false) else (if (!(p0.Site.toList == p1.Site.toList)) = true then (some false) else (if (!(p0.Top.toList == p1.Top.toList)) = true then (some false) else (if (p0.Version != p1.Version) = true then (some false) else ((tP p0.aJ p1.aJ).bind fun x5 => (if (!x5) = true then (some false) else ((tE p0.Machine p1.Machine).bind fun x8 => (if (!x8) = true then (some false) else (some true))))))))
def lV (p0 : List M.bG) (p1 : List M.bG) : Nat → Int → Option Bool
  | 0, _ => none
  | nL1 + 1, v5 => if (decide (v5 < (List.length p0 : Int))) = true then ((idx p0 v5).bind fun x7 => ((idx p1 v5).bind fun x12 => ((aAh x7 x12).bind fun x17 => (if (!x17) = true then (some false) else (lV p0 p1 nL1 (IntKind.i64.wrap (v5 + 1))))))) else (some true)
def zU (p0 : List M.bG) (p1 : List M.bG) : Option Bool :=
  if ((List.length p0 : Int) != (List.length p1 : Int)) = true then (some false) else (lV p0 p1 fuel 0)
def aAg (p0 : M.cF) (p1 : M.cF) : Option Bool :=
  if (!(p0.Name.toList == p1.Name.toList)) = true then (some false) else (if (p0.bG != p1.bG) = true then (some false) else (if (!(p0.Shared == p1.Shared)) = true then (some false) else (if (!(p0.Held == p1.Held)) = true then (some false) else (some true))))
def lZ (p0 : List M.cF) (p1 : List M.cF) : Nat → Int → Option Bool
  | 0, _ => none
  | nL1 + 1, v5 => if (decide (v5 < (List.length p0 : Int))) = true then ((idx p0 v5).bind fun x7 => ((idx p1 v5).bind fun x12 => ((aAg x7 x12).bind fun x17 => (if (!x17) = true then (some false) else (lZ p0 p1 nL1 (IntKind.i64.wrap (v5 + 1))))))) else (some true)
def zV (p0 : List M.cF) (p1 : List M.cF) : Option Bool :=
  if ((List.length p0 : Int) != (List.length p1 : Int)) = true then (some false) else (lZ p0 p1 fuel 0)
def oG (p0 : M.aR) (p1 : M.aR) : Option Bool :=
  (zV p0.Locks p1.Locks).bind fun x1 => (if (!x1) = true then (some false) else (some true))
def aA0 (p0 : M.fH) (p1 : M.fH) : Option Bool :=
  if (p0.To != p1.To) = true then (some false) else (if (p0.From != p1.From) = true then (some false) else (if (p0.N != p1.N) = true then (some false) else (some true)))
def mE (p0 : List M.fH) (p1 : List M.fH) : Nat → Int → Option Bool
  | 0, _ => none
  | nL1 + 1, v5 => if (decide (v5 < (List.length p0 : Int))) = true then ((idx p0 v5).bind fun x7 => ((idx p1 v5).bind fun x12 => ((aA0 x7 x12).bind fun x17 => (if (!x17) = true then (some false) else (mE p0 p1 nL1 (IntKind.i64.wrap (v5 + 1))))))) else (some true)
def zE (p0 : List M.fH) (p1 : List M.fH) : Option Bool :=
  if ((List.length p0 : Int) != (List.length p1 : Int)) = true then (some false) else (mE p0 p1 fuel 0)
def tJ (p0 : M.Channel) (p1 : M.Channel) : Option Bool :=
  (zE p0.Mails p1.Mails).bind fun x1 => (if (!x1) = true then (some false) else (some true))
def jJ (p0 : List ByteArray) (p1 : List ByteArray) : Nat → Int → Option Bool
  | 0, _ => none
  | nL1 + 1, v5 => if (decide (v5 < (List.length p0 : Int))) = true then ((idx p0 v5).bind fun x7 => ((idx p1 v5).bind fun x12 => (if (!(x7.toList == x12.toList)) = true then (some false) else (jJ p0 p1 nL1 (IntKind.i64.wrap (v5 + 1)))))) else (some true)
def tR (p0 : List ByteArray) (p1 : List ByteArray) : Option Bool :=
  if ((List.length p0 : Int) != (List.length p1 : Int)) = true then (some false) else (jJ p0 p1 fuel 0)
def aAZ (p0 : M.Site) (p1 : M.Site) : Option Bool :=
  if (!(p0.Name.toList == p1.Name.toList)) = true then (some false) else (if (p0.Version != p1.Version) = true then (some false) else ((tR p0.Files p1.Files).bind fun x3 => (if (!x3) = true then (some false) else (if (!(p0.Shared == p1.Shared)) = true then (some false) else (some true)))))
def lY (p0 : List M.Site) (p1 : List M.Site) : Nat → Int → Option Bool
  | 0, _ => none
  | nL1 + 1, v5 => if (decide (v5 < (List.length p0 : Int))) = true then ((idx p0 v5).bind fun x7 => ((idx p1 v5).bind fun x12 => ((aAZ x7 x12).bind fun x17 => (if (!x17) = true then (some false) else (lY p0 p1 nL1 (IntKind.i64.wrap (v5 + 1))))))) else (some true)
def zT (p0 : List M.Site) (p1 : List M.Site) : Option Bool :=
  if ((List.length p0 : Int) != (List.length p1 : Int)) = true then (some false) else (lY p0 p1 fuel 0)
def uB (p0 : M.aH) (p1 : M.aH) : Option Bool :=
  if (p0.Device != p1.Device) = true then (some false) else (if (p0.Seq != p1.Seq) = true then (some false) else (some true))
def iZ (p0 : List M.aH) (p1 : List M.aH) : Nat → Int → Option Bool
  | 0, _ => none
  | nL1 + 1, v5 => if (decide (v5 < (List.length p0 : Int))) = true then ((idx p0 v5).bind fun x7 => ((idx p1 v5).bind fun x12 => ((uB x7 x12).bind fun x17 => (if (!x17) = true then (some false) else (iZ p0 p1 nL1 (IntKind.i64.wrap (v5 + 1))))))) else (some true)
def rG (p0 : List M.aH) (p1 : List M.aH) : Option Bool :=
  if ((List.length p0 : Int) != (List.length p1 : Int)) = true then (some false) else (iZ p0 p1 fuel 0)
def wH (p0 : M.Server) (p1 : M.Server) : Option Bool :=
  (pP p0.aG p1.aG).bind fun x1 => (if (!x1) = true then (some false) else ((rG p0.aH p1.aH).bind fun x4 => (if (!x4) = true then (some false) else ((qO p0.Changes p1.Changes).bind fun x7 => (if (!x7) = true then (some false) else (some true))))))
def jR (p0 : List M.Server) (p1 : List M.Server) : Nat → Int → Option Bool
  | 0, _ => none
  | nL1 + 1, v5 => if (decide (v5 < (List.length p0 : Int))) = true then ((idx p0 v5).bind fun x7 => ((idx p1 v5).bind fun x12 => ((wH x7 x12).bind fun x17 => (if (!x17) = true then (some false) else (jR p0 p1 nL1 (IntKind.i64.wrap (v5 + 1))))))) else (some true)
def uC (p0 : List M.Server) (p1 : List M.Server) : Option Bool :=
  if ((List.length p0 : Int) != (List.length p1 : Int)) = true then (some false) else (jR p0 p1 fuel 0)
def lU (p0 : M.World) (p1 : M.World) : Option Bool :=
  if (p0.Now != p1.Now) = true then (some false) else (if (!(p0.Online == p1.Online)) = true then (some false) else (if (p0.Device != p1.Device) = true then (some false) else ((tY p0.aK p1.aK).bind fun x4 => (if (!x4) = true then (some false) else ((zU p0.Pages p1.Pages).bind fun x7 => (if (!x7) = true then (some false) else (if (p0.NextPage != p1.NextPage) = true then (some false) else ((oG p0.Locks p1.Locks).bind fun x11 => (if (!x11) = true then (some false) else ((tJ p0.Channel p1.Channel).bind fun x14 => (if (!x14) = true then (some false) else ((zT p0.Sites p1.Sites).bind fun x17 => (if (!x17) = true then (some false) else ((uC p0.Servers p1.Servers).bind fun x20 => (if (!x20) = true then (some false) else (some true))))))))))))))))
def kX  : Nat → Int → ByteArray → Option ByteArray
  | 0, _, _ => none
  | nL1 + 1, v0, v3 => if (decide (v0 > 0)) = true then ((toStr ([(IntKind.u8.wrap (IntKind.i64.wrap (48 + (Int.tmod v0 10))))])).bind fun x6 => ((cat (aCG ([(IntKind.u8.wrap (IntKind.i64.wrap (48 + (Int.tmod v0 10))))])) v3).bind fun x8 => (kX nL1 (IntKind.i64.wrap (Int.tdiv v0 10)) ((aCG ([(IntKind.u8.wrap (IntKind.i64.wrap (48 + (Int.tmod v0 10))))])) ++ v3)))) else ((cat (⟨#[109]⟩ : ByteArray) v3).bind fun x13 => (some ((⟨#[109]⟩ : ByteArray) ++ v3)))
def aF (p0 : Int) : Option ByteArray :=
  if (decide (p0 ≤ 0)) = true then (some (⟨#[109, 48]⟩ : ByteArray)) else (kX fuel p0 (⟨#[]⟩ : ByteArray))
def dZ  : Nat → Int → Int → List Int → Option (List Int × Int)
  | 0, _, _, _ => none
  | nL1 + 1, v1, v5, r99 => if (decide (v5 < (List.length r99 : Int))) = true then ((idx r99 v5).bind fun x8 => ((some (List.set r99 v5.toNat (IntKind.u8.wrap v1))).bind fun y13 => (dZ nL1 (IntKind.i64.wrap (v1 + 1)) (IntKind.i64.wrap (v5 + 1)) y13))) else (some (r99, v1))
def nN (p0 : List Int) (p1 : Int) : Option (List Int × Int) :=
  dZ fuel p1 0 p0
def cQ  : Nat → Int → Int → List M.Cached → Option (List M.Cached × Int)
  | 0, _, _, _ => none
  | nL1 + 1, v1, v5, r99 => if (decide (v5 < (List.length r99 : Int))) = true then ((aF v1).bind fun x8 => ((idx r99 v5).bind fun x10 => ((some (List.set r99 v5.toNat (⟨x8, x10.Path, x10.Response⟩ : M.Cached))).bind fun y15 => ((aF (IntKind.i64.wrap (v1 + 1))).bind fun x23 => ((idx y15 v5).bind fun x25 => ((some (List.set y15 v5.toNat (⟨x25.Site, x23, x25.Response⟩ : M.Cached))).bind fun y30 => ((idx y30 v5).bind fun x38 => ((some (List.set y30 v5.toNat (⟨x38.Site, x38.Path, (⟨(IntKind.i64.wrap ((IntKind.i64.wrap (v1 + 1)) + 1)), x38.Response.Status, x38.Response.Version, x38.Response.Body, x38.Response.Shares⟩ : M.Response)⟩ : M.Cached))).bind fun y43 => ((idx y43 v5).bind fun x51 => ((some (List.set y43 v5.toNat (⟨x51.Site, x51.Path, (⟨x51.Response.Type_, (IntKind.i64.wrap ((IntKind.i64.wrap ((IntKind.i64.wrap (v1 + 1)) + 1)) + 1)), x51.Response.Version, x51.Response.Body, x51.Response.Shares⟩ : M.Response)⟩ : M.Cached))).bind fun y56 => ((idx y56 v5).bind fun x64 => ((some (List.set y56 v5.toNat (⟨x64.Site, x64.Path, (⟨x64.Response.Type_, x64.Response.Status, (IntKind.i64.wrap ((IntKind.i64.wrap ((IntKind.i64.wrap ((IntKind.i64.wrap (v1 + 1)) + 1)) + 1)) + 1)), x64.Response.Body, x64.Response.Shares⟩ : M.Response)⟩ : M.Cached))).bind fun y69 => ((idx y69 v5).bind fun x77 => ((nN x77.Response.Body (IntKind.i64.wrap ((IntKind.i64.wrap ((IntKind.i64.wrap ((IntKind.i64.wrap ((IntKind.i64.wrap (v1 + 1)) + 1)) + 1)) + 1)) + 1))).bind fun x82 => ((some (List.set y69 v5.toNat (⟨x77.Site, x77.Path, (⟨x77.Response.Type_, x77.Response.Status, x77.Response.Version, x82.1, x77.Response.Shares⟩ : M.Response)⟩ : M.Cached))).bind fun y84 => ((idx y84 v5).bind fun x92 => ((some (List.set y84 v5.toNat (⟨x92.Site, x92.Path, (⟨x92.Response.Type_, x92.Response.Status, x92.Response.Version, x92.Response.Body, ((Int.tmod x82.2 3) == 0)⟩ : M.Response)⟩ : M.Cached))).bind fun y97 => (cQ nL1 (IntKind.i64.wrap (x82.2 + 1)) (IntKind.i64.wrap (v5 + 1)) y97)))))))))))))))))) else (some (r99, v1))
def oP (p0 : List M.Cached) (p1 : Int) : Option (List M.Cached × Int) :=
  cQ fuel p1 0 p0
def dA  : Nat → Int → Int → List M.Cache → Option (List M.Cache × Int)
  | 0, _, _, _ => none
  | nL1 + 1, v1, v5, r99 => if (decide (v5 < (List.length r99 : Int))) = true then ((idx r99 v5).bind fun x8 => ((some (List.set r99 v5.toNat (⟨v1, x8.Entries⟩ : M.Cache))).bind fun y13 => ((idx y13 v5).bind fun x21 => ((oP x21.Entries (IntKind.i64.wrap (v1 + 1))).bind fun x26 => ((some (List.set y13 v5.toNat (⟨x21.Version, x26.1⟩ : M.Cache))).bind fun y28 => (dA nL1 x26.2 (IntKind.i64.wrap (v5 + 1)) y28)))))) else (some (r99, v1))
def rV (p0 : List M.Cache) (p1 : Int) : Option (List M.Cache × Int) :=
  dA fuel p1 0 p0
def cW  : Nat → Int → Int → List M.Field → Option (List M.Field × Int)
  | 0, _, _, _ => none
  | nL1 + 1, v1, v5, r99 => if (decide (v5 < (List.length r99 : Int))) = true then ((aF v1).bind fun x8 => ((idx r99 v5).bind fun x10 => ((some (List.set r99 v5.toNat (⟨x8, x10.N⟩ : M.Field))).bind fun y15 => ((idx y15 v5).bind fun x23 => ((some (List.set y15 v5.toNat (⟨x23.Name, (IntKind.i64.wrap (v1 + 1))⟩ : M.Field))).bind fun y28 => (cW nL1 (IntKind.i64.wrap ((IntKind.i64.wrap (v1 + 1)) + 1)) (IntKind.i64.wrap (v5 + 1)) y28)))))) else (some (r99, v1))
def rE (p0 : List M.Field) (p1 : Int) : Option (List M.Field × Int) :=
  cW fuel p1 0 p0
def dR  : Nat → Int → Int → List M.Item → Option (List M.Item × Int)
  | 0, _, _, _ => none
  | nL1 + 1, v1, v5, r99 => if (decide (v5 < (List.length r99 : Int))) = true then ((idx r99 v5).bind fun x8 => ((some (List.set r99 v5.toNat (⟨(⟨v1, x8.Key.N, x8.Key.Text⟩ : M.Key), x8.aU⟩ : M.Item))).bind fun y13 => ((idx y13 v5).bind fun x21 => ((some (List.set y13 v5.toNat (⟨(⟨x21.Key.Kind, (IntKind.i64.wrap (v1 + 1)), x21.Key.Text⟩ : M.Key), x21.aU⟩ : M.Item))).bind fun y26 => ((aF (IntKind.i64.wrap ((IntKind.i64.wrap (v1 + 1)) + 1))).bind fun x34 => ((idx y26 v5).bind fun x36 => ((some (List.set y26 v5.toNat (⟨(⟨x36.Key.Kind, x36.Key.N, x34⟩ : M.Key), x36.aU⟩ : M.Item))).bind fun y41 => ((idx y41 v5).bind fun x49 => ((rE x49.aU.Fields (IntKind.i64.wrap ((IntKind.i64.wrap ((IntKind.i64.wrap (v1 + 1)) + 1)) + 1))).bind fun x54 => ((some (List.set y41 v5.toNat (⟨x49.Key, (⟨x54.1⟩ : M.aU)⟩ : M.Item))).bind fun y56 => (dR nL1 x54.2 (IntKind.i64.wrap (v5 + 1)) y56))))))))))) else (some (r99, v1))
def lJ (p0 : List M.Item) (p1 : Int) : Option (List M.Item × Int) :=
  dR fuel p1 0 p0
def dD  : Nat → Int → Int → List M.aG → Option (List M.aG × Int)
  | 0, _, _, _ => none
  | nL1 + 1, v1, v5, r99 => if (decide (v5 < (List.length r99 : Int))) = true then ((aF v1).bind fun x8 => ((idx r99 v5).bind fun x10 => ((some (List.set r99 v5.toNat (⟨x8, x10.Items, x10.Auto⟩ : M.aG))).bind fun y15 => ((idx y15 v5).bind fun x23 => ((lJ x23.Items (IntKind.i64.wrap (v1 + 1))).bind fun x28 => ((some (List.set y15 v5.toNat (⟨x23.Name, x28.1, x23.Auto⟩ : M.aG))).bind fun y30 => ((idx y30 v5).bind fun x38 => ((some (List.set y30 v5.toNat (⟨x38.Name, x38.Items, x28.2⟩ : M.aG))).bind fun y43 => (dD nL1 (IntKind.i64.wrap (x28.2 + 1)) (IntKind.i64.wrap (v5 + 1)) y43))))))))) else (some (r99, v1))
def qZ (p0 : List M.aG) (p1 : Int) : Option (List M.aG × Int) :=
  dD fuel p1 0 p0
def bU  : Nat → Int → Int → List M.aA → Option (List M.aA × Int)
  | 0, _, _, _ => none
  | nL1 + 1, v1, v5, r99 => if (decide (v5 < (List.length r99 : Int))) = true then ((aF v1).bind fun x8 => ((idx r99 v5).bind fun x10 => ((some (List.set r99 v5.toNat (⟨x8, x10.Field⟩ : M.aA))).bind fun y15 => ((aF (IntKind.i64.wrap (v1 + 1))).bind fun x23 => ((idx y15 v5).bind fun x25 => ((some (List.set y15 v5.toNat (⟨x25.aG, x23⟩ : M.aA))).bind fun y30 => (bU nL1 (IntKind.i64.wrap ((IntKind.i64.wrap (v1 + 1)) + 1)) (IntKind.i64.wrap (v5 + 1)) y30))))))) else (some (r99, v1))
def lO (p0 : List M.aA) (p1 : Int) : Option (List M.aA × Int) :=
  bU fuel p1 0 p0
def cX  : Nat → Int → Int → List M.aW → Option (List M.aW × Int)
  | 0, _, _, _ => none
  | nL1 + 1, v1, v5, r99 => if (decide (v5 < (List.length r99 : Int))) = true then ((idx r99 v5).bind fun x8 => ((some (List.set r99 v5.toNat (⟨v1, x8.Seq, x8.Key, x8.Field, x8.N⟩ : M.aW))).bind fun y13 => ((idx y13 v5).bind fun x21 => ((some (List.set y13 v5.toNat (⟨x21.Device, (IntKind.i64.wrap (v1 + 1)), x21.Key, x21.Field, x21.N⟩ : M.aW))).bind fun y26 => ((idx y26 v5).bind fun x34 => ((some (List.set y26 v5.toNat (⟨x34.Device, x34.Seq, (⟨(IntKind.i64.wrap ((IntKind.i64.wrap (v1 + 1)) + 1)), x34.Key.N, x34.Key.Text⟩ : M.Key), x34.Field, x34.N⟩ : M.aW))).bind fun y39 => ((idx y39 v5).bind fun x47 => ((some (List.set y39 v5.toNat (⟨x47.Device, x47.Seq, (⟨x47.Key.Kind, (IntKind.i64.wrap ((IntKind.i64.wrap ((IntKind.i64.wrap (v1 + 1)) + 1)) + 1)), x47.Key.Text⟩ : M.Key), x47.Field, x47.N⟩ : M.aW))).bind fun y52 => ((aF (IntKind.i64.wrap ((IntKind.i64.wrap ((IntKind.i64.wrap ((IntKind.i64.wrap (v1 + 1)) + 1)) + 1)) + 1))).bind fun x60 => ((idx y52 v5).bind fun x62 => ((some (List.set y52 v5.toNat (⟨x62.Device, x62.Seq, (⟨x62.Key.Kind, x62.Key.N, x60⟩ : M.Key), x62.Field, x62.N⟩ : M.aW))).bind fun y67 => ((aF (IntKind.i64.wrap ((IntKind.i64.wrap ((IntKind.i64.wrap ((IntKind.i64.wrap ((IntKind.i64.wrap (v1 + 1)) + 1)) + 1)) + 1)) + 1))).bind fun x75 => ((idx y67 v5).bind fun x77 => ((some (List.set y67 v5.toNat (⟨x77.Device, x77.Seq, x77.Key, x75, x77.N⟩ : M.aW))).bind fun y82 => ((idx y82 v5).bind fun x90 => ((some (List.set y82 v5.toNat (⟨x90.Device, x90.Seq, x90.Key, x90.Field, (IntKind.i64.wrap ((IntKind.i64.wrap ((IntKind.i64.wrap ((IntKind.i64.wrap ((IntKind.i64.wrap ((IntKind.i64.wrap (v1 + 1)) + 1)) + 1)) + 1)) + 1)) + 1))⟩ : M.aW))).bind fun y95 => (cX nL1 (IntKind.i64.wrap ((IntKind.i64.wrap ((IntKind.i64.wrap ((IntKind.i64.wrap ((IntKind.i64.wrap ((IntKind.i64.wrap ((IntKind.i64.wrap (v1 + 1)) + 1)) + 1)) + 1)) + 1)) + 1)) + 1)) (IntKind.i64.wrap (v5 + 1)) y95))))))))))))))))) else (some (r99, v1))
def mK (p0 : List M.aW) (p1 : Int) : Option (List M.aW × Int) :=
  cX fuel p1 0 p0
def cN  : Nat → Int → Int → List M.aE → Option (List M.aE × Int)
  | 0, _, _, _ => none
  | nL1 + 1, v1, v5, r99 => if (decide (v5 < (List.length r99 : Int))) = true then ((aF v1).bind fun x8 => ((idx r99 v5).bind fun x10 => ((some (List.set r99 v5.toNat (⟨x8, x10.Top, x10.Registration, x10.Caches, x10.bF, x10.aC, x10.LastUsed, x10.Persistent⟩ : M.aE))).bind fun y15 => ((aF (IntKind.i64.wrap (v1 + 1))).bind fun x23 => ((idx y15 v5).bind fun x25 => ((some (List.set y15 v5.toNat (⟨x25.Site, x23, x25.Registration, x25.Caches, x25.bF, x25.aC, x25.LastUsed, x25.Persistent⟩ : M.aE))).bind fun y30 => ((aF (IntKind.i64.wrap ((IntKind.i64.wrap (v1 + 1)) + 1))).bind fun x38 => ((idx y30 v5).bind fun x40 => ((some (List.set y30 v5.toNat (⟨x40.Site, x40.Top, (⟨x38, x40.Registration.Installing, x40.Registration.Waiting, x40.Registration.Active⟩ : M.Registration), x40.Caches, x40.bF, x40.aC, x40.LastUsed, x40.Persistent⟩ : M.aE))).bind fun y45 => ((idx y45 v5).bind fun x53 => ((some (List.set y45 v5.toNat (⟨x53.Site, x53.Top, (⟨x53.Registration.Site, (IntKind.i64.wrap ((IntKind.i64.wrap ((IntKind.i64.wrap (v1 + 1)) + 1)) + 1)), x53.Registration.Waiting, x53.Registration.Active⟩ : M.Registration), x53.Caches, x53.bF, x53.aC, x53.LastUsed, x53.Persistent⟩ : M.aE))).bind fun y58 => ((idx y58 v5).bind fun x66 => ((some (List.set y58 v5.toNat (⟨x66.Site, x66.Top, (⟨x66.Registration.Site, x66.Registration.Installing, (IntKind.i64.wrap ((IntKind.i64.wrap ((IntKind.i64.wrap ((IntKind.i64.wrap (v1 + 1)) + 1)) + 1)) + 1)), x66.Registration.Active⟩ : M.Registration), x66.Caches, x66.bF, x66.aC, x66.LastUsed, x66.Persistent⟩ : M.aE))).bind fun y71 => ((idx y71 v5).bind fun x79 => ((some (List.set y71 v5.toNat (⟨x79.Site, x79.Top, (⟨x79.Registration.Site, x79.Registration.Installing, x79.Registration.Waiting, (IntKind.i64.wrap ((IntKind.i64.wrap ((IntKind.i64.wrap ((IntKind.i64.wrap ((IntKind.i64.wrap (v1 + 1)) + 1)) + 1)) + 1)) + 1))⟩ : M.Registration), x79.Caches, x79.bF, x79.aC, x79.LastUsed, x79.Persistent⟩ : M.aE))).bind fun y84 => ((idx y84 v5).bind fun x92 => ((rV x92.Caches.Caches (IntKind.i64.wrap ((IntKind.i64.wrap ((IntKind.i64.wrap ((IntKind.i64.wrap ((IntKind.i64.wrap ((IntKind.i64.wrap (v1 + 1)) + 1)) + 1)) + 1)) + 1)) + 1))).bind fun x97 => ((some (List.set y84 v5.toNat (⟨x92.Site, x92.Top, x92.Registration, (⟨x97.1⟩ : M.aP), x92.bF, x92.aC, x92.LastUsed, x92.Persistent⟩ : M.aE))).bind fun y99 => ((aF x97.2).bind fun x107 => ((idx y99 v5).bind fun x109 => ((some (List.set y99 v5.toNat (⟨x109.Site, x109.Top, x109.Registration, x109.Caches, (⟨(⟨x107, x109.bF.Base.Version, x109.bF.Base.Stores, x109.bF.Base.Unique⟩ : M.Database), x109.bF.Log, x109.bF.Count⟩ : M.bF), x109.aC, x109.LastUsed, x109.Persistent⟩ : M.aE))).bind fun y114 => ((idx y114 v5).bind fun x122 => ((some (List.set y114 v5.toNat (⟨x122.Site, x122.Top, x122.Registration, x122.Caches, (⟨(⟨x122.bF.Base.Name, (IntKind.i64.wrap (x97.2 + 1)), x122.bF.Base.Stores, x122.bF.Base.Unique⟩ : M.Database), x122.bF.Log, x122.bF.Count⟩ : M.bF), x122.aC, x122.LastUsed, x122.Persistent⟩ : M.aE))).bind fun y127 => ((idx y127 v5).bind fun x135 => ((qZ x135.bF.Base.Stores (IntKind.i64.wrap ((IntKind.i64.wrap (x97.2 + 1)) + 1))).bind fun x140 => ((some (List.set y127 v5.toNat (⟨x135.Site, x135.Top, x135.Registration, x135.Caches, (⟨(⟨x135.bF.Base.Name, x135.bF.Base.Version, x140.1, x135.bF.Base.Unique⟩ : M.Database), x135.bF.Log, x135.bF.Count⟩ : M.bF), x135.aC, x135.LastUsed, x135.Persistent⟩ : M.aE))).bind fun y142 => ((idx y142 v5).bind fun x150 => ((lO x150.bF.Base.Unique x140.2).bind fun x155 => ((some (List.set y142 v5.toNat (⟨x150.Site, x150.Top, x150.Registration, x150.Caches, (⟨(⟨x150.bF.Base.Name, x150.bF.Base.Version, x150.bF.Base.Stores, x155.1⟩ : M.Database), x150.bF.Log, x150.bF.Count⟩ : M.bF), x150.aC, x150.LastUsed, x150.Persistent⟩ : M.aE))).bind fun y157 => ((idx y157 v5).bind fun x165 => ((nN x165.bF.Log x155.2).bind fun x170 => ((some (List.set y157 v5.toNat (⟨x165.Site, x165.Top, x165.Registration, x165.Caches, (⟨x165.bF.Base, x170.1, x165.bF.Count⟩ : M.bF), x165.aC, x165.LastUsed, x165.Persistent⟩ : M.aE))).bind fun y172 => ((idx y172 v5).bind fun x180 => ((some (List.set y172 v5.toNat (⟨x180.Site, x180.Top, x180.Registration, x180.Caches, (⟨x180.bF.Base, x180.bF.Log, x170.2⟩ : M.bF), x180.aC, x180.LastUsed, x180.Persistent⟩ : M.aE))).bind fun y185 => ((aF (IntKind.i64.wrap (x170.2 + 1))).bind fun x193 => ((idx y185 v5).bind fun x195 => ((some (List.set y185 v5.toNat (⟨x195.Site, x195.Top, x195.Registration, x195.Caches, x195.bF, (⟨(⟨x193, x195.aC.Base.Items, x195.aC.Base.Auto⟩ : M.aG), x195.aC.Seen, x195.aC.Sync⟩ : M.aC), x195.LastUsed, x195.Persistent⟩ : M.aE))).bind fun y200 => ((idx y200 v5).bind fun x208 => ((lJ x208.aC.Base.Items (IntKind.i64.wrap ((IntKind.i64.wrap (x170.2 + 1)) + 1))).bind fun x213 => ((some (List.set y200 v5.toNat (⟨x208.Site, x208.Top, x208.Registration, x208.Caches, x208.bF, (⟨(⟨x208.aC.Base.Name, x213.1, x208.aC.Base.Auto⟩ : M.aG), x208.aC.Seen, x208.aC.Sync⟩ : M.aC), x208.LastUsed, x208.Persistent⟩ : M.aE))).bind fun y215 => ((idx y215 v5).bind fun x223 => ((some (List.set y215 v5.toNat (⟨x223.Site, x223.Top, x223.Registration, x223.Caches, x223.bF, (⟨(⟨x223.aC.Base.Name, x223.aC.Base.Items, x213.2⟩ : M.aG), x223.aC.Seen, x223.aC.Sync⟩ : M.aC), x223.LastUsed, x223.Persistent⟩ : M.aE))).bind fun y228 => ((idx y228 v5).bind fun x236 => ((some (List.set y228 v5.toNat (⟨x236.Site, x236.Top, x236.Registration, x236.Caches, x236.bF, (⟨x236.aC.Base, (IntKind.i64.wrap (x213.2 + 1)), x236.aC.Sync⟩ : M.aC), x236.LastUsed, x236.Persistent⟩ : M.aE))).bind fun y241 => ((idx y241 v5).bind fun x249 => ((some (List.set y241 v5.toNat (⟨x249.Site, x249.Top, x249.Registration, x249.Caches, x249.bF, (⟨x249.aC.Base, x249.aC.Seen, (⟨(⟨(IntKind.i64.wrap ((IntKind.i64.wrap (x213.2 + 1)) + 1)), x249.aC.Sync.aV.Next, x249.aC.Sync.aV.Writes⟩ : M.aV), x249.aC.Sync.Tries, x249.aC.Sync.WaitUntil⟩ : M.Sync)⟩ : M.aC), x249.LastUsed, x249.Persistent⟩ : M.aE))).bind fun y254 => ((idx y254 v5).bind fun x262 => ((some (List.set y254 v5.toNat (⟨x262.Site, x262.Top, x262.Registration, x262.Caches, x262.bF, (⟨x262.aC.Base, x262.aC.Seen, (⟨(⟨x262.aC.Sync.aV.Device, (IntKind.i64.wrap ((IntKind.i64.wrap ((IntKind.i64.wrap (x213.2 + 1)) + 1)) + 1)), x262.aC.Sync.aV.Writes⟩ : M.aV), x262.aC.Sync.Tries, x262.aC.Sync.WaitUntil⟩ : M.Sync)⟩ : M.aC), x262.LastUsed, x262.Persistent⟩ : M.aE))).bind fun y267 => ((idx y267 v5).bind fun x275 => ((mK x275.aC.Sync.aV.Writes (IntKind.i64.wrap ((IntKind.i64.wrap ((IntKind.i64.wrap ((IntKind.i64.wrap (x213.2 + 1)) + 1)) + 1)) + 1))).bind fun x280 => ((some (List.set y267 v5.toNat (⟨x275.Site, x275.Top, x275.Registration, x275.Caches, x275.bF, (⟨x275.aC.Base, x275.aC.Seen, (⟨(⟨x275.aC.Sync.aV.Device, x275.aC.Sync.aV.Next, x280.1⟩ : M.aV), x275.aC.Sync.Tries, x275.aC.Sync.WaitUntil⟩ : M.Sync)⟩ : M.aC), x275.LastUsed, x275.Persistent⟩ : M.aE))).bind fun y282 => ((idx y282 v5).bind fun x290 => ((some (List.set y282 v5.toNat (⟨x290.Site, x290.Top, x290.Registration, x290.Caches, x290.bF, (⟨x290.aC.Base, x290.aC.Seen, (⟨x290.aC.Sync.aV, x280.2, x290.aC.Sync.WaitUntil⟩ : M.Sync)⟩ : M.aC), x290.LastUsed, x290.Persistent⟩ : M.aE))).bind fun y295 => ((idx y295 v5).bind fun x303 => ((some (List.set y295 v5.toNat (⟨x303.Site, x303.Top, x303.Registration, x303.Caches, x303.bF, (⟨x303.aC.Base, x303.aC.Seen, (⟨x303.aC.Sync.aV, x303.aC.Sync.Tries, (IntKind.i64.wrap (x280.2 + 1))⟩ : M.Sync)⟩ : M.aC), x303.LastUsed, x303.Persistent⟩ : M.aE))).bind fun y308 => ((idx y308 v5).bind fun x316 => ((some (List.set y308 v5.toNat (⟨x316.Site, x316.Top, x316.Registration, x316.Caches, x316.bF, x316.aC, (IntKind.i64.wrap ((IntKind.i64.wrap (x280.2 + 1)) + 1)), x316.Persistent⟩ : M.aE))).bind fun y321 => ((idx y321 v5).bind fun x329 => ((some (List.set y321 v5.toNat (⟨x329.Site, x329.Top, x329.Registration, x329.Caches, x329.bF, x329.aC, x329.LastUsed, ((Int.tmod (IntKind.i64.wrap ((IntKind.i64.wrap ((IntKind.i64.wrap (x280.2 + 1)) + 1)) + 1)) 3) == 0)⟩ : M.aE))).bind fun y334 => (cN nL1 (IntKind.i64.wrap ((IntKind.i64.wrap ((IntKind.i64.wrap ((IntKind.i64.wrap (x280.2 + 1)) + 1)) + 1)) + 1)) (IntKind.i64.wrap (v5 + 1)) y334)))))))))))))))))))))))))))))))))))))))))))))))))))))))))))) else (some (r99, v1))
def oI (p0 : List M.aE) (p1 : Int) : Option (List M.aE × Int) :=
  cN fuel p1 0 p0
def vU (p0 : M.aK) (p1 : Int) : Option (List M.aE × Int) :=
  (oI p0.Buckets p1).bind fun x1 => (some (x1.1, x1.2))
def cK  : Nat → Int → Int → List M.aJ → Option (List M.aJ × Int)
  | 0, _, _, _ => none
  | nL1 + 1, v1, v5, r99 => if (decide (v5 < (List.length r99 : Int))) = true then ((aF v1).bind fun x8 => ((idx r99 v5).bind fun x10 => ((some (List.set r99 v5.toNat (⟨x8, x10.Version⟩ : M.aJ))).bind fun y15 => ((idx y15 v5).bind fun x23 => ((some (List.set y15 v5.toNat (⟨x23.Path, (IntKind.i64.wrap (v1 + 1))⟩ : M.aJ))).bind fun y28 => (cK nL1 (IntKind.i64.wrap ((IntKind.i64.wrap (v1 + 1)) + 1)) (IntKind.i64.wrap (v5 + 1)) y28)))))) else (some (r99, v1))
def oA (p0 : List M.aJ) (p1 : Int) : Option (List M.aJ × Int) :=
  cK fuel p1 0 p0
def dC  : Nat → Int → Int → List M.Instr → Option (List M.Instr × Int)
  | 0, _, _, _ => none
  | nL1 + 1, v1, v5, r99 => if (decide (v5 < (List.length r99 : Int))) = true then ((idx r99 v5).bind fun x8 => ((some (List.set r99 v5.toNat (⟨v1, x8.R, x8.N, x8.Text⟩ : M.Instr))).bind fun y13 => ((idx y13 v5).bind fun x21 => ((some (List.set y13 v5.toNat (⟨x21.Kind, (IntKind.i64.wrap (v1 + 1)), x21.N, x21.Text⟩ : M.Instr))).bind fun y26 => ((idx y26 v5).bind fun x34 => ((some (List.set y26 v5.toNat (⟨x34.Kind, x34.R, (IntKind.i64.wrap ((IntKind.i64.wrap (v1 + 1)) + 1)), x34.Text⟩ : M.Instr))).bind fun y39 => ((aF (IntKind.i64.wrap ((IntKind.i64.wrap ((IntKind.i64.wrap (v1 + 1)) + 1)) + 1))).bind fun x47 => ((idx y39 v5).bind fun x49 => ((some (List.set y39 v5.toNat (⟨x49.Kind, x49.R, x49.N, x47⟩ : M.Instr))).bind fun y54 => (dC nL1 (IntKind.i64.wrap ((IntKind.i64.wrap ((IntKind.i64.wrap ((IntKind.i64.wrap (v1 + 1)) + 1)) + 1)) + 1)) (IntKind.i64.wrap (v5 + 1)) y54)))))))))) else (some (r99, v1))
def rQ (p0 : List M.Instr) (p1 : Int) : Option (List M.Instr × Int) :=
  dC fuel p1 0 p0
def eR  : Nat → Int → Int → List Int → Option (List Int × Int)
  | 0, _, _, _ => none
  | nL1 + 1, v1, v5, r99 => if (decide (v5 < (List.length r99 : Int))) = true then ((idx r99 v5).bind fun x8 => ((some (List.set r99 v5.toNat v1)).bind fun y13 => (eR nL1 (IntKind.i64.wrap (v1 + 1)) (IntKind.i64.wrap (v5 + 1)) y13))) else (some (r99, v1))
def wC (p0 : List Int) (p1 : Int) : Option (List Int × Int) :=
  eR fuel p1 0 p0
def dX  : Nat → Int → Int → List M.bG → Option (List M.bG × Int)
  | 0, _, _, _ => none
  | nL1 + 1, v1, v5, r99 => if (decide (v5 < (List.length r99 : Int))) = true then ((idx r99 v5).bind fun x8 => ((some (List.set r99 v5.toNat (⟨v1, x8.Site, x8.Top, x8.Version, x8.aJ, x8.Machine⟩ : M.bG))).bind fun y13 => ((aF (IntKind.i64.wrap (v1 + 1))).bind fun x21 => ((idx y13 v5).bind fun x23 => ((some (List.set y13 v5.toNat (⟨x23.Id, x21, x23.Top, x23.Version, x23.aJ, x23.Machine⟩ : M.bG))).bind fun y28 => ((aF (IntKind.i64.wrap ((IntKind.i64.wrap (v1 + 1)) + 1))).bind fun x36 => ((idx y28 v5).bind fun x38 => ((some (List.set y28 v5.toNat (⟨x38.Id, x38.Site, x36, x38.Version, x38.aJ, x38.Machine⟩ : M.bG))).bind fun y43 => ((idx y43 v5).bind fun x51 => ((some (List.set y43 v5.toNat (⟨x51.Id, x51.Site, x51.Top, (IntKind.i64.wrap ((IntKind.i64.wrap ((IntKind.i64.wrap (v1 + 1)) + 1)) + 1)), x51.aJ, x51.Machine⟩ : M.bG))).bind fun y56 => ((idx y56 v5).bind fun x64 => ((oA x64.aJ (IntKind.i64.wrap ((IntKind.i64.wrap ((IntKind.i64.wrap ((IntKind.i64.wrap (v1 + 1)) + 1)) + 1)) + 1))).bind fun x69 => ((some (List.set y56 v5.toNat (⟨x64.Id, x64.Site, x64.Top, x64.Version, x69.1, x64.Machine⟩ : M.bG))).bind fun y71 => ((idx y71 v5).bind fun x79 => ((rQ x79.Machine.Script x69.2).bind fun x84 => ((some (List.set y71 v5.toNat (⟨x79.Id, x79.Site, x79.Top, x79.Version, x79.aJ, (⟨x84.1, x79.Machine.Pc, x79.Machine.Regs, x79.Machine.Steps, x79.Machine.Done, x79.Machine.Wait⟩ : M.Machine)⟩ : M.bG))).bind fun y86 => ((idx y86 v5).bind fun x94 => ((some (List.set y86 v5.toNat (⟨x94.Id, x94.Site, x94.Top, x94.Version, x94.aJ, (⟨x94.Machine.Script, x84.2, x94.Machine.Regs, x94.Machine.Steps, x94.Machine.Done, x94.Machine.Wait⟩ : M.Machine)⟩ : M.bG))).bind fun y99 => ((idx y99 v5).bind fun x107 => ((wC x107.Machine.Regs (IntKind.i64.wrap (x84.2 + 1))).bind fun x112 => ((some (List.set y99 v5.toNat (⟨x107.Id, x107.Site, x107.Top, x107.Version, x107.aJ, (⟨x107.Machine.Script, x107.Machine.Pc, x112.1, x107.Machine.Steps, x107.Machine.Done, x107.Machine.Wait⟩ : M.Machine)⟩ : M.bG))).bind fun y114 => ((idx y114 v5).bind fun x122 => ((some (List.set y114 v5.toNat (⟨x122.Id, x122.Site, x122.Top, x122.Version, x122.aJ, (⟨x122.Machine.Script, x122.Machine.Pc, x122.Machine.Regs, x112.2, x122.Machine.Done, x122.Machine.Wait⟩ : M.Machine)⟩ : M.bG))).bind fun y127 => ((idx y127 v5).bind fun x135 => ((some (List.set y127 v5.toNat (⟨x135.Id, x135.Site, x135.Top, x135.Version, x135.aJ, (⟨x135.Machine.Script, x135.Machine.Pc, x135.Machine.Regs, x135.Machine.Steps, ((Int.tmod (IntKind.i64.wrap (x112.2 + 1)) 3) == 0), x135.Machine.Wait⟩ : M.Machine)⟩ : M.bG))).bind fun y140 => ((idx y140 v5).bind fun x148 => ((some (List.set y140 v5.toNat (⟨x148.Id, x148.Site, x148.Top, x148.Version, x148.aJ, (⟨x148.Machine.Script, x148.Machine.Pc, x148.Machine.Regs, x148.Machine.Steps, x148.Machine.Done, ((Int.tmod (IntKind.i64.wrap ((IntKind.i64.wrap (x112.2 + 1)) + 1)) 3) == 0)⟩ : M.Machine)⟩ : M.bG))).bind fun y153 => (dX nL1 (IntKind.i64.wrap ((IntKind.i64.wrap ((IntKind.i64.wrap (x112.2 + 1)) + 1)) + 1)) (IntKind.i64.wrap (v5 + 1)) y153)))))))))))))))))))))))))))) else (some (r99, v1))
def uS (p0 : List M.bG) (p1 : Int) : Option (List M.bG × Int) :=
  dX fuel p1 0 p0
def dQ  : Nat → Int → Int → List M.cF → Option (List M.cF × Int)
  | 0, _, _, _ => none
  | nL1 + 1, v1, v5, r99 => if (decide (v5 < (List.length r99 : Int))) = true then ((aF v1).bind fun x8 => ((idx r99 v5).bind fun x10 => ((some (List.set r99 v5.toNat (⟨x8, x10.bG, x10.Shared, x10.Held⟩ : M.cF))).bind fun y15 => ((idx y15 v5).bind fun x23 => ((some (List.set y15 v5.toNat (⟨x23.Name, (IntKind.i64.wrap (v1 + 1)), x23.Shared, x23.Held⟩ : M.cF))).bind fun y28 => ((idx y28 v5).bind fun x36 => ((some (List.set y28 v5.toNat (⟨x36.Name, x36.bG, ((Int.tmod (IntKind.i64.wrap ((IntKind.i64.wrap (v1 + 1)) + 1)) 3) == 0), x36.Held⟩ : M.cF))).bind fun y41 => ((idx y41 v5).bind fun x49 => ((some (List.set y41 v5.toNat (⟨x49.Name, x49.bG, x49.Shared, ((Int.tmod (IntKind.i64.wrap ((IntKind.i64.wrap ((IntKind.i64.wrap (v1 + 1)) + 1)) + 1)) 3) == 0)⟩ : M.cF))).bind fun y54 => (dQ nL1 (IntKind.i64.wrap ((IntKind.i64.wrap ((IntKind.i64.wrap ((IntKind.i64.wrap (v1 + 1)) + 1)) + 1)) + 1)) (IntKind.i64.wrap (v5 + 1)) y54)))))))))) else (some (r99, v1))
def uK (p0 : List M.cF) (p1 : Int) : Option (List M.cF × Int) :=
  dQ fuel p1 0 p0
def pY (p0 : M.aR) (p1 : Int) : Option (List M.cF × Int) :=
  (uK p0.Locks p1).bind fun x1 => (some (x1.1, x1.2))
def dW  : Nat → Int → Int → List M.fH → Option (List M.fH × Int)
  | 0, _, _, _ => none
  | nL1 + 1, v1, v5, r99 => if (decide (v5 < (List.length r99 : Int))) = true then ((idx r99 v5).bind fun x8 => ((some (List.set r99 v5.toNat (⟨v1, x8.From, x8.N⟩ : M.fH))).bind fun y13 => ((idx y13 v5).bind fun x21 => ((some (List.set y13 v5.toNat (⟨x21.To, (IntKind.i64.wrap (v1 + 1)), x21.N⟩ : M.fH))).bind fun y26 => ((idx y26 v5).bind fun x34 => ((some (List.set y26 v5.toNat (⟨x34.To, x34.From, (IntKind.i64.wrap ((IntKind.i64.wrap (v1 + 1)) + 1))⟩ : M.fH))).bind fun y39 => (dW nL1 (IntKind.i64.wrap ((IntKind.i64.wrap ((IntKind.i64.wrap (v1 + 1)) + 1)) + 1)) (IntKind.i64.wrap (v5 + 1)) y39))))))) else (some (r99, v1))
def uV (p0 : List M.fH) (p1 : Int) : Option (List M.fH × Int) :=
  dW fuel p1 0 p0
def vV (p0 : M.Channel) (p1 : Int) : Option (List M.fH × Int) :=
  (uV p0.Mails p1).bind fun x1 => (some (x1.1, x1.2))
def cR  : Nat → Int → Int → List ByteArray → Option (List ByteArray × Int)
  | 0, _, _, _ => none
  | nL1 + 1, v1, v5, r99 => if (decide (v5 < (List.length r99 : Int))) = true then ((aF v1).bind fun x8 => ((idx r99 v5).bind fun x10 => ((some (List.set r99 v5.toNat x8)).bind fun y15 => (cR nL1 (IntKind.i64.wrap (v1 + 1)) (IntKind.i64.wrap (v5 + 1)) y15)))) else (some (r99, v1))
def oR (p0 : List ByteArray) (p1 : Int) : Option (List ByteArray × Int) :=
  cR fuel p1 0 p0
def dV  : Nat → Int → Int → List M.Site → Option (List M.Site × Int)
  | 0, _, _, _ => none
  | nL1 + 1, v1, v5, r99 => if (decide (v5 < (List.length r99 : Int))) = true then ((aF v1).bind fun x8 => ((idx r99 v5).bind fun x10 => ((some (List.set r99 v5.toNat (⟨x8, x10.Version, x10.Files, x10.Shared⟩ : M.Site))).bind fun y15 => ((idx y15 v5).bind fun x23 => ((some (List.set y15 v5.toNat (⟨x23.Name, (IntKind.i64.wrap (v1 + 1)), x23.Files, x23.Shared⟩ : M.Site))).bind fun y28 => ((idx y28 v5).bind fun x36 => ((oR x36.Files (IntKind.i64.wrap ((IntKind.i64.wrap (v1 + 1)) + 1))).bind fun x41 => ((some (List.set y28 v5.toNat (⟨x36.Name, x36.Version, x41.1, x36.Shared⟩ : M.Site))).bind fun y43 => ((idx y43 v5).bind fun x51 => ((some (List.set y43 v5.toNat (⟨x51.Name, x51.Version, x51.Files, ((Int.tmod x41.2 3) == 0)⟩ : M.Site))).bind fun y56 => (dV nL1 (IntKind.i64.wrap (x41.2 + 1)) (IntKind.i64.wrap (v5 + 1)) y56))))))))))) else (some (r99, v1))
def tD (p0 : List M.Site) (p1 : Int) : Option (List M.Site × Int) :=
  dV fuel p1 0 p0
def cC  : Nat → Int → Int → List M.aH → Option (List M.aH × Int)
  | 0, _, _, _ => none
  | nL1 + 1, v1, v5, r99 => if (decide (v5 < (List.length r99 : Int))) = true then ((idx r99 v5).bind fun x8 => ((some (List.set r99 v5.toNat (⟨v1, x8.Seq⟩ : M.aH))).bind fun y13 => ((idx y13 v5).bind fun x21 => ((some (List.set y13 v5.toNat (⟨x21.Device, (IntKind.i64.wrap (v1 + 1))⟩ : M.aH))).bind fun y26 => (cC nL1 (IntKind.i64.wrap ((IntKind.i64.wrap (v1 + 1)) + 1)) (IntKind.i64.wrap (v5 + 1)) y26))))) else (some (r99, v1))
def mR (p0 : List M.aH) (p1 : Int) : Option (List M.aH × Int) :=
  cC fuel p1 0 p0
def cP  : Nat → Int → Int → List M.Server → Option (List M.Server × Int)
  | 0, _, _, _ => none
  | nL1 + 1, v1, v5, r99 => if (decide (v5 < (List.length r99 : Int))) = true then ((aF v1).bind fun x8 => ((idx r99 v5).bind fun x10 => ((some (List.set r99 v5.toNat (⟨(⟨x8, x10.aG.Items, x10.aG.Auto⟩ : M.aG), x10.aH, x10.Changes⟩ : M.Server))).bind fun y15 => ((idx y15 v5).bind fun x23 => ((lJ x23.aG.Items (IntKind.i64.wrap (v1 + 1))).bind fun x28 => ((some (List.set y15 v5.toNat (⟨(⟨x23.aG.Name, x28.1, x23.aG.Auto⟩ : M.aG), x23.aH, x23.Changes⟩ : M.Server))).bind fun y30 => ((idx y30 v5).bind fun x38 => ((some (List.set y30 v5.toNat (⟨(⟨x38.aG.Name, x38.aG.Items, x28.2⟩ : M.aG), x38.aH, x38.Changes⟩ : M.Server))).bind fun y43 => ((idx y43 v5).bind fun x51 => ((mR x51.aH (IntKind.i64.wrap (x28.2 + 1))).bind fun x56 => ((some (List.set y43 v5.toNat (⟨x51.aG, x56.1, x51.Changes⟩ : M.Server))).bind fun y58 => ((idx y58 v5).bind fun x66 => ((mK x66.Changes x56.2).bind fun x71 => ((some (List.set y58 v5.toNat (⟨x66.aG, x66.aH, x71.1⟩ : M.Server))).bind fun y73 => (cP nL1 x71.2 (IntKind.i64.wrap (v5 + 1)) y73))))))))))))))) else (some (r99, v1))
def oN (p0 : List M.Server) (p1 : Int) : Option (List M.Server × Int) :=
  cP fuel p1 0 p0
def nL (p0 : M.World) (p1 : Int) : Option (List M.aE × List M.bG × List M.cF × List M.fH × List M.Site × List M.Server × Int) :=
  (vU p0.aK p1).bind fun x1 => ((uS p0.Pages x1.2).bind fun x8 => ((pY p0.Locks x8.2).bind fun x15 => ((vV p0.Channel x15.2).bind fun x22 => ((tD p0.Sites x22.2).bind fun x29 => ((oN p0.Servers x29.2).bind fun x36 => (some (x1.1, x8.1, x15.1, x22.1, x29.1, x36.1, x36.2)))))))
def eW (p0 : List Int) : Nat → Int → Int → Option Int
  | 0, _, _ => none
  | nL1 + 1, v1, v5 => if (decide (v5 < (List.length p0 : Int))) = true then ((idx p0 v5).bind fun x6 => (if (x6 != (IntKind.u8.wrap v1)) = true then (some (-1)) else (eW p0 nL1 (IntKind.i64.wrap (v1 + 1)) (IntKind.i64.wrap (v5 + 1))))) else (some v1)
def nK (p0 : List Int) (p1 : Int) : Option Int :=
  eW p0 fuel p1 0
def dL (p0 : List M.Cached) : Nat → Int → Int → Option Int
  | 0, _, _ => none
  | nL1 + 1, v1, v5 => if (decide (v5 < (List.length p0 : Int))) = true then ((idx p0 v5).bind fun x6 => ((aF v1).bind fun x11 => (if (!(x6.Site.toList == x11.toList)) = true then (some (-1)) else ((aF (IntKind.i64.wrap (v1 + 1))).bind fun x14 => (if (!(x6.Path.toList == x14.toList)) = true then (some (-1)) else (if (x6.Response.Type_ != (IntKind.i64.wrap ((IntKind.i64.wrap (v1 + 1)) + 1))) = true then (some (-1)) else (if (x6.Response.Status != (IntKind.i64.wrap ((IntKind.i64.wrap ((IntKind.i64.wrap (v1 + 1)) + 1)) + 1))) = true then (some (-1)) else (if (x6.Response.Version != (IntKind.i64.wrap ((IntKind.i64.wrap ((IntKind.i64.wrap ((IntKind.i64.wrap (v1 + 1)) + 1)) + 1)) + 1))) = true then (some (-1)) else ((nK x6.Response.Body (IntKind.i64.wrap ((IntKind.i64.wrap ((IntKind.i64.wrap ((IntKind.i64.wrap ((IntKind.i64.wrap (v1 + 1)) + 1)) + 1)) + 1)) + 1))).bind fun x20 => (if (decide (x20 < 0)) = true then (some (-1)) else (if (!(x6.Response.Shares == ((Int.tmod x20 3) == 0))) = true then (some (-1)) else (dL p0 nL1 (IntKind.i64.wrap (x20 + 1)) (IntKind.i64.wrap (v5 + 1)))))))))))))) else (some v1)
def oY (p0 : List M.Cached) (p1 : Int) : Option Int :=
  dL p0 fuel p1 0
def eP (p0 : List M.Cache) : Nat → Int → Int → Option Int
  | 0, _, _ => none
  | nL1 + 1, v1, v5 => if (decide (v5 < (List.length p0 : Int))) = true then ((idx p0 v5).bind fun x6 => (if (x6.Version != v1) = true then (some (-1)) else ((oY x6.Entries (IntKind.i64.wrap (v1 + 1))).bind fun x12 => (if (decide (x12 < 0)) = true then (some (-1)) else (eP p0 nL1 x12 (IntKind.i64.wrap (v5 + 1))))))) else (some v1)
def qB (p0 : List M.Cache) (p1 : Int) : Option Int :=
  eP p0 fuel p1 0
def eC (p0 : List M.Field) : Nat → Int → Int → Option Int
  | 0, _, _ => none
  | nL1 + 1, v1, v5 => if (decide (v5 < (List.length p0 : Int))) = true then ((idx p0 v5).bind fun x6 => ((aF v1).bind fun x11 => (if (!(x6.Name.toList == x11.toList)) = true then (some (-1)) else (if (x6.N != (IntKind.i64.wrap (v1 + 1))) = true then (some (-1)) else (eC p0 nL1 (IntKind.i64.wrap ((IntKind.i64.wrap (v1 + 1)) + 1)) (IntKind.i64.wrap (v5 + 1))))))) else (some v1)
def rJ (p0 : List M.Field) (p1 : Int) : Option Int :=
  eC p0 fuel p1 0
def fG (p0 : List M.Item) : Nat → Int → Int → Option Int
  | 0, _, _ => none
  | nL1 + 1, v1, v5 => if (decide (v5 < (List.length p0 : Int))) = true then ((idx p0 v5).bind fun x6 => (if (x6.Key.Kind != v1) = true then (some (-1)) else (if (x6.Key.N != (IntKind.i64.wrap (v1 + 1))) = true then (some (-1)) else ((aF (IntKind.i64.wrap ((IntKind.i64.wrap (v1 + 1)) + 1))).bind fun x13 => (if (!(x6.Key.Text.toList == x13.toList)) = true then (some (-1)) else ((rJ x6.aU.Fields (IntKind.i64.wrap ((IntKind.i64.wrap ((IntKind.i64.wrap (v1 + 1)) + 1)) + 1))).bind fun x16 => (if (decide (x16 < 0)) = true then (some (-1)) else (fG p0 nL1 x16 (IntKind.i64.wrap (v5 + 1)))))))))) else (some v1)
def lG (p0 : List M.Item) (p1 : Int) : Option Int :=
  fG p0 fuel p1 0
def eE (p0 : List M.aG) : Nat → Int → Int → Option Int
  | 0, _, _ => none
  | nL1 + 1, v1, v5 => if (decide (v5 < (List.length p0 : Int))) = true then ((idx p0 v5).bind fun x6 => ((aF v1).bind fun x11 => (if (!(x6.Name.toList == x11.toList)) = true then (some (-1)) else ((lG x6.Items (IntKind.i64.wrap (v1 + 1))).bind fun x14 => (if (decide (x14 < 0)) = true then (some (-1)) else (if (x6.Auto != x14) = true then (some (-1)) else (eE p0 nL1 (IntKind.i64.wrap (x14 + 1)) (IntKind.i64.wrap (v5 + 1))))))))) else (some v1)
def qK (p0 : List M.aG) (p1 : Int) : Option Int :=
  eE p0 fuel p1 0
def cH (p0 : List M.aA) : Nat → Int → Int → Option Int
  | 0, _, _ => none
  | nL1 + 1, v1, v5 => if (decide (v5 < (List.length p0 : Int))) = true then ((idx p0 v5).bind fun x6 => ((aF v1).bind fun x11 => (if (!(x6.aG.toList == x11.toList)) = true then (some (-1)) else ((aF (IntKind.i64.wrap (v1 + 1))).bind fun x14 => (if (!(x6.Field.toList == x14.toList)) = true then (some (-1)) else (cH p0 nL1 (IntKind.i64.wrap ((IntKind.i64.wrap (v1 + 1)) + 1)) (IntKind.i64.wrap (v5 + 1)))))))) else (some v1)
def lL (p0 : List M.aA) (p1 : Int) : Option Int :=
  cH p0 fuel p1 0
def eD (p0 : List M.aW) : Nat → Int → Int → Option Int
  | 0, _, _ => none
  | nL1 + 1, v1, v5 => if (decide (v5 < (List.length p0 : Int))) = true then ((idx p0 v5).bind fun x6 => (if (x6.Device != v1) = true then (some (-1)) else (if (x6.Seq != (IntKind.i64.wrap (v1 + 1))) = true then (some (-1)) else (if (x6.Key.Kind != (IntKind.i64.wrap ((IntKind.i64.wrap (v1 + 1)) + 1))) = true then (some (-1)) else (if (x6.Key.N != (IntKind.i64.wrap ((IntKind.i64.wrap ((IntKind.i64.wrap (v1 + 1)) + 1)) + 1))) = true then (some (-1)) else ((aF (IntKind.i64.wrap ((IntKind.i64.wrap ((IntKind.i64.wrap ((IntKind.i64.wrap (v1 + 1)) + 1)) + 1)) + 1))).bind fun x15 => (if (!(x6.Key.Text.toList == x15.toList)) = true then (some (-1)) else ((aF (IntKind.i64.wrap ((IntKind.i64.wrap ((IntKind.i64.wrap ((IntKind.i64.wrap ((IntKind.i64.wrap (v1 + 1)) + 1)) + 1)) + 1)) + 1))).bind fun x18 => (if (!(x6.Field.toList == x18.toList)) = true then (some (-1)) else (if (x6.N != (IntKind.i64.wrap ((IntKind.i64.wrap ((IntKind.i64.wrap ((IntKind.i64.wrap ((IntKind.i64.wrap ((IntKind.i64.wrap (v1 + 1)) + 1)) + 1)) + 1)) + 1)) + 1))) = true then (some (-1)) else (eD p0 nL1 (IntKind.i64.wrap ((IntKind.i64.wrap ((IntKind.i64.wrap ((IntKind.i64.wrap ((IntKind.i64.wrap ((IntKind.i64.wrap ((IntKind.i64.wrap (v1 + 1)) + 1)) + 1)) + 1)) + 1)) + 1)) + 1)) (IntKind.i64.wrap (v5 + 1))))))))))))) else (some v1)
def mB (p0 : List M.aW) (p1 : Int) : Option Int :=
  eD p0 fuel p1 0
def cM (p0 : List M.aE) : Nat → Int → Int → Option Int
  | 0, _, _ => none
  | nL1 + 1, v1, v5 => if (decide (v5 < (List.length p0 : Int))) = true then ((idx p0 v5).bind fun x6 => ((aF v1).bind fun x11 => (if (!(x6.Site.toList == x11.toList)) = true then (some (-1)) else ((aF (IntKind.i64.wrap (v1 + 1))).bind fun x14 => (if (!(x6.Top.toList == x14.toList)) = true then (some (-1)) else ((aF (IntKind.i64.wrap ((IntKind.i64.wrap (v1 + 1)) + 1))).bind fun x17 => (if (!(x6.Registration.Site.toList == x17.toList)) = true then (some (-1)) else (if (x6.Registration.Installing != (IntKind.i64.wrap ((IntKind.i64.wrap ((IntKind.i64.wrap (v1 + 1)) + 1)) + 1))) = true then (some (-1)) else (if (x6.Registration.Waiting != (IntKind.i64.wrap ((IntKind.i64.wrap ((IntKind.i64.wrap ((IntKind.i64.wrap (v1 + 1)) + 1)) + 1)) + 1))) = true then (some (-1)) else (if (x6.Registration.Active != (IntKind.i64.wrap ((IntKind.i64.wrap ((IntKind.i64.wrap ((IntKind.i64.wrap ((IntKind.i64.wrap (v1 + 1)) + 1)) + 1)) + 1)) + 1))) = true then (some (-1)) else ((qB x6.Caches.Caches (IntKind.i64.wrap ((IntKind.i64.wrap ((IntKind.i64.wrap ((IntKind.i64.wrap ((IntKind.i64.wrap ((IntKind.i64.wrap (v1 + 1)) + 1)) + 1)) + 1)) + 1)) + 1))).bind fun x27 => (if (decide (x27 < 0)) = true then (some (-1)) else ((aF x27).bind fun x30 => (if (!(x6.bF.Base.Name.toList == x30.toList)) = true then (some (-1)) else (if (x6.bF.Base.Version != (IntKind.i64.wrap (x27 + 1))) = true then (some (-1)) else ((qK x6.bF.Base.Stores (IntKind.i64.wrap ((IntKind.i64.wrap (x27 + 1)) + 1))).bind fun x34 => (if (decide (x34 < 0)) = true then (some (-1)) else ((lL x6.bF.Base.Unique x34).bind fun x37 => (if (decide (x37 < 0)) = true then (some (-1)) else ((nK x6.bF.Log x37).bind fun x40 => (if (decide (x40 < 0)) = true then (some (-1)) else (if (x6.bF.Count != x40) = true then (some (-1)) else ((aF (IntKind.i64.wrap (x40 + 1))).bind fun x48 => (if (!(x6.aC.Base.Name.toList == x48.toList)) = true then (some (-1)) else ((lG x6.aC.Base.Items (IntKind.i64.wrap ((IntKind.i64.wrap (x40 + 1)) + 1))).bind fun x51 => (if (decide (x51 < 0)) = true then (some (-1)) else (if (x6.aC.Base.Auto != x51) = true then (some (-1)) else (if (x6.aC.Seen != (IntKind.i64.wrap (x51 + 1))) = true then (some (-1)) else (if (x6.aC.Sync.aV.Device != (IntKind.i64.wrap ((IntKind.i64.wrap (x51 + 1)) + 1))) = true then (some (-1)) else (if (x6.aC.Sync.aV.Next != (IntKind.i64.wrap ((IntKind.i64.wrap ((IntKind.i64.wrap (x51 + 1)) + 1)) + 1))) = true then (some (-1)) else ((mB x6.aC.Sync.aV.Writes (IntKind.i64.wrap ((IntKind.i64.wrap ((IntKind.i64.wrap ((IntKind.i64.wrap (x51 + 1)) + 1)) + 1)) + 1))).bind fun x62 => (if (decide (x62 < 0)) = true then (some (-1)) else (if (x6.aC.Sync.Tries != x62) = true then (some (-1)) else (if (x6.aC.Sync.WaitUntil != (IntKind.i64.wrap (x62 + 1))) = true then (some (-1)) else (if (x6.LastUsed != (IntKind.i64.wrap ((IntKind.i64.wrap (x62 + 1)) + 1))) = true then (some (-1)) else (if (!(x6.Persistent == ((Int.tmod (IntKind.i64.wrap ((IntKind.i64.wrap ((IntKind.i64.wrap (x62 + 1)) + 1)) + 1)) 3) == 0))) = true then (some (-1)) else (cM p0 nL1 (IntKind.i64.wrap ((IntKind.i64.wrap ((IntKind.i64.wrap ((IntKind.i64.wrap (x62 + 1)) + 1)) + 1)) + 1)) (IntKind.i64.wrap (v5 + 1))))))))))))))))))))))))))))))))))))))) else (some v1)
def pH (p0 : List M.aE) (p1 : Int) : Option Int :=
  cM p0 fuel p1 0
def vM (p0 : M.aK) (p1 : Int) : Option Int :=
  (pH p0.Buckets p1).bind fun x1 => (if (decide (x1 < 0)) = true then (some (-1)) else (some x1))
def dO (p0 : List M.aJ) : Nat → Int → Int → Option Int
  | 0, _, _ => none
  | nL1 + 1, v1, v5 => if (decide (v5 < (List.length p0 : Int))) = true then ((idx p0 v5).bind fun x6 => ((aF v1).bind fun x11 => (if (!(x6.Path.toList == x11.toList)) = true then (some (-1)) else (if (x6.Version != (IntKind.i64.wrap (v1 + 1))) = true then (some (-1)) else (dO p0 nL1 (IntKind.i64.wrap ((IntKind.i64.wrap (v1 + 1)) + 1)) (IntKind.i64.wrap (v5 + 1))))))) else (some v1)
def pA (p0 : List M.aJ) (p1 : Int) : Option Int :=
  dO p0 fuel p1 0
def eO (p0 : List M.Instr) : Nat → Int → Int → Option Int
  | 0, _, _ => none
  | nL1 + 1, v1, v5 => if (decide (v5 < (List.length p0 : Int))) = true then ((idx p0 v5).bind fun x6 => (if (x6.Kind != v1) = true then (some (-1)) else (if (x6.R != (IntKind.i64.wrap (v1 + 1))) = true then (some (-1)) else (if (x6.N != (IntKind.i64.wrap ((IntKind.i64.wrap (v1 + 1)) + 1))) = true then (some (-1)) else ((aF (IntKind.i64.wrap ((IntKind.i64.wrap ((IntKind.i64.wrap (v1 + 1)) + 1)) + 1))).bind fun x14 => (if (!(x6.Text.toList == x14.toList)) = true then (some (-1)) else (eO p0 nL1 (IntKind.i64.wrap ((IntKind.i64.wrap ((IntKind.i64.wrap ((IntKind.i64.wrap (v1 + 1)) + 1)) + 1)) + 1)) (IntKind.i64.wrap (v5 + 1))))))))) else (some v1)
def rR (p0 : List M.Instr) (p1 : Int) : Option Int :=
  eO p0 fuel p1 0
def fV (p0 : List Int) : Nat → Int → Int → Option Int
  | 0, _, _ => none
  | nL1 + 1, v1, v5 => if (decide (v5 < (List.length p0 : Int))) = true then ((idx p0 v5).bind fun x6 => (if (x6 != v1) = true then (some (-1)) else (fV p0 nL1 (IntKind.i64.wrap (v1 + 1)) (IntKind.i64.wrap (v5 + 1))))) else (some v1)
def xG (p0 : List Int) (p1 : Int) : Option Int :=
  fV p0 fuel p1 0
def dS (p0 : List M.bG) : Nat → Int → Int → Option Int
  | 0, _, _ => none
  | nL1 + 1, v1, v5 => if (decide (v5 < (List.length p0 : Int))) = true then ((idx p0 v5).bind fun x6 => (if (x6.Id != v1) = true then (some (-1)) else ((aF (IntKind.i64.wrap (v1 + 1))).bind fun x12 => (if (!(x6.Site.toList == x12.toList)) = true then (some (-1)) else ((aF (IntKind.i64.wrap ((IntKind.i64.wrap (v1 + 1)) + 1))).bind fun x15 => (if (!(x6.Top.toList == x15.toList)) = true then (some (-1)) else (if (x6.Version != (IntKind.i64.wrap ((IntKind.i64.wrap ((IntKind.i64.wrap (v1 + 1)) + 1)) + 1))) = true then (some (-1)) else ((pA x6.aJ (IntKind.i64.wrap ((IntKind.i64.wrap ((IntKind.i64.wrap ((IntKind.i64.wrap (v1 + 1)) + 1)) + 1)) + 1))).bind fun x19 => (if (decide (x19 < 0)) = true then (some (-1)) else ((rR x6.Machine.Script x19).bind fun x22 => (if (decide (x22 < 0)) = true then (some (-1)) else (if (x6.Machine.Pc != x22) = true then (some (-1)) else ((xG x6.Machine.Regs (IntKind.i64.wrap (x22 + 1))).bind fun x30 => (if (decide (x30 < 0)) = true then (some (-1)) else (if (x6.Machine.Steps != x30) = true then (some (-1)) else (if (!(x6.Machine.Done == ((Int.tmod (IntKind.i64.wrap (x30 + 1)) 3) == 0))) = true then (some (-1)) else (if (!(x6.Machine.Wait == ((Int.tmod (IntKind.i64.wrap ((IntKind.i64.wrap (x30 + 1)) + 1)) 3) == 0))) = true then (some (-1)) else (dS p0 nL1 (IntKind.i64.wrap ((IntKind.i64.wrap ((IntKind.i64.wrap (x30 + 1)) + 1)) + 1)) (IntKind.i64.wrap (v5 + 1)))))))))))))))))))) else (some v1)
def tN (p0 : List M.bG) (p1 : Int) : Option Int :=
  dS p0 fuel p1 0
def fA (p0 : List M.cF) : Nat → Int → Int → Option Int
  | 0, _, _ => none
  | nL1 + 1, v1, v5 => if (decide (v5 < (List.length p0 : Int))) = true then ((idx p0 v5).bind fun x6 => ((aF v1).bind fun x11 => (if (!(x6.Name.toList == x11.toList)) = true then (some (-1)) else (if (x6.bG != (IntKind.i64.wrap (v1 + 1))) = true then (some (-1)) else (if (!(x6.Shared == ((Int.tmod (IntKind.i64.wrap ((IntKind.i64.wrap (v1 + 1)) + 1)) 3) == 0))) = true then (some (-1)) else (if (!(x6.Held == ((Int.tmod (IntKind.i64.wrap ((IntKind.i64.wrap ((IntKind.i64.wrap (v1 + 1)) + 1)) + 1)) 3) == 0))) = true then (some (-1)) else (fA p0 nL1 (IntKind.i64.wrap ((IntKind.i64.wrap ((IntKind.i64.wrap ((IntKind.i64.wrap (v1 + 1)) + 1)) + 1)) + 1)) (IntKind.i64.wrap (v5 + 1))))))))) else (some v1)
def uD (p0 : List M.cF) (p1 : Int) : Option Int :=
  fA p0 fuel p1 0
def pW (p0 : M.aR) (p1 : Int) : Option Int :=
  (uD p0.Locks p1).bind fun x1 => (if (decide (x1 < 0)) = true then (some (-1)) else (some x1))
def fB (p0 : List M.fH) : Nat → Int → Int → Option Int
  | 0, _, _ => none
  | nL1 + 1, v1, v5 => if (decide (v5 < (List.length p0 : Int))) = true then ((idx p0 v5).bind fun x6 => (if (x6.To != v1) = true then (some (-1)) else (if (x6.From != (IntKind.i64.wrap (v1 + 1))) = true then (some (-1)) else (if (x6.N != (IntKind.i64.wrap ((IntKind.i64.wrap (v1 + 1)) + 1))) = true then (some (-1)) else (fB p0 nL1 (IntKind.i64.wrap ((IntKind.i64.wrap ((IntKind.i64.wrap (v1 + 1)) + 1)) + 1)) (IntKind.i64.wrap (v5 + 1))))))) else (some v1)
def sY (p0 : List M.fH) (p1 : Int) : Option Int :=
  fB p0 fuel p1 0
def vO (p0 : M.Channel) (p1 : Int) : Option Int :=
  (sY p0.Mails p1).bind fun x1 => (if (decide (x1 < 0)) = true then (some (-1)) else (some x1))
def dN (p0 : List ByteArray) : Nat → Int → Int → Option Int
  | 0, _, _ => none
  | nL1 + 1, v1, v5 => if (decide (v5 < (List.length p0 : Int))) = true then ((idx p0 v5).bind fun x6 => ((aF v1).bind fun x11 => (if (!(x6.toList == x11.toList)) = true then (some (-1)) else (dN p0 nL1 (IntKind.i64.wrap (v1 + 1)) (IntKind.i64.wrap (v5 + 1)))))) else (some v1)
def oC (p0 : List ByteArray) (p1 : Int) : Option Int :=
  dN p0 fuel p1 0
def eX (p0 : List M.Site) : Nat → Int → Int → Option Int
  | 0, _, _ => none
  | nL1 + 1, v1, v5 => if (decide (v5 < (List.length p0 : Int))) = true then ((idx p0 v5).bind fun x6 => ((aF v1).bind fun x11 => (if (!(x6.Name.toList == x11.toList)) = true then (some (-1)) else (if (x6.Version != (IntKind.i64.wrap (v1 + 1))) = true then (some (-1)) else ((oC x6.Files (IntKind.i64.wrap ((IntKind.i64.wrap (v1 + 1)) + 1))).bind fun x15 => (if (decide (x15 < 0)) = true then (some (-1)) else (if (!(x6.Shared == ((Int.tmod x15 3) == 0))) = true then (some (-1)) else (eX p0 nL1 (IntKind.i64.wrap (x15 + 1)) (IntKind.i64.wrap (v5 + 1)))))))))) else (some v1)
def tA (p0 : List M.Site) (p1 : Int) : Option Int :=
  eX p0 fuel p1 0
def cU (p0 : List M.aH) : Nat → Int → Int → Option Int
  | 0, _, _ => none
  | nL1 + 1, v1, v5 => if (decide (v5 < (List.length p0 : Int))) = true then ((idx p0 v5).bind fun x6 => (if (x6.Device != v1) = true then (some (-1)) else (if (x6.Seq != (IntKind.i64.wrap (v1 + 1))) = true then (some (-1)) else (cU p0 nL1 (IntKind.i64.wrap ((IntKind.i64.wrap (v1 + 1)) + 1)) (IntKind.i64.wrap (v5 + 1)))))) else (some v1)
def mS (p0 : List M.aH) (p1 : Int) : Option Int :=
  cU p0 fuel p1 0
def cO (p0 : List M.Server) : Nat → Int → Int → Option Int
  | 0, _, _ => none
  | nL1 + 1, v1, v5 => if (decide (v5 < (List.length p0 : Int))) = true then ((idx p0 v5).bind fun x6 => ((aF v1).bind fun x11 => (if (!(x6.aG.Name.toList == x11.toList)) = true then (some (-1)) else ((lG x6.aG.Items (IntKind.i64.wrap (v1 + 1))).bind fun x14 => (if (decide (x14 < 0)) = true then (some (-1)) else (if (x6.aG.Auto != x14) = true then (some (-1)) else ((mS x6.aH (IntKind.i64.wrap (x14 + 1))).bind fun x18 => (if (decide (x18 < 0)) = true then (some (-1)) else ((mB x6.Changes x18).bind fun x21 => (if (decide (x21 < 0)) = true then (some (-1)) else (cO p0 nL1 x21 (IntKind.i64.wrap (v5 + 1))))))))))))) else (some v1)
def nT (p0 : List M.Server) (p1 : Int) : Option Int :=
  cO p0 fuel p1 0
def nJ (p0 : M.World) (p1 : Int) : Option Int :=
  (vM p0.aK p1).bind fun x1 => (if (decide (x1 < 0)) = true then (some (-1)) else ((tN p0.Pages x1).bind fun x4 => (if (decide (x4 < 0)) = true then (some (-1)) else ((pW p0.Locks x4).bind fun x7 => (if (decide (x7 < 0)) = true then (some (-1)) else ((vO p0.Channel x7).bind fun x10 => (if (decide (x10 < 0)) = true then (some (-1)) else ((tA p0.Sites x10).bind fun x13 => (if (decide (x13 < 0)) = true then (some (-1)) else ((nT p0.Servers x13).bind fun x16 => (if (decide (x16 < 0)) = true then (some (-1)) else (some x16))))))))))))
def jG (p0 : M.World) (p1 : Int) (p2 : ByteArray) : Option Bool :=
  if (decide ((p2.size : Int) > 1048576)) = true then (some true) else ((zS p0 1048576).bind fun x2 => (if (decide (x2 < 0)) = true then (some true) else ((lS p0).bind fun x5 => ((mX x5 p1 p2).bind fun x7 => ((lS p0).bind fun x9 => ((jQ x9 p1 p2).bind fun x11 => ((lU x11.1 x7.1).bind fun x13 => (if (!x13) = true then (some false) else (if (x11.2 != x7.2) = true then (some false) else ((lS p0).bind fun x17 => ((lU x9 x17).bind fun x19 => (if (!x19) = true then (some false) else ((nL x9 1).bind fun x22 => (if (decide (x22.2.2.2.2.2.2 < 0)) = true then (some false) else ((lU x11.1 x7.1).bind fun x49 => (if (!x49) = true then (some false) else ((nL x11.1 1).bind fun x52 => ((nJ (⟨x11.1.Now, x11.1.Online, x11.1.Device, (⟨x52.1⟩ : M.aK), x52.2.1, x11.1.NextPage, (⟨x52.2.2.1⟩ : M.aR), (⟨x52.2.2.2.1⟩ : M.Channel), x52.2.2.2.2.1, x52.2.2.2.2.2.1⟩ : M.World) 1).bind fun x77 => (if (decide (x77 < 0)) = true then (some false) else (if (x77 != x52.2.2.2.2.2.2) = true then (some false) else ((lS p0).bind fun x81 => ((jQ x81 p1 p2).bind fun x83 => ((lU x83.1 x7.1).bind fun x85 => (if (!x85) = true then (some false) else (if (x83.2 != x7.2) = true then (some false) else ((nJ (⟨x11.1.Now, x11.1.Online, x11.1.Device, (⟨x52.1⟩ : M.aK), x52.2.1, x11.1.NextPage, (⟨x52.2.2.1⟩ : M.aR), (⟨x52.2.2.2.1⟩ : M.Channel), x52.2.2.2.2.1, x52.2.2.2.2.2.1⟩ : M.World) 1).bind fun x89 => (if (decide (x89 < 0)) = true then (some false) else (if (x89 != x52.2.2.2.2.2.2) = true then (some false) else (some true)))))))))))))))))))))))))))))
end Go.Proofs.YtecmnmaaopkdfaaGreat.gen
