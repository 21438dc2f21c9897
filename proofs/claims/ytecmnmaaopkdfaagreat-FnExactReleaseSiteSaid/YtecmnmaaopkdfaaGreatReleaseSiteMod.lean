/-
  Helper text. No conditions.
-/
import Derived.Test.YtecmnmaaopkdfaaGreatShS
namespace Go.Proofs.YtecmnmaaopkdfaaGreat.gen
open Go Go.Sh
set_option linter.unusedVariables false
set_option linter.unusedSimpArgs false
structure M.Registration where
  Site : ByteArray
  Installing : Int
  Waiting : Int
  Active : Int
def M.Registration.en (x : M.Registration) : List D := [.str x.Site, .int .i64 x.Installing, .int .i64 x.Waiting, .int .i64 x.Active]
theorem M.Registration.en.fl (l : List M.Registration) : (List.map M.Registration.en l).all (fun y => y.all D.flat) = true := aDX (fun _ => rfl) l
structure M.Response where
  Type_ : Int
  Status : Int
  Version : Int
  Body : List Int
  Shares : Bool
def M.Response.en (x : M.Response) : List D := [.int .i64 x.Type_, .int .i64 x.Status, .int .i64 x.Version, .sl (List.map enB x.Body), .bool x.Shares]
structure M.Cached where
  Site : ByteArray
  Path : ByteArray
  Response : M.Response
def M.Cached.en (x : M.Cached) : List D := [.str x.Site, .str x.Path, .int .i64 x.Response.Type_, .int .i64 x.Response.Status, .int .i64 x.Response.Version, .sl (List.map enB x.Response.Body), .bool x.Response.Shares]
structure M.Cache where
  Version : Int
  Entries : List M.Cached
def M.Cache.en (x : M.Cache) : List D := [.int .i64 x.Version, .sl (List.map M.Cached.en x.Entries)]
structure M.aT where
  Caches : List M.Cache
def M.aT.en (x : M.aT) : List D := [.sl (List.map M.Cache.en x.Caches)]
structure M.Key where
  Kind : Int
  N : Int
  Text : ByteArray
def M.Key.en (x : M.Key) : List D := [.int .i64 x.Kind, .int .i64 x.N, .str x.Text]
theorem M.Key.en.fl (l : List M.Key) : (List.map M.Key.en l).all (fun y => y.all D.flat) = true := aDX (fun _ => rfl) l
structure M.Field where
  Name : ByteArray
  N : Int
def M.Field.en (x : M.Field) : List D := [.str x.Name, .int .i64 x.N]
theorem M.Field.en.fl (l : List M.Field) : (List.map M.Field.en l).all (fun y => y.all D.flat) = true := aDX (fun _ => rfl) l
structure M.aU where
  Fields : List M.Field
def M.aU.en (x : M.aU) : List D := [.sl (List.map M.Field.en x.Fields)]
structure M.Item where
  Key : M.Key
  aU : M.aU
def M.Item.en (x : M.Item) : List D := [.int .i64 x.Key.Kind, .int .i64 x.Key.N, .str x.Key.Text, .sl (List.map M.Field.en x.aU.Fields)]
structure M.aH where
  Name : ByteArray
  Items : List M.Item
  Auto : Int
def M.aH.en (x : M.aH) : List D := [.str x.Name, .sl (List.map M.Item.en x.Items), .int .i64 x.Auto]
structure M.aA where
  aH : ByteArray
  Field : ByteArray
def M.aA.en (x : M.aA) : List D := [.str x.aH, .str x.Field]
theorem M.aA.en.fl (l : List M.aA) : (List.map M.aA.en l).all (fun y => y.all D.flat) = true := aDX (fun _ => rfl) l
structure M.Database where
  Name : ByteArray
  Version : Int
  Stores : List M.aH
  Unique : List M.aA
def M.Database.en (x : M.Database) : List D := [.str x.Name, .int .i64 x.Version, .sl (List.map M.aH.en x.Stores), .sl (List.map M.aA.en x.Unique)]
structure M.bC where
  Base : M.Database
  Log : List Int
  Count : Int
def M.bC.en (x : M.bC) : List D := [.str x.Base.Name, .int .i64 x.Base.Version, .sl (List.map M.aH.en x.Base.Stores), .sl (List.map M.aA.en x.Base.Unique), .sl (List.map enB x.Log), .int .i64 x.Count]
structure M.aW where
  Device : Int
  Seq : Int
  Key : M.Key
  Field : ByteArray
  N : Int
def M.aW.en (x : M.aW) : List D := [.int .i64 x.Device, .int .i64 x.Seq, .int .i64 x.Key.Kind, .int .i64 x.Key.N, .str x.Key.Text, .str x.Field, .int .i64 x.N]
theorem M.aW.en.fl (l : List M.aW) : (List.map M.aW.en l).all (fun y => y.all D.flat) = true := aDX (fun _ => rfl) l
structure M.aV where
  Device : Int
  Next : Int
  Writes : List M.aW
def M.aV.en (x : M.aV) : List D := [.int .i64 x.Device, .int .i64 x.Next, .sl (List.map M.aW.en x.Writes)]
structure M.Sync where
  aV : M.aV
  Tries : Int
  WaitUntil : Int
def M.Sync.en (x : M.Sync) : List D := [.int .i64 x.aV.Device, .int .i64 x.aV.Next, .sl (List.map M.aW.en x.aV.Writes), .int .i64 x.Tries, .int .i64 x.WaitUntil]
structure M.aC where
  Base : M.aH
  Seen : Int
  Sync : M.Sync
def M.aC.en (x : M.aC) : List D := [.str x.Base.Name, .sl (List.map M.Item.en x.Base.Items), .int .i64 x.Base.Auto, .int .i64 x.Seen, .int .i64 x.Sync.aV.Device, .int .i64 x.Sync.aV.Next, .sl (List.map M.aW.en x.Sync.aV.Writes), .int .i64 x.Sync.Tries, .int .i64 x.Sync.WaitUntil]
structure M.aE where
  Site : ByteArray
  Top : ByteArray
  Registration : M.Registration
  Caches : M.aT
  bC : M.bC
  aC : M.aC
  LastUsed : Int
  Persistent : Bool
def M.aE.en (x : M.aE) : List D := [.str x.Site, .str x.Top, .str x.Registration.Site, .int .i64 x.Registration.Installing, .int .i64 x.Registration.Waiting, .int .i64 x.Registration.Active, .sl (List.map M.Cache.en x.Caches.Caches), .str x.bC.Base.Name, .int .i64 x.bC.Base.Version, .sl (List.map M.aH.en x.bC.Base.Stores), .sl (List.map M.aA.en x.bC.Base.Unique), .sl (List.map enB x.bC.Log), .int .i64 x.bC.Count, .str x.aC.Base.Name, .sl (List.map M.Item.en x.aC.Base.Items), .int .i64 x.aC.Base.Auto, .int .i64 x.aC.Seen, .int .i64 x.aC.Sync.aV.Device, .int .i64 x.aC.Sync.aV.Next, .sl (List.map M.aW.en x.aC.Sync.aV.Writes), .int .i64 x.aC.Sync.Tries, .int .i64 x.aC.Sync.WaitUntil, .int .i64 x.LastUsed, .bool x.Persistent]
structure M.aK where
  Buckets : List M.aE
def M.aK.en (x : M.aK) : List D := [.sl (List.map M.aE.en x.Buckets)]
structure M.aM where
  Path : ByteArray
  Version : Int
def M.aM.en (x : M.aM) : List D := [.str x.Path, .int .i64 x.Version]
theorem M.aM.en.fl (l : List M.aM) : (List.map M.aM.en l).all (fun y => y.all D.flat) = true := aDX (fun _ => rfl) l
structure M.Instr where
  Kind : Int
  R : Int
  N : Int
  Text : ByteArray
def M.Instr.en (x : M.Instr) : List D := [.int .i64 x.Kind, .int .i64 x.R, .int .i64 x.N, .str x.Text]
theorem M.Instr.en.fl (l : List M.Instr) : (List.map M.Instr.en l).all (fun y => y.all D.flat) = true := aDX (fun _ => rfl) l
structure M.Machine where
  Script : List M.Instr
  Pc : Int
  Regs : List Int
  Steps : Int
  Done : Bool
  Wait : Bool
def M.Machine.en (x : M.Machine) : List D := [.sl (List.map M.Instr.en x.Script), .int .i64 x.Pc, .sl (List.map enI x.Regs), .int .i64 x.Steps, .bool x.Done, .bool x.Wait]
structure M.bJ where
  Id : Int
  Site : ByteArray
  Top : ByteArray
  Version : Int
  aM : List M.aM
  Machine : M.Machine
def M.bJ.en (x : M.bJ) : List D := [.int .i64 x.Id, .str x.Site, .str x.Top, .int .i64 x.Version, .sl (List.map M.aM.en x.aM), .sl (List.map M.Instr.en x.Machine.Script), .int .i64 x.Machine.Pc, .sl (List.map enI x.Machine.Regs), .int .i64 x.Machine.Steps, .bool x.Machine.Done, .bool x.Machine.Wait]
structure M.bY where
  Name : ByteArray
  bJ : Int
  Shared : Bool
  Held : Bool
def M.bY.en (x : M.bY) : List D := [.str x.Name, .int .i64 x.bJ, .bool x.Shared, .bool x.Held]
theorem M.bY.en.fl (l : List M.bY) : (List.map M.bY.en l).all (fun y => y.all D.flat) = true := aDX (fun _ => rfl) l
structure M.aQ where
  Locks : List M.bY
def M.aQ.en (x : M.aQ) : List D := [.sl (List.map M.bY.en x.Locks)]
structure M.fA where
  To : Int
  From : Int
  N : Int
def M.fA.en (x : M.fA) : List D := [.int .i64 x.To, .int .i64 x.From, .int .i64 x.N]
theorem M.fA.en.fl (l : List M.fA) : (List.map M.fA.en l).all (fun y => y.all D.flat) = true := aDX (fun _ => rfl) l
structure M.Channel where
  Mails : List M.fA
def M.Channel.en (x : M.Channel) : List D := [.sl (List.map M.fA.en x.Mails)]
structure M.Site where
  Name : ByteArray
  Version : Int
  Files : List ByteArray
  Shared : Bool
def M.Site.en (x : M.Site) : List D := [.str x.Name, .int .i64 x.Version, .sl (List.map enS x.Files), .bool x.Shared]
structure M.aG where
  Device : Int
  Seq : Int
def M.aG.en (x : M.aG) : List D := [.int .i64 x.Device, .int .i64 x.Seq]
theorem M.aG.en.fl (l : List M.aG) : (List.map M.aG.en l).all (fun y => y.all D.flat) = true := aDX (fun _ => rfl) l
structure M.Server where
  aH : M.aH
  aG : List M.aG
  Changes : List M.aW
def M.Server.en (x : M.Server) : List D := [.str x.aH.Name, .sl (List.map M.Item.en x.aH.Items), .int .i64 x.aH.Auto, .sl (List.map M.aG.en x.aG), .sl (List.map M.aW.en x.Changes)]
structure M.World where
  Now : Int
  Online : Bool
  Device : Int
  aK : M.aK
  Pages : List M.bJ
  NextPage : Int
  Locks : M.aQ
  Channel : M.Channel
  Sites : List M.Site
  Servers : List M.Server
def M.World.en (x : M.World) : List D := [.int .i64 x.Now, .bool x.Online, .int .i64 x.Device, .sl (List.map M.aE.en x.aK.Buckets), .sl (List.map M.bJ.en x.Pages), .int .i64 x.NextPage, .sl (List.map M.bY.en x.Locks.Locks), .sl (List.map M.fA.en x.Channel.Mails), .sl (List.map M.Site.en x.Sites), .sl (List.map M.Server.en x.Servers)]
def jG (p0 : M.Registration) (p1 : Int) : Option Int :=
  if (decide ((IntKind.i64.wrap (p1 - (p0.Site.size : Int))) < 0)) = true then (some (-1)) else (some (IntKind.i64.wrap (p1 - (p0.Site.size : Int))))
def tL (p0 : List Int) (p1 : Int) : Option Int :=
  if (decide ((IntKind.i64.wrap (p1 - (List.length p0 : Int))) < 0)) = true then (some (-1)) else (some (IntKind.i64.wrap (p1 - (List.length p0 : Int))))
def pR (p0 : M.Response) (p1 : Int) : Option Int :=
  (tL p0.Body p1).bind fun x1 => (if (decide (x1 < 0)) = true then (some (-1)) else (some x1))
def vO (p0 : M.Cached) (p1 : Int) : Option Int :=
  if (decide ((IntKind.i64.wrap (p1 - (p0.Site.size : Int))) < 0)) = true then (some (-1)) else (if (decide ((IntKind.i64.wrap ((IntKind.i64.wrap (p1 - (p0.Site.size : Int))) - (p0.Path.size : Int))) < 0)) = true then (some (-1)) else ((pR p0.Response (IntKind.i64.wrap ((IntKind.i64.wrap (p1 - (p0.Site.size : Int))) - (p0.Path.size : Int)))).bind fun x3 => (if (decide (x3 < 0)) = true then (some (-1)) else (some x3))))
def rC (p0 : List M.Cached) : Nat → Int → Int → Option Int
  | 0, _, _ => none
  | nL1 + 1, v1, v5 => if (decide (v5 < (List.length p0 : Int))) = true then ((idx p0 v5).bind fun x7 => ((vO x7 v1).bind fun x12 => (if (decide (x12 < 0)) = true then (some (-1)) else (rC p0 nL1 x12 (IntKind.i64.wrap (v5 + 1)))))) else (some v1)
def sQ (p0 : List M.Cached) (p1 : Int) : Option Int :=
  if (decide ((IntKind.i64.wrap (p1 - (List.length p0 : Int))) < 0)) = true then (some (-1)) else (rC p0 fuel (IntKind.i64.wrap (p1 - (List.length p0 : Int))) 0)
def xC (p0 : M.Cache) (p1 : Int) : Option Int :=
  (sQ p0.Entries p1).bind fun x1 => (if (decide (x1 < 0)) = true then (some (-1)) else (some x1))
def tV (p0 : List M.Cache) : Nat → Int → Int → Option Int
  | 0, _, _ => none
  | nL1 + 1, v1, v5 => if (decide (v5 < (List.length p0 : Int))) = true then ((idx p0 v5).bind fun x7 => ((xC x7 v1).bind fun x12 => (if (decide (x12 < 0)) = true then (some (-1)) else (tV p0 nL1 x12 (IntKind.i64.wrap (v5 + 1)))))) else (some v1)
def vH (p0 : List M.Cache) (p1 : Int) : Option Int :=
  if (decide ((IntKind.i64.wrap (p1 - (List.length p0 : Int))) < 0)) = true then (some (-1)) else (tV p0 fuel (IntKind.i64.wrap (p1 - (List.length p0 : Int))) 0)
def oR (p0 : M.aT) (p1 : Int) : Option Int :=
  (vH p0.Caches p1).bind fun x1 => (if (decide (x1 < 0)) = true then (some (-1)) else (some x1))
def yO (p0 : M.Key) (p1 : Int) : Option Int :=
  if (decide ((IntKind.i64.wrap (p1 - (p0.Text.size : Int))) < 0)) = true then (some (-1)) else (some (IntKind.i64.wrap (p1 - (p0.Text.size : Int))))
def yB (p0 : M.Field) (p1 : Int) : Option Int :=
  if (decide ((IntKind.i64.wrap (p1 - (p0.Name.size : Int))) < 0)) = true then (some (-1)) else (some (IntKind.i64.wrap (p1 - (p0.Name.size : Int))))
def tU (p0 : List M.Field) : Nat → Int → Int → Option Int
  | 0, _, _ => none
  | nL1 + 1, v1, v5 => if (decide (v5 < (List.length p0 : Int))) = true then ((idx p0 v5).bind fun x7 => ((yB x7 v1).bind fun x12 => (if (decide (x12 < 0)) = true then (some (-1)) else (tU p0 nL1 x12 (IntKind.i64.wrap (v5 + 1)))))) else (some v1)
def vT (p0 : List M.Field) (p1 : Int) : Option Int :=
  if (decide ((IntKind.i64.wrap (p1 - (List.length p0 : Int))) < 0)) = true then (some (-1)) else (tU p0 fuel (IntKind.i64.wrap (p1 - (List.length p0 : Int))) 0)
def vE (p0 : M.aU) (p1 : Int) : Option Int :=
  (vT p0.Fields p1).bind fun x1 => (if (decide (x1 < 0)) = true then (some (-1)) else (some x1))
def aAN (p0 : M.Item) (p1 : Int) : Option Int :=
  (yO p0.Key p1).bind fun x1 => (if (decide (x1 < 0)) = true then (some (-1)) else ((vE p0.aU x1).bind fun x4 => (if (decide (x4 < 0)) = true then (some (-1)) else (some x4))))
def wH (p0 : List M.Item) : Nat → Int → Int → Option Int
  | 0, _, _ => none
  | nL1 + 1, v1, v5 => if (decide (v5 < (List.length p0 : Int))) = true then ((idx p0 v5).bind fun x7 => ((aAN x7 v1).bind fun x12 => (if (decide (x12 < 0)) = true then (some (-1)) else (wH p0 nL1 x12 (IntKind.i64.wrap (v5 + 1)))))) else (some v1)
def xZ (p0 : List M.Item) (p1 : Int) : Option Int :=
  if (decide ((IntKind.i64.wrap (p1 - (List.length p0 : Int))) < 0)) = true then (some (-1)) else (wH p0 fuel (IntKind.i64.wrap (p1 - (List.length p0 : Int))) 0)
def oE (p0 : M.aH) (p1 : Int) : Option Int :=
  if (decide ((IntKind.i64.wrap (p1 - (p0.Name.size : Int))) < 0)) = true then (some (-1)) else ((xZ p0.Items (IntKind.i64.wrap (p1 - (p0.Name.size : Int)))).bind fun x2 => (if (decide (x2 < 0)) = true then (some (-1)) else (some x2)))
def tY (p0 : List M.aH) : Nat → Int → Int → Option Int
  | 0, _, _ => none
  | nL1 + 1, v1, v5 => if (decide (v5 < (List.length p0 : Int))) = true then ((idx p0 v5).bind fun x7 => ((oE x7 v1).bind fun x12 => (if (decide (x12 < 0)) = true then (some (-1)) else (tY p0 nL1 x12 (IntKind.i64.wrap (v5 + 1)))))) else (some v1)
def vA (p0 : List M.aH) (p1 : Int) : Option Int :=
  if (decide ((IntKind.i64.wrap (p1 - (List.length p0 : Int))) < 0)) = true then (some (-1)) else (tY p0 fuel (IntKind.i64.wrap (p1 - (List.length p0 : Int))) 0)
def qF (p0 : M.aA) (p1 : Int) : Option Int :=
  if (decide ((IntKind.i64.wrap (p1 - (p0.aH.size : Int))) < 0)) = true then (some (-1)) else (if (decide ((IntKind.i64.wrap ((IntKind.i64.wrap (p1 - (p0.aH.size : Int))) - (p0.Field.size : Int))) < 0)) = true then (some (-1)) else (some (IntKind.i64.wrap ((IntKind.i64.wrap (p1 - (p0.aH.size : Int))) - (p0.Field.size : Int)))))
def nQ (p0 : List M.aA) : Nat → Int → Int → Option Int
  | 0, _, _ => none
  | nL1 + 1, v1, v5 => if (decide (v5 < (List.length p0 : Int))) = true then ((idx p0 v5).bind fun x7 => ((qF x7 v1).bind fun x12 => (if (decide (x12 < 0)) = true then (some (-1)) else (nQ p0 nL1 x12 (IntKind.i64.wrap (v5 + 1)))))) else (some v1)
def nM (p0 : List M.aA) (p1 : Int) : Option Int :=
  if (decide ((IntKind.i64.wrap (p1 - (List.length p0 : Int))) < 0)) = true then (some (-1)) else (nQ p0 fuel (IntKind.i64.wrap (p1 - (List.length p0 : Int))) 0)
def pA (p0 : M.Database) (p1 : Int) : Option Int :=
  if (decide ((IntKind.i64.wrap (p1 - (p0.Name.size : Int))) < 0)) = true then (some (-1)) else ((vA p0.Stores (IntKind.i64.wrap (p1 - (p0.Name.size : Int)))).bind fun x2 => (if (decide (x2 < 0)) = true then (some (-1)) else ((nM p0.Unique x2).bind fun x5 => (if (decide (x5 < 0)) = true then (some (-1)) else (some x5)))))
def zL (p0 : M.bC) (p1 : Int) : Option Int :=
  (pA p0.Base p1).bind fun x1 => (if (decide (x1 < 0)) = true then (some (-1)) else ((tL p0.Log x1).bind fun x4 => (if (decide (x4 < 0)) = true then (some (-1)) else (some x4))))
def xQ (p0 : M.aW) (p1 : Int) : Option Int :=
  (yO p0.Key p1).bind fun x1 => (if (decide (x1 < 0)) = true then (some (-1)) else (if (decide ((IntKind.i64.wrap (x1 - (p0.Field.size : Int))) < 0)) = true then (some (-1)) else (some (IntKind.i64.wrap (x1 - (p0.Field.size : Int))))))
def tX (p0 : List M.aW) : Nat → Int → Int → Option Int
  | 0, _, _ => none
  | nL1 + 1, v1, v5 => if (decide (v5 < (List.length p0 : Int))) = true then ((idx p0 v5).bind fun x7 => ((xQ x7 v1).bind fun x12 => (if (decide (x12 < 0)) = true then (some (-1)) else (tX p0 nL1 x12 (IntKind.i64.wrap (v5 + 1)))))) else (some v1)
def oN (p0 : List M.aW) (p1 : Int) : Option Int :=
  if (decide ((IntKind.i64.wrap (p1 - (List.length p0 : Int))) < 0)) = true then (some (-1)) else (tX p0 fuel (IntKind.i64.wrap (p1 - (List.length p0 : Int))) 0)
def uX (p0 : M.aV) (p1 : Int) : Option Int :=
  (oN p0.Writes p1).bind fun x1 => (if (decide (x1 < 0)) = true then (some (-1)) else (some x1))
def aAH (p0 : M.Sync) (p1 : Int) : Option Int :=
  (uX p0.aV p1).bind fun x1 => (if (decide (x1 < 0)) = true then (some (-1)) else (some x1))
def tI (p0 : M.aC) (p1 : Int) : Option Int :=
  (oE p0.Base p1).bind fun x1 => (if (decide (x1 < 0)) = true then (some (-1)) else ((aAH p0.Sync x1).bind fun x4 => (if (decide (x4 < 0)) = true then (some (-1)) else (some x4))))
def uC (p0 : M.aE) (p1 : Int) : Option Int :=
  if (decide ((IntKind.i64.wrap (p1 - (p0.Site.size : Int))) < 0)) = true then (some (-1)) else (if (decide ((IntKind.i64.wrap ((IntKind.i64.wrap (p1 - (p0.Site.size : Int))) - (p0.Top.size : Int))) < 0)) = true then (some (-1)) else ((jG p0.Registration (IntKind.i64.wrap ((IntKind.i64.wrap (p1 - (p0.Site.size : Int))) - (p0.Top.size : Int)))).bind fun x3 => (if (decide (x3 < 0)) = true then (some (-1)) else ((oR p0.Caches x3).bind fun x6 => (if (decide (x6 < 0)) = true then (some (-1)) else ((zL p0.bC x6).bind fun x9 => (if (decide (x9 < 0)) = true then (some (-1)) else ((tI p0.aC x9).bind fun x12 => (if (decide (x12 < 0)) = true then (some (-1)) else (some x12))))))))))
def qX (p0 : List M.aE) : Nat → Int → Int → Option Int
  | 0, _, _ => none
  | nL1 + 1, v1, v5 => if (decide (v5 < (List.length p0 : Int))) = true then ((idx p0 v5).bind fun x7 => ((uC x7 v1).bind fun x12 => (if (decide (x12 < 0)) = true then (some (-1)) else (qX p0 nL1 x12 (IntKind.i64.wrap (v5 + 1)))))) else (some v1)
def rF (p0 : List M.aE) (p1 : Int) : Option Int :=
  if (decide ((IntKind.i64.wrap (p1 - (List.length p0 : Int))) < 0)) = true then (some (-1)) else (qX p0 fuel (IntKind.i64.wrap (p1 - (List.length p0 : Int))) 0)
def rE (p0 : M.aK) (p1 : Int) : Option Int :=
  (rF p0.Buckets p1).bind fun x1 => (if (decide (x1 < 0)) = true then (some (-1)) else (some x1))
def uW (p0 : M.aM) (p1 : Int) : Option Int :=
  if (decide ((IntKind.i64.wrap (p1 - (p0.Path.size : Int))) < 0)) = true then (some (-1)) else (some (IntKind.i64.wrap (p1 - (p0.Path.size : Int))))
def qT (p0 : List M.aM) : Nat → Int → Int → Option Int
  | 0, _, _ => none
  | nL1 + 1, v1, v5 => if (decide (v5 < (List.length p0 : Int))) = true then ((idx p0 v5).bind fun x7 => ((uW x7 v1).bind fun x12 => (if (decide (x12 < 0)) = true then (some (-1)) else (qT p0 nL1 x12 (IntKind.i64.wrap (v5 + 1)))))) else (some v1)
def sL (p0 : List M.aM) (p1 : Int) : Option Int :=
  if (decide ((IntKind.i64.wrap (p1 - (List.length p0 : Int))) < 0)) = true then (some (-1)) else (qT p0 fuel (IntKind.i64.wrap (p1 - (List.length p0 : Int))) 0)
def xO (p0 : M.Instr) (p1 : Int) : Option Int :=
  if (decide ((IntKind.i64.wrap (p1 - (p0.Text.size : Int))) < 0)) = true then (some (-1)) else (some (IntKind.i64.wrap (p1 - (p0.Text.size : Int))))
def tW (p0 : List M.Instr) : Nat → Int → Int → Option Int
  | 0, _, _ => none
  | nL1 + 1, v1, v5 => if (decide (v5 < (List.length p0 : Int))) = true then ((idx p0 v5).bind fun x7 => ((xO x7 v1).bind fun x12 => (if (decide (x12 < 0)) = true then (some (-1)) else (tW p0 nL1 x12 (IntKind.i64.wrap (v5 + 1)))))) else (some v1)
def vM (p0 : List M.Instr) (p1 : Int) : Option Int :=
  if (decide ((IntKind.i64.wrap (p1 - (List.length p0 : Int))) < 0)) = true then (some (-1)) else (tW p0 fuel (IntKind.i64.wrap (p1 - (List.length p0 : Int))) 0)
def aAJ (p0 : List Int) (p1 : Int) : Option Int :=
  if (decide ((IntKind.i64.wrap (p1 - (List.length p0 : Int))) < 0)) = true then (some (-1)) else (some (IntKind.i64.wrap (p1 - (List.length p0 : Int))))
def sU (p0 : M.Machine) (p1 : Int) : Option Int :=
  (vM p0.Script p1).bind fun x1 => (if (decide (x1 < 0)) = true then (some (-1)) else ((aAJ p0.Regs x1).bind fun x4 => (if (decide (x4 < 0)) = true then (some (-1)) else (some x4))))
def aAT (p0 : M.bJ) (p1 : Int) : Option Int :=
  if (decide ((IntKind.i64.wrap (p1 - (p0.Site.size : Int))) < 0)) = true then (some (-1)) else (if (decide ((IntKind.i64.wrap ((IntKind.i64.wrap (p1 - (p0.Site.size : Int))) - (p0.Top.size : Int))) < 0)) = true then (some (-1)) else ((sL p0.aM (IntKind.i64.wrap ((IntKind.i64.wrap (p1 - (p0.Site.size : Int))) - (p0.Top.size : Int)))).bind fun x3 => (if (decide (x3 < 0)) = true then (some (-1)) else ((sU p0.Machine x3).bind fun x6 => (if (decide (x6 < 0)) = true then (some (-1)) else (some x6))))))
def wA (p0 : List M.bJ) : Nat → Int → Int → Option Int
  | 0, _, _ => none
  | nL1 + 1, v1, v5 => if (decide (v5 < (List.length p0 : Int))) = true then ((idx p0 v5).bind fun x7 => ((aAT x7 v1).bind fun x12 => (if (decide (x12 < 0)) = true then (some (-1)) else (wA p0 nL1 x12 (IntKind.i64.wrap (v5 + 1)))))) else (some v1)
def xD (p0 : List M.bJ) (p1 : Int) : Option Int :=
  if (decide ((IntKind.i64.wrap (p1 - (List.length p0 : Int))) < 0)) = true then (some (-1)) else (wA p0 fuel (IntKind.i64.wrap (p1 - (List.length p0 : Int))) 0)
def aAS (p0 : M.bY) (p1 : Int) : Option Int :=
  if (decide ((IntKind.i64.wrap (p1 - (p0.Name.size : Int))) < 0)) = true then (some (-1)) else (some (IntKind.i64.wrap (p1 - (p0.Name.size : Int))))
def wD (p0 : List M.bY) : Nat → Int → Int → Option Int
  | 0, _, _ => none
  | nL1 + 1, v1, v5 => if (decide (v5 < (List.length p0 : Int))) = true then ((idx p0 v5).bind fun x7 => ((aAS x7 v1).bind fun x12 => (if (decide (x12 < 0)) = true then (some (-1)) else (wD p0 nL1 x12 (IntKind.i64.wrap (v5 + 1)))))) else (some v1)
def xL (p0 : List M.bY) (p1 : Int) : Option Int :=
  if (decide ((IntKind.i64.wrap (p1 - (List.length p0 : Int))) < 0)) = true then (some (-1)) else (wD p0 fuel (IntKind.i64.wrap (p1 - (List.length p0 : Int))) 0)
def mY (p0 : M.aQ) (p1 : Int) : Option Int :=
  (xL p0.Locks p1).bind fun x1 => (if (decide (x1 < 0)) = true then (some (-1)) else (some x1))
def yG (p0 : List M.fA) (p1 : Int) : Option Int :=
  if (decide ((IntKind.i64.wrap (p1 - (List.length p0 : Int))) < 0)) = true then (some (-1)) else (some (IntKind.i64.wrap (p1 - (List.length p0 : Int))))
def rV (p0 : M.Channel) (p1 : Int) : Option Int :=
  (yG p0.Mails p1).bind fun x1 => (if (decide (x1 < 0)) = true then (some (-1)) else (some x1))
def qW (p0 : List ByteArray) : Nat → Int → Int → Option Int
  | 0, _, _ => none
  | nL1 + 1, v1, v5 => if (decide (v5 < (List.length p0 : Int))) = true then ((idx p0 v5).bind fun x7 => (if (decide ((IntKind.i64.wrap (v1 - (x7.size : Int))) < 0)) = true then (some (-1)) else (qW p0 nL1 (IntKind.i64.wrap (v1 - (x7.size : Int))) (IntKind.i64.wrap (v5 + 1))))) else (some v1)
def sX (p0 : List ByteArray) (p1 : Int) : Option Int :=
  if (decide ((IntKind.i64.wrap (p1 - (List.length p0 : Int))) < 0)) = true then (some (-1)) else (qW p0 fuel (IntKind.i64.wrap (p1 - (List.length p0 : Int))) 0)
def zN (p0 : M.Site) (p1 : Int) : Option Int :=
  if (decide ((IntKind.i64.wrap (p1 - (p0.Name.size : Int))) < 0)) = true then (some (-1)) else ((sX p0.Files (IntKind.i64.wrap (p1 - (p0.Name.size : Int)))).bind fun x2 => (if (decide (x2 < 0)) = true then (some (-1)) else (some x2)))
def wI (p0 : List M.Site) : Nat → Int → Int → Option Int
  | 0, _, _ => none
  | nL1 + 1, v1, v5 => if (decide (v5 < (List.length p0 : Int))) = true then ((idx p0 v5).bind fun x7 => ((zN x7 v1).bind fun x12 => (if (decide (x12 < 0)) = true then (some (-1)) else (wI p0 nL1 x12 (IntKind.i64.wrap (v5 + 1)))))) else (some v1)
def wZ (p0 : List M.Site) (p1 : Int) : Option Int :=
  if (decide ((IntKind.i64.wrap (p1 - (List.length p0 : Int))) < 0)) = true then (some (-1)) else (wI p0 fuel (IntKind.i64.wrap (p1 - (List.length p0 : Int))) 0)
def pN (p0 : List M.aG) (p1 : Int) : Option Int :=
  if (decide ((IntKind.i64.wrap (p1 - (List.length p0 : Int))) < 0)) = true then (some (-1)) else (some (IntKind.i64.wrap (p1 - (List.length p0 : Int))))
def vU (p0 : M.Server) (p1 : Int) : Option Int :=
  (oE p0.aH p1).bind fun x1 => (if (decide (x1 < 0)) = true then (some (-1)) else ((pN p0.aG x1).bind fun x4 => (if (decide (x4 < 0)) = true then (some (-1)) else ((oN p0.Changes x4).bind fun x7 => (if (decide (x7 < 0)) = true then (some (-1)) else (some x7))))))
def qS (p0 : List M.Server) : Nat → Int → Int → Option Int
  | 0, _, _ => none
  | nL1 + 1, v1, v5 => if (decide (v5 < (List.length p0 : Int))) = true then ((idx p0 v5).bind fun x7 => ((vU x7 v1).bind fun x12 => (if (decide (x12 < 0)) = true then (some (-1)) else (qS p0 nL1 x12 (IntKind.i64.wrap (v5 + 1)))))) else (some v1)
def tA (p0 : List M.Server) (p1 : Int) : Option Int :=
  if (decide ((IntKind.i64.wrap (p1 - (List.length p0 : Int))) < 0)) = true then (some (-1)) else (qS p0 fuel (IntKind.i64.wrap (p1 - (List.length p0 : Int))) 0)
def yK (p0 : M.World) (p1 : Int) : Option Int :=
  (rE p0.aK p1).bind fun x1 => (if (decide (x1 < 0)) = true then (some (-1)) else ((xD p0.Pages x1).bind fun x4 => (if (decide (x4 < 0)) = true then (some (-1)) else ((mY p0.Locks x4).bind fun x7 => (if (decide (x7 < 0)) = true then (some (-1)) else ((rV p0.Channel x7).bind fun x10 => (if (decide (x10 < 0)) = true then (some (-1)) else ((wZ p0.Sites x10).bind fun x13 => (if (decide (x13 < 0)) = true then (some (-1)) else ((tA p0.Servers x13).bind fun x16 => (if (decide (x16 < 0)) = true then (some (-1)) else (some x16))))))))))))
def jH (p0 : M.Registration) : Option M.Registration :=
  some p0
def lE (p0 : List Int) : Nat → Int → List Int → Option (List Int)
  | 0, _, _ => none
  | nL1 + 1, v4, r7 => if (decide (v4 < (List.length p0 : Int))) = true then ((idx p0 v4).bind fun x13 => ((idx r7 v4).bind fun x18 => (lE p0 nL1 (IntKind.i64.wrap (v4 + 1)) (List.set r7 v4.toNat x13)))) else (some r7)
def tM (p0 : List Int) : Option (List Int) :=
  (mkL 1 (List.length p0 : Int) 0).bind fun x1 => (lE p0 fuel 0 (List.replicate (List.length p0 : Int).toNat 0))
def oZ (p0 : M.Response) : Option M.Response :=
  (tM p0.Body).bind fun x1 => (some (⟨p0.Type_, p0.Status, p0.Version, x1, p0.Shares⟩ : M.Response))
def uV (p0 : M.Cached) : Option M.Cached :=
  (oZ p0.Response).bind fun x1 => (some (⟨p0.Site, p0.Path, x1⟩ : M.Cached))
def iQ (p0 : List M.Cached) : Nat → Int → List M.Cached → Option (List M.Cached)
  | 0, _, _ => none
  | nL1 + 1, v4, r7 => if (decide (v4 < (List.length p0 : Int))) = true then ((idx p0 v4).bind fun x13 => ((uV x13).bind fun x18 => ((idx r7 v4).bind fun x20 => (iQ p0 nL1 (IntKind.i64.wrap (v4 + 1)) (List.set r7 v4.toNat x18))))) else (some r7)
def sH (p0 : List M.Cached) : Option (List M.Cached) :=
  (mkL 88 (List.length p0 : Int) (⟨(⟨#[]⟩ : ByteArray), (⟨#[]⟩ : ByteArray), (⟨0, 0, 0, ([] : List Int), false⟩ : M.Response)⟩ : M.Cached)).bind fun x1 => (iQ p0 fuel 0 (List.replicate (List.length p0 : Int).toNat (⟨(⟨#[]⟩ : ByteArray), (⟨#[]⟩ : ByteArray), (⟨0, 0, 0, ([] : List Int), false⟩ : M.Response)⟩ : M.Cached)))
def xH (p0 : M.Cache) : Option M.Cache :=
  (sH p0.Entries).bind fun x1 => (some (⟨p0.Version, x1⟩ : M.Cache))
def jV (p0 : List M.Cache) : Nat → Int → List M.Cache → Option (List M.Cache)
  | 0, _, _ => none
  | nL1 + 1, v4, r7 => if (decide (v4 < (List.length p0 : Int))) = true then ((idx p0 v4).bind fun x13 => ((xH x13).bind fun x18 => ((idx r7 v4).bind fun x20 => (jV p0 nL1 (IntKind.i64.wrap (v4 + 1)) (List.set r7 v4.toNat x18))))) else (some r7)
def vK (p0 : List M.Cache) : Option (List M.Cache) :=
  (mkL 32 (List.length p0 : Int) (⟨0, ([] : List M.Cached)⟩ : M.Cache)).bind fun x1 => (jV p0 fuel 0 (List.replicate (List.length p0 : Int).toNat (⟨0, ([] : List M.Cached)⟩ : M.Cache)))
def qL (p0 : M.aT) : Option M.aT :=
  (vK p0.Caches).bind fun x1 => (some (⟨x1⟩ : M.aT))
def yP (p0 : M.Key) : Option M.Key :=
  some p0
def yM (p0 : M.Field) : Option M.Field :=
  some p0
def jU (p0 : List M.Field) : Nat → Int → List M.Field → Option (List M.Field)
  | 0, _, _ => none
  | nL1 + 1, v4, r7 => if (decide (v4 < (List.length p0 : Int))) = true then ((idx p0 v4).bind fun x13 => ((yM x13).bind fun x18 => ((idx r7 v4).bind fun x20 => (jU p0 nL1 (IntKind.i64.wrap (v4 + 1)) (List.set r7 v4.toNat x18))))) else (some r7)
def uF (p0 : List M.Field) : Option (List M.Field) :=
  (mkL 24 (List.length p0 : Int) (⟨(⟨#[]⟩ : ByteArray), 0⟩ : M.Field)).bind fun x1 => (jU p0 fuel 0 (List.replicate (List.length p0 : Int).toNat (⟨(⟨#[]⟩ : ByteArray), 0⟩ : M.Field)))
def uI (p0 : M.aU) : Option M.aU :=
  (uF p0.Fields).bind fun x1 => (some (⟨x1⟩ : M.aU))
def aAV (p0 : M.Item) : Option M.Item :=
  (yP p0.Key).bind fun x1 => ((uI p0.aU).bind fun x3 => (some (⟨x1, x3⟩ : M.Item)))
def kZ (p0 : List M.Item) : Nat → Int → List M.Item → Option (List M.Item)
  | 0, _, _ => none
  | nL1 + 1, v4, r7 => if (decide (v4 < (List.length p0 : Int))) = true then ((idx p0 v4).bind fun x13 => ((aAV x13).bind fun x18 => ((idx r7 v4).bind fun x20 => (kZ p0 nL1 (IntKind.i64.wrap (v4 + 1)) (List.set r7 v4.toNat x18))))) else (some r7)
def yI (p0 : List M.Item) : Option (List M.Item) :=
  (mkL 56 (List.length p0 : Int) (⟨(⟨0, 0, (⟨#[]⟩ : ByteArray)⟩ : M.Key), (⟨([] : List M.Field)⟩ : M.aU)⟩ : M.Item)).bind fun x1 => (kZ p0 fuel 0 (List.replicate (List.length p0 : Int).toNat (⟨(⟨0, 0, (⟨#[]⟩ : ByteArray)⟩ : M.Key), (⟨([] : List M.Field)⟩ : M.aU)⟩ : M.Item)))
def oD (p0 : M.aH) : Option M.aH :=
  (yI p0.Items).bind fun x1 => (some (⟨p0.Name, x1, p0.Auto⟩ : M.aH))
def kA (p0 : List M.aH) : Nat → Int → List M.aH → Option (List M.aH)
  | 0, _, _ => none
  | nL1 + 1, v4, r7 => if (decide (v4 < (List.length p0 : Int))) = true then ((idx p0 v4).bind fun x13 => ((oD x13).bind fun x18 => ((idx r7 v4).bind fun x20 => (kA p0 nL1 (IntKind.i64.wrap (v4 + 1)) (List.set r7 v4.toNat x18))))) else (some r7)
def uU (p0 : List M.aH) : Option (List M.aH) :=
  (mkL 48 (List.length p0 : Int) (⟨(⟨#[]⟩ : ByteArray), ([] : List M.Item), 0⟩ : M.aH)).bind fun x1 => (kA p0 fuel 0 (List.replicate (List.length p0 : Int).toNat (⟨(⟨#[]⟩ : ByteArray), ([] : List M.Item), 0⟩ : M.aH)))
def pM (p0 : M.aA) : Option M.aA :=
  some p0
def hM (p0 : List M.aA) : Nat → Int → List M.aA → Option (List M.aA)
  | 0, _, _ => none
  | nL1 + 1, v4, r7 => if (decide (v4 < (List.length p0 : Int))) = true then ((idx p0 v4).bind fun x13 => ((pM x13).bind fun x18 => ((idx r7 v4).bind fun x20 => (hM p0 nL1 (IntKind.i64.wrap (v4 + 1)) (List.set r7 v4.toNat x18))))) else (some r7)
def nR (p0 : List M.aA) : Option (List M.aA) :=
  (mkL 32 (List.length p0 : Int) (⟨(⟨#[]⟩ : ByteArray), (⟨#[]⟩ : ByteArray)⟩ : M.aA)).bind fun x1 => (hM p0 fuel 0 (List.replicate (List.length p0 : Int).toNat (⟨(⟨#[]⟩ : ByteArray), (⟨#[]⟩ : ByteArray)⟩ : M.aA)))
def qI (p0 : M.Database) : Option M.Database :=
  (uU p0.Stores).bind fun x1 => ((nR p0.Unique).bind fun x3 => (some (⟨p0.Name, p0.Version, x1, x3⟩ : M.Database)))
def aAC (p0 : M.bC) : Option M.bC :=
  (qI p0.Base).bind fun x1 => ((tM p0.Log).bind fun x3 => (some (⟨x1, x3, p0.Count⟩ : M.bC)))
def xM (p0 : M.aW) : Option M.aW :=
  (yP p0.Key).bind fun x1 => (some (⟨p0.Device, p0.Seq, x1, p0.Field, p0.N⟩ : M.aW))
def jN (p0 : List M.aW) : Nat → Int → List M.aW → Option (List M.aW)
  | 0, _, _ => none
  | nL1 + 1, v4, r7 => if (decide (v4 < (List.length p0 : Int))) = true then ((idx p0 v4).bind fun x13 => ((xM x13).bind fun x18 => ((idx r7 v4).bind fun x20 => (jN p0 nL1 (IntKind.i64.wrap (v4 + 1)) (List.set r7 v4.toNat x18))))) else (some r7)
def oS (p0 : List M.aW) : Option (List M.aW) :=
  (mkL 72 (List.length p0 : Int) (⟨0, 0, (⟨0, 0, (⟨#[]⟩ : ByteArray)⟩ : M.Key), (⟨#[]⟩ : ByteArray), 0⟩ : M.aW)).bind fun x1 => (jN p0 fuel 0 (List.replicate (List.length p0 : Int).toNat (⟨0, 0, (⟨0, 0, (⟨#[]⟩ : ByteArray)⟩ : M.Key), (⟨#[]⟩ : ByteArray), 0⟩ : M.aW)))
def uD (p0 : M.aV) : Option M.aV :=
  (oS p0.Writes).bind fun x1 => (some (⟨p0.Device, p0.Next, x1⟩ : M.aV))
def aAA (p0 : M.Sync) : Option M.Sync :=
  (uD p0.aV).bind fun x1 => (some (⟨x1, p0.Tries, p0.WaitUntil⟩ : M.Sync))
def rJ (p0 : M.aC) : Option M.aC :=
  (oD p0.Base).bind fun x1 => ((aAA p0.Sync).bind fun x3 => (some (⟨x1, p0.Seen, x3⟩ : M.aC)))
def uK (p0 : M.aE) : Option M.aE :=
  (jH p0.Registration).bind fun x1 => ((qL p0.Caches).bind fun x3 => ((aAC p0.bC).bind fun x5 => ((rJ p0.aC).bind fun x7 => (some (⟨p0.Site, p0.Top, x1, x3, x5, x7, p0.LastUsed, p0.Persistent⟩ : M.aE)))))
def jB (p0 : List M.aE) : Nat → Int → List M.aE → Option (List M.aE)
  | 0, _, _ => none
  | nL1 + 1, v4, r7 => if (decide (v4 < (List.length p0 : Int))) = true then ((idx p0 v4).bind fun x13 => ((uK x13).bind fun x18 => ((idx r7 v4).bind fun x20 => (jB p0 nL1 (IntKind.i64.wrap (v4 + 1)) (List.set r7 v4.toNat x18))))) else (some r7)
def rU (p0 : List M.aE) : Option (List M.aE) :=
  (mkL 328 (List.length p0 : Int) (⟨(⟨#[]⟩ : ByteArray), (⟨#[]⟩ : ByteArray), (⟨(⟨#[]⟩ : ByteArray), 0, 0, 0⟩ : M.Registration), (⟨([] : List M.Cache)⟩ : M.aT), (⟨(⟨(⟨#[]⟩ : ByteArray), 0, ([] : List M.aH), ([] : List M.aA)⟩ : M.Database), ([] : List Int), 0⟩ : M.bC), (⟨(⟨(⟨#[]⟩ : ByteArray), ([] : List M.Item), 0⟩ : M.aH), 0, (⟨(⟨0, 0, ([] : List M.aW)⟩ : M.aV), 0, 0⟩ : M.Sync)⟩ : M.aC), 0, false⟩ : M.aE)).bind fun x1 => (jB p0 fuel 0 (List.replicate (List.length p0 : Int).toNat (⟨(⟨#[]⟩ : ByteArray), (⟨#[]⟩ : ByteArray), (⟨(⟨#[]⟩ : ByteArray), 0, 0, 0⟩ : M.Registration), (⟨([] : List M.Cache)⟩ : M.aT), (⟨(⟨(⟨#[]⟩ : ByteArray), 0, ([] : List M.aH), ([] : List M.aA)⟩ : M.Database), ([] : List Int), 0⟩ : M.bC), (⟨(⟨(⟨#[]⟩ : ByteArray), ([] : List M.Item), 0⟩ : M.aH), 0, (⟨(⟨0, 0, ([] : List M.aW)⟩ : M.aV), 0, 0⟩ : M.Sync)⟩ : M.aC), 0, false⟩ : M.aE)))
def sW (p0 : M.aK) : Option M.aK :=
  (rU p0.Buckets).bind fun x1 => (some (⟨x1⟩ : M.aK))
def vQ (p0 : M.aM) : Option M.aM :=
  some p0
def iT (p0 : List M.aM) : Nat → Int → List M.aM → Option (List M.aM)
  | 0, _, _ => none
  | nL1 + 1, v4, r7 => if (decide (v4 < (List.length p0 : Int))) = true then ((idx p0 v4).bind fun x13 => ((vQ x13).bind fun x18 => ((idx r7 v4).bind fun x20 => (iT p0 nL1 (IntKind.i64.wrap (v4 + 1)) (List.set r7 v4.toNat x18))))) else (some r7)
def sK (p0 : List M.aM) : Option (List M.aM) :=
  (mkL 24 (List.length p0 : Int) (⟨(⟨#[]⟩ : ByteArray), 0⟩ : M.aM)).bind fun x1 => (iT p0 fuel 0 (List.replicate (List.length p0 : Int).toNat (⟨(⟨#[]⟩ : ByteArray), 0⟩ : M.aM)))
def xV (p0 : M.Instr) : Option M.Instr :=
  some p0
def jY (p0 : List M.Instr) : Nat → Int → List M.Instr → Option (List M.Instr)
  | 0, _, _ => none
  | nL1 + 1, v4, r7 => if (decide (v4 < (List.length p0 : Int))) = true then ((idx p0 v4).bind fun x13 => ((xV x13).bind fun x18 => ((idx r7 v4).bind fun x20 => (jY p0 nL1 (IntKind.i64.wrap (v4 + 1)) (List.set r7 v4.toNat x18))))) else (some r7)
def vG (p0 : List M.Instr) : Option (List M.Instr) :=
  (mkL 40 (List.length p0 : Int) (⟨0, 0, 0, (⟨#[]⟩ : ByteArray)⟩ : M.Instr)).bind fun x1 => (jY p0 fuel 0 (List.replicate (List.length p0 : Int).toNat (⟨0, 0, 0, (⟨#[]⟩ : ByteArray)⟩ : M.Instr)))
def mG (p0 : List Int) : Nat → Int → List Int → Option (List Int)
  | 0, _, _ => none
  | nL1 + 1, v4, r7 => if (decide (v4 < (List.length p0 : Int))) = true then ((idx p0 v4).bind fun x13 => ((idx r7 v4).bind fun x18 => (mG p0 nL1 (IntKind.i64.wrap (v4 + 1)) (List.set r7 v4.toNat x13)))) else (some r7)
def zQ (p0 : List Int) : Option (List Int) :=
  (mkL 8 (List.length p0 : Int) 0).bind fun x1 => (mG p0 fuel 0 (List.replicate (List.length p0 : Int).toNat 0))
def sM (p0 : M.Machine) : Option M.Machine :=
  (vG p0.Script).bind fun x1 => ((zQ p0.Regs).bind fun x3 => (some (⟨x1, p0.Pc, x3, p0.Steps, p0.Done, p0.Wait⟩ : M.Machine)))
def zA (p0 : M.bJ) : Option M.bJ :=
  (sK p0.aM).bind fun x1 => ((sM p0.Machine).bind fun x3 => (some (⟨p0.Id, p0.Site, p0.Top, p0.Version, x1, x3⟩ : M.bJ)))
def lM (p0 : List M.bJ) : Nat → Int → List M.bJ → Option (List M.bJ)
  | 0, _, _ => none
  | nL1 + 1, v4, r7 => if (decide (v4 < (List.length p0 : Int))) = true then ((idx p0 v4).bind fun x13 => ((zA x13).bind fun x18 => ((idx r7 v4).bind fun x20 => (lM p0 nL1 (IntKind.i64.wrap (v4 + 1)) (List.set r7 v4.toNat x18))))) else (some r7)
def xI (p0 : List M.bJ) : Option (List M.bJ) :=
  (mkL 144 (List.length p0 : Int) (⟨0, (⟨#[]⟩ : ByteArray), (⟨#[]⟩ : ByteArray), 0, ([] : List M.aM), (⟨([] : List M.Instr), 0, ([] : List Int), 0, false, false⟩ : M.Machine)⟩ : M.bJ)).bind fun x1 => (lM p0 fuel 0 (List.replicate (List.length p0 : Int).toNat (⟨0, (⟨#[]⟩ : ByteArray), (⟨#[]⟩ : ByteArray), 0, ([] : List M.aM), (⟨([] : List M.Instr), 0, ([] : List Int), 0, false, false⟩ : M.Machine)⟩ : M.bJ)))
def aAB (p0 : M.bY) : Option M.bY :=
  some p0
def kX (p0 : List M.bY) : Nat → Int → List M.bY → Option (List M.bY)
  | 0, _, _ => none
  | nL1 + 1, v4, r7 => if (decide (v4 < (List.length p0 : Int))) = true then ((idx p0 v4).bind fun x13 => ((aAB x13).bind fun x18 => ((idx r7 v4).bind fun x20 => (kX p0 nL1 (IntKind.i64.wrap (v4 + 1)) (List.set r7 v4.toNat x18))))) else (some r7)
def wU (p0 : List M.bY) : Option (List M.bY) :=
  (mkL 32 (List.length p0 : Int) (⟨(⟨#[]⟩ : ByteArray), 0, false, false⟩ : M.bY)).bind fun x1 => (kX p0 fuel 0 (List.replicate (List.length p0 : Int).toNat (⟨(⟨#[]⟩ : ByteArray), 0, false, false⟩ : M.bY)))
def nC (p0 : M.aQ) : Option M.aQ :=
  (wU p0.Locks).bind fun x1 => (some (⟨x1⟩ : M.aQ))
def aAL (p0 : M.fA) : Option M.fA :=
  some p0
def lF (p0 : List M.fA) : Nat → Int → List M.fA → Option (List M.fA)
  | 0, _, _ => none
  | nL1 + 1, v4, r7 => if (decide (v4 < (List.length p0 : Int))) = true then ((idx p0 v4).bind fun x13 => ((aAL x13).bind fun x18 => ((idx r7 v4).bind fun x20 => (lF p0 nL1 (IntKind.i64.wrap (v4 + 1)) (List.set r7 v4.toNat x18))))) else (some r7)
def wV (p0 : List M.fA) : Option (List M.fA) :=
  (mkL 24 (List.length p0 : Int) (⟨0, 0, 0⟩ : M.fA)).bind fun x1 => (lF p0 fuel 0 (List.replicate (List.length p0 : Int).toNat (⟨0, 0, 0⟩ : M.fA)))
def rZ (p0 : M.Channel) : Option M.Channel :=
  (wV p0.Mails).bind fun x1 => (some (⟨x1⟩ : M.Channel))
def iZ (p0 : List ByteArray) : Nat → Int → List ByteArray → Option (List ByteArray)
  | 0, _, _ => none
  | nL1 + 1, v4, r7 => if (decide (v4 < (List.length p0 : Int))) = true then ((idx p0 v4).bind fun x13 => ((idx r7 v4).bind fun x18 => (iZ p0 nL1 (IntKind.i64.wrap (v4 + 1)) (List.set r7 v4.toNat x13)))) else (some r7)
def sY (p0 : List ByteArray) : Option (List ByteArray) :=
  (mkL 16 (List.length p0 : Int) (⟨#[]⟩ : ByteArray)).bind fun x1 => (iZ p0 fuel 0 (List.replicate (List.length p0 : Int).toNat (⟨#[]⟩ : ByteArray)))
def zC (p0 : M.Site) : Option M.Site :=
  (sY p0.Files).bind fun x1 => (some (⟨p0.Name, p0.Version, x1, p0.Shared⟩ : M.Site))
def lA (p0 : List M.Site) : Nat → Int → List M.Site → Option (List M.Site)
  | 0, _, _ => none
  | nL1 + 1, v4, r7 => if (decide (v4 < (List.length p0 : Int))) = true then ((idx p0 v4).bind fun x13 => ((zC x13).bind fun x18 => ((idx r7 v4).bind fun x20 => (lA p0 nL1 (IntKind.i64.wrap (v4 + 1)) (List.set r7 v4.toNat x18))))) else (some r7)
def xJ (p0 : List M.Site) : Option (List M.Site) :=
  (mkL 56 (List.length p0 : Int) (⟨(⟨#[]⟩ : ByteArray), 0, ([] : List ByteArray), false⟩ : M.Site)).bind fun x1 => (lA p0 fuel 0 (List.replicate (List.length p0 : Int).toNat (⟨(⟨#[]⟩ : ByteArray), 0, ([] : List ByteArray), false⟩ : M.Site)))
def sD (p0 : M.aG) : Option M.aG :=
  some p0
def iG (p0 : List M.aG) : Nat → Int → List M.aG → Option (List M.aG)
  | 0, _, _ => none
  | nL1 + 1, v4, r7 => if (decide (v4 < (List.length p0 : Int))) = true then ((idx p0 v4).bind fun x13 => ((sD x13).bind fun x18 => ((idx r7 v4).bind fun x20 => (iG p0 nL1 (IntKind.i64.wrap (v4 + 1)) (List.set r7 v4.toNat x18))))) else (some r7)
def pX (p0 : List M.aG) : Option (List M.aG) :=
  (mkL 16 (List.length p0 : Int) (⟨0, 0⟩ : M.aG)).bind fun x1 => (iG p0 fuel 0 (List.replicate (List.length p0 : Int).toNat (⟨0, 0⟩ : M.aG)))
def vD (p0 : M.Server) : Option M.Server :=
  (oD p0.aH).bind fun x1 => ((pX p0.aG).bind fun x3 => ((oS p0.Changes).bind fun x5 => (some (⟨x1, x3, x5⟩ : M.Server))))
def iV (p0 : List M.Server) : Nat → Int → List M.Server → Option (List M.Server)
  | 0, _, _ => none
  | nL1 + 1, v4, r7 => if (decide (v4 < (List.length p0 : Int))) = true then ((idx p0 v4).bind fun x13 => ((vD x13).bind fun x18 => ((idx r7 v4).bind fun x20 => (iV p0 nL1 (IntKind.i64.wrap (v4 + 1)) (List.set r7 v4.toNat x18))))) else (some r7)
def rX (p0 : List M.Server) : Option (List M.Server) :=
  (mkL 96 (List.length p0 : Int) (⟨(⟨(⟨#[]⟩ : ByteArray), ([] : List M.Item), 0⟩ : M.aH), ([] : List M.aG), ([] : List M.aW)⟩ : M.Server)).bind fun x1 => (iV p0 fuel 0 (List.replicate (List.length p0 : Int).toNat (⟨(⟨(⟨#[]⟩ : ByteArray), ([] : List M.Item), 0⟩ : M.aH), ([] : List M.aG), ([] : List M.aW)⟩ : M.Server)))
def kT (p0 : M.World) : Option M.World :=
  (sW p0.aK).bind fun x1 => ((xI p0.Pages).bind fun x3 => ((nC p0.Locks).bind fun x5 => ((rZ p0.Channel).bind fun x7 => ((xJ p0.Sites).bind fun x9 => ((rX p0.Servers).bind fun x11 => (some (⟨p0.Now, p0.Online, p0.Device, x1, x3, p0.NextPage, x5, x7, x9, x11⟩ : M.World)))))))
def xX (p0 : M.Response) : Option M.Response :=
  (app 1 ([] : List Int) p0.Body).bind fun x1 => (some p0)
def iA (p0 : M.Cache) : Nat → Int → List M.Cached → Option M.Cache
  | 0, _, _ => none
  | nL1 + 1, v4, r50000 => if (decide (v4 < (List.length p0.Entries : Int))) = true then ((idx p0.Entries v4).bind fun x11 => ((xX x11.Response).bind fun x16 => ((app 88 r50000 ([(⟨x11.Site, x11.Path, x16⟩ : M.Cached)])).bind fun x18 => (iA p0 nL1 (IntKind.i64.wrap (v4 + 1)) (r50000 ++ [(⟨x11.Site, x11.Path, x16⟩ : M.Cached)]))))) else (some (⟨p0.Version, r50000⟩ : M.Cache))
def uS (p0 : M.Cache) : Option M.Cache :=
  iA p0 fuel 0 ([] : List M.Cached)
def iR (p0 : M.aT) : Nat → Int → List M.Cache → Option M.aT
  | 0, _, _ => none
  | nL1 + 1, v4, r50000 => if (decide (v4 < (List.length p0.Caches : Int))) = true then ((idx p0.Caches v4).bind fun x11 => ((uS x11).bind fun x16 => ((app 32 r50000 ([x16])).bind fun x18 => (iR p0 nL1 (IntKind.i64.wrap (v4 + 1)) (r50000 ++ [x16]))))) else (some (⟨r50000⟩ : M.aT))
def wX (p0 : M.aT) : Option M.aT :=
  iR p0 fuel 0 ([] : List M.Cache)
def zV (p0 : M.aU) : Option M.aU :=
  (app 24 ([] : List M.Field) p0.Fields).bind fun x1 => (some p0)
def wG (p0 : M.Item) : Option M.Item :=
  (zV p0.aU).bind fun x1 => (some (⟨p0.Key, x1⟩ : M.Item))
def kE (p0 : M.aH) : Nat → Int → List M.Item → Option M.aH
  | 0, _, _ => none
  | nL1 + 1, v4, r50000 => if (decide (v4 < (List.length p0.Items : Int))) = true then ((idx p0.Items v4).bind fun x11 => ((wG x11).bind fun x16 => ((app 56 r50000 ([x16])).bind fun x18 => (kE p0 nL1 (IntKind.i64.wrap (v4 + 1)) (r50000 ++ [x16]))))) else (some (⟨p0.Name, r50000, p0.Auto⟩ : M.aH))
def qN (p0 : M.aH) : Option M.aH :=
  kE p0 fuel 0 ([] : List M.Item)
def kD (p0 : M.Database) : Nat → Int → List M.aH → Option M.Database
  | 0, _, _ => none
  | nL1 + 1, v4, r50000 => if (decide (v4 < (List.length p0.Stores : Int))) = true then ((idx p0.Stores v4).bind fun x22 => ((qN x22).bind fun x27 => ((app 48 r50000 ([x27])).bind fun x29 => (kD p0 nL1 (IntKind.i64.wrap (v4 + 1)) (r50000 ++ [x27]))))) else (some (⟨p0.Name, p0.Version, r50000, p0.Unique⟩ : M.Database))
def zM (p0 : M.Database) : Option M.Database :=
  (app 32 ([] : List M.aA) p0.Unique).bind fun x1 => (kD p0 fuel 0 ([] : List M.aH))
def xP (p0 : M.bC) : Option M.bC :=
  (zM p0.Base).bind fun x1 => ((app 1 ([] : List Int) p0.Log).bind fun x3 => (some (⟨x1, p0.Log, p0.Count⟩ : M.bC)))
def xU (p0 : M.aV) : Option M.aV :=
  (app 72 ([] : List M.aW) p0.Writes).bind fun x1 => (some p0)
def yD (p0 : M.Sync) : Option M.Sync :=
  (xU p0.aV).bind fun x1 => (some (⟨x1, p0.Tries, p0.WaitUntil⟩ : M.Sync))
def xE (p0 : M.aC) : Option M.aC :=
  (qN p0.Base).bind fun x1 => ((yD p0.Sync).bind fun x3 => (some (⟨x1, p0.Seen, x3⟩ : M.aC)))
def yE (p0 : M.aE) : Option M.aE :=
  (wX p0.Caches).bind fun x1 => ((xP p0.bC).bind fun x3 => ((xE p0.aC).bind fun x5 => (some (⟨p0.Site, p0.Top, p0.Registration, x1, x3, x5, p0.LastUsed, p0.Persistent⟩ : M.aE))))
def jA (p0 : M.aK) : Nat → Int → List M.aE → Option M.aK
  | 0, _, _ => none
  | nL1 + 1, v4, r50000 => if (decide (v4 < (List.length p0.Buckets : Int))) = true then ((idx p0.Buckets v4).bind fun x11 => ((yE x11).bind fun x16 => ((app 328 r50000 ([x16])).bind fun x18 => (jA p0 nL1 (IntKind.i64.wrap (v4 + 1)) (r50000 ++ [x16]))))) else (some (⟨r50000⟩ : M.aK))
def yL (p0 : M.aK) : Option M.aK :=
  jA p0 fuel 0 ([] : List M.aE)
def sN (p0 : List M.Instr) : Option (List M.Instr) :=
  (app 40 ([] : List M.Instr) p0).bind fun x1 => (some p0)
def yC (p0 : M.Machine) : Option M.Machine :=
  (sN p0.Script).bind fun x1 => ((app 8 ([] : List Int) p0.Regs).bind fun x3 => (some (⟨x1, p0.Pc, p0.Regs, p0.Steps, p0.Done, p0.Wait⟩ : M.Machine)))
def wT (p0 : M.bJ) : Option M.bJ :=
  (app 24 ([] : List M.aM) p0.aM).bind fun x1 => ((yC p0.Machine).bind fun x11 => (some (⟨p0.Id, p0.Site, p0.Top, p0.Version, p0.aM, x11⟩ : M.bJ)))
def tJ (p0 : M.aQ) : Option M.aQ :=
  (app 32 ([] : List M.bY) p0.Locks).bind fun x1 => (some p0)
def tO (p0 : M.Channel) : Option M.Channel :=
  (app 24 ([] : List M.fA) p0.Mails).bind fun x1 => (some p0)
def kS (p0 : M.Site) : Option M.Site :=
  (app 16 ([] : List ByteArray) p0.Files).bind fun x1 => (some p0)
def wN (p0 : M.Server) : Option M.Server :=
  (qN p0.aH).bind fun x1 => ((app 16 ([] : List M.aG) p0.aG).bind fun x3 => ((app 72 ([] : List M.aW) p0.Changes).bind fun x5 => (some (⟨x1, p0.aG, p0.Changes⟩ : M.Server))))
def fZ (p0 : M.World) (x1 : M.aK) (r12 : List M.bJ) (x42 : M.aQ) (x44 : M.Channel) (r40 : List M.Site) : Nat → Int → List M.Server → Option M.World
  | 0, _, _ => none
  | nL3 + 1, v6, r60 => if (decide (v6 < (List.length p0.Servers : Int))) = true then ((idx p0.Servers v6).bind fun x122 => ((wN x122).bind fun x127 => ((app 96 r60 ([x127])).bind fun x129 => (fZ p0 x1 r12 x42 x44 r40 nL3 (IntKind.i64.wrap (v6 + 1)) (r60 ++ [x127]))))) else (some (⟨p0.Now, p0.Online, p0.Device, x1, r12, p0.NextPage, x42, x44, r40, r60⟩ : M.World))
def gE (p0 : M.World) (x1 : M.aK) (r12 : List M.bJ) (x42 : M.aQ) (x44 : M.Channel) : Nat → Int → List M.Site → Option M.World
  | 0, _, _ => none
  | nL2 + 1, v5, r40 => if (decide (v5 < (List.length p0.Sites : Int))) = true then ((idx p0.Sites v5).bind fun x72 => ((kS x72).bind fun x77 => ((app 56 r40 ([x77])).bind fun x79 => (gE p0 x1 r12 x42 x44 nL2 (IntKind.i64.wrap (v5 + 1)) (r40 ++ [x77]))))) else (fZ p0 x1 r12 x42 x44 r40 fuel 0 ([] : List M.Server))
def hP (p0 : M.World) (x1 : M.aK) : Nat → Int → List M.bJ → Option M.World
  | 0, _, _ => none
  | nL1 + 1, v4, r12 => if (decide (v4 < (List.length p0.Pages : Int))) = true then ((idx p0.Pages v4).bind fun x23 => ((wT x23).bind fun x28 => ((app 144 r12 ([x28])).bind fun x30 => (hP p0 x1 nL1 (IntKind.i64.wrap (v4 + 1)) (r12 ++ [x28]))))) else ((tJ p0.Locks).bind fun x42 => ((tO p0.Channel).bind fun x44 => (gE p0 x1 r12 x42 x44 fuel 0 ([] : List M.Site))))
def xN (p0 : M.World) : Option M.World :=
  (yL p0.aK).bind fun x1 => (hP p0 x1 fuel 0 ([] : List M.bJ))
def qK  : Option (List ByteArray) :=
  some ([(⟨#[98, 97, 110, 107]⟩ : ByteArray), (⟨#[110, 101, 119, 115]⟩ : ByteArray), (⟨#[115, 104, 111, 112]⟩ : ByteArray)])
def gJ (p0 : ByteArray) (x1 : (List ByteArray)) : Nat → Int → Option Int
  | 0, _ => none
  | nL1 + 1, v4 => if (decide (v4 < (List.length x1 : Int))) = true then ((idx x1 v4).bind fun x9 => (if (x9.toList == p0.toList) = true then (some v4) else (gJ p0 x1 nL1 (IntKind.i64.wrap (v4 + 1))))) else (some (-1))
def pK (p0 : ByteArray) : Option Int :=
  (qK).bind fun x1 => (gJ p0 x1 fuel 0)
def bG (p0 : Int) (p1 : Int) (p2 : Int) : Option Bool :=
  if (decide (p0 ≥ p1)) = true then (some (decide (p0 ≤ p2))) else (some false)
def iJ (p0 : ByteArray) : Nat → Int → Option Bool
  | 0, _ => none
  | nL1 + 1, v3 => if (decide (v3 < (p0.size : Int))) = true then ((aLv p0 v3).bind fun x5 => (if (decide ((x5.toNat : Int) < 97)) = true then (some false) else (if (decide ((x5.toNat : Int) > 122)) = true then (some false) else (iJ p0 nL1 (IntKind.i64.wrap (v3 + 1)))))) else ((bG (p0.size : Int) 1 8).bind fun x11 => (some x11))
def bZ (p0 : ByteArray) : Option Bool :=
  iJ p0 fuel 0
def gU (p0 : M.Site) : Nat → Int → Option Bool
  | 0, _ => none
  | nL1 + 1, v3 => if (decide (v3 < (List.length p0.Files : Int))) = true then ((idx p0.Files v3).bind fun x6 => ((bZ x6).bind fun x11 => (if (!x11) = true then (some false) else (if (decide (v3 > 0)) = true then ((idx p0.Files (IntKind.i64.wrap (v3 - 1))).bind fun x15 => (if (!(Op.bytesLess x15.toList x6.toList)) = true then (some false) else (gU p0 nL1 (IntKind.i64.wrap (v3 + 1))))) else (gU p0 nL1 (IntKind.i64.wrap (v3 + 1))))))) else ((bZ p0.Name).bind fun x21 => (if x21 = true then ((bG p0.Version 1 1000000000000).bind fun x24 => (if x24 = true then ((bG (List.length p0.Files : Int) 1 6).bind fun x27 => (some x27)) else (some false))) else (some false)))
def qO (p0 : M.Site) : Option Bool :=
  gU p0 fuel 0
def fV (p0 : ByteArray) : Nat → Int → Option Bool
  | 0, _ => none
  | nL1 + 1, v3 => if (decide (v3 < (p0.size : Int))) = true then ((aLv p0 v3).bind fun x5 => (if (decide ((x5.toNat : Int) < 97)) = true then (if (decide ((x5.toNat : Int) < 48)) = true then (some false) else (if (decide ((x5.toNat : Int) > 57)) = true then (some false) else (fV p0 nL1 (IntKind.i64.wrap (v3 + 1))))) else (if (decide ((x5.toNat : Int) > 122)) = true then (if (decide ((x5.toNat : Int) < 48)) = true then (some false) else (if (decide ((x5.toNat : Int) > 57)) = true then (some false) else (fV p0 nL1 (IntKind.i64.wrap (v3 + 1))))) else (fV p0 nL1 (IntKind.i64.wrap (v3 + 1)))))) else (some (decide ((p0.size : Int) ≤ 12)))
def wB (p0 : ByteArray) : Option Bool :=
  fV p0 fuel 0
def nV (p0 : M.Key) : Option Bool :=
  (bG p0.Kind 1 3).bind fun x1 => (if x1 = true then ((bG p0.N (-1000000000000) 1000000000000).bind fun x4 => (if x4 = true then (if (p0.Kind != 2) = true then ((wB p0.Text).bind fun x8 => (if x8 = true then (if (p0.Kind != 1) = true then (some true) else (some (p0.Text.toList == (⟨#[]⟩ : ByteArray).toList))) else (some false))) else (if (p0.N == 0) = true then ((wB p0.Text).bind fun x13 => (if x13 = true then (if (p0.Kind != 1) = true then (some true) else (some (p0.Text.toList == (⟨#[]⟩ : ByteArray).toList))) else (some false))) else (some false))) else (some false))) else (some false))
def iH (p0 : M.aW) : Option Bool :=
  (bG p0.Device 1 1000000).bind fun x1 => (if x1 = true then ((bG p0.Seq 1 1000000).bind fun x4 => (if x4 = true then ((nV p0.Key).bind fun x7 => (if x7 = true then ((bZ p0.Field).bind fun x10 => (if x10 = true then ((bG p0.N 0 1000000000).bind fun x13 => (some x13)) else (some false))) else (some false))) else (some false))) else (some false))
def fM (p0 : M.aU) : Nat → Int → Option Bool
  | 0, _ => none
  | nL1 + 1, v3 => if (decide (v3 < (List.length p0.Fields : Int))) = true then ((idx p0.Fields v3).bind fun x6 => ((bZ x6.Name).bind fun x11 => (if (!x11) = true then (some false) else ((bG x6.N 0 1000000000).bind fun x14 => (if (!x14) = true then (some false) else (if (decide (v3 > 0)) = true then ((idx p0.Fields (IntKind.i64.wrap (v3 - 1))).bind fun x18 => (if (!(Op.bytesLess x18.Name.toList x6.Name.toList)) = true then (some false) else (fM p0 nL1 (IntKind.i64.wrap (v3 + 1))))) else (fM p0 nL1 (IntKind.i64.wrap (v3 + 1))))))))) else (some (decide ((List.length p0.Fields : Int) ≤ 6)))
def pQ (p0 : M.aU) : Option Bool :=
  fM p0 fuel 0
def wC (p0 : Bool) (p1 : Bool) : Option Int :=
  if p0 = true then (some (-1)) else (if p1 = true then (some 1) else (some 0))
def jL (p0 : M.Key) (p1 : M.Key) : Option Int :=
  (nV p0).bind fun x1 => (if (!x1) = true then (some 0) else ((nV p1).bind fun x4 => (if (!x4) = true then (some 0) else (if (p0.Kind != p1.Kind) = true then ((wC (decide (p0.Kind < p1.Kind)) true).bind fun x8 => (some x8)) else (if (p0.N != p1.N) = true then ((wC (decide (p0.N < p1.N)) true).bind fun x11 => (some x11)) else ((wC (Op.bytesLess p0.Text.toList p1.Text.toList) (!(Op.bytesLess p0.Text.toList p1.Text.toList || p0.Text.toList == p1.Text.toList))).bind fun x13 => (some x13)))))))
def fX (p0 : M.aH) : Nat → Int → Option Bool
  | 0, _ => none
  | nL1 + 1, v3 => if (decide (v3 < (List.length p0.Items : Int))) = true then ((idx p0.Items v3).bind fun x6 => ((nV x6.Key).bind fun x11 => (if (!x11) = true then (some false) else ((pQ x6.aU).bind fun x14 => (if (!x14) = true then (some false) else (if (decide (v3 > 0)) = true then ((idx p0.Items (IntKind.i64.wrap (v3 - 1))).bind fun x18 => ((jL x18.Key x6.Key).bind fun x23 => (if (decide (x23 ≥ 0)) = true then (some false) else (fX p0 nL1 (IntKind.i64.wrap (v3 + 1)))))) else (fX p0 nL1 (IntKind.i64.wrap (v3 + 1))))))))) else ((bZ p0.Name).bind fun x26 => (if x26 = true then (if (decide ((List.length p0.Items : Int) ≤ 16)) = true then ((bG p0.Auto 0 1000000).bind fun x30 => (some x30)) else (some false)) else (some false)))
def oA (p0 : M.aH) : Option Bool :=
  fX p0 fuel 0
def gQ (p0 : M.Server) : Nat → Int → Option Bool
  | 0, _ => none
  | nL2 + 1, v4 => if (decide (v4 < (List.length p0.Changes : Int))) = true then ((idx p0.Changes v4).bind fun x29 => ((iH x29).bind fun x34 => (if (!x34) = true then (some false) else (gQ p0 nL2 (IntKind.i64.wrap (v4 + 1)))))) else ((oA p0.aH).bind fun x37 => (if x37 = true then (if (p0.aH.Name.toList == (⟨#[110, 111, 116, 101, 115]⟩ : ByteArray).toList) = true then (some (decide ((List.length p0.aG : Int) ≤ 60))) else (some false)) else (some false)))
def fL (p0 : M.Server) : Nat → Int → Option Bool
  | 0, _ => none
  | nL1 + 1, v3 => if (decide (v3 < (List.length p0.aG : Int))) = true then ((idx p0.aG v3).bind fun x6 => ((bG x6.Device 1 1000000).bind fun x11 => (if (!x11) = true then (some false) else ((bG x6.Seq 0 1000000).bind fun x14 => (if (!x14) = true then (some false) else (if (decide (v3 > 0)) = true then ((idx p0.aG (IntKind.i64.wrap (v3 - 1))).bind fun x18 => (if (decide (x18.Device ≥ x6.Device)) = true then (some false) else (fL p0 nL1 (IntKind.i64.wrap (v3 + 1))))) else (fL p0 nL1 (IntKind.i64.wrap (v3 + 1))))))))) else (gQ p0 fuel 0)
def uP (p0 : M.Server) : Option Bool :=
  fL p0 fuel 0
def kF (p0 : M.bJ) : Nat → Int → Option Bool
  | 0, _ => none
  | nL1 + 1, v3 => if (decide (v3 < (List.length p0.aM : Int))) = true then ((idx p0.aM v3).bind fun x6 => ((bZ x6.Path).bind fun x11 => (if (!x11) = true then (some false) else (if (x6.Version != p0.Version) = true then (some false) else (kF p0 nL1 (IntKind.i64.wrap (v3 + 1))))))) else ((bG p0.Id 1 1000000000000).bind fun x15 => (if x15 = true then ((bZ p0.Site).bind fun x18 => (if x18 = true then ((bZ p0.Top).bind fun x21 => (if x21 = true then ((bG p0.Version 1 1000000000000).bind fun x24 => (if x24 = true then (some (decide ((List.length p0.aM : Int) ≤ 8))) else (some false))) else (some false))) else (some false))) else (some false)))
def zU (p0 : M.bJ) : Option Bool :=
  kF p0 fuel 0
def fD (p0 : M.aK) (p1 : ByteArray) (p2 : ByteArray) : Nat → Int → Option Int
  | 0, _ => none
  | nL1 + 1, v7 => if (decide (v7 < (List.length p0.Buckets : Int))) = true then ((idx p0.Buckets v7).bind fun x8 => (if (x8.Site.toList == p1.toList) = true then (if (x8.Top.toList == p2.toList) = true then (some v7) else (fD p0 p1 p2 nL1 (IntKind.i64.wrap (v7 + 1)))) else (fD p0 p1 p2 nL1 (IntKind.i64.wrap (v7 + 1))))) else (some (-1))
def lG (p0 : M.aK) (p1 : ByteArray) (p2 : ByteArray) : Option Int :=
  fD p0 p1 p2 fuel 0
def bN (p0 : M.Registration) : Nat → Int → Int → Option Bool
  | 0, _, _ => none
  | nL1 + 1, v3, v5 => if (decide (v5 < ((3 : Nat) : Int))) = true then ((idx ([p0.Active, p0.Waiting, p0.Installing]) v5).bind fun x15 => ((bG x15 0 1000000000000).bind fun x20 => (if (!x20) = true then (some false) else (if (x15 != 0) = true then (if (decide (x15 ≤ v3)) = true then (some false) else (bN p0 nL1 x15 (IntKind.i64.wrap (v5 + 1)))) else (bN p0 nL1 v3 (IntKind.i64.wrap (v5 + 1))))))) else ((bZ p0.Site).bind fun x25 => (some x25))
def hJ (p0 : M.Registration) : Option Bool :=
  bN p0 fuel 0 0
def pJ (p0 : M.Response) : Option Bool :=
  (bG p0.Type_ 1 4).bind fun x1 => (if x1 = true then ((bG p0.Status 0 999).bind fun x4 => (if x4 = true then ((bG p0.Version 0 1000000000000).bind fun x7 => (if x7 = true then (some (decide ((List.length p0.Body : Int) ≤ 60))) else (some false))) else (some false))) else (some false))
def fC (p0 : List M.Cached) (v3 : Int) (x5 : M.Cached) (k20 : Int → Option Bool) : Nat → Int → Option Bool
  | 0, _ => none
  | nL2 + 1, v4_L2 => if (decide (v4_L2 < v3)) = true then ((idx p0 v4_L2).bind fun x26 => (if (x26.Site.toList == x5.Site.toList) = true then (if (x26.Path.toList == x5.Path.toList) = true then (some false) else (fC p0 v3 x5 k20 nL2 (IntKind.i64.wrap (v4_L2 + 1)))) else (fC p0 v3 x5 k20 nL2 (IntKind.i64.wrap (v4_L2 + 1))))) else (k20 v4_L2)
def eA (p0 : List M.Cached) : Nat → Int → Option Bool
  | 0, _ => none
  | nL1 + 1, v3 => if (decide (v3 < (List.length p0 : Int))) = true then ((idx p0 v3).bind fun x5 => ((bZ x5.Site).bind fun x10 => (if (!x10) = true then (some false) else ((bZ x5.Path).bind fun x13 => (if (!x13) = true then (some false) else ((pJ x5.Response).bind fun x16 => (if (!x16) = true then (some false) else (fC p0 v3 x5 (fun (v4_L2 : Int) => eA p0 nL1 (IntKind.i64.wrap (v3 + 1))) fuel 0)))))))) else (some (decide ((List.length p0 : Int) ≤ 12)))
def lC (p0 : List M.Cached) : Option Bool :=
  eA p0 fuel 0
def dZ (p0 : M.aT) : Nat → Int → Option Bool
  | 0, _ => none
  | nL1 + 1, v3 => if (decide (v3 < (List.length p0.Caches : Int))) = true then ((idx p0.Caches v3).bind fun x6 => ((bG x6.Version 1 1000000000000).bind fun x11 => (if (!x11) = true then (some false) else (if (decide (v3 > 0)) = true then ((idx p0.Caches (IntKind.i64.wrap (v3 - 1))).bind fun x15 => (if (decide (x15.Version ≥ x6.Version)) = true then (some false) else ((lC x6.Entries).bind fun x21 => (if (!x21) = true then (some false) else (dZ p0 nL1 (IntKind.i64.wrap (v3 + 1))))))) else ((lC x6.Entries).bind fun x24 => (if (!x24) = true then (some false) else (dZ p0 nL1 (IntKind.i64.wrap (v3 + 1))))))))) else (some (decide ((List.length p0.Caches : Int) ≤ 4)))
def pS (p0 : M.aT) : Option Bool :=
  dZ p0 fuel 0
def gZ (p0 : M.Database) (p1 : ByteArray) : Nat → Int → Option Int
  | 0, _ => none
  | nL1 + 1, v5 => if (decide (v5 < (List.length p0.Stores : Int))) = true then ((idx p0.Stores v5).bind fun x7 => (if (x7.Name.toList == p1.toList) = true then (some v5) else (gZ p0 p1 nL1 (IntKind.i64.wrap (v5 + 1))))) else (some (-1))
def sG (p0 : M.Database) (p1 : ByteArray) : Option Int :=
  gZ p0 p1 fuel 0
def jT (p0 : M.aU) (p1 : ByteArray) : Nat → Int → Option (Int × Bool)
  | 0, _ => none
  | nL1 + 1, v6 => if (decide (v6 < (List.length p0.Fields : Int))) = true then ((idx p0.Fields v6).bind fun x7 => (if (x7.Name.toList == p1.toList) = true then (some (x7.N, true)) else (jT p0 p1 nL1 (IntKind.i64.wrap (v6 + 1))))) else (some (0, false))
def jI (p0 : M.aU) (p1 : ByteArray) : Option (Int × Bool) :=
  jT p0 p1 fuel 0
def aAG (p0 : M.Item) (p1 : M.Item) (p2 : ByteArray) : Option Bool :=
  (jI p0.aU p2).bind fun x1 => ((jI p1.aU p2).bind fun x3 => (if (decide (x1.1 < x3.1)) = true then (some true) else (if (x1.1 == x3.1) = true then ((jL p0.Key p1.Key).bind fun x7 => (some (decide (x7 < 0)))) else (some false))))
def gC (p1 : ByteArray) (r50000 : List M.Item) (x15 : M.Item) (k24 : Int → Option (List M.Item)) : Nat → Int → Option (List M.Item)
  | 0, _ => none
  | nL2 + 1, v9_L2 => if (decide (v9_L2 > 0)) = true then ((idx r50000 (IntKind.i64.wrap (v9_L2 - 1))).bind fun x34 => ((aAG x15 x34 p1).bind fun x39 => (if x39 = true then (gC p1 r50000 x15 k24 nL2 (IntKind.i64.wrap (v9_L2 - 1))) else (k24 v9_L2)))) else (k24 v9_L2)
def gF (p0 : M.aH) (p1 : ByteArray) : Nat → Int → List M.Item → Option (List M.Item)
  | 0, _, _ => none
  | nL1 + 1, v6, r50000 => if (decide (v6 < (List.length p0.Items : Int))) = true then ((idx p0.Items v6).bind fun x15 => ((jI x15.aU p1).bind fun x20 => (if (!x20.2) = true then (gF p0 p1 nL1 (IntKind.i64.wrap (v6 + 1)) r50000) else (gC p1 r50000 x15 (fun (v9_L2 : Int) => (aHL r50000 v9_L2).bind fun x79 => ((app 56 ([] : List M.Item) (List.take v9_L2.toNat r50000)).bind fun x81 => ((wG x15).bind fun x93 => ((app 56 (List.take v9_L2.toNat r50000) ([x93])).bind fun x95 => ((app 56 ((List.take v9_L2.toNat r50000) ++ [x93]) (List.drop v9_L2.toNat r50000)).bind fun x107 => (gF p0 p1 nL1 (IntKind.i64.wrap (v6 + 1)) (((List.take v9_L2.toNat r50000) ++ [x93]) ++ (List.drop v9_L2.toNat r50000)))))))) fuel (List.length r50000 : Int))))) else (some r50000)
def xB (p0 : M.aH) (p1 : ByteArray) : Option (List M.Item) :=
  gF p0 p1 fuel 0 ([] : List M.Item)
def hY (p1 : ByteArray) (x1 : (List M.Item)) : Nat → Int → Option (M.Key × M.Key × Bool)
  | 0, _ => none
  | nL1 + 1, v8 => if (decide (v8 < (List.length x1 : Int))) = true then ((idx x1 (IntKind.i64.wrap (v8 - 1))).bind fun x13 => ((jI x13.aU p1).bind fun x18 => ((idx x1 v8).bind fun x20 => ((jI x20.aU p1).bind fun x25 => (if (x18.1 == x25.1) = true then (some (x13.Key, x20.Key, true)) else (hY p1 x1 nL1 (IntKind.i64.wrap (v8 + 1)))))))) else (some ((⟨0, 0, (⟨#[]⟩ : ByteArray)⟩ : M.Key), (⟨0, 0, (⟨#[]⟩ : ByteArray)⟩ : M.Key), false))
def nF (p0 : M.aH) (p1 : ByteArray) : Option (M.Key × M.Key × Bool) :=
  (xB p0 p1).bind fun x1 => (hY p1 x1 fuel 1)
def fB (p0 : M.Database) (v4 : Int) (x26 : M.aA) (k46 : Int → Option Bool) : Nat → Int → Option Bool
  | 0, _ => none
  | nL3 + 1, v9_L3 => if (decide (v9_L3 < v4)) = true then ((idx p0.Unique v9_L3).bind fun x53 => (if ((x53.aH.toList == x26.aH.toList) && (x53.Field.toList == x26.Field.toList)) = true then (some false) else (fB p0 v4 x26 k46 nL3 (IntKind.i64.wrap (v9_L3 + 1))))) else (k46 v9_L3)
def dV (p0 : M.Database) : Nat → Int → Option Bool
  | 0, _ => none
  | nL2 + 1, v4 => if (decide (v4 < (List.length p0.Unique : Int))) = true then ((idx p0.Unique v4).bind fun x26 => ((sG p0 x26.aH).bind fun x31 => (if (decide (x31 < 0)) = true then (some false) else ((bZ x26.Field).bind fun x34 => (if (!x34) = true then (some false) else ((idx p0.Stores x31).bind fun x37 => ((nF x37 x26.Field).bind fun x42 => (if x42.2.2 = true then (some false) else (fB p0 v4 x26 (fun (v9_L3 : Int) => dV p0 nL2 (IntKind.i64.wrap (v4 + 1))) fuel 0))))))))) else ((bZ p0.Name).bind fun x59 => (if x59 = true then ((bG p0.Version 0 1000).bind fun x62 => (if x62 = true then (if (decide ((List.length p0.Stores : Int) ≤ 4)) = true then (some (decide ((List.length p0.Unique : Int) ≤ 4))) else (some false)) else (some false))) else (some false)))
def eG (p0 : M.Database) : Nat → Int → Option Bool
  | 0, _ => none
  | nL1 + 1, v3 => if (decide (v3 < (List.length p0.Stores : Int))) = true then ((idx p0.Stores v3).bind fun x6 => ((oA x6).bind fun x11 => (if (!x11) = true then (some false) else (if (decide (v3 > 0)) = true then ((idx p0.Stores (IntKind.i64.wrap (v3 - 1))).bind fun x15 => (if (!(Op.bytesLess x15.Name.toList x6.Name.toList)) = true then (some false) else (eG p0 nL1 (IntKind.i64.wrap (v3 + 1))))) else (eG p0 nL1 (IntKind.i64.wrap (v3 + 1))))))) else (dV p0 fuel 0)
def qE (p0 : M.Database) : Option Bool :=
  eG p0 fuel 0
def iC (p0 : M.aV) : Nat → Int → Option Bool
  | 0, _ => none
  | nL1 + 1, v4 => if (decide (v4 < (List.length p0.Writes : Int))) = true then ((idx p0.Writes v4).bind fun x14 => ((iH x14).bind fun x19 => (if (!x19) = true then (some false) else (if (x14.Device != p0.Device) = true then (some false) else (if (x14.Seq != (IntKind.i64.wrap ((IntKind.i64.wrap (p0.Next - (List.length p0.Writes : Int))) + v4))) = true then (some false) else (iC p0 nL1 (IntKind.i64.wrap (v4 + 1)))))))) else (some true)
def vX (p0 : M.aV) : Option Bool :=
  (bG p0.Device 1 1000000).bind fun x1 => (if (!x1) = true then (some false) else ((bG p0.Next 1 1000000).bind fun x4 => (if (!x4) = true then (some false) else (if (decide ((List.length p0.Writes : Int) > 20)) = true then (some false) else (iC p0 fuel 0)))))
def tE (p0 : M.aC) : Option Bool :=
  (oA p0.Base).bind fun x1 => (if x1 = true then (if (p0.Base.Name.toList == (⟨#[110, 111, 116, 101, 115]⟩ : ByteArray).toList) = true then ((bG p0.Seen 0 1000000000000).bind fun x5 => (if x5 = true then ((vX p0.Sync.aV).bind fun x8 => (some x8)) else (some false))) else (some false)) else (some false))
def oP (p0 : M.Response) (p1 : Bool) : Option Int :=
  if p1 = true then (some 76) else (some (IntKind.i64.wrap (16 + (List.length p0.Body : Int))))
def gK (p0 : M.aT) (v4 : Int) (k8 : Int → Int → Option Int) : Nat → Int → Int → Option Int
  | 0, _, _ => none
  | nL2 + 1, v3_L2, v5_L2 => (idx p0.Caches v4).bind fun x15 => (if (decide (v5_L2 < (List.length x15.Entries : Int))) = true then ((idx x15.Entries v5_L2).bind fun x21 => ((oP x21.Response (x21.Response.Type_ == 3)).bind fun x26 => (gK p0 v4 k8 nL2 (IntKind.i64.wrap (v3_L2 + x26)) (IntKind.i64.wrap (v5_L2 + 1))))) else (k8 v3_L2 v5_L2))
def dX (p0 : M.aT) : Nat → Int → Int → Option Int
  | 0, _, _ => none
  | nL1 + 1, v3, v4 => if (decide (v4 < (List.length p0.Caches : Int))) = true then (gK p0 v4 (fun (v3_L2 : Int) (v5_L2 : Int) => dX p0 nL1 v3_L2 (IntKind.i64.wrap (v4 + 1))) fuel v3 0) else (some v3)
def qC (p0 : M.aT) : Option Int :=
  dX p0 fuel 0 0
def bX (p0 : M.Key) : Nat → Int → List Int → Option (List Int)
  | 0, _, _ => none
  | nL1 + 1, v4, r12 => if (decide (v4 ≥ 0)) = true then (if (p0.Kind != 2) = true then (if (decide (0 ≤ (IntKind.i64.wrap (8 * v4)))) = true then ((app 1 r12 ([(IntKind.u8.wrap (IntKind.i64.wrap (BitVec.ofInt (IntKind.i64.bits) (Int.fdiv (IntKind.i64.wrap (p0.N + 1000000000000)) (2 ^ (min (IntKind.i64.wrap (8 * v4)).toNat IntKind.i64.bits))) &&& BitVec.ofInt (IntKind.i64.bits) 255).toNat))])).bind fun x18 => (bX p0 nL1 (IntKind.i64.wrap (v4 - 1)) (r12 ++ [(IntKind.u8.wrap (IntKind.i64.wrap (BitVec.ofInt (IntKind.i64.bits) (Int.fdiv (IntKind.i64.wrap (p0.N + 1000000000000)) (2 ^ (min (IntKind.i64.wrap (8 * v4)).toNat IntKind.i64.bits))) &&& BitVec.ofInt (IntKind.i64.bits) 255).toNat))]))) else none) else ((app 1 r12 (kP p0.Text)).bind fun x26 => (some (r12 ++ (kP p0.Text))))) else ((app 1 r12 (kP p0.Text)).bind fun x28 => (some (r12 ++ (kP p0.Text))))
def tD (p0 : M.Key) : Option (List Int) :=
  (nV p0).bind fun x1 => (if (!x1) = true then (some ([] : List Int)) else (bX p0 fuel 5 ([(IntKind.u8.wrap p0.Kind)])))
def dH  : Nat → Int → List Int → Option (List Int)
  | 0, _, _ => none
  | nL1 + 1, v1, r6 => if (decide (v1 > 127)) = true then ((app 1 r6 ([(IntKind.u8.wrap (IntKind.i64.wrap (BitVec.ofInt (IntKind.i64.bits) (IntKind.i64.wrap (BitVec.ofInt (IntKind.i64.bits) v1 &&& BitVec.ofInt (IntKind.i64.bits) 127).toNat) ||| BitVec.ofInt (IntKind.i64.bits) 128).toNat))])).bind fun x15 => (dH nL1 (Int.fdiv v1 (2 ^ (min (7 : Int).toNat IntKind.i64.bits))) (r6 ++ [(IntKind.u8.wrap (IntKind.i64.wrap (BitVec.ofInt (IntKind.i64.bits) (IntKind.i64.wrap (BitVec.ofInt (IntKind.i64.bits) v1 &&& BitVec.ofInt (IntKind.i64.bits) 127).toNat) ||| BitVec.ofInt (IntKind.i64.bits) 128).toNat))]))) else ((app 1 r6 ([(IntKind.u8.wrap v1)])).bind fun x21 => (some (r6 ++ [(IntKind.u8.wrap v1)])))
def gM (p0 : List Int) (p1 : Int) : Option (List Int) :=
  (app 1 ([] : List Int) p0).bind fun x1 => ((bG p1 0 1000000000000).bind fun x7 => (if (!x7) = true then (some p0) else (dH fuel p1 p0)))
def nP (p0 : List Int) (p1 : List Int) : Option (List Int) :=
  (gM p0 (List.length p1 : Int)).bind fun x1 => ((app 1 x1 p1).bind fun x3 => (some (x1 ++ p1)))
def fK (p0 : M.aU) : Nat → Int → List Int → Option (List Int)
  | 0, _, _ => none
  | nL1 + 1, v4, r50000 => if (decide (v4 < (List.length p0.Fields : Int))) = true then ((idx p0.Fields v4).bind fun x18 => ((nP r50000 (kP x18.Name)).bind fun x23 => ((gM x23 x18.N).bind fun x25 => (fK p0 nL1 (IntKind.i64.wrap (v4 + 1)) x25)))) else (some r50000)
def lN (p0 : M.aU) : Option (List Int) :=
  (pQ p0).bind fun x1 => (if (!x1) = true then (some ([] : List Int)) else ((gM ([] : List Int) (List.length p0.Fields : Int)).bind fun x4 => (fK p0 fuel 0 x4)))
def gY (p0 : M.aH) : Nat → Int → Int → Option Int
  | 0, _, _ => none
  | nL1 + 1, v3, v4 => if (decide (v4 < (List.length p0.Items : Int))) = true then ((idx p0.Items v4).bind fun x7 => ((tD x7.Key).bind fun x12 => ((lN x7.aU).bind fun x14 => (gY p0 nL1 (IntKind.i64.wrap ((IntKind.i64.wrap (v3 + (List.length x12 : Int))) + (List.length x14 : Int))) (IntKind.i64.wrap (v4 + 1)))))) else (some v3)
def mO (p0 : M.aH) : Option Int :=
  gY p0 fuel 0 0
def fJ (p0 : M.Database) : Nat → Int → Int → Option Int
  | 0, _, _ => none
  | nL1 + 1, v3, v4 => if (decide (v4 < (List.length p0.Stores : Int))) = true then ((idx p0.Stores v4).bind fun x7 => ((mO x7).bind fun x12 => (fJ p0 nL1 (IntKind.i64.wrap (v3 + x12)) (IntKind.i64.wrap (v4 + 1))))) else (some v3)
def lS (p0 : M.Database) : Option Int :=
  fJ p0 fuel 0 0
def yY (p0 : M.bC) : Option Int :=
  (lS p0.Base).bind fun x1 => (some (IntKind.i64.wrap (x1 + (List.length p0.Log : Int))))
def xR (p0 : M.aE) : Option Int :=
  (qC p0.Caches).bind fun x1 => ((yY p0.bC).bind fun x3 => ((mO p0.aC.Base).bind fun x5 => (some (IntKind.i64.wrap ((IntKind.i64.wrap ((IntKind.i64.wrap (x1 + x3)) + x5)) + (IntKind.i64.wrap (40 * (List.length p0.aC.Sync.aV.Writes : Int))))))))
def pY (p0 : M.aE) : Option Bool :=
  (bZ p0.Site).bind fun x1 => (if x1 = true then ((bZ p0.Top).bind fun x4 => (if x4 = true then ((hJ p0.Registration).bind fun x7 => (if x7 = true then (if (p0.Registration.Site.toList == p0.Site.toList) = true then ((pS p0.Caches).bind fun x11 => (if x11 = true then ((qE p0.bC.Base).bind fun x14 => (if x14 = true then ((tE p0.aC).bind fun x17 => (if x17 = true then ((bG p0.LastUsed 0 1000000000000).bind fun x20 => (if x20 = true then ((xR p0).bind fun x23 => (some (decide (x23 ≤ 2500)))) else (some false))) else (some false))) else (some false))) else (some false))) else (some false)) else (some false))) else (some false))) else (some false))
def yH (p0 : M.aE) (p1 : ByteArray) (p2 : ByteArray) : Option Bool :=
  if (Op.bytesLess p0.Site.toList p1.toList) = true then (some true) else (if (p0.Site.toList == p1.toList) = true then (some (Op.bytesLess p0.Top.toList p2.toList)) else (some false))
def eV (p0 : M.aK) : Nat → Int → Option Bool
  | 0, _ => none
  | nL1 + 1, v3 => if (decide (v3 < (List.length p0.Buckets : Int))) = true then ((idx p0.Buckets v3).bind fun x6 => ((pY x6).bind fun x11 => (if (!x11) = true then (some false) else (if (decide (v3 > 0)) = true then ((idx p0.Buckets (IntKind.i64.wrap (v3 - 1))).bind fun x15 => ((yH x15 x6.Site x6.Top).bind fun x20 => (if (!x20) = true then (some false) else (eV p0 nL1 (IntKind.i64.wrap (v3 + 1)))))) else (eV p0 nL1 (IntKind.i64.wrap (v3 + 1))))))) else (some (decide ((List.length p0.Buckets : Int) ≤ 9)))
def mH (p0 : M.aK) : Option Bool :=
  eV p0 fuel 0
def cR (p0 : ByteArray) : Nat → Int → Option Bool
  | 0, _ => none
  | nL1 + 1, v3 => if (decide (v3 < (p0.size : Int))) = true then ((aLv p0 v3).bind fun x5 => (if (decide ((x5.toNat : Int) < 97)) = true then (if ((x5.toNat : Int) != 47) = true then (some false) else (cR p0 nL1 (IntKind.i64.wrap (v3 + 1)))) else (if (decide ((x5.toNat : Int) > 122)) = true then (if ((x5.toNat : Int) != 47) = true then (some false) else (cR p0 nL1 (IntKind.i64.wrap (v3 + 1)))) else (cR p0 nL1 (IntKind.i64.wrap (v3 + 1)))))) else ((bG (p0.size : Int) 1 30).bind fun x13 => (some x13))
def qJ (p0 : ByteArray) : Option Bool :=
  cR p0 fuel 0
def bV (p0 : M.aQ) (v3 : Int) (x6 : M.bY) (k18 : Int → Option Bool) : Nat → Int → Option Bool
  | 0, _ => none
  | nL2 + 1, v5_L2 => if (decide (v5_L2 < v3)) = true then ((idx p0.Locks v5_L2).bind fun x27 => (if x6.Held = true then (if (x27.Name.toList == x6.Name.toList) = true then (if (!x27.Held) = true then (some false) else (if (!x6.Shared) = true then (some false) else (if (!x27.Shared) = true then (some false) else (bV p0 v3 x6 k18 nL2 (IntKind.i64.wrap (v5_L2 + 1)))))) else (bV p0 v3 x6 k18 nL2 (IntKind.i64.wrap (v5_L2 + 1)))) else (bV p0 v3 x6 k18 nL2 (IntKind.i64.wrap (v5_L2 + 1))))) else (k18 v5_L2)
def eP (p0 : M.aQ) : Nat → Int → Option Bool
  | 0, _ => none
  | nL1 + 1, v3 => if (decide (v3 < (List.length p0.Locks : Int))) = true then ((idx p0.Locks v3).bind fun x6 => ((qJ x6.Name).bind fun x11 => (if (!x11) = true then (some false) else ((bG x6.bJ 1 1000000000000).bind fun x14 => (if (!x14) = true then (some false) else (bV p0 v3 x6 (fun (v5_L2 : Int) => eP p0 nL1 (IntKind.i64.wrap (v3 + 1))) fuel 0)))))) else (some (decide ((List.length p0.Locks : Int) ≤ 12)))
def nN (p0 : M.aQ) : Option Bool :=
  eP p0 fuel 0
def dB (p0 : M.World) : Nat → Int → Option Bool
  | 0, _ => none
  | nL2 + 1, v4 => if (decide (v4 < (List.length p0.Pages : Int))) = true then ((idx p0.Pages v4).bind fun x38 => ((zU x38).bind fun x43 => (if (!x43) = true then (some false) else (if (decide (x38.Id ≥ p0.NextPage)) = true then (some false) else (if (decide (v4 > 0)) = true then ((idx p0.Pages (IntKind.i64.wrap (v4 - 1))).bind fun x48 => (if (decide (x48.Id ≥ x38.Id)) = true then (some false) else ((lG p0.aK x38.Site x38.Top).bind fun x54 => (if (decide (x54 < 0)) = true then (some false) else (dB p0 nL2 (IntKind.i64.wrap (v4 + 1))))))) else ((lG p0.aK x38.Site x38.Top).bind fun x57 => (if (decide (x57 < 0)) = true then (some false) else (dB p0 nL2 (IntKind.i64.wrap (v4 + 1)))))))))) else ((bG p0.Now 0 999999990000).bind fun x60 => (if x60 = true then ((bG p0.Device 1 1000000).bind fun x63 => (if x63 = true then ((mH p0.aK).bind fun x66 => (if x66 = true then ((bG p0.NextPage 1 1000000000000).bind fun x69 => (if x69 = true then ((nN p0.Locks).bind fun x72 => (some x72)) else (some false))) else (some false))) else (some false))) else (some false)))
def hO (p0 : M.World) : Nat → Int → Option Bool
  | 0, _ => none
  | nL1 + 1, v3 => if (decide (v3 < 3)) = true then ((idx p0.Sites v3).bind fun x9 => ((qO x9).bind fun x14 => (if (!x14) = true then (some false) else ((qK).bind fun x17 => ((idx x17 v3).bind fun x19 => (if (!(x9.Name.toList == x19.toList)) = true then (some false) else ((idx p0.Servers v3).bind fun x25 => ((uP x25).bind fun x30 => (if (!x30) = true then (some false) else (hO p0 nL1 (IntKind.i64.wrap (v3 + 1)))))))))))) else (dB p0 fuel 0)
def xY (p0 : M.World) : Option Bool :=
  if ((List.length p0.Sites : Int) != 3) = true then (some false) else (if ((List.length p0.Servers : Int) != 3) = true then (some false) else (if (decide ((List.length p0.Pages : Int) > 6)) = true then (some false) else (hO p0 fuel 0)))
def aAI (p0 : Int) : Option Int :=
  if (decide (p0 > 1000000000000)) = true then (some p0) else (some (IntKind.i64.wrap (p0 + 1)))
def yA (p0 : M.Site) : Option (M.Site × Bool) :=
  (kS p0).bind fun x1 => ((aAI p0.Version).bind fun x3 => ((qO p0).bind fun x5 => (if (!x5) = true then ((kS p0).bind fun x8 => (some (x8, false))) else ((qO (⟨x1.Name, x3, x1.Files, x1.Shared⟩ : M.Site)).bind fun x10 => (if (!x10) = true then ((kS p0).bind fun x13 => (some (x13, false))) else (some ((⟨x1.Name, x3, x1.Files, x1.Shared⟩ : M.Site), true)))))))
def nG (p0 : M.World) (p1 : ByteArray) : Option (M.World × Bool) :=
  (xN p0).bind fun x1 => ((pK p1).bind fun x3 => ((xY p0).bind fun x5 => (if (!x5) = true then (some (x1, false)) else (if (decide (x3 < 0)) = true then (some (x1, false)) else ((idx p0.Sites x3).bind fun x9 => ((yA x9).bind fun x14 => ((idx x1.Sites x3).bind fun x16 => (some ((⟨x1.Now, x1.Online, x1.Device, x1.aK, x1.Pages, x1.NextPage, x1.Locks, x1.Channel, (List.set x1.Sites x3.toNat x14.1), x1.Servers⟩ : M.World), x14.2)))))))))
def iK (p0 : List Int) : Option (List Int) :=
  (app 1 ([] : List Int) p0).bind fun x1 => (some p0)
def lW (p0 : M.Response) : Option M.Response :=
  (iK p0.Body).bind fun x1 => (some (⟨p0.Type_, p0.Status, p0.Version, x1, p0.Shares⟩ : M.Response))
def fE (x11 : M.Cache) (k17 : Int → List M.Cached → Option M.aT) : Nat → Int → List M.Cached → Option M.aT
  | 0, _, _ => none
  | nL2 + 1, v23_L2, r50000_L2 => if (decide (v23_L2 < (List.length x11.Entries : Int))) = true then ((idx x11.Entries v23_L2).bind fun x34 => ((lW x34.Response).bind fun x39 => ((app 88 r50000_L2 ([(⟨x34.Site, x34.Path, x39⟩ : M.Cached)])).bind fun x41 => (fE x11 k17 nL2 (IntKind.i64.wrap (v23_L2 + 1)) (r50000_L2 ++ [(⟨x34.Site, x34.Path, x39⟩ : M.Cached)]))))) else (k17 v23_L2 r50000_L2)
def dS (p0 : M.aT) : Nat → Int → List M.Cache → Option M.aT
  | 0, _, _ => none
  | nL1 + 1, v13, r50100 => if (decide (v13 < (List.length p0.Caches : Int))) = true then ((idx p0.Caches v13).bind fun x11 => (fE x11 (fun (v23_L2 : Int) (r50000_L2 : List M.Cached) => (app 32 r50100 ([(⟨x11.Version, r50000_L2⟩ : M.Cache)])).bind fun x58 => (dS p0 nL1 (IntKind.i64.wrap (v13 + 1)) (r50100 ++ [(⟨x11.Version, r50000_L2⟩ : M.Cache)]))) fuel 0 ([] : List M.Cached))) else (some (⟨r50100⟩ : M.aT))
def lU (p0 : M.aT) : Option M.aT :=
  dS p0 fuel 0 ([] : List M.Cache)
def pE (p0 : M.aU) : Option M.aU :=
  (app 24 ([] : List M.Field) p0.Fields).bind fun x1 => (some p0)
def pG (p0 : M.Item) : Option M.Item :=
  (pE p0.aU).bind fun x1 => (some (⟨p0.Key, x1⟩ : M.Item))
def gW (p0 : M.aH) : Nat → Int → List M.Item → Option M.aH
  | 0, _, _ => none
  | nL1 + 1, v14, r50000 => if (decide (v14 < (List.length p0.Items : Int))) = true then ((idx p0.Items v14).bind fun x11 => ((pG x11).bind fun x16 => ((app 56 r50000 ([x16])).bind fun x18 => (gW p0 nL1 (IntKind.i64.wrap (v14 + 1)) (r50000 ++ [x16]))))) else (some (⟨p0.Name, r50000, p0.Auto⟩ : M.aH))
def kI (p0 : M.aH) : Option M.aH :=
  gW p0 fuel 0 ([] : List M.Item)
def fH (p0 : M.Database) : Nat → Int → List M.aH → Option M.Database
  | 0, _, _ => none
  | nL1 + 1, v18, r50000 => if (decide (v18 < (List.length p0.Stores : Int))) = true then ((idx p0.Stores v18).bind fun x22 => ((kI x22).bind fun x27 => ((app 48 r50000 ([x27])).bind fun x29 => (fH p0 nL1 (IntKind.i64.wrap (v18 + 1)) (r50000 ++ [x27]))))) else (some (⟨p0.Name, p0.Version, r50000, p0.Unique⟩ : M.Database))
def mA (p0 : M.Database) : Option M.Database :=
  (app 32 ([] : List M.aA) p0.Unique).bind fun x1 => (fH p0 fuel 0 ([] : List M.aH))
def vN (p0 : M.bC) : Option M.bC :=
  (mA p0.Base).bind fun x1 => ((iK p0.Log).bind fun x3 => (some (⟨x1, x3, p0.Count⟩ : M.bC)))
def oV (p0 : M.aV) : Option M.aV :=
  (app 72 ([] : List M.aW) p0.Writes).bind fun x1 => (some p0)
def uQ (p0 : M.Sync) : Option M.Sync :=
  (oV p0.aV).bind fun x1 => (some (⟨x1, p0.Tries, p0.WaitUntil⟩ : M.Sync))
def nY (p0 : M.aC) : Option M.aC :=
  (kI p0.Base).bind fun x1 => ((uQ p0.Sync).bind fun x3 => (some (⟨x1, p0.Seen, x3⟩ : M.aC)))
def pD (p0 : M.aE) : Option M.aE :=
  (lU p0.Caches).bind fun x1 => ((vN p0.bC).bind fun x3 => ((nY p0.aC).bind fun x5 => (some (⟨p0.Site, p0.Top, p0.Registration, x1, x3, x5, p0.LastUsed, p0.Persistent⟩ : M.aE))))
def fR (p0 : M.aK) : Nat → Int → List M.aE → Option M.aK
  | 0, _, _ => none
  | nL1 + 1, v10, r50000 => if (decide (v10 < (List.length p0.Buckets : Int))) = true then ((idx p0.Buckets v10).bind fun x11 => ((pD x11).bind fun x16 => ((app 328 r50000 ([x16])).bind fun x18 => (fR p0 nL1 (IntKind.i64.wrap (v10 + 1)) (r50000 ++ [x16]))))) else (some (⟨r50000⟩ : M.aK))
def mT (p0 : M.aK) : Option M.aK :=
  fR p0 fuel 0 ([] : List M.aE)
def nO (p0 : M.Machine) : Option M.Machine :=
  (app 40 ([] : List M.Instr) p0.Script).bind fun x1 => ((app 8 ([] : List Int) p0.Regs).bind fun x11 => (some p0))
def uT (p0 : M.bJ) : Option M.bJ :=
  (app 24 ([] : List M.aM) p0.aM).bind fun x1 => ((nO p0.Machine).bind fun x9 => (some (⟨p0.Id, p0.Site, p0.Top, p0.Version, p0.aM, x9⟩ : M.bJ)))
def hD (p0 : List M.bJ) : Nat → Int → List M.bJ → Option (List M.bJ)
  | 0, _, _ => none
  | nL1 + 1, v9, r6 => if (decide (v9 < (List.length p0 : Int))) = true then ((idx p0 v9).bind fun x12 => ((uT x12).bind fun x17 => ((app 144 r6 ([x17])).bind fun x19 => (hD p0 nL1 (IntKind.i64.wrap (v9 + 1)) (r6 ++ [x17]))))) else (some r6)
def sZ (p0 : List M.bJ) : Option (List M.bJ) :=
  hD p0 fuel 0 ([] : List M.bJ)
def rL (p0 : M.aQ) : Option M.aQ :=
  (app 32 ([] : List M.bY) p0.Locks).bind fun x1 => (some p0)
def nX (p0 : M.Channel) : Option M.Channel :=
  (app 24 ([] : List M.fA) p0.Mails).bind fun x1 => (some p0)
def jJ (p0 : M.Site) : Option M.Site :=
  (app 16 ([] : List ByteArray) p0.Files).bind fun x1 => (some p0)
def qD (p0 : M.Server) : Option M.Server :=
  (kI p0.aH).bind fun x1 => ((app 16 ([] : List M.aG) p0.aG).bind fun x3 => ((app 72 ([] : List M.aW) p0.Changes).bind fun x5 => (some (⟨x1, p0.aG, p0.Changes⟩ : M.Server))))
def eT (p0 : M.World) (x1 : M.aK) (x3 : (List M.bJ)) (x5 : M.aQ) (x7 : M.Channel) (r50000 : List M.Site) : Nat → Int → List M.Server → Option M.World
  | 0, _, _ => none
  | nL2 + 1, v45, r50100 => if (decide (v45 < (List.length p0.Servers : Int))) = true then ((idx p0.Servers v45).bind fun x64 => ((qD x64).bind fun x69 => ((app 96 r50100 ([x69])).bind fun x71 => (eT p0 x1 x3 x5 x7 r50000 nL2 (IntKind.i64.wrap (v45 + 1)) (r50100 ++ [x69]))))) else (some (⟨p0.Now, p0.Online, p0.Device, x1, x3, p0.NextPage, x5, x7, r50000, r50100⟩ : M.World))
def fS (p0 : M.World) (x1 : M.aK) (x3 : (List M.bJ)) (x5 : M.aQ) (x7 : M.Channel) : Nat → Int → List M.Site → Option M.World
  | 0, _, _ => none
  | nL1 + 1, v29, r50000 => if (decide (v29 < (List.length p0.Sites : Int))) = true then ((idx p0.Sites v29).bind fun x25 => ((jJ x25).bind fun x30 => ((app 56 r50000 ([x30])).bind fun x32 => (fS p0 x1 x3 x5 x7 nL1 (IntKind.i64.wrap (v29 + 1)) (r50000 ++ [x30]))))) else (eT p0 x1 x3 x5 x7 r50000 fuel 0 ([] : List M.Server))
def rK (p0 : M.World) : Option M.World :=
  (mT p0.aK).bind fun x1 => ((sZ p0.Pages).bind fun x3 => ((rL p0.Locks).bind fun x5 => ((nX p0.Channel).bind fun x7 => (fS p0 x1 x3 x5 x7 fuel 0 ([] : List M.Site)))))
def eL (p0 : List ByteArray) (p1 : ByteArray) : Nat → Int → Option Int
  | 0, _ => none
  | nL1 + 1, v8 => if (decide (v8 < (List.length p0 : Int))) = true then ((idx p0 v8).bind fun x7 => (if (p1.toList == x7.toList) = true then (some v8) else (eL p0 p1 nL1 (IntKind.i64.wrap (v8 + 1))))) else (some (-1))
def nJ (p0 : List ByteArray) (p1 : ByteArray) : Option Int :=
  eL p0 p1 fuel 0
def lD (p0 : ByteArray) : Option Int :=
  (nJ ([(⟨#[98, 97, 110, 107]⟩ : ByteArray), (⟨#[110, 101, 119, 115]⟩ : ByteArray), (⟨#[115, 104, 111, 112]⟩ : ByteArray)]) p0).bind fun x1 => (some x1)
def aZ (p0 : Int) (p1 : Int) (p2 : Int) : Option Bool :=
  if (decide (p1 ≤ p0)) = true then (some (decide (p0 ≤ p2))) else (some false)
def fW (p0 : ByteArray) (p1 : Int) (p2 : Bool) : Nat → Int → Option Bool
  | 0, _ => none
  | nL1 + 1, v7 => if (decide (v7 < (p0.size : Int))) = true then ((aLv p0 v7).bind fun x7 => (if (decide ((x7.toNat : Int) ≥ 97)) = true then (if (decide ((x7.toNat : Int) ≤ 122)) = true then (fW p0 p1 p2 nL1 (IntKind.i64.wrap (v7 + 1))) else (if p2 = true then (if (!((x7.toNat : Int) == 47)) = true then (some false) else (fW p0 p1 p2 nL1 (IntKind.i64.wrap (v7 + 1)))) else (some false))) else (if p2 = true then (if (!((x7.toNat : Int) == 47)) = true then (some false) else (fW p0 p1 p2 nL1 (IntKind.i64.wrap (v7 + 1)))) else (some false)))) else ((aZ (p0.size : Int) 1 p1).bind fun x17 => (some x17))
def wJ (p0 : ByteArray) (p1 : Int) (p2 : Bool) : Option Bool :=
  fW p0 p1 p2 fuel 0
def bS (p0 : ByteArray) : Option Bool :=
  (wJ p0 8 false).bind fun x1 => (some x1)
def cP (p0 : M.Registration) : Nat → Int → Int → Option Bool
  | 0, _, _ => none
  | nL1 + 1, v3, v14 => if (decide (v14 < ((3 : Nat) : Int))) = true then ((idx ([p0.Active, p0.Waiting, p0.Installing]) v14).bind fun x18 => ((aZ x18 0 1000000000000).bind fun x23 => (if (!x23) = true then (some false) else (if (x18 != 0) = true then (if (decide (x18 ≤ v3)) = true then (some false) else (cP p0 nL1 (if x18 > v3 then x18 else v3) (IntKind.i64.wrap (v14 + 1)))) else (cP p0 nL1 (if x18 > v3 then x18 else v3) (IntKind.i64.wrap (v14 + 1))))))) else ((bS p0.Site).bind fun x28 => (some x28))
def nK (p0 : M.Registration) : Option Bool :=
  cP p0 fuel 0 0
def sO (p0 : M.Cached) (c0 : ByteArray) (c1 : ByteArray) : Option Bool :=
  if (p0.Site.toList == c0.toList) = true then (some (p0.Path.toList == c1.toList)) else (some false)
def bQ (p0 : List M.Cached) (p1 : M.Cached → Option Bool) : Nat → Int → Option Int
  | 0, _ => none
  | nL1 + 1, v8 => if (decide (v8 < (List.length p0 : Int))) = true then ((idx p0 v8).bind fun x7 => ((p1 x7).bind fun x12 => (if x12 = true then (some v8) else (bQ p0 p1 nL1 (IntKind.i64.wrap (v8 + 1)))))) else (some (-1))
def gS (p0 : List M.Cached) (p1 : M.Cached → Option Bool) : Option Int :=
  bQ p0 p1 fuel 0
def tN (p0 : M.Cache) (p1 : ByteArray) (p2 : ByteArray) : Option Int :=
  (gS p0.Entries (fun z0 => sO z0 p1 p2)).bind fun x1 => (some x1)
def lB (p0 : M.Response) : Option Bool :=
  (aZ p0.Type_ 1 4).bind fun x1 => (if x1 = true then ((aZ p0.Status 0 999).bind fun x4 => (if x4 = true then ((aZ p0.Version 0 1000000000000).bind fun x7 => (if x7 = true then (some (decide ((List.length p0.Body : Int) ≤ 60))) else (some false))) else (some false))) else (some false))
def eC (x8 : M.Cache) (k25 : Int → Option Bool) : Nat → Int → Option Bool
  | 0, _ => none
  | nL2 + 1, v44_L2 => if (decide (v44_L2 < (List.length x8.Entries : Int))) = true then ((idx x8.Entries v44_L2).bind fun x38 => ((bS x38.Site).bind fun x43 => (if (!x43) = true then (some false) else ((bS x38.Path).bind fun x46 => (if (!x46) = true then (some false) else ((tN x8 x38.Site x38.Path).bind fun x49 => (if (x49 != v44_L2) = true then (some false) else ((lB x38.Response).bind fun x52 => (if (!x52) = true then (some false) else (eC x8 k25 nL2 (IntKind.i64.wrap (v44_L2 + 1)))))))))))) else (k25 v44_L2)
def eE (x8 : M.Cache) (k57 : Int → Option Bool) : Nat → Int → Option Bool
  | 0, _ => none
  | nL3 + 1, v44_L3 => if (decide (v44_L3 < (List.length x8.Entries : Int))) = true then ((idx x8.Entries v44_L3).bind fun x70 => ((bS x70.Site).bind fun x75 => (if (!x75) = true then (some false) else ((bS x70.Path).bind fun x78 => (if (!x78) = true then (some false) else ((tN x8 x70.Site x70.Path).bind fun x81 => (if (x81 != v44_L3) = true then (some false) else ((lB x70.Response).bind fun x84 => (if (!x84) = true then (some false) else (eE x8 k57 nL3 (IntKind.i64.wrap (v44_L3 + 1)))))))))))) else (k57 v44_L3)
def eB (p0 : M.aT) : Nat → Int → Option Bool
  | 0, _ => none
  | nL1 + 1, v10 => if (decide (v10 < (List.length p0.Caches : Int))) = true then ((idx p0.Caches v10).bind fun x8 => ((aZ x8.Version 1 1000000000000).bind fun x13 => (if (!x13) = true then (some false) else (if (decide (v10 > 0)) = true then ((idx p0.Caches (IntKind.i64.wrap (v10 - 1))).bind fun x17 => (if (decide (x8.Version ≤ x17.Version)) = true then (some false) else (if (decide ((List.length x8.Entries : Int) > 12)) = true then (some false) else (eC x8 (fun (v44_L2 : Int) => eB p0 nL1 (IntKind.i64.wrap (v10 + 1))) fuel 0)))) else (if (decide ((List.length x8.Entries : Int) > 12)) = true then (some false) else (eE x8 (fun (v44_L3 : Int) => eB p0 nL1 (IntKind.i64.wrap (v10 + 1))) fuel 0)))))) else (some (decide ((List.length p0.Caches : Int) ≤ 4)))
def pO (p0 : M.aT) : Option Bool :=
  eB p0 fuel 0
def dO (p0 : ByteArray) : Nat → Int → Option Bool
  | 0, _ => none
  | nL1 + 1, v3 => if (decide (v3 < (p0.size : Int))) = true then ((aLv p0 v3).bind fun x5 => (if (decide ((x5.toNat : Int) ≥ 97)) = true then (if (decide ((x5.toNat : Int) ≤ 122)) = true then (dO p0 nL1 (IntKind.i64.wrap (v3 + 1))) else (if (decide ((x5.toNat : Int) ≥ 48)) = true then (if (!(decide ((x5.toNat : Int) ≤ 57))) = true then (some false) else (dO p0 nL1 (IntKind.i64.wrap (v3 + 1)))) else (some false))) else (if (decide ((x5.toNat : Int) ≥ 48)) = true then (if (!(decide ((x5.toNat : Int) ≤ 57))) = true then (some false) else (dO p0 nL1 (IntKind.i64.wrap (v3 + 1)))) else (some false)))) else (some (decide ((p0.size : Int) ≤ 12)))
def rP (p0 : ByteArray) : Option Bool :=
  dO p0 fuel 0
def nL (p0 : M.Key) : Option Bool :=
  (aZ p0.Kind 1 3).bind fun x1 => (if (!x1) = true then (some false) else ((aZ p0.N (-1000000000000) 1000000000000).bind fun x4 => (if (!x4) = true then (some false) else ((rP p0.Text).bind fun x7 => (if (!x7) = true then (some false) else (if (p0.Kind == 2) = true then (if (!(p0.N != 0)) = true then (if (p0.Kind == 1) = true then (some (!(!(p0.Text.toList == (⟨#[]⟩ : ByteArray).toList)))) else (some true)) else (some false)) else (if (p0.Kind == 1) = true then (some (!(!(p0.Text.toList == (⟨#[]⟩ : ByteArray).toList)))) else (some true))))))))
def fP (p0 : M.aU) : Nat → Int → Option Bool
  | 0, _ => none
  | nL1 + 1, v8 => if (decide (v8 < (List.length p0.Fields : Int))) = true then ((idx p0.Fields v8).bind fun x8 => ((bS x8.Name).bind fun x13 => (if (!x13) = true then (some false) else ((aZ x8.N 0 1000000000).bind fun x16 => (if (!x16) = true then (some false) else (if (decide (v8 > 0)) = true then ((idx p0.Fields (IntKind.i64.wrap (v8 - 1))).bind fun x20 => (if (Op.bytesLess x8.Name.toList x20.Name.toList || x8.Name.toList == x20.Name.toList) = true then (some false) else (fP p0 nL1 (IntKind.i64.wrap (v8 + 1))))) else (fP p0 nL1 (IntKind.i64.wrap (v8 + 1))))))))) else (some (decide ((List.length p0.Fields : Int) ≤ 6)))
def pP (p0 : M.aU) : Option Bool :=
  fP p0 fuel 0
def nA (p0 : Int) (p1 : Int) : Option Int :=
  if (decide (p0 < p1)) = true then (some (-1)) else (if (decide (p0 > p1)) = true then (some 1) else (some 0))
def iM (p0 : ByteArray) (p1 : ByteArray) : Option Int := some (Lib.compareBytes p0.data.toList p1.data.toList)
def wF (p0 : ByteArray) (p1 : ByteArray) : Option Int :=
  (iM p0 p1).bind fun x1 => (some x1)
def jQ (p0 : M.Key) (p1 : M.Key) : Option Int :=
  (nL p0).bind fun x1 => (if (!x1) = true then (some 0) else ((nL p1).bind fun x4 => (if (!x4) = true then (some 0) else ((nA p0.Kind p1.Kind).bind fun x7 => (if (x7 != 0) = true then (some x7) else ((nA p0.N p1.N).bind fun x10 => (if (x10 != 0) = true then (some x10) else ((wF p0.Text p1.Text).bind fun x13 => (some x13)))))))))
def gA (p0 : M.aH) : Nat → Int → Option Bool
  | 0, _ => none
  | nL1 + 1, v8 => if (decide (v8 < (List.length p0.Items : Int))) = true then ((idx p0.Items v8).bind fun x8 => ((nL x8.Key).bind fun x13 => (if (!x13) = true then (some false) else ((pP x8.aU).bind fun x16 => (if (!x16) = true then (some false) else (if (decide (v8 > 0)) = true then ((idx p0.Items (IntKind.i64.wrap (v8 - 1))).bind fun x20 => ((jQ x20.Key x8.Key).bind fun x25 => (if (decide (x25 ≥ 0)) = true then (some false) else (gA p0 nL1 (IntKind.i64.wrap (v8 + 1)))))) else (gA p0 nL1 (IntKind.i64.wrap (v8 + 1))))))))) else ((bS p0.Name).bind fun x28 => (if x28 = true then (if (decide ((List.length p0.Items : Int) ≤ 16)) = true then ((aZ p0.Auto 0 1000000).bind fun x32 => (some x32)) else (some false)) else (some false)))
def nZ (p0 : M.aH) : Option Bool :=
  gA p0 fuel 0
def nE (p0 : M.aH) (c0 : ByteArray) : Option Bool :=
  some (p0.Name.toList == c0.toList)
def bT (p0 : List M.aH) (p1 : M.aH → Option Bool) : Nat → Int → Option Int
  | 0, _ => none
  | nL1 + 1, v8 => if (decide (v8 < (List.length p0 : Int))) = true then ((idx p0 v8).bind fun x7 => ((p1 x7).bind fun x12 => (if x12 = true then (some v8) else (bT p0 p1 nL1 (IntKind.i64.wrap (v8 + 1)))))) else (some (-1))
def hT (p0 : List M.aH) (p1 : M.aH → Option Bool) : Option Int :=
  bT p0 p1 fuel 0
def rN (p0 : M.Database) (p1 : ByteArray) : Option Int :=
  (hT p0.Stores (fun z0 => nE z0 p1)).bind fun x1 => (some x1)
def dA (p0 : List M.aA) (p1 : M.aA) : Nat → Int → Option Int
  | 0, _ => none
  | nL1 + 1, v8 => if (decide (v8 < (List.length p0 : Int))) = true then ((idx p0 v8).bind fun x8 => (if ((p1.aH.toList == x8.aH.toList) && (p1.Field.toList == x8.Field.toList)) = true then (some v8) else (dA p0 p1 nL1 (IntKind.i64.wrap (v8 + 1))))) else (some (-1))
def iE (p0 : List M.aA) (p1 : M.aA) : Option Int :=
  dA p0 p1 fuel 0
def gH (p0 : List M.aA) (p1 : M.aA) : Option Bool :=
  (iE p0 p1).bind fun x1 => (some (decide (x1 ≥ 0)))
def rH (p0 : M.Field) (c0 : ByteArray) : Option Bool :=
  some (p0.Name.toList == c0.toList)
def bU (p0 : List M.Field) (p1 : M.Field → Option Bool) : Nat → Int → Option Int
  | 0, _ => none
  | nL1 + 1, v8 => if (decide (v8 < (List.length p0 : Int))) = true then ((idx p0 v8).bind fun x7 => ((p1 x7).bind fun x12 => (if x12 = true then (some v8) else (bU p0 p1 nL1 (IntKind.i64.wrap (v8 + 1)))))) else (some (-1))
def hU (p0 : List M.Field) (p1 : M.Field → Option Bool) : Option Int :=
  bU p0 p1 fuel 0
def aAe (p0 : M.aU) (p1 : ByteArray) : Option Int :=
  (hU p0.Fields (fun z0 => rH z0 p1)).bind fun x1 => (some x1)
def iB (p0 : M.aU) (p1 : ByteArray) : Option (Int × Bool) :=
  (aAe p0 p1).bind fun x1 => (if (decide (x1 < 0)) = true then (some (0, false)) else ((idx p0.Fields x1).bind fun x4 => (some (x4.N, true))))
def nD (p0 : M.Item) (p1 : M.Item) (p2 : ByteArray) : Option Bool :=
  (iB p0.aU p2).bind fun x1 => ((iB p1.aU p2).bind fun x3 => (if (decide (x1.1 < x3.1)) = true then (some true) else (if (x1.1 == x3.1) = true then ((jQ p0.Key p1.Key).bind fun x7 => (some (decide (x7 < 0)))) else (some false))))
def gG (p1 : ByteArray) (r11 : List M.Item) (x15 : M.Item) (k24 : Int → Option (List M.Item)) : Nat → Int → Option (List M.Item)
  | 0, _ => none
  | nL2 + 1, v10_L2 => if (decide (v10_L2 > 0)) = true then ((idx r11 (IntKind.i64.wrap (v10_L2 - 1))).bind fun x36 => ((nD x15 x36 p1).bind fun x41 => (if x41 = true then (gG p1 r11 x15 k24 nL2 (IntKind.i64.wrap (v10_L2 - 1))) else (k24 v10_L2)))) else (k24 v10_L2)
def gB (p0 : M.aH) (p1 : ByteArray) : Nat → Int → List M.Item → Option (List M.Item)
  | 0, _, _ => none
  | nL1 + 1, v15, r11 => if (decide (v15 < (List.length p0.Items : Int))) = true then ((idx p0.Items v15).bind fun x15 => ((iB x15.aU p1).bind fun x20 => (if (!x20.2) = true then (gB p0 p1 nL1 (IntKind.i64.wrap (v15 + 1)) r11) else (gG p1 r11 x15 (fun (v10_L2 : Int) => (pG x15).bind fun x55 => ((aLY 56 r11 v10_L2 ([x55])).bind fun x57 => (gB p0 p1 nL1 (IntKind.i64.wrap (v15 + 1)) (List.take v10_L2.toNat r11 ++ ([x55] ++ List.drop v10_L2.toNat r11))))) fuel (List.length r11 : Int))))) else (some r11)
def wY (p0 : M.aH) (p1 : ByteArray) : Option (List M.Item) :=
  gB p0 p1 fuel 0 ([] : List M.Item)
def eO (p1 : ByteArray) (x1 : (List M.Item)) : Nat → Int → Option (M.Key × M.Key × Bool)
  | 0, _ => none
  | nL1 + 1, v8 => if (decide (v8 < (List.length x1 : Int))) = true then ((idx x1 (IntKind.i64.wrap (v8 - 1))).bind fun x13 => ((iB x13.aU p1).bind fun x18 => ((idx x1 v8).bind fun x20 => ((iB x20.aU p1).bind fun x25 => (if (x18.1 == x25.1) = true then (some (x13.Key, x20.Key, true)) else (eO p1 x1 nL1 (IntKind.i64.wrap (v8 + 1)))))))) else (some ((⟨0, 0, (⟨#[]⟩ : ByteArray)⟩ : M.Key), (⟨0, 0, (⟨#[]⟩ : ByteArray)⟩ : M.Key), false))
def gO (p0 : M.aH) (p1 : ByteArray) : Option (M.Key × M.Key × Bool) :=
  (wY p0 p1).bind fun x1 => (eO p1 x1 fuel 1)
def cQ (p0 : M.Database) : Nat → Int → Option Bool
  | 0, _ => none
  | nL2 + 1, v64 => if (decide (v64 < (List.length p0.Unique : Int))) = true then ((idx p0.Unique v64).bind fun x38 => ((rN p0 x38.aH).bind fun x43 => (if (decide (x43 < 0)) = true then (some false) else ((bS x38.Field).bind fun x46 => (if (!x46) = true then (some false) else ((aHL p0.Unique v64).bind fun x49 => ((gH (List.take v64.toNat p0.Unique) x38).bind fun x51 => (if x51 = true then (some false) else ((idx p0.Stores x43).bind fun x54 => ((gO x54 x38.Field).bind fun x59 => (if x59.2.2 = true then (some false) else (cQ p0 nL2 (IntKind.i64.wrap (v64 + 1)))))))))))))) else (some true)
def cU (p0 : M.Database) : Nat → Int → Option Bool
  | 0, _ => none
  | nL1 + 1, v36 => if (decide (v36 < (List.length p0.Stores : Int))) = true then ((idx p0.Stores v36).bind fun x16 => ((nZ x16).bind fun x21 => (if (!x21) = true then (some false) else (if (decide (v36 > 0)) = true then ((idx p0.Stores (IntKind.i64.wrap (v36 - 1))).bind fun x25 => (if (Op.bytesLess x16.Name.toList x25.Name.toList || x16.Name.toList == x25.Name.toList) = true then (some false) else (cU p0 nL1 (IntKind.i64.wrap (v36 + 1))))) else (cU p0 nL1 (IntKind.i64.wrap (v36 + 1))))))) else (cQ p0 fuel 0)
def pI (p0 : M.Database) : Option Bool :=
  (bS p0.Name).bind fun x1 => (if (!x1) = true then (some false) else ((aZ p0.Version 0 1000).bind fun x4 => (if (!x4) = true then (some false) else (if (decide ((List.length p0.Stores : Int) > 4)) = true then (some false) else (if (decide ((List.length p0.Unique : Int) > 4)) = true then (some false) else (cU p0 fuel 0))))))
def iI (p0 : M.aW) : Option Bool :=
  (aZ p0.Device 1 1000000).bind fun x1 => (if x1 = true then ((aZ p0.Seq 1 1000000).bind fun x4 => (if x4 = true then ((nL p0.Key).bind fun x7 => (if x7 = true then ((bS p0.Field).bind fun x10 => (if x10 = true then ((aZ p0.N 0 1000000000).bind fun x13 => (some x13)) else (some false))) else (some false))) else (some false))) else (some false))
def iD (p0 : M.aV) : Nat → Int → Option Bool
  | 0, _ => none
  | nL1 + 1, v12 => if (decide (v12 < (List.length p0.Writes : Int))) = true then ((idx p0.Writes v12).bind fun x9 => ((iI x9).bind fun x14 => (if (!x14) = true then (some false) else (if (x9.Device != p0.Device) = true then (some false) else (if (x9.Seq != (IntKind.i64.wrap ((IntKind.i64.wrap (p0.Next - (List.length p0.Writes : Int))) + v12))) = true then (some false) else (iD p0 nL1 (IntKind.i64.wrap (v12 + 1)))))))) else ((aZ p0.Device 1 1000000).bind fun x19 => (if x19 = true then ((aZ p0.Next 1 1000000).bind fun x22 => (if x22 = true then (some (decide ((List.length p0.Writes : Int) ≤ 20))) else (some false))) else (some false)))
def uE (p0 : M.aV) : Option Bool :=
  iD p0 fuel 0
def sS (p0 : M.aC) : Option Bool :=
  (nZ p0.Base).bind fun x1 => (if x1 = true then (if (p0.Base.Name.toList == (⟨#[110, 111, 116, 101, 115]⟩ : ByteArray).toList) = true then ((aZ p0.Seen 0 1000000000000).bind fun x5 => (if x5 = true then ((uE p0.Sync.aV).bind fun x8 => (some x8)) else (some false))) else (some false)) else (some false))
def pH (p0 : M.Response) (p1 : Bool) : Option Int :=
  if p1 = true then (some 76) else (some (IntKind.i64.wrap (16 + (List.length p0.Body : Int))))
def gL (x7 : M.Cache) (k13 : Int → Int → Option Int) : Nat → Int → Int → Option Int
  | 0, _, _ => none
  | nL2 + 1, v3_L2, v18_L2 => if (decide (v18_L2 < (List.length x7.Entries : Int))) = true then ((idx x7.Entries v18_L2).bind fun x23 => ((pH x23.Response (x23.Response.Type_ == 3)).bind fun x28 => (gL x7 k13 nL2 (IntKind.i64.wrap (v3_L2 + x28)) (IntKind.i64.wrap (v18_L2 + 1))))) else (k13 v3_L2 v18_L2)
def eD (p0 : M.aT) : Nat → Int → Int → Option Int
  | 0, _, _ => none
  | nL1 + 1, v3, v11 => if (decide (v11 < (List.length p0.Caches : Int))) = true then ((idx p0.Caches v11).bind fun x7 => (gL x7 (fun (v3_L2 : Int) (v18_L2 : Int) => eD p0 nL1 v3_L2 (IntKind.i64.wrap (v11 + 1))) fuel v3 0)) else (some v3)
def oO (p0 : M.aT) : Option Int :=
  eD p0 fuel 0 0
def dJ (p0 : M.Key) : Nat → Int → List Int → Option (List Int)
  | 0, _, _ => none
  | nL1 + 1, v4, r12 => if (decide (v4 ≥ 0)) = true then (if (decide (0 ≤ (IntKind.i64.wrap (8 * v4)))) = true then ((app 1 r12 ([(IntKind.u8.wrap (Int.fdiv (IntKind.i64.wrap (p0.N + 1000000000000)) (2 ^ (min (IntKind.i64.wrap (8 * v4)).toNat IntKind.i64.bits))))])).bind fun x18 => (dJ p0 nL1 (IntKind.i64.wrap (v4 - 1)) (r12 ++ [(IntKind.u8.wrap (Int.fdiv (IntKind.i64.wrap (p0.N + 1000000000000)) (2 ^ (min (IntKind.i64.wrap (8 * v4)).toNat IntKind.i64.bits))))]))) else none) else ((app 1 r12 (kP p0.Text)).bind fun x26 => (some (r12 ++ kP p0.Text)))
def tF (p0 : M.Key) : Option (List Int) :=
  (nL p0).bind fun x1 => (if (!x1) = true then (some ([] : List Int)) else (if (p0.Kind != 2) = true then (dJ p0 fuel 5 ([(IntKind.u8.wrap p0.Kind)])) else ((app 1 ([(IntKind.u8.wrap p0.Kind)]) (kP p0.Text)).bind fun x28 => (some ([(IntKind.u8.wrap p0.Kind)] ++ kP p0.Text)))))
def eQ  : Nat → Int → List Int → Option (List Int)
  | 0, _, _ => none
  | nL1 + 1, v1, r7 => if (decide (v1 ≥ 128)) = true then ((app 1 r7 ([(IntKind.u8.wrap (IntKind.i64.wrap ((Int.tmod v1 128) + 128)))])).bind fun x11 => (eQ nL1 (IntKind.i64.wrap (Int.tdiv v1 128)) (r7 ++ [(IntKind.u8.wrap (IntKind.i64.wrap ((Int.tmod v1 128) + 128)))]))) else ((app 1 r7 ([(IntKind.u8.wrap v1)])).bind fun x17 => (some (r7 ++ [(IntKind.u8.wrap v1)])))
def gN (p0 : List Int) (p1 : Int) : Option (List Int) :=
  (iK p0).bind fun x1 => ((aZ p1 0 1000000000000).bind fun x3 => (if (!x3) = true then (some x1) else (eQ fuel p1 x1)))
def mS (p0 : List Int) (p1 : List Int) : Option (List Int) :=
  (gN p0 (List.length p1 : Int)).bind fun x1 => ((app 1 x1 p1).bind fun x3 => (some (x1 ++ p1)))
def fF (p0 : M.aU) : Nat → Int → List Int → Option (List Int)
  | 0, _, _ => none
  | nL1 + 1, v17, r50000 => if (decide (v17 < (List.length p0.Fields : Int))) = true then ((idx p0.Fields v17).bind fun x13 => ((mS r50000 (kP x13.Name)).bind fun x18 => ((gN x18 x13.N).bind fun x20 => (fF p0 nL1 (IntKind.i64.wrap (v17 + 1)) x20)))) else (some r50000)
def lX (p0 : M.aU) : Option (List Int) :=
  (pP p0).bind fun x1 => (if (!x1) = true then (some ([] : List Int)) else ((gN ([] : List Int) (List.length p0.Fields : Int)).bind fun x4 => (fF p0 fuel 0 x4)))
def gX (p0 : M.aH) : Nat → Int → Int → Option Int
  | 0, _, _ => none
  | nL1 + 1, v3, v9 => if (decide (v9 < (List.length p0.Items : Int))) = true then ((idx p0.Items v9).bind fun x7 => ((tF x7.Key).bind fun x12 => ((lX x7.aU).bind fun x14 => (gX p0 nL1 (IntKind.i64.wrap (v3 + (IntKind.i64.wrap ((List.length x12 : Int) + (List.length x14 : Int))))) (IntKind.i64.wrap (v9 + 1)))))) else (some v3)
def mM (p0 : M.aH) : Option Int :=
  gX p0 fuel 0 0
def fG (p0 : M.Database) : Nat → Int → Int → Option Int
  | 0, _, _ => none
  | nL1 + 1, v3, v9 => if (decide (v9 < (List.length p0.Stores : Int))) = true then ((idx p0.Stores v9).bind fun x7 => ((mM x7).bind fun x12 => (fG p0 nL1 (IntKind.i64.wrap (v3 + x12)) (IntKind.i64.wrap (v9 + 1))))) else (some v3)
def lR (p0 : M.Database) : Option Int :=
  fG p0 fuel 0 0
def zJ (p0 : M.bC) : Option Int :=
  (lR p0.Base).bind fun x1 => (some (IntKind.i64.wrap (x1 + (List.length p0.Log : Int))))
def xK (p0 : M.aE) : Option Int :=
  (oO p0.Caches).bind fun x1 => ((zJ p0.bC).bind fun x3 => ((mM p0.aC.Base).bind fun x5 => (some (IntKind.i64.wrap ((IntKind.i64.wrap ((IntKind.i64.wrap (x1 + x3)) + x5)) + (IntKind.i64.wrap (40 * (List.length p0.aC.Sync.aV.Writes : Int))))))))
def qG (p0 : M.aE) : Option Bool :=
  (bS p0.Site).bind fun x1 => (if x1 = true then ((bS p0.Top).bind fun x4 => (if x4 = true then ((nK p0.Registration).bind fun x7 => (if x7 = true then (if (p0.Registration.Site.toList == p0.Site.toList) = true then ((pO p0.Caches).bind fun x11 => (if x11 = true then ((pI p0.bC.Base).bind fun x14 => (if x14 = true then ((sS p0.aC).bind fun x17 => (if x17 = true then ((aZ p0.LastUsed 0 1000000000000).bind fun x20 => (if x20 = true then ((xK p0).bind fun x23 => (some (decide (x23 ≤ 2500)))) else (some false))) else (some false))) else (some false))) else (some false))) else (some false)) else (some false))) else (some false))) else (some false))
def lP (p0 : M.aE) (p1 : M.aE) : Option Bool :=
  if (Op.bytesLess p0.Site.toList p1.Site.toList) = true then (some true) else (if (p0.Site.toList == p1.Site.toList) = true then (some (Op.bytesLess p0.Top.toList p1.Top.toList)) else (some false))
def eS (p0 : M.aK) : Nat → Int → Option Bool
  | 0, _ => none
  | nL1 + 1, v8 => if (decide (v8 < (List.length p0.Buckets : Int))) = true then ((idx p0.Buckets v8).bind fun x8 => ((qG x8).bind fun x13 => (if (!x13) = true then (some false) else (if (decide (v8 > 0)) = true then ((idx p0.Buckets (IntKind.i64.wrap (v8 - 1))).bind fun x17 => ((lP x17 x8).bind fun x22 => (if (!x22) = true then (some false) else (eS p0 nL1 (IntKind.i64.wrap (v8 + 1)))))) else (eS p0 nL1 (IntKind.i64.wrap (v8 + 1))))))) else (some (decide ((List.length p0.Buckets : Int) ≤ 9)))
def mJ (p0 : M.aK) : Option Bool :=
  eS p0 fuel 0
def qH (p0 : ByteArray) : Option Bool :=
  (wJ p0 30 true).bind fun x1 => (some x1)
def bL (p0 : M.aQ) (v10 : Int) (x8 : M.bY) (k22 : Int → Option Bool) : Nat → Int → Option Bool
  | 0, _ => none
  | nL2 + 1, v30_L2 => if (decide (v30_L2 < (List.length (List.take v10.toNat p0.Locks) : Int))) = true then ((idx (List.take v10.toNat p0.Locks) v30_L2).bind fun x35 => (if (x35.Name.toList == x8.Name.toList) = true then (if x8.Held = true then (if (!x35.Held) = true then (some false) else (if (!x8.Shared) = true then (some false) else (if (!x35.Shared) = true then (some false) else (bL p0 v10 x8 k22 nL2 (IntKind.i64.wrap (v30_L2 + 1)))))) else (bL p0 v10 x8 k22 nL2 (IntKind.i64.wrap (v30_L2 + 1)))) else (bL p0 v10 x8 k22 nL2 (IntKind.i64.wrap (v30_L2 + 1))))) else (k22 v30_L2)
def dG (p0 : M.aQ) : Nat → Int → Option Bool
  | 0, _ => none
  | nL1 + 1, v10 => if (decide (v10 < (List.length p0.Locks : Int))) = true then ((idx p0.Locks v10).bind fun x8 => ((qH x8.Name).bind fun x13 => (if (!x13) = true then (some false) else ((aZ x8.bJ 1 1000000000000).bind fun x16 => (if (!x16) = true then (some false) else ((aHL p0.Locks v10).bind fun x19 => (bL p0 v10 x8 (fun (v30_L2 : Int) => dG p0 nL1 (IntKind.i64.wrap (v10 + 1))) fuel 0))))))) else (some (decide ((List.length p0.Locks : Int) ≤ 12)))
def mU (p0 : M.aQ) : Option Bool :=
  dG p0 fuel 0
def kJ (p0 : M.bJ) : Nat → Int → Option Bool
  | 0, _ => none
  | nL1 + 1, v8 => if (decide (v8 < (List.length p0.aM : Int))) = true then ((idx p0.aM v8).bind fun x8 => ((bS x8.Path).bind fun x13 => (if (!x13) = true then (some false) else (if (x8.Version != p0.Version) = true then (some false) else (kJ p0 nL1 (IntKind.i64.wrap (v8 + 1))))))) else ((aZ p0.Id 1 1000000000000).bind fun x17 => (if x17 = true then ((bS p0.Site).bind fun x20 => (if x20 = true then ((bS p0.Top).bind fun x23 => (if x23 = true then ((aZ p0.Version 1 1000000000000).bind fun x26 => (if x26 = true then (some (decide ((List.length p0.aM : Int) ≤ 8))) else (some false))) else (some false))) else (some false))) else (some false)))
def zY (p0 : M.bJ) : Option Bool :=
  kJ p0 fuel 0
def lQ (p0 : M.aE) (c0 : ByteArray) (c1 : ByteArray) : Option Bool :=
  if (p0.Site.toList == c0.toList) = true then (some (p0.Top.toList == c1.toList)) else (some false)
def bP (p0 : List M.aE) (p1 : M.aE → Option Bool) : Nat → Int → Option Int
  | 0, _ => none
  | nL1 + 1, v8 => if (decide (v8 < (List.length p0 : Int))) = true then ((idx p0 v8).bind fun x7 => ((p1 x7).bind fun x12 => (if x12 = true then (some v8) else (bP p0 p1 nL1 (IntKind.i64.wrap (v8 + 1)))))) else (some (-1))
def gT (p0 : List M.aE) (p1 : M.aE → Option Bool) : Option Int :=
  bP p0 p1 fuel 0
def lJ (p0 : M.aK) (p1 : ByteArray) (p2 : ByteArray) : Option Int :=
  (gT p0.Buckets (fun z0 => lQ z0 p1 p2)).bind fun x1 => (some x1)
def gV (p0 : M.Site) : Nat → Int → Option Bool
  | 0, _ => none
  | nL1 + 1, v8 => if (decide (v8 < (List.length p0.Files : Int))) = true then ((idx p0.Files v8).bind fun x8 => ((bS x8).bind fun x13 => (if (!x13) = true then (some false) else (if (decide (v8 > 0)) = true then ((idx p0.Files (IntKind.i64.wrap (v8 - 1))).bind fun x17 => (if (Op.bytesLess x8.toList x17.toList || x8.toList == x17.toList) = true then (some false) else (gV p0 nL1 (IntKind.i64.wrap (v8 + 1))))) else (gV p0 nL1 (IntKind.i64.wrap (v8 + 1))))))) else ((bS p0.Name).bind fun x23 => (if x23 = true then ((aZ p0.Version 1 1000000000000).bind fun x26 => (if x26 = true then ((aZ (List.length p0.Files : Int) 1 6).bind fun x29 => (some x29)) else (some false))) else (some false)))
def rD (p0 : M.Site) : Option Bool :=
  gV p0 fuel 0
def gR (p0 : M.Server) : Nat → Int → Option Bool
  | 0, _ => none
  | nL2 + 1, v45 => if (decide (v45 < (List.length p0.Changes : Int))) = true then ((idx p0.Changes v45).bind fun x33 => ((iI x33).bind fun x38 => (if (!x38) = true then (some false) else (gR p0 nL2 (IntKind.i64.wrap (v45 + 1)))))) else ((nZ p0.aH).bind fun x41 => (if x41 = true then (if (p0.aH.Name.toList == (⟨#[110, 111, 116, 101, 115]⟩ : ByteArray).toList) = true then (some (decide ((List.length p0.aG : Int) ≤ 60))) else (some false)) else (some false)))
def fO (p0 : M.Server) : Nat → Int → Option Bool
  | 0, _ => none
  | nL1 + 1, v10 => if (decide (v10 < (List.length p0.aG : Int))) = true then ((idx p0.aG v10).bind fun x8 => ((aZ x8.Device 1 1000000).bind fun x13 => (if (!x13) = true then (some false) else ((aZ x8.Seq 0 1000000).bind fun x16 => (if (!x16) = true then (some false) else (if (decide (v10 > 0)) = true then ((idx p0.aG (IntKind.i64.wrap (v10 - 1))).bind fun x20 => (if (decide (x8.Device ≤ x20.Device)) = true then (some false) else (fO p0 nL1 (IntKind.i64.wrap (v10 + 1))))) else (fO p0 nL1 (IntKind.i64.wrap (v10 + 1))))))))) else (gR p0 fuel 0)
def uG (p0 : M.Server) : Option Bool :=
  fO p0 fuel 0
def gD (p0 : M.World) : Nat → Int → Option Bool
  | 0, _ => none
  | nL2 + 1, v101 => if (decide (v101 < (List.length p0.Sites : Int))) = true then ((idx p0.Sites v101).bind fun x55 => ((rD x55).bind fun x60 => (if (!x60) = true then (some false) else ((lD x55.Name).bind fun x63 => (if (x63 != v101) = true then (some false) else ((idx p0.Servers v101).bind fun x66 => ((uG x66).bind fun x71 => (if (!x71) = true then (some false) else (gD p0 nL2 (IntKind.i64.wrap (v101 + 1))))))))))) else (some true)
def eK (p0 : M.World) : Nat → Int → Option Bool
  | 0, _ => none
  | nL1 + 1, v56 => if (decide (v56 < (List.length p0.Pages : Int))) = true then ((idx p0.Pages v56).bind fun x26 => ((zY x26).bind fun x31 => (if (!x31) = true then (some false) else (if (decide (x26.Id ≥ p0.NextPage)) = true then (some false) else (if (decide (v56 > 0)) = true then ((idx p0.Pages (IntKind.i64.wrap (v56 - 1))).bind fun x36 => (if (decide (x26.Id ≤ x36.Id)) = true then (some false) else ((lJ p0.aK x26.Site x26.Top).bind fun x42 => (if (decide (x42 < 0)) = true then (some false) else (eK p0 nL1 (IntKind.i64.wrap (v56 + 1))))))) else ((lJ p0.aK x26.Site x26.Top).bind fun x45 => (if (decide (x45 < 0)) = true then (some false) else (eK p0 nL1 (IntKind.i64.wrap (v56 + 1)))))))))) else (gD p0 fuel 0)
def wW (p0 : M.World) : Option Bool :=
  (aZ p0.Now 0 999999990000).bind fun x1 => (if (!x1) = true then (some false) else ((aZ p0.Device 1 1000000).bind fun x4 => (if (!x4) = true then (some false) else ((mJ p0.aK).bind fun x7 => (if (!x7) = true then (some false) else (if (decide ((List.length p0.Pages : Int) > 6)) = true then (some false) else ((aZ p0.NextPage 1 1000000000000).bind fun x11 => (if (!x11) = true then (some false) else ((mU p0.Locks).bind fun x14 => (if (!x14) = true then (some false) else (if ((List.length p0.Sites : Int) != 3) = true then (some false) else (if ((List.length p0.Servers : Int) != 3) = true then (some false) else (eK p0 fuel 0)))))))))))))
def yF (p0 : M.Site) : Option (M.Site × Bool) :=
  (jJ p0).bind fun x1 => ((rD p0).bind fun x3 => (if (!x3) = true then ((jJ p0).bind fun x6 => (some (x6, false))) else ((rD (⟨x1.Name, (IntKind.i64.wrap (x1.Version + 1)), x1.Files, x1.Shared⟩ : M.Site)).bind fun x8 => (if (!x8) = true then ((jJ p0).bind fun x11 => (some (x11, false))) else (some ((⟨x1.Name, (IntKind.i64.wrap (x1.Version + 1)), x1.Files, x1.Shared⟩ : M.Site), true))))))
def kC (p0 : M.World) (p1 : ByteArray) : Option (M.World × Bool) :=
  (rK p0).bind fun x1 => ((lD p1).bind fun x3 => ((wW p0).bind fun x5 => (if (!x5) = true then (some (x1, false)) else (if (decide (x3 < 0)) = true then (some (x1, false)) else ((idx p0.Sites x3).bind fun x9 => ((yF x9).bind fun x14 => (if (!x14.2) = true then (some (x1, false)) else ((idx x1.Sites x3).bind fun x17 => (some ((⟨x1.Now, x1.Online, x1.Device, x1.aK, x1.Pages, x1.NextPage, x1.Locks, x1.Channel, (List.set x1.Sites x3.toNat x14.1), x1.Servers⟩ : M.World), true))))))))))
def jF (p0 : M.Registration) (p1 : M.Registration) : Option Bool :=
  if (!(p0.Site.toList == p1.Site.toList)) = true then (some false) else (if (p0.Installing != p1.Installing) = true then (some false) else (if (p0.Waiting != p1.Waiting) = true then (some false) else (if (p0.Active != p1.Active) = true then (some false) else (some true))))
def lI (p0 : List Int) (p1 : List Int) : Nat → Int → Option Bool
  | 0, _ => none
  | nL1 + 1, v5 => if (decide (v5 < (List.length p0 : Int))) = true then ((idx p0 v5).bind fun x7 => ((idx p1 v5).bind fun x12 => (if (x7 != x12) = true then (some false) else (lI p0 p1 nL1 (IntKind.i64.wrap (v5 + 1)))))) else (some true)
def tK (p0 : List Int) (p1 : List Int) : Option Bool :=
  if ((List.length p0 : Int) != (List.length p1 : Int)) = true then (some false) else (lI p0 p1 fuel 0)
def pV (p0 : M.Response) (p1 : M.Response) : Option Bool :=
  if (p0.Type_ != p1.Type_) = true then (some false) else (if (p0.Status != p1.Status) = true then (some false) else (if (p0.Version != p1.Version) = true then (some false) else ((tK p0.Body p1.Body).bind fun x4 => (if (!x4) = true then (some false) else (if (!(p0.Shares == p1.Shares)) = true then (some false) else (some true))))))
def uZ (p0 : M.Cached) (p1 : M.Cached) : Option Bool :=
  if (!(p0.Site.toList == p1.Site.toList)) = true then (some false) else (if (!(p0.Path.toList == p1.Path.toList)) = true then (some false) else ((pV p0.Response p1.Response).bind fun x3 => (if (!x3) = true then (some false) else (some true))))
def iW (p0 : List M.Cached) (p1 : List M.Cached) : Nat → Int → Option Bool
  | 0, _ => none
  | nL1 + 1, v5 => if (decide (v5 < (List.length p0 : Int))) = true then ((idx p0 v5).bind fun x7 => ((idx p1 v5).bind fun x12 => ((uZ x7 x12).bind fun x17 => (if (!x17) = true then (some false) else (iW p0 p1 nL1 (IntKind.i64.wrap (v5 + 1))))))) else (some true)
def sB (p0 : List M.Cached) (p1 : List M.Cached) : Option Bool :=
  if ((List.length p0 : Int) != (List.length p1 : Int)) = true then (some false) else (iW p0 p1 fuel 0)
def wR (p0 : M.Cache) (p1 : M.Cache) : Option Bool :=
  if (p0.Version != p1.Version) = true then (some false) else ((sB p0.Entries p1.Entries).bind fun x2 => (if (!x2) = true then (some false) else (some true)))
def jZ (p0 : List M.Cache) (p1 : List M.Cache) : Nat → Int → Option Bool
  | 0, _ => none
  | nL1 + 1, v5 => if (decide (v5 < (List.length p0 : Int))) = true then ((idx p0 v5).bind fun x7 => ((idx p1 v5).bind fun x12 => ((wR x7 x12).bind fun x17 => (if (!x17) = true then (some false) else (jZ p0 p1 nL1 (IntKind.i64.wrap (v5 + 1))))))) else (some true)
def uJ (p0 : List M.Cache) (p1 : List M.Cache) : Option Bool :=
  if ((List.length p0 : Int) != (List.length p1 : Int)) = true then (some false) else (jZ p0 p1 fuel 0)
def pC (p0 : M.aT) (p1 : M.aT) : Option Bool :=
  (uJ p0.Caches p1.Caches).bind fun x1 => (if (!x1) = true then (some false) else (some true))
def yU (p0 : M.Key) (p1 : M.Key) : Option Bool :=
  if (p0.Kind != p1.Kind) = true then (some false) else (if (p0.N != p1.N) = true then (some false) else (if (!(p0.Text.toList == p1.Text.toList)) = true then (some false) else (some true)))
def xF (p0 : M.Field) (p1 : M.Field) : Option Bool :=
  if (!(p0.Name.toList == p1.Name.toList)) = true then (some false) else (if (p0.N != p1.N) = true then (some false) else (some true))
def jS (p0 : List M.Field) (p1 : List M.Field) : Nat → Int → Option Bool
  | 0, _ => none
  | nL1 + 1, v5 => if (decide (v5 < (List.length p0 : Int))) = true then ((idx p0 v5).bind fun x7 => ((idx p1 v5).bind fun x12 => ((xF x7 x12).bind fun x17 => (if (!x17) = true then (some false) else (jS p0 p1 nL1 (IntKind.i64.wrap (v5 + 1))))))) else (some true)
def uR (p0 : List M.Field) (p1 : List M.Field) : Option Bool :=
  if ((List.length p0 : Int) != (List.length p1 : Int)) = true then (some false) else (jS p0 p1 fuel 0)
def uH (p0 : M.aU) (p1 : M.aU) : Option Bool :=
  (uR p0.Fields p1.Fields).bind fun x1 => (if (!x1) = true then (some false) else (some true))
def zT (p0 : M.Item) (p1 : M.Item) : Option Bool :=
  (yU p0.Key p1.Key).bind fun x1 => (if (!x1) = true then (some false) else ((uH p0.aU p1.aU).bind fun x4 => (if (!x4) = true then (some false) else (some true))))
def kW (p0 : List M.Item) (p1 : List M.Item) : Nat → Int → Option Bool
  | 0, _ => none
  | nL1 + 1, v5 => if (decide (v5 < (List.length p0 : Int))) = true then ((idx p0 v5).bind fun x7 => ((idx p1 v5).bind fun x12 => ((zT x7 x12).bind fun x17 => (if (!x17) = true then (some false) else (kW p0 p1 nL1 (IntKind.i64.wrap (v5 + 1))))))) else (some true)
def wP (p0 : List M.Item) (p1 : List M.Item) : Option Bool :=
  if ((List.length p0 : Int) != (List.length p1 : Int)) = true then (some false) else (kW p0 p1 fuel 0)
def oF (p0 : M.aH) (p1 : M.aH) : Option Bool :=
  if (!(p0.Name.toList == p1.Name.toList)) = true then (some false) else ((wP p0.Items p1.Items).bind fun x2 => (if (!x2) = true then (some false) else (if (p0.Auto != p1.Auto) = true then (some false) else (some true))))
def jX (p0 : List M.aH) (p1 : List M.aH) : Nat → Int → Option Bool
  | 0, _ => none
  | nL1 + 1, v5 => if (decide (v5 < (List.length p0 : Int))) = true then ((idx p0 v5).bind fun x7 => ((idx p1 v5).bind fun x12 => ((oF x7 x12).bind fun x17 => (if (!x17) = true then (some false) else (jX p0 p1 nL1 (IntKind.i64.wrap (v5 + 1))))))) else (some true)
def vV (p0 : List M.aH) (p1 : List M.aH) : Option Bool :=
  if ((List.length p0 : Int) != (List.length p1 : Int)) = true then (some false) else (jX p0 p1 fuel 0)
def pT (p0 : M.aA) (p1 : M.aA) : Option Bool :=
  if (!(p0.aH.toList == p1.aH.toList)) = true then (some false) else (if (!(p0.Field.toList == p1.Field.toList)) = true then (some false) else (some true))
def hZ (p0 : List M.aA) (p1 : List M.aA) : Nat → Int → Option Bool
  | 0, _ => none
  | nL1 + 1, v5 => if (decide (v5 < (List.length p0 : Int))) = true then ((idx p0 v5).bind fun x7 => ((idx p1 v5).bind fun x12 => ((pT x7 x12).bind fun x17 => (if (!x17) = true then (some false) else (hZ p0 p1 nL1 (IntKind.i64.wrap (v5 + 1))))))) else (some true)
def mV (p0 : List M.aA) (p1 : List M.aA) : Option Bool :=
  if ((List.length p0 : Int) != (List.length p1 : Int)) = true then (some false) else (hZ p0 p1 fuel 0)
def pU (p0 : M.Database) (p1 : M.Database) : Option Bool :=
  if (!(p0.Name.toList == p1.Name.toList)) = true then (some false) else (if (p0.Version != p1.Version) = true then (some false) else ((vV p0.Stores p1.Stores).bind fun x3 => (if (!x3) = true then (some false) else ((mV p0.Unique p1.Unique).bind fun x6 => (if (!x6) = true then (some false) else (some true))))))
def aAR (p0 : M.bC) (p1 : M.bC) : Option Bool :=
  (pU p0.Base p1.Base).bind fun x1 => (if (!x1) = true then (some false) else ((tK p0.Log p1.Log).bind fun x4 => (if (!x4) = true then (some false) else (if (p0.Count != p1.Count) = true then (some false) else (some true)))))
def wQ (p0 : M.aW) (p1 : M.aW) : Option Bool :=
  if (p0.Device != p1.Device) = true then (some false) else (if (p0.Seq != p1.Seq) = true then (some false) else ((yU p0.Key p1.Key).bind fun x3 => (if (!x3) = true then (some false) else (if (!(p0.Field.toList == p1.Field.toList)) = true then (some false) else (if (p0.N != p1.N) = true then (some false) else (some true))))))
def jP (p0 : List M.aW) (p1 : List M.aW) : Nat → Int → Option Bool
  | 0, _ => none
  | nL1 + 1, v5 => if (decide (v5 < (List.length p0 : Int))) = true then ((idx p0 v5).bind fun x7 => ((idx p1 v5).bind fun x12 => ((wQ x7 x12).bind fun x17 => (if (!x17) = true then (some false) else (jP p0 p1 nL1 (IntKind.i64.wrap (v5 + 1))))))) else (some true)
def pW (p0 : List M.aW) (p1 : List M.aW) : Option Bool :=
  if ((List.length p0 : Int) != (List.length p1 : Int)) = true then (some false) else (jP p0 p1 fuel 0)
def uN (p0 : M.aV) (p1 : M.aV) : Option Bool :=
  if (p0.Device != p1.Device) = true then (some false) else (if (p0.Next != p1.Next) = true then (some false) else ((pW p0.Writes p1.Writes).bind fun x3 => (if (!x3) = true then (some false) else (some true))))
def zH (p0 : M.Sync) (p1 : M.Sync) : Option Bool :=
  (uN p0.aV p1.aV).bind fun x1 => (if (!x1) = true then (some false) else (if (p0.Tries != p1.Tries) = true then (some false) else (if (p0.WaitUntil != p1.WaitUntil) = true then (some false) else (some true))))
def rY (p0 : M.aC) (p1 : M.aC) : Option Bool :=
  (oF p0.Base p1.Base).bind fun x1 => (if (!x1) = true then (some false) else (if (p0.Seen != p1.Seen) = true then (some false) else ((zH p0.Sync p1.Sync).bind fun x5 => (if (!x5) = true then (some false) else (some true)))))
def vC (p0 : M.aE) (p1 : M.aE) : Option Bool :=
  if (!(p0.Site.toList == p1.Site.toList)) = true then (some false) else (if (!(p0.Top.toList == p1.Top.toList)) = true then (some false) else ((jF p0.Registration p1.Registration).bind fun x3 => (if (!x3) = true then (some false) else ((pC p0.Caches p1.Caches).bind fun x6 => (if (!x6) = true then (some false) else ((aAR p0.bC p1.bC).bind fun x9 => (if (!x9) = true then (some false) else ((rY p0.aC p1.aC).bind fun x12 => (if (!x12) = true then (some false) else (if (p0.LastUsed != p1.LastUsed) = true then (some false) else (if (!(p0.Persistent == p1.Persistent)) = true then (some false) else (some true))))))))))))
def iS (p0 : List M.aE) (p1 : List M.aE) : Nat → Int → Option Bool
  | 0, _ => none
  | nL1 + 1, v5 => if (decide (v5 < (List.length p0 : Int))) = true then ((idx p0 v5).bind fun x7 => ((idx p1 v5).bind fun x12 => ((vC x7 x12).bind fun x17 => (if (!x17) = true then (some false) else (iS p0 p1 nL1 (IntKind.i64.wrap (v5 + 1))))))) else (some true)
def sA (p0 : List M.aE) (p1 : List M.aE) : Option Bool :=
  if ((List.length p0 : Int) != (List.length p1 : Int)) = true then (some false) else (iS p0 p1 fuel 0)
def tC (p0 : M.aK) (p1 : M.aK) : Option Bool :=
  (sA p0.Buckets p1.Buckets).bind fun x1 => (if (!x1) = true then (some false) else (some true))
def uB (p0 : M.aM) (p1 : M.aM) : Option Bool :=
  if (!(p0.Path.toList == p1.Path.toList)) = true then (some false) else (if (p0.Version != p1.Version) = true then (some false) else (some true))
def iP (p0 : List M.aM) (p1 : List M.aM) : Nat → Int → Option Bool
  | 0, _ => none
  | nL1 + 1, v5 => if (decide (v5 < (List.length p0 : Int))) = true then ((idx p0 v5).bind fun x7 => ((idx p1 v5).bind fun x12 => ((uB x7 x12).bind fun x17 => (if (!x17) = true then (some false) else (iP p0 p1 nL1 (IntKind.i64.wrap (v5 + 1))))))) else (some true)
def rM (p0 : List M.aM) (p1 : List M.aM) : Option Bool :=
  if ((List.length p0 : Int) != (List.length p1 : Int)) = true then (some false) else (iP p0 p1 fuel 0)
def yJ (p0 : M.Instr) (p1 : M.Instr) : Option Bool :=
  if (p0.Kind != p1.Kind) = true then (some false) else (if (p0.R != p1.R) = true then (some false) else (if (p0.N != p1.N) = true then (some false) else (if (!(p0.Text.toList == p1.Text.toList)) = true then (some false) else (some true))))
def jW (p0 : List M.Instr) (p1 : List M.Instr) : Nat → Int → Option Bool
  | 0, _ => none
  | nL1 + 1, v5 => if (decide (v5 < (List.length p0 : Int))) = true then ((idx p0 v5).bind fun x7 => ((idx p1 v5).bind fun x12 => ((yJ x7 x12).bind fun x17 => (if (!x17) = true then (some false) else (jW p0 p1 nL1 (IntKind.i64.wrap (v5 + 1))))))) else (some true)
def uO (p0 : List M.Instr) (p1 : List M.Instr) : Option Bool :=
  if ((List.length p0 : Int) != (List.length p1 : Int)) = true then (some false) else (jW p0 p1 fuel 0)
def mI (p0 : List Int) (p1 : List Int) : Nat → Int → Option Bool
  | 0, _ => none
  | nL1 + 1, v5 => if (decide (v5 < (List.length p0 : Int))) = true then ((idx p0 v5).bind fun x7 => ((idx p1 v5).bind fun x12 => (if (x7 != x12) = true then (some false) else (mI p0 p1 nL1 (IntKind.i64.wrap (v5 + 1)))))) else (some true)
def aAQ (p0 : List Int) (p1 : List Int) : Option Bool :=
  if ((List.length p0 : Int) != (List.length p1 : Int)) = true then (some false) else (mI p0 p1 fuel 0)
def sC (p0 : M.Machine) (p1 : M.Machine) : Option Bool :=
  (uO p0.Script p1.Script).bind fun x1 => (if (!x1) = true then (some false) else (if (p0.Pc != p1.Pc) = true then (some false) else ((aAQ p0.Regs p1.Regs).bind fun x5 => (if (!x5) = true then (some false) else (if (p0.Steps != p1.Steps) = true then (some false) else (if (!(p0.Done == p1.Done)) = true then (some false) else (if (!(p0.Wait == p1.Wait)) = true then (some false) else (some true))))))))
def aAX (p0 : M.bJ) (p1 : M.bJ) : Option Bool :=
  if (p0.Id != p1.Id) = true then (some false) else (if (!(p0.Site.toList == p1.Site.toList)) = true then (some false) else (if (!(p0.Top.toList == p1.Top.toList)) = true then (some false) else (if (p0.Version != p1.Version) = true then (some false) else ((rM p0.aM p1.aM).bind fun x5 => (if (!x5) = true then (some false) else ((sC p0.Machine p1.Machine).bind fun x8 => (if (!x8) = true then (some false) else (some true))))))))
def lL (p0 : List M.bJ) (p1 : List M.bJ) : Nat → Int → Option Bool
  | 0, _ => none
  | nL1 + 1, v5 => if (decide (v5 < (List.length p0 : Int))) = true then ((idx p0 v5).bind fun x7 => ((idx p1 v5).bind fun x12 => ((aAX x7 x12).bind fun x17 => (if (!x17) = true then (some false) else (lL p0 p1 nL1 (IntKind.i64.wrap (v5 + 1))))))) else (some true)
def xA (p0 : List M.bJ) (p1 : List M.bJ) : Option Bool :=
  if ((List.length p0 : Int) != (List.length p1 : Int)) = true then (some false) else (lL p0 p1 fuel 0)
def zG (p0 : M.bY) (p1 : M.bY) : Option Bool :=
  if (!(p0.Name.toList == p1.Name.toList)) = true then (some false) else (if (p0.bJ != p1.bJ) = true then (some false) else (if (!(p0.Shared == p1.Shared)) = true then (some false) else (if (!(p0.Held == p1.Held)) = true then (some false) else (some true))))
def kU (p0 : List M.bY) (p1 : List M.bY) : Nat → Int → Option Bool
  | 0, _ => none
  | nL1 + 1, v5 => if (decide (v5 < (List.length p0 : Int))) = true then ((idx p0 v5).bind fun x7 => ((idx p1 v5).bind fun x12 => ((zG x7 x12).bind fun x17 => (if (!x17) = true then (some false) else (kU p0 p1 nL1 (IntKind.i64.wrap (v5 + 1))))))) else (some true)
def xW (p0 : List M.bY) (p1 : List M.bY) : Option Bool :=
  if ((List.length p0 : Int) != (List.length p1 : Int)) = true then (some false) else (kU p0 p1 fuel 0)
def nS (p0 : M.aQ) (p1 : M.aQ) : Option Bool :=
  (xW p0.Locks p1.Locks).bind fun x1 => (if (!x1) = true then (some false) else (some true))
def aAE (p0 : M.fA) (p1 : M.fA) : Option Bool :=
  if (p0.To != p1.To) = true then (some false) else (if (p0.From != p1.From) = true then (some false) else (if (p0.N != p1.N) = true then (some false) else (some true)))
def kY (p0 : List M.fA) (p1 : List M.fA) : Nat → Int → Option Bool
  | 0, _ => none
  | nL1 + 1, v5 => if (decide (v5 < (List.length p0 : Int))) = true then ((idx p0 v5).bind fun x7 => ((idx p1 v5).bind fun x12 => ((aAE x7 x12).bind fun x17 => (if (!x17) = true then (some false) else (kY p0 p1 nL1 (IntKind.i64.wrap (v5 + 1))))))) else (some true)
def wS (p0 : List M.fA) (p1 : List M.fA) : Option Bool :=
  if ((List.length p0 : Int) != (List.length p1 : Int)) = true then (some false) else (kY p0 p1 fuel 0)
def rG (p0 : M.Channel) (p1 : M.Channel) : Option Bool :=
  (wS p0.Mails p1.Mails).bind fun x1 => (if (!x1) = true then (some false) else (some true))
def iX (p0 : List ByteArray) (p1 : List ByteArray) : Nat → Int → Option Bool
  | 0, _ => none
  | nL1 + 1, v5 => if (decide (v5 < (List.length p0 : Int))) = true then ((idx p0 v5).bind fun x7 => ((idx p1 v5).bind fun x12 => (if (!(x7.toList == x12.toList)) = true then (some false) else (iX p0 p1 nL1 (IntKind.i64.wrap (v5 + 1)))))) else (some true)
def sE (p0 : List ByteArray) (p1 : List ByteArray) : Option Bool :=
  if ((List.length p0 : Int) != (List.length p1 : Int)) = true then (some false) else (iX p0 p1 fuel 0)
def yZ (p0 : M.Site) (p1 : M.Site) : Option Bool :=
  if (!(p0.Name.toList == p1.Name.toList)) = true then (some false) else (if (p0.Version != p1.Version) = true then (some false) else ((sE p0.Files p1.Files).bind fun x3 => (if (!x3) = true then (some false) else (if (!(p0.Shared == p1.Shared)) = true then (some false) else (some true)))))
def lK (p0 : List M.Site) (p1 : List M.Site) : Nat → Int → Option Bool
  | 0, _ => none
  | nL1 + 1, v5 => if (decide (v5 < (List.length p0 : Int))) = true then ((idx p0 v5).bind fun x7 => ((idx p1 v5).bind fun x12 => ((yZ x7 x12).bind fun x17 => (if (!x17) = true then (some false) else (lK p0 p1 nL1 (IntKind.i64.wrap (v5 + 1))))))) else (some true)
def xT (p0 : List M.Site) (p1 : List M.Site) : Option Bool :=
  if ((List.length p0 : Int) != (List.length p1 : Int)) = true then (some false) else (lK p0 p1 fuel 0)
def tH (p0 : M.aG) (p1 : M.aG) : Option Bool :=
  if (p0.Device != p1.Device) = true then (some false) else (if (p0.Seq != p1.Seq) = true then (some false) else (some true))
def iF (p0 : List M.aG) (p1 : List M.aG) : Nat → Int → Option Bool
  | 0, _ => none
  | nL1 + 1, v5 => if (decide (v5 < (List.length p0 : Int))) = true then ((idx p0 v5).bind fun x7 => ((idx p1 v5).bind fun x12 => ((tH x7 x12).bind fun x17 => (if (!x17) = true then (some false) else (iF p0 p1 nL1 (IntKind.i64.wrap (v5 + 1))))))) else (some true)
def pL (p0 : List M.aG) (p1 : List M.aG) : Option Bool :=
  if ((List.length p0 : Int) != (List.length p1 : Int)) = true then (some false) else (iF p0 p1 fuel 0)
def vY (p0 : M.Server) (p1 : M.Server) : Option Bool :=
  (oF p0.aH p1.aH).bind fun x1 => (if (!x1) = true then (some false) else ((pL p0.aG p1.aG).bind fun x4 => (if (!x4) = true then (some false) else ((pW p0.Changes p1.Changes).bind fun x7 => (if (!x7) = true then (some false) else (some true))))))
def iU (p0 : List M.Server) (p1 : List M.Server) : Nat → Int → Option Bool
  | 0, _ => none
  | nL1 + 1, v5 => if (decide (v5 < (List.length p0 : Int))) = true then ((idx p0 v5).bind fun x7 => ((idx p1 v5).bind fun x12 => ((vY x7 x12).bind fun x17 => (if (!x17) = true then (some false) else (iU p0 p1 nL1 (IntKind.i64.wrap (v5 + 1))))))) else (some true)
def rQ (p0 : List M.Server) (p1 : List M.Server) : Option Bool :=
  if ((List.length p0 : Int) != (List.length p1 : Int)) = true then (some false) else (iU p0 p1 fuel 0)
def kQ (p0 : M.World) (p1 : M.World) : Option Bool :=
  if (p0.Now != p1.Now) = true then (some false) else (if (!(p0.Online == p1.Online)) = true then (some false) else (if (p0.Device != p1.Device) = true then (some false) else ((tC p0.aK p1.aK).bind fun x4 => (if (!x4) = true then (some false) else ((xA p0.Pages p1.Pages).bind fun x7 => (if (!x7) = true then (some false) else (if (p0.NextPage != p1.NextPage) = true then (some false) else ((nS p0.Locks p1.Locks).bind fun x11 => (if (!x11) = true then (some false) else ((rG p0.Channel p1.Channel).bind fun x14 => (if (!x14) = true then (some false) else ((xT p0.Sites p1.Sites).bind fun x17 => (if (!x17) = true then (some false) else ((rQ p0.Servers p1.Servers).bind fun x20 => (if (!x20) = true then (some false) else (some true))))))))))))))))
def jO  : Nat → Int → ByteArray → Option ByteArray
  | 0, _, _ => none
  | nL1 + 1, v0, v3 => if (decide (v0 > 0)) = true then ((toStr ([(IntKind.u8.wrap (IntKind.i64.wrap (48 + (Int.tmod v0 10))))])).bind fun x6 => ((cat (aBM ([(IntKind.u8.wrap (IntKind.i64.wrap (48 + (Int.tmod v0 10))))])) v3).bind fun x8 => (jO nL1 (IntKind.i64.wrap (Int.tdiv v0 10)) ((aBM ([(IntKind.u8.wrap (IntKind.i64.wrap (48 + (Int.tmod v0 10))))])) ++ v3)))) else ((cat (⟨#[109]⟩ : ByteArray) v3).bind fun x13 => (some ((⟨#[109]⟩ : ByteArray) ++ v3)))
def aF (p0 : Int) : Option ByteArray :=
  if (decide (p0 ≤ 0)) = true then (some (⟨#[109, 48]⟩ : ByteArray)) else (jO fuel p0 (⟨#[]⟩ : ByteArray))
def dL  : Nat → Int → Int → List Int → Option (List Int × Int)
  | 0, _, _, _ => none
  | nL1 + 1, v1, v5, r99 => if (decide (v5 < (List.length r99 : Int))) = true then ((idx r99 v5).bind fun x8 => ((some (List.set r99 v5.toNat (IntKind.u8.wrap v1))).bind fun y13 => (dL nL1 (IntKind.i64.wrap (v1 + 1)) (IntKind.i64.wrap (v5 + 1)) y13))) else (some (r99, v1))
def mK (p0 : List Int) (p1 : Int) : Option (List Int × Int) :=
  dL fuel p1 0 p0
def cJ  : Nat → Int → Int → List M.Cached → Option (List M.Cached × Int)
  | 0, _, _, _ => none
  | nL1 + 1, v1, v5, r99 => if (decide (v5 < (List.length r99 : Int))) = true then ((aF v1).bind fun x8 => ((idx r99 v5).bind fun x10 => ((some (List.set r99 v5.toNat (⟨x8, x10.Path, x10.Response⟩ : M.Cached))).bind fun y15 => ((aF (IntKind.i64.wrap (v1 + 1))).bind fun x23 => ((idx y15 v5).bind fun x25 => ((some (List.set y15 v5.toNat (⟨x25.Site, x23, x25.Response⟩ : M.Cached))).bind fun y30 => ((idx y30 v5).bind fun x38 => ((some (List.set y30 v5.toNat (⟨x38.Site, x38.Path, (⟨(IntKind.i64.wrap ((IntKind.i64.wrap (v1 + 1)) + 1)), x38.Response.Status, x38.Response.Version, x38.Response.Body, x38.Response.Shares⟩ : M.Response)⟩ : M.Cached))).bind fun y43 => ((idx y43 v5).bind fun x51 => ((some (List.set y43 v5.toNat (⟨x51.Site, x51.Path, (⟨x51.Response.Type_, (IntKind.i64.wrap ((IntKind.i64.wrap ((IntKind.i64.wrap (v1 + 1)) + 1)) + 1)), x51.Response.Version, x51.Response.Body, x51.Response.Shares⟩ : M.Response)⟩ : M.Cached))).bind fun y56 => ((idx y56 v5).bind fun x64 => ((some (List.set y56 v5.toNat (⟨x64.Site, x64.Path, (⟨x64.Response.Type_, x64.Response.Status, (IntKind.i64.wrap ((IntKind.i64.wrap ((IntKind.i64.wrap ((IntKind.i64.wrap (v1 + 1)) + 1)) + 1)) + 1)), x64.Response.Body, x64.Response.Shares⟩ : M.Response)⟩ : M.Cached))).bind fun y69 => ((idx y69 v5).bind fun x77 => ((mK x77.Response.Body (IntKind.i64.wrap ((IntKind.i64.wrap ((IntKind.i64.wrap ((IntKind.i64.wrap ((IntKind.i64.wrap (v1 + 1)) + 1)) + 1)) + 1)) + 1))).bind fun x82 => ((some (List.set y69 v5.toNat (⟨x77.Site, x77.Path, (⟨x77.Response.Type_, x77.Response.Status, x77.Response.Version, x82.1, x77.Response.Shares⟩ : M.Response)⟩ : M.Cached))).bind fun y84 => ((idx y84 v5).bind fun x92 => ((some (List.set y84 v5.toNat (⟨x92.Site, x92.Path, (⟨x92.Response.Type_, x92.Response.Status, x92.Response.Version, x92.Response.Body, ((Int.tmod x82.2 3) == 0)⟩ : M.Response)⟩ : M.Cached))).bind fun y97 => (cJ nL1 (IntKind.i64.wrap (x82.2 + 1)) (IntKind.i64.wrap (v5 + 1)) y97)))))))))))))))))) else (some (r99, v1))
def nW (p0 : List M.Cached) (p1 : Int) : Option (List M.Cached × Int) :=
  cJ fuel p1 0 p0
def cT  : Nat → Int → Int → List M.Cache → Option (List M.Cache × Int)
  | 0, _, _, _ => none
  | nL1 + 1, v1, v5, r99 => if (decide (v5 < (List.length r99 : Int))) = true then ((idx r99 v5).bind fun x8 => ((some (List.set r99 v5.toNat (⟨v1, x8.Entries⟩ : M.Cache))).bind fun y13 => ((idx y13 v5).bind fun x21 => ((nW x21.Entries (IntKind.i64.wrap (v1 + 1))).bind fun x26 => ((some (List.set y13 v5.toNat (⟨x21.Version, x26.1⟩ : M.Cache))).bind fun y28 => (cT nL1 x26.2 (IntKind.i64.wrap (v5 + 1)) y28)))))) else (some (r99, v1))
def qB (p0 : List M.Cache) (p1 : Int) : Option (List M.Cache × Int) :=
  cT fuel p1 0 p0
def cV  : Nat → Int → Int → List M.Field → Option (List M.Field × Int)
  | 0, _, _, _ => none
  | nL1 + 1, v1, v5, r99 => if (decide (v5 < (List.length r99 : Int))) = true then ((aF v1).bind fun x8 => ((idx r99 v5).bind fun x10 => ((some (List.set r99 v5.toNat (⟨x8, x10.N⟩ : M.Field))).bind fun y15 => ((idx y15 v5).bind fun x23 => ((some (List.set y15 v5.toNat (⟨x23.Name, (IntKind.i64.wrap (v1 + 1))⟩ : M.Field))).bind fun y28 => (cV nL1 (IntKind.i64.wrap ((IntKind.i64.wrap (v1 + 1)) + 1)) (IntKind.i64.wrap (v5 + 1)) y28)))))) else (some (r99, v1))
def oT (p0 : List M.Field) (p1 : Int) : Option (List M.Field × Int) :=
  cV fuel p1 0 p0
def dN  : Nat → Int → Int → List M.Item → Option (List M.Item × Int)
  | 0, _, _, _ => none
  | nL1 + 1, v1, v5, r99 => if (decide (v5 < (List.length r99 : Int))) = true then ((idx r99 v5).bind fun x8 => ((some (List.set r99 v5.toNat (⟨(⟨v1, x8.Key.N, x8.Key.Text⟩ : M.Key), x8.aU⟩ : M.Item))).bind fun y13 => ((idx y13 v5).bind fun x21 => ((some (List.set y13 v5.toNat (⟨(⟨x21.Key.Kind, (IntKind.i64.wrap (v1 + 1)), x21.Key.Text⟩ : M.Key), x21.aU⟩ : M.Item))).bind fun y26 => ((aF (IntKind.i64.wrap ((IntKind.i64.wrap (v1 + 1)) + 1))).bind fun x34 => ((idx y26 v5).bind fun x36 => ((some (List.set y26 v5.toNat (⟨(⟨x36.Key.Kind, x36.Key.N, x34⟩ : M.Key), x36.aU⟩ : M.Item))).bind fun y41 => ((idx y41 v5).bind fun x49 => ((oT x49.aU.Fields (IntKind.i64.wrap ((IntKind.i64.wrap ((IntKind.i64.wrap (v1 + 1)) + 1)) + 1))).bind fun x54 => ((some (List.set y41 v5.toNat (⟨x49.Key, (⟨x54.1⟩ : M.aU)⟩ : M.Item))).bind fun y56 => (dN nL1 x54.2 (IntKind.i64.wrap (v5 + 1)) y56))))))))))) else (some (r99, v1))
def kH (p0 : List M.Item) (p1 : Int) : Option (List M.Item × Int) :=
  dN fuel p1 0 p0
def cW  : Nat → Int → Int → List M.aH → Option (List M.aH × Int)
  | 0, _, _, _ => none
  | nL1 + 1, v1, v5, r99 => if (decide (v5 < (List.length r99 : Int))) = true then ((aF v1).bind fun x8 => ((idx r99 v5).bind fun x10 => ((some (List.set r99 v5.toNat (⟨x8, x10.Items, x10.Auto⟩ : M.aH))).bind fun y15 => ((idx y15 v5).bind fun x23 => ((kH x23.Items (IntKind.i64.wrap (v1 + 1))).bind fun x28 => ((some (List.set y15 v5.toNat (⟨x23.Name, x28.1, x23.Auto⟩ : M.aH))).bind fun y30 => ((idx y30 v5).bind fun x38 => ((some (List.set y30 v5.toNat (⟨x38.Name, x38.Items, x28.2⟩ : M.aH))).bind fun y43 => (cW nL1 (IntKind.i64.wrap (x28.2 + 1)) (IntKind.i64.wrap (v5 + 1)) y43))))))))) else (some (r99, v1))
def oU (p0 : List M.aH) (p1 : Int) : Option (List M.aH × Int) :=
  cW fuel p1 0 p0
def bR  : Nat → Int → Int → List M.aA → Option (List M.aA × Int)
  | 0, _, _, _ => none
  | nL1 + 1, v1, v5, r99 => if (decide (v5 < (List.length r99 : Int))) = true then ((aF v1).bind fun x8 => ((idx r99 v5).bind fun x10 => ((some (List.set r99 v5.toNat (⟨x8, x10.Field⟩ : M.aA))).bind fun y15 => ((aF (IntKind.i64.wrap (v1 + 1))).bind fun x23 => ((idx y15 v5).bind fun x25 => ((some (List.set y15 v5.toNat (⟨x25.aH, x23⟩ : M.aA))).bind fun y30 => (bR nL1 (IntKind.i64.wrap ((IntKind.i64.wrap (v1 + 1)) + 1)) (IntKind.i64.wrap (v5 + 1)) y30))))))) else (some (r99, v1))
def kN (p0 : List M.aA) (p1 : Int) : Option (List M.aA × Int) :=
  bR fuel p1 0 p0
def cY  : Nat → Int → Int → List M.aW → Option (List M.aW × Int)
  | 0, _, _, _ => none
  | nL1 + 1, v1, v5, r99 => if (decide (v5 < (List.length r99 : Int))) = true then ((idx r99 v5).bind fun x8 => ((some (List.set r99 v5.toNat (⟨v1, x8.Seq, x8.Key, x8.Field, x8.N⟩ : M.aW))).bind fun y13 => ((idx y13 v5).bind fun x21 => ((some (List.set y13 v5.toNat (⟨x21.Device, (IntKind.i64.wrap (v1 + 1)), x21.Key, x21.Field, x21.N⟩ : M.aW))).bind fun y26 => ((idx y26 v5).bind fun x34 => ((some (List.set y26 v5.toNat (⟨x34.Device, x34.Seq, (⟨(IntKind.i64.wrap ((IntKind.i64.wrap (v1 + 1)) + 1)), x34.Key.N, x34.Key.Text⟩ : M.Key), x34.Field, x34.N⟩ : M.aW))).bind fun y39 => ((idx y39 v5).bind fun x47 => ((some (List.set y39 v5.toNat (⟨x47.Device, x47.Seq, (⟨x47.Key.Kind, (IntKind.i64.wrap ((IntKind.i64.wrap ((IntKind.i64.wrap (v1 + 1)) + 1)) + 1)), x47.Key.Text⟩ : M.Key), x47.Field, x47.N⟩ : M.aW))).bind fun y52 => ((aF (IntKind.i64.wrap ((IntKind.i64.wrap ((IntKind.i64.wrap ((IntKind.i64.wrap (v1 + 1)) + 1)) + 1)) + 1))).bind fun x60 => ((idx y52 v5).bind fun x62 => ((some (List.set y52 v5.toNat (⟨x62.Device, x62.Seq, (⟨x62.Key.Kind, x62.Key.N, x60⟩ : M.Key), x62.Field, x62.N⟩ : M.aW))).bind fun y67 => ((aF (IntKind.i64.wrap ((IntKind.i64.wrap ((IntKind.i64.wrap ((IntKind.i64.wrap ((IntKind.i64.wrap (v1 + 1)) + 1)) + 1)) + 1)) + 1))).bind fun x75 => ((idx y67 v5).bind fun x77 => ((some (List.set y67 v5.toNat (⟨x77.Device, x77.Seq, x77.Key, x75, x77.N⟩ : M.aW))).bind fun y82 => ((idx y82 v5).bind fun x90 => ((some (List.set y82 v5.toNat (⟨x90.Device, x90.Seq, x90.Key, x90.Field, (IntKind.i64.wrap ((IntKind.i64.wrap ((IntKind.i64.wrap ((IntKind.i64.wrap ((IntKind.i64.wrap ((IntKind.i64.wrap (v1 + 1)) + 1)) + 1)) + 1)) + 1)) + 1))⟩ : M.aW))).bind fun y95 => (cY nL1 (IntKind.i64.wrap ((IntKind.i64.wrap ((IntKind.i64.wrap ((IntKind.i64.wrap ((IntKind.i64.wrap ((IntKind.i64.wrap ((IntKind.i64.wrap (v1 + 1)) + 1)) + 1)) + 1)) + 1)) + 1)) + 1)) (IntKind.i64.wrap (v5 + 1)) y95))))))))))))))))) else (some (r99, v1))
def lH (p0 : List M.aW) (p1 : Int) : Option (List M.aW × Int) :=
  cY fuel p1 0 p0
def cF  : Nat → Int → Int → List M.aE → Option (List M.aE × Int)
  | 0, _, _, _ => none
  | nL1 + 1, v1, v5, r99 => if (decide (v5 < (List.length r99 : Int))) = true then ((aF v1).bind fun x8 => ((idx r99 v5).bind fun x10 => ((some (List.set r99 v5.toNat (⟨x8, x10.Top, x10.Registration, x10.Caches, x10.bC, x10.aC, x10.LastUsed, x10.Persistent⟩ : M.aE))).bind fun y15 => ((aF (IntKind.i64.wrap (v1 + 1))).bind fun x23 => ((idx y15 v5).bind fun x25 => ((some (List.set y15 v5.toNat (⟨x25.Site, x23, x25.Registration, x25.Caches, x25.bC, x25.aC, x25.LastUsed, x25.Persistent⟩ : M.aE))).bind fun y30 => ((aF (IntKind.i64.wrap ((IntKind.i64.wrap (v1 + 1)) + 1))).bind fun x38 => ((idx y30 v5).bind fun x40 => ((some (List.set y30 v5.toNat (⟨x40.Site, x40.Top, (⟨x38, x40.Registration.Installing, x40.Registration.Waiting, x40.Registration.Active⟩ : M.Registration), x40.Caches, x40.bC, x40.aC, x40.LastUsed, x40.Persistent⟩ : M.aE))).bind fun y45 => ((idx y45 v5).bind fun x53 => ((some (List.set y45 v5.toNat (⟨x53.Site, x53.Top, (⟨x53.Registration.Site, (IntKind.i64.wrap ((IntKind.i64.wrap ((IntKind.i64.wrap (v1 + 1)) + 1)) + 1)), x53.Registration.Waiting, x53.Registration.Active⟩ : M.Registration), x53.Caches, x53.bC, x53.aC, x53.LastUsed, x53.Persistent⟩ : M.aE))).bind fun y58 => ((idx y58 v5).bind fun x66 => ((some (List.set y58 v5.toNat (⟨x66.Site, x66.Top, (⟨x66.Registration.Site, x66.Registration.Installing, (IntKind.i64.wrap ((IntKind.i64.wrap ((IntKind.i64.wrap ((IntKind.i64.wrap (v1 + 1)) + 1)) + 1)) + 1)), x66.Registration.Active⟩ : M.Registration), x66.Caches, x66.bC, x66.aC, x66.LastUsed, x66.Persistent⟩ : M.aE))).bind fun y71 => ((idx y71 v5).bind fun x79 => ((some (List.set y71 v5.toNat (⟨x79.Site, x79.Top, (⟨x79.Registration.Site, x79.Registration.Installing, x79.Registration.Waiting, (IntKind.i64.wrap ((IntKind.i64.wrap ((IntKind.i64.wrap ((IntKind.i64.wrap ((IntKind.i64.wrap (v1 + 1)) + 1)) + 1)) + 1)) + 1))⟩ : M.Registration), x79.Caches, x79.bC, x79.aC, x79.LastUsed, x79.Persistent⟩ : M.aE))).bind fun y84 => ((idx y84 v5).bind fun x92 => ((qB x92.Caches.Caches (IntKind.i64.wrap ((IntKind.i64.wrap ((IntKind.i64.wrap ((IntKind.i64.wrap ((IntKind.i64.wrap ((IntKind.i64.wrap (v1 + 1)) + 1)) + 1)) + 1)) + 1)) + 1))).bind fun x97 => ((some (List.set y84 v5.toNat (⟨x92.Site, x92.Top, x92.Registration, (⟨x97.1⟩ : M.aT), x92.bC, x92.aC, x92.LastUsed, x92.Persistent⟩ : M.aE))).bind fun y99 => ((aF x97.2).bind fun x107 => ((idx y99 v5).bind fun x109 => ((some (List.set y99 v5.toNat (⟨x109.Site, x109.Top, x109.Registration, x109.Caches, (⟨(⟨x107, x109.bC.Base.Version, x109.bC.Base.Stores, x109.bC.Base.Unique⟩ : M.Database), x109.bC.Log, x109.bC.Count⟩ : M.bC), x109.aC, x109.LastUsed, x109.Persistent⟩ : M.aE))).bind fun y114 => ((idx y114 v5).bind fun x122 => ((some (List.set y114 v5.toNat (⟨x122.Site, x122.Top, x122.Registration, x122.Caches, (⟨(⟨x122.bC.Base.Name, (IntKind.i64.wrap (x97.2 + 1)), x122.bC.Base.Stores, x122.bC.Base.Unique⟩ : M.Database), x122.bC.Log, x122.bC.Count⟩ : M.bC), x122.aC, x122.LastUsed, x122.Persistent⟩ : M.aE))).bind fun y127 => ((idx y127 v5).bind fun x135 => ((oU x135.bC.Base.Stores (IntKind.i64.wrap ((IntKind.i64.wrap (x97.2 + 1)) + 1))).bind fun x140 => ((some (List.set y127 v5.toNat (⟨x135.Site, x135.Top, x135.Registration, x135.Caches, (⟨(⟨x135.bC.Base.Name, x135.bC.Base.Version, x140.1, x135.bC.Base.Unique⟩ : M.Database), x135.bC.Log, x135.bC.Count⟩ : M.bC), x135.aC, x135.LastUsed, x135.Persistent⟩ : M.aE))).bind fun y142 => ((idx y142 v5).bind fun x150 => ((kN x150.bC.Base.Unique x140.2).bind fun x155 => ((some (List.set y142 v5.toNat (⟨x150.Site, x150.Top, x150.Registration, x150.Caches, (⟨(⟨x150.bC.Base.Name, x150.bC.Base.Version, x150.bC.Base.Stores, x155.1⟩ : M.Database), x150.bC.Log, x150.bC.Count⟩ : M.bC), x150.aC, x150.LastUsed, x150.Persistent⟩ : M.aE))).bind fun y157 => ((idx y157 v5).bind fun x165 => ((mK x165.bC.Log x155.2).bind fun x170 => ((some (List.set y157 v5.toNat (⟨x165.Site, x165.Top, x165.Registration, x165.Caches, (⟨x165.bC.Base, x170.1, x165.bC.Count⟩ : M.bC), x165.aC, x165.LastUsed, x165.Persistent⟩ : M.aE))).bind fun y172 => ((idx y172 v5).bind fun x180 => ((some (List.set y172 v5.toNat (⟨x180.Site, x180.Top, x180.Registration, x180.Caches, (⟨x180.bC.Base, x180.bC.Log, x170.2⟩ : M.bC), x180.aC, x180.LastUsed, x180.Persistent⟩ : M.aE))).bind fun y185 => ((aF (IntKind.i64.wrap (x170.2 + 1))).bind fun x193 => ((idx y185 v5).bind fun x195 => ((some (List.set y185 v5.toNat (⟨x195.Site, x195.Top, x195.Registration, x195.Caches, x195.bC, (⟨(⟨x193, x195.aC.Base.Items, x195.aC.Base.Auto⟩ : M.aH), x195.aC.Seen, x195.aC.Sync⟩ : M.aC), x195.LastUsed, x195.Persistent⟩ : M.aE))).bind fun y200 => ((idx y200 v5).bind fun x208 => ((kH x208.aC.Base.Items (IntKind.i64.wrap ((IntKind.i64.wrap (x170.2 + 1)) + 1))).bind fun x213 => ((some (List.set y200 v5.toNat (⟨x208.Site, x208.Top, x208.Registration, x208.Caches, x208.bC, (⟨(⟨x208.aC.Base.Name, x213.1, x208.aC.Base.Auto⟩ : M.aH), x208.aC.Seen, x208.aC.Sync⟩ : M.aC), x208.LastUsed, x208.Persistent⟩ : M.aE))).bind fun y215 => ((idx y215 v5).bind fun x223 => ((some (List.set y215 v5.toNat (⟨x223.Site, x223.Top, x223.Registration, x223.Caches, x223.bC, (⟨(⟨x223.aC.Base.Name, x223.aC.Base.Items, x213.2⟩ : M.aH), x223.aC.Seen, x223.aC.Sync⟩ : M.aC), x223.LastUsed, x223.Persistent⟩ : M.aE))).bind fun y228 => ((idx y228 v5).bind fun x236 => ((some (List.set y228 v5.toNat (⟨x236.Site, x236.Top, x236.Registration, x236.Caches, x236.bC, (⟨x236.aC.Base, (IntKind.i64.wrap (x213.2 + 1)), x236.aC.Sync⟩ : M.aC), x236.LastUsed, x236.Persistent⟩ : M.aE))).bind fun y241 => ((idx y241 v5).bind fun x249 => ((some (List.set y241 v5.toNat (⟨x249.Site, x249.Top, x249.Registration, x249.Caches, x249.bC, (⟨x249.aC.Base, x249.aC.Seen, (⟨(⟨(IntKind.i64.wrap ((IntKind.i64.wrap (x213.2 + 1)) + 1)), x249.aC.Sync.aV.Next, x249.aC.Sync.aV.Writes⟩ : M.aV), x249.aC.Sync.Tries, x249.aC.Sync.WaitUntil⟩ : M.Sync)⟩ : M.aC), x249.LastUsed, x249.Persistent⟩ : M.aE))).bind fun y254 => ((idx y254 v5).bind fun x262 => ((some (List.set y254 v5.toNat (⟨x262.Site, x262.Top, x262.Registration, x262.Caches, x262.bC, (⟨x262.aC.Base, x262.aC.Seen, (⟨(⟨x262.aC.Sync.aV.Device, (IntKind.i64.wrap ((IntKind.i64.wrap ((IntKind.i64.wrap (x213.2 + 1)) + 1)) + 1)), x262.aC.Sync.aV.Writes⟩ : M.aV), x262.aC.Sync.Tries, x262.aC.Sync.WaitUntil⟩ : M.Sync)⟩ : M.aC), x262.LastUsed, x262.Persistent⟩ : M.aE))).bind fun y267 => ((idx y267 v5).bind fun x275 => ((lH x275.aC.Sync.aV.Writes (IntKind.i64.wrap ((IntKind.i64.wrap ((IntKind.i64.wrap ((IntKind.i64.wrap (x213.2 + 1)) + 1)) + 1)) + 1))).bind fun x280 => ((some (List.set y267 v5.toNat (⟨x275.Site, x275.Top, x275.Registration, x275.Caches, x275.bC, (⟨x275.aC.Base, x275.aC.Seen, (⟨(⟨x275.aC.Sync.aV.Device, x275.aC.Sync.aV.Next, x280.1⟩ : M.aV), x275.aC.Sync.Tries, x275.aC.Sync.WaitUntil⟩ : M.Sync)⟩ : M.aC), x275.LastUsed, x275.Persistent⟩ : M.aE))).bind fun y282 => ((idx y282 v5).bind fun x290 => ((some (List.set y282 v5.toNat (⟨x290.Site, x290.Top, x290.Registration, x290.Caches, x290.bC, (⟨x290.aC.Base, x290.aC.Seen, (⟨x290.aC.Sync.aV, x280.2, x290.aC.Sync.WaitUntil⟩ : M.Sync)⟩ : M.aC), x290.LastUsed, x290.Persistent⟩ : M.aE))).bind fun y295 => ((idx y295 v5).bind fun x303 => ((some (List.set y295 v5.toNat (⟨x303.Site, x303.Top, x303.Registration, x303.Caches, x303.bC, (⟨x303.aC.Base, x303.aC.Seen, (⟨x303.aC.Sync.aV, x303.aC.Sync.Tries, (IntKind.i64.wrap (x280.2 + 1))⟩ : M.Sync)⟩ : M.aC), x303.LastUsed, x303.Persistent⟩ : M.aE))).bind fun y308 => ((idx y308 v5).bind fun x316 => ((some (List.set y308 v5.toNat (⟨x316.Site, x316.Top, x316.Registration, x316.Caches, x316.bC, x316.aC, (IntKind.i64.wrap ((IntKind.i64.wrap (x280.2 + 1)) + 1)), x316.Persistent⟩ : M.aE))).bind fun y321 => ((idx y321 v5).bind fun x329 => ((some (List.set y321 v5.toNat (⟨x329.Site, x329.Top, x329.Registration, x329.Caches, x329.bC, x329.aC, x329.LastUsed, ((Int.tmod (IntKind.i64.wrap ((IntKind.i64.wrap ((IntKind.i64.wrap (x280.2 + 1)) + 1)) + 1)) 3) == 0)⟩ : M.aE))).bind fun y334 => (cF nL1 (IntKind.i64.wrap ((IntKind.i64.wrap ((IntKind.i64.wrap ((IntKind.i64.wrap (x280.2 + 1)) + 1)) + 1)) + 1)) (IntKind.i64.wrap (v5 + 1)) y334)))))))))))))))))))))))))))))))))))))))))))))))))))))))))))) else (some (r99, v1))
def mX (p0 : List M.aE) (p1 : Int) : Option (List M.aE × Int) :=
  cF fuel p1 0 p0
def uA (p0 : M.aK) (p1 : Int) : Option (List M.aE × Int) :=
  (mX p0.Buckets p1).bind fun x1 => (some (x1.1, x1.2))
def cG  : Nat → Int → Int → List M.aM → Option (List M.aM × Int)
  | 0, _, _, _ => none
  | nL1 + 1, v1, v5, r99 => if (decide (v5 < (List.length r99 : Int))) = true then ((aF v1).bind fun x8 => ((idx r99 v5).bind fun x10 => ((some (List.set r99 v5.toNat (⟨x8, x10.Version⟩ : M.aM))).bind fun y15 => ((idx y15 v5).bind fun x23 => ((some (List.set y15 v5.toNat (⟨x23.Path, (IntKind.i64.wrap (v1 + 1))⟩ : M.aM))).bind fun y28 => (cG nL1 (IntKind.i64.wrap ((IntKind.i64.wrap (v1 + 1)) + 1)) (IntKind.i64.wrap (v5 + 1)) y28)))))) else (some (r99, v1))
def nU (p0 : List M.aM) (p1 : Int) : Option (List M.aM × Int) :=
  cG fuel p1 0 p0
def cX  : Nat → Int → Int → List M.Instr → Option (List M.Instr × Int)
  | 0, _, _, _ => none
  | nL1 + 1, v1, v5, r99 => if (decide (v5 < (List.length r99 : Int))) = true then ((idx r99 v5).bind fun x8 => ((some (List.set r99 v5.toNat (⟨v1, x8.R, x8.N, x8.Text⟩ : M.Instr))).bind fun y13 => ((idx y13 v5).bind fun x21 => ((some (List.set y13 v5.toNat (⟨x21.Kind, (IntKind.i64.wrap (v1 + 1)), x21.N, x21.Text⟩ : M.Instr))).bind fun y26 => ((idx y26 v5).bind fun x34 => ((some (List.set y26 v5.toNat (⟨x34.Kind, x34.R, (IntKind.i64.wrap ((IntKind.i64.wrap (v1 + 1)) + 1)), x34.Text⟩ : M.Instr))).bind fun y39 => ((aF (IntKind.i64.wrap ((IntKind.i64.wrap ((IntKind.i64.wrap (v1 + 1)) + 1)) + 1))).bind fun x47 => ((idx y39 v5).bind fun x49 => ((some (List.set y39 v5.toNat (⟨x49.Kind, x49.R, x49.N, x47⟩ : M.Instr))).bind fun y54 => (cX nL1 (IntKind.i64.wrap ((IntKind.i64.wrap ((IntKind.i64.wrap ((IntKind.i64.wrap (v1 + 1)) + 1)) + 1)) + 1)) (IntKind.i64.wrap (v5 + 1)) y54)))))))))) else (some (r99, v1))
def pB (p0 : List M.Instr) (p1 : Int) : Option (List M.Instr × Int) :=
  cX fuel p1 0 p0
def eM  : Nat → Int → Int → List Int → Option (List Int × Int)
  | 0, _, _, _ => none
  | nL1 + 1, v1, v5, r99 => if (decide (v5 < (List.length r99 : Int))) = true then ((idx r99 v5).bind fun x8 => ((some (List.set r99 v5.toNat v1)).bind fun y13 => (eM nL1 (IntKind.i64.wrap (v1 + 1)) (IntKind.i64.wrap (v5 + 1)) y13))) else (some (r99, v1))
def uM (p0 : List Int) (p1 : Int) : Option (List Int × Int) :=
  eM fuel p1 0 p0
def dM  : Nat → Int → Int → List M.bJ → Option (List M.bJ × Int)
  | 0, _, _, _ => none
  | nL1 + 1, v1, v5, r99 => if (decide (v5 < (List.length r99 : Int))) = true then ((idx r99 v5).bind fun x8 => ((some (List.set r99 v5.toNat (⟨v1, x8.Site, x8.Top, x8.Version, x8.aM, x8.Machine⟩ : M.bJ))).bind fun y13 => ((aF (IntKind.i64.wrap (v1 + 1))).bind fun x21 => ((idx y13 v5).bind fun x23 => ((some (List.set y13 v5.toNat (⟨x23.Id, x21, x23.Top, x23.Version, x23.aM, x23.Machine⟩ : M.bJ))).bind fun y28 => ((aF (IntKind.i64.wrap ((IntKind.i64.wrap (v1 + 1)) + 1))).bind fun x36 => ((idx y28 v5).bind fun x38 => ((some (List.set y28 v5.toNat (⟨x38.Id, x38.Site, x36, x38.Version, x38.aM, x38.Machine⟩ : M.bJ))).bind fun y43 => ((idx y43 v5).bind fun x51 => ((some (List.set y43 v5.toNat (⟨x51.Id, x51.Site, x51.Top, (IntKind.i64.wrap ((IntKind.i64.wrap ((IntKind.i64.wrap (v1 + 1)) + 1)) + 1)), x51.aM, x51.Machine⟩ : M.bJ))).bind fun y56 => ((idx y56 v5).bind fun x64 => ((nU x64.aM (IntKind.i64.wrap ((IntKind.i64.wrap ((IntKind.i64.wrap ((IntKind.i64.wrap (v1 + 1)) + 1)) + 1)) + 1))).bind fun x69 => ((some (List.set y56 v5.toNat (⟨x64.Id, x64.Site, x64.Top, x64.Version, x69.1, x64.Machine⟩ : M.bJ))).bind fun y71 => ((idx y71 v5).bind fun x79 => ((pB x79.Machine.Script x69.2).bind fun x84 => ((some (List.set y71 v5.toNat (⟨x79.Id, x79.Site, x79.Top, x79.Version, x79.aM, (⟨x84.1, x79.Machine.Pc, x79.Machine.Regs, x79.Machine.Steps, x79.Machine.Done, x79.Machine.Wait⟩ : M.Machine)⟩ : M.bJ))).bind fun y86 => ((idx y86 v5).bind fun x94 => ((some (List.set y86 v5.toNat (⟨x94.Id, x94.Site, x94.Top, x94.Version, x94.aM, (⟨x94.Machine.Script, x84.2, x94.Machine.Regs, x94.Machine.Steps, x94.Machine.Done, x94.Machine.Wait⟩ : M.Machine)⟩ : M.bJ))).bind fun y99 => ((idx y99 v5).bind fun x107 => ((uM x107.Machine.Regs (IntKind.i64.wrap (x84.2 + 1))).bind fun x112 => ((some (List.set y99 v5.toNat (⟨x107.Id, x107.Site, x107.Top, x107.Version, x107.aM, (⟨x107.Machine.Script, x107.Machine.Pc, x112.1, x107.Machine.Steps, x107.Machine.Done, x107.Machine.Wait⟩ : M.Machine)⟩ : M.bJ))).bind fun y114 => ((idx y114 v5).bind fun x122 => ((some (List.set y114 v5.toNat (⟨x122.Id, x122.Site, x122.Top, x122.Version, x122.aM, (⟨x122.Machine.Script, x122.Machine.Pc, x122.Machine.Regs, x112.2, x122.Machine.Done, x122.Machine.Wait⟩ : M.Machine)⟩ : M.bJ))).bind fun y127 => ((idx y127 v5).bind fun x135 => ((some (List.set y127 v5.toNat (⟨x135.Id, x135.Site, x135.Top, x135.Version, x135.aM, (⟨x135.Machine.Script, x135.Machine.Pc, x135.Machine.Regs, x135.Machine.Steps, ((Int.tmod (IntKind.i64.wrap (x112.2 + 1)) 3) == 0), x135.Machine.Wait⟩ : M.Machine)⟩ : M.bJ))).bind fun y140 => ((idx y140 v5).bind fun x148 => ((some (List.set y140 v5.toNat (⟨x148.Id, x148.Site, x148.Top, x148.Version, x148.aM, (⟨x148.Machine.Script, x148.Machine.Pc, x148.Machine.Regs, x148.Machine.Steps, x148.Machine.Done, ((Int.tmod (IntKind.i64.wrap ((IntKind.i64.wrap (x112.2 + 1)) + 1)) 3) == 0)⟩ : M.Machine)⟩ : M.bJ))).bind fun y153 => (dM nL1 (IntKind.i64.wrap ((IntKind.i64.wrap ((IntKind.i64.wrap (x112.2 + 1)) + 1)) + 1)) (IntKind.i64.wrap (v5 + 1)) y153)))))))))))))))))))))))))))) else (some (r99, v1))
def rO (p0 : List M.bJ) (p1 : Int) : Option (List M.bJ × Int) :=
  dM fuel p1 0 p0
def dQ  : Nat → Int → Int → List M.bY → Option (List M.bY × Int)
  | 0, _, _, _ => none
  | nL1 + 1, v1, v5, r99 => if (decide (v5 < (List.length r99 : Int))) = true then ((aF v1).bind fun x8 => ((idx r99 v5).bind fun x10 => ((some (List.set r99 v5.toNat (⟨x8, x10.bJ, x10.Shared, x10.Held⟩ : M.bY))).bind fun y15 => ((idx y15 v5).bind fun x23 => ((some (List.set y15 v5.toNat (⟨x23.Name, (IntKind.i64.wrap (v1 + 1)), x23.Shared, x23.Held⟩ : M.bY))).bind fun y28 => ((idx y28 v5).bind fun x36 => ((some (List.set y28 v5.toNat (⟨x36.Name, x36.bJ, ((Int.tmod (IntKind.i64.wrap ((IntKind.i64.wrap (v1 + 1)) + 1)) 3) == 0), x36.Held⟩ : M.bY))).bind fun y41 => ((idx y41 v5).bind fun x49 => ((some (List.set y41 v5.toNat (⟨x49.Name, x49.bJ, x49.Shared, ((Int.tmod (IntKind.i64.wrap ((IntKind.i64.wrap ((IntKind.i64.wrap (v1 + 1)) + 1)) + 1)) 3) == 0)⟩ : M.bY))).bind fun y54 => (dQ nL1 (IntKind.i64.wrap ((IntKind.i64.wrap ((IntKind.i64.wrap ((IntKind.i64.wrap (v1 + 1)) + 1)) + 1)) + 1)) (IntKind.i64.wrap (v5 + 1)) y54)))))))))) else (some (r99, v1))
def tG (p0 : List M.bY) (p1 : Int) : Option (List M.bY × Int) :=
  dQ fuel p1 0 p0
def oM (p0 : M.aQ) (p1 : Int) : Option (List M.bY × Int) :=
  (tG p0.Locks p1).bind fun x1 => (some (x1.1, x1.2))
def dP  : Nat → Int → Int → List M.fA → Option (List M.fA × Int)
  | 0, _, _, _ => none
  | nL1 + 1, v1, v5, r99 => if (decide (v5 < (List.length r99 : Int))) = true then ((idx r99 v5).bind fun x8 => ((some (List.set r99 v5.toNat (⟨v1, x8.From, x8.N⟩ : M.fA))).bind fun y13 => ((idx y13 v5).bind fun x21 => ((some (List.set y13 v5.toNat (⟨x21.To, (IntKind.i64.wrap (v1 + 1)), x21.N⟩ : M.fA))).bind fun y26 => ((idx y26 v5).bind fun x34 => ((some (List.set y26 v5.toNat (⟨x34.To, x34.From, (IntKind.i64.wrap ((IntKind.i64.wrap (v1 + 1)) + 1))⟩ : M.fA))).bind fun y39 => (dP nL1 (IntKind.i64.wrap ((IntKind.i64.wrap ((IntKind.i64.wrap (v1 + 1)) + 1)) + 1)) (IntKind.i64.wrap (v5 + 1)) y39))))))) else (some (r99, v1))
def rT (p0 : List M.fA) (p1 : Int) : Option (List M.fA × Int) :=
  dP fuel p1 0 p0
def tZ (p0 : M.Channel) (p1 : Int) : Option (List M.fA × Int) :=
  (rT p0.Mails p1).bind fun x1 => (some (x1.1, x1.2))
def cH  : Nat → Int → Int → List ByteArray → Option (List ByteArray × Int)
  | 0, _, _, _ => none
  | nL1 + 1, v1, v5, r99 => if (decide (v5 < (List.length r99 : Int))) = true then ((aF v1).bind fun x8 => ((idx r99 v5).bind fun x10 => ((some (List.set r99 v5.toNat x8)).bind fun y15 => (cH nL1 (IntKind.i64.wrap (v1 + 1)) (IntKind.i64.wrap (v5 + 1)) y15)))) else (some (r99, v1))
def mW (p0 : List ByteArray) (p1 : Int) : Option (List ByteArray × Int) :=
  cH fuel p1 0 p0
def dR  : Nat → Int → Int → List M.Site → Option (List M.Site × Int)
  | 0, _, _, _ => none
  | nL1 + 1, v1, v5, r99 => if (decide (v5 < (List.length r99 : Int))) = true then ((aF v1).bind fun x8 => ((idx r99 v5).bind fun x10 => ((some (List.set r99 v5.toNat (⟨x8, x10.Version, x10.Files, x10.Shared⟩ : M.Site))).bind fun y15 => ((idx y15 v5).bind fun x23 => ((some (List.set y15 v5.toNat (⟨x23.Name, (IntKind.i64.wrap (v1 + 1)), x23.Files, x23.Shared⟩ : M.Site))).bind fun y28 => ((idx y28 v5).bind fun x36 => ((mW x36.Files (IntKind.i64.wrap ((IntKind.i64.wrap (v1 + 1)) + 1))).bind fun x41 => ((some (List.set y28 v5.toNat (⟨x36.Name, x36.Version, x41.1, x36.Shared⟩ : M.Site))).bind fun y43 => ((idx y43 v5).bind fun x51 => ((some (List.set y43 v5.toNat (⟨x51.Name, x51.Version, x51.Files, ((Int.tmod x41.2 3) == 0)⟩ : M.Site))).bind fun y56 => (dR nL1 (IntKind.i64.wrap (x41.2 + 1)) (IntKind.i64.wrap (v5 + 1)) y56))))))))))) else (some (r99, v1))
def sR (p0 : List M.Site) (p1 : Int) : Option (List M.Site × Int) :=
  dR fuel p1 0 p0
def bW  : Nat → Int → Int → List M.aG → Option (List M.aG × Int)
  | 0, _, _, _ => none
  | nL1 + 1, v1, v5, r99 => if (decide (v5 < (List.length r99 : Int))) = true then ((idx r99 v5).bind fun x8 => ((some (List.set r99 v5.toNat (⟨v1, x8.Seq⟩ : M.aG))).bind fun y13 => ((idx y13 v5).bind fun x21 => ((some (List.set y13 v5.toNat (⟨x21.Device, (IntKind.i64.wrap (v1 + 1))⟩ : M.aG))).bind fun y26 => (bW nL1 (IntKind.i64.wrap ((IntKind.i64.wrap (v1 + 1)) + 1)) (IntKind.i64.wrap (v5 + 1)) y26))))) else (some (r99, v1))
def lO (p0 : List M.aG) (p1 : Int) : Option (List M.aG × Int) :=
  bW fuel p1 0 p0
def cD  : Nat → Int → Int → List M.Server → Option (List M.Server × Int)
  | 0, _, _, _ => none
  | nL1 + 1, v1, v5, r99 => if (decide (v5 < (List.length r99 : Int))) = true then ((aF v1).bind fun x8 => ((idx r99 v5).bind fun x10 => ((some (List.set r99 v5.toNat (⟨(⟨x8, x10.aH.Items, x10.aH.Auto⟩ : M.aH), x10.aG, x10.Changes⟩ : M.Server))).bind fun y15 => ((idx y15 v5).bind fun x23 => ((kH x23.aH.Items (IntKind.i64.wrap (v1 + 1))).bind fun x28 => ((some (List.set y15 v5.toNat (⟨(⟨x23.aH.Name, x28.1, x23.aH.Auto⟩ : M.aH), x23.aG, x23.Changes⟩ : M.Server))).bind fun y30 => ((idx y30 v5).bind fun x38 => ((some (List.set y30 v5.toNat (⟨(⟨x38.aH.Name, x38.aH.Items, x28.2⟩ : M.aH), x38.aG, x38.Changes⟩ : M.Server))).bind fun y43 => ((idx y43 v5).bind fun x51 => ((lO x51.aG (IntKind.i64.wrap (x28.2 + 1))).bind fun x56 => ((some (List.set y43 v5.toNat (⟨x51.aH, x56.1, x51.Changes⟩ : M.Server))).bind fun y58 => ((idx y58 v5).bind fun x66 => ((lH x66.Changes x56.2).bind fun x71 => ((some (List.set y58 v5.toNat (⟨x66.aH, x66.aG, x71.1⟩ : M.Server))).bind fun y73 => (cD nL1 x71.2 (IntKind.i64.wrap (v5 + 1)) y73))))))))))))))) else (some (r99, v1))
def nI (p0 : List M.Server) (p1 : Int) : Option (List M.Server × Int) :=
  cD fuel p1 0 p0
def mN (p0 : M.World) (p1 : Int) : Option (List M.aE × List M.bJ × List M.bY × List M.fA × List M.Site × List M.Server × Int) :=
  (uA p0.aK p1).bind fun x1 => ((rO p0.Pages x1.2).bind fun x8 => ((oM p0.Locks x8.2).bind fun x15 => ((tZ p0.Channel x15.2).bind fun x22 => ((sR p0.Sites x22.2).bind fun x29 => ((nI p0.Servers x29.2).bind fun x36 => (some (x1.1, x8.1, x15.1, x22.1, x29.1, x36.1, x36.2)))))))
def eX (p0 : List Int) : Nat → Int → Int → Option Int
  | 0, _, _ => none
  | nL1 + 1, v1, v5 => if (decide (v5 < (List.length p0 : Int))) = true then ((idx p0 v5).bind fun x6 => (if (x6 != (IntKind.u8.wrap v1)) = true then (some (-1)) else (eX p0 nL1 (IntKind.i64.wrap (v1 + 1)) (IntKind.i64.wrap (v5 + 1))))) else (some v1)
def mL (p0 : List Int) (p1 : Int) : Option Int :=
  eX p0 fuel p1 0
def dC (p0 : List M.Cached) : Nat → Int → Int → Option Int
  | 0, _, _ => none
  | nL1 + 1, v1, v5 => if (decide (v5 < (List.length p0 : Int))) = true then ((idx p0 v5).bind fun x6 => ((aF v1).bind fun x11 => (if (!(x6.Site.toList == x11.toList)) = true then (some (-1)) else ((aF (IntKind.i64.wrap (v1 + 1))).bind fun x14 => (if (!(x6.Path.toList == x14.toList)) = true then (some (-1)) else (if (x6.Response.Type_ != (IntKind.i64.wrap ((IntKind.i64.wrap (v1 + 1)) + 1))) = true then (some (-1)) else (if (x6.Response.Status != (IntKind.i64.wrap ((IntKind.i64.wrap ((IntKind.i64.wrap (v1 + 1)) + 1)) + 1))) = true then (some (-1)) else (if (x6.Response.Version != (IntKind.i64.wrap ((IntKind.i64.wrap ((IntKind.i64.wrap ((IntKind.i64.wrap (v1 + 1)) + 1)) + 1)) + 1))) = true then (some (-1)) else ((mL x6.Response.Body (IntKind.i64.wrap ((IntKind.i64.wrap ((IntKind.i64.wrap ((IntKind.i64.wrap ((IntKind.i64.wrap (v1 + 1)) + 1)) + 1)) + 1)) + 1))).bind fun x20 => (if (decide (x20 < 0)) = true then (some (-1)) else (if (!(x6.Response.Shares == ((Int.tmod x20 3) == 0))) = true then (some (-1)) else (dC p0 nL1 (IntKind.i64.wrap (x20 + 1)) (IntKind.i64.wrap (v5 + 1)))))))))))))) else (some v1)
def nH (p0 : List M.Cached) (p1 : Int) : Option Int :=
  dC p0 fuel p1 0
def dU (p0 : List M.Cache) : Nat → Int → Int → Option Int
  | 0, _, _ => none
  | nL1 + 1, v1, v5 => if (decide (v5 < (List.length p0 : Int))) = true then ((idx p0 v5).bind fun x6 => (if (x6.Version != v1) = true then (some (-1)) else ((nH x6.Entries (IntKind.i64.wrap (v1 + 1))).bind fun x12 => (if (decide (x12 < 0)) = true then (some (-1)) else (dU p0 nL1 x12 (IntKind.i64.wrap (v5 + 1))))))) else (some v1)
def oY (p0 : List M.Cache) (p1 : Int) : Option Int :=
  dU p0 fuel p1 0
def dY (p0 : List M.Field) : Nat → Int → Int → Option Int
  | 0, _, _ => none
  | nL1 + 1, v1, v5 => if (decide (v5 < (List.length p0 : Int))) = true then ((idx p0 v5).bind fun x6 => ((aF v1).bind fun x11 => (if (!(x6.Name.toList == x11.toList)) = true then (some (-1)) else (if (x6.N != (IntKind.i64.wrap (v1 + 1))) = true then (some (-1)) else (dY p0 nL1 (IntKind.i64.wrap ((IntKind.i64.wrap (v1 + 1)) + 1)) (IntKind.i64.wrap (v5 + 1))))))) else (some v1)
def qA (p0 : List M.Field) (p1 : Int) : Option Int :=
  dY p0 fuel p1 0
def eU (p0 : List M.Item) : Nat → Int → Int → Option Int
  | 0, _, _ => none
  | nL1 + 1, v1, v5 => if (decide (v5 < (List.length p0 : Int))) = true then ((idx p0 v5).bind fun x6 => (if (x6.Key.Kind != v1) = true then (some (-1)) else (if (x6.Key.N != (IntKind.i64.wrap (v1 + 1))) = true then (some (-1)) else ((aF (IntKind.i64.wrap ((IntKind.i64.wrap (v1 + 1)) + 1))).bind fun x13 => (if (!(x6.Key.Text.toList == x13.toList)) = true then (some (-1)) else ((qA x6.aU.Fields (IntKind.i64.wrap ((IntKind.i64.wrap ((IntKind.i64.wrap (v1 + 1)) + 1)) + 1))).bind fun x16 => (if (decide (x16 < 0)) = true then (some (-1)) else (eU p0 nL1 x16 (IntKind.i64.wrap (v5 + 1)))))))))) else (some v1)
def kK (p0 : List M.Item) (p1 : Int) : Option Int :=
  eU p0 fuel p1 0
def eJ (p0 : List M.aH) : Nat → Int → Int → Option Int
  | 0, _, _ => none
  | nL1 + 1, v1, v5 => if (decide (v5 < (List.length p0 : Int))) = true then ((idx p0 v5).bind fun x6 => ((aF v1).bind fun x11 => (if (!(x6.Name.toList == x11.toList)) = true then (some (-1)) else ((kK x6.Items (IntKind.i64.wrap (v1 + 1))).bind fun x14 => (if (decide (x14 < 0)) = true then (some (-1)) else (if (x6.Auto != x14) = true then (some (-1)) else (eJ p0 nL1 (IntKind.i64.wrap (x14 + 1)) (IntKind.i64.wrap (v5 + 1))))))))) else (some v1)
def pF (p0 : List M.aH) (p1 : Int) : Option Int :=
  eJ p0 fuel p1 0
def cC (p0 : List M.aA) : Nat → Int → Int → Option Int
  | 0, _, _ => none
  | nL1 + 1, v1, v5 => if (decide (v5 < (List.length p0 : Int))) = true then ((idx p0 v5).bind fun x6 => ((aF v1).bind fun x11 => (if (!(x6.aH.toList == x11.toList)) = true then (some (-1)) else ((aF (IntKind.i64.wrap (v1 + 1))).bind fun x14 => (if (!(x6.Field.toList == x14.toList)) = true then (some (-1)) else (cC p0 nL1 (IntKind.i64.wrap ((IntKind.i64.wrap (v1 + 1)) + 1)) (IntKind.i64.wrap (v5 + 1)))))))) else (some v1)
def kM (p0 : List M.aA) (p1 : Int) : Option Int :=
  cC p0 fuel p1 0
def eH (p0 : List M.aW) : Nat → Int → Int → Option Int
  | 0, _, _ => none
  | nL1 + 1, v1, v5 => if (decide (v5 < (List.length p0 : Int))) = true then ((idx p0 v5).bind fun x6 => (if (x6.Device != v1) = true then (some (-1)) else (if (x6.Seq != (IntKind.i64.wrap (v1 + 1))) = true then (some (-1)) else (if (x6.Key.Kind != (IntKind.i64.wrap ((IntKind.i64.wrap (v1 + 1)) + 1))) = true then (some (-1)) else (if (x6.Key.N != (IntKind.i64.wrap ((IntKind.i64.wrap ((IntKind.i64.wrap (v1 + 1)) + 1)) + 1))) = true then (some (-1)) else ((aF (IntKind.i64.wrap ((IntKind.i64.wrap ((IntKind.i64.wrap ((IntKind.i64.wrap (v1 + 1)) + 1)) + 1)) + 1))).bind fun x15 => (if (!(x6.Key.Text.toList == x15.toList)) = true then (some (-1)) else ((aF (IntKind.i64.wrap ((IntKind.i64.wrap ((IntKind.i64.wrap ((IntKind.i64.wrap ((IntKind.i64.wrap (v1 + 1)) + 1)) + 1)) + 1)) + 1))).bind fun x18 => (if (!(x6.Field.toList == x18.toList)) = true then (some (-1)) else (if (x6.N != (IntKind.i64.wrap ((IntKind.i64.wrap ((IntKind.i64.wrap ((IntKind.i64.wrap ((IntKind.i64.wrap ((IntKind.i64.wrap (v1 + 1)) + 1)) + 1)) + 1)) + 1)) + 1))) = true then (some (-1)) else (eH p0 nL1 (IntKind.i64.wrap ((IntKind.i64.wrap ((IntKind.i64.wrap ((IntKind.i64.wrap ((IntKind.i64.wrap ((IntKind.i64.wrap ((IntKind.i64.wrap (v1 + 1)) + 1)) + 1)) + 1)) + 1)) + 1)) + 1)) (IntKind.i64.wrap (v5 + 1))))))))))))) else (some v1)
def kV (p0 : List M.aW) (p1 : Int) : Option Int :=
  eH p0 fuel p1 0
def cK (p0 : List M.aE) : Nat → Int → Int → Option Int
  | 0, _, _ => none
  | nL1 + 1, v1, v5 => if (decide (v5 < (List.length p0 : Int))) = true then ((idx p0 v5).bind fun x6 => ((aF v1).bind fun x11 => (if (!(x6.Site.toList == x11.toList)) = true then (some (-1)) else ((aF (IntKind.i64.wrap (v1 + 1))).bind fun x14 => (if (!(x6.Top.toList == x14.toList)) = true then (some (-1)) else ((aF (IntKind.i64.wrap ((IntKind.i64.wrap (v1 + 1)) + 1))).bind fun x17 => (if (!(x6.Registration.Site.toList == x17.toList)) = true then (some (-1)) else (if (x6.Registration.Installing != (IntKind.i64.wrap ((IntKind.i64.wrap ((IntKind.i64.wrap (v1 + 1)) + 1)) + 1))) = true then (some (-1)) else (if (x6.Registration.Waiting != (IntKind.i64.wrap ((IntKind.i64.wrap ((IntKind.i64.wrap ((IntKind.i64.wrap (v1 + 1)) + 1)) + 1)) + 1))) = true then (some (-1)) else (if (x6.Registration.Active != (IntKind.i64.wrap ((IntKind.i64.wrap ((IntKind.i64.wrap ((IntKind.i64.wrap ((IntKind.i64.wrap (v1 + 1)) + 1)) + 1)) + 1)) + 1))) = true then (some (-1)) else ((oY x6.Caches.Caches (IntKind.i64.wrap ((IntKind.i64.wrap ((IntKind.i64.wrap ((IntKind.i64.wrap ((IntKind.i64.wrap ((IntKind.i64.wrap (v1 + 1)) + 1)) + 1)) + 1)) + 1)) + 1))).bind fun x27 => (if (decide (x27 < 0)) = true then (some (-1)) else ((aF x27).bind fun x30 => (if (!(x6.bC.Base.Name.toList == x30.toList)) = true then (some (-1)) else (if (x6.bC.Base.Version != (IntKind.i64.wrap (x27 + 1))) = true then (some (-1)) else ((pF x6.bC.Base.Stores (IntKind.i64.wrap ((IntKind.i64.wrap (x27 + 1)) + 1))).bind fun x34 => (if (decide (x34 < 0)) = true then (some (-1)) else ((kM x6.bC.Base.Unique x34).bind fun x37 => (if (decide (x37 < 0)) = true then (some (-1)) else ((mL x6.bC.Log x37).bind fun x40 => (if (decide (x40 < 0)) = true then (some (-1)) else (if (x6.bC.Count != x40) = true then (some (-1)) else ((aF (IntKind.i64.wrap (x40 + 1))).bind fun x48 => (if (!(x6.aC.Base.Name.toList == x48.toList)) = true then (some (-1)) else ((kK x6.aC.Base.Items (IntKind.i64.wrap ((IntKind.i64.wrap (x40 + 1)) + 1))).bind fun x51 => (if (decide (x51 < 0)) = true then (some (-1)) else (if (x6.aC.Base.Auto != x51) = true then (some (-1)) else (if (x6.aC.Seen != (IntKind.i64.wrap (x51 + 1))) = true then (some (-1)) else (if (x6.aC.Sync.aV.Device != (IntKind.i64.wrap ((IntKind.i64.wrap (x51 + 1)) + 1))) = true then (some (-1)) else (if (x6.aC.Sync.aV.Next != (IntKind.i64.wrap ((IntKind.i64.wrap ((IntKind.i64.wrap (x51 + 1)) + 1)) + 1))) = true then (some (-1)) else ((kV x6.aC.Sync.aV.Writes (IntKind.i64.wrap ((IntKind.i64.wrap ((IntKind.i64.wrap ((IntKind.i64.wrap (x51 + 1)) + 1)) + 1)) + 1))).bind fun x62 => (if (decide (x62 < 0)) = true then (some (-1)) else (if (x6.aC.Sync.Tries != x62) = true then (some (-1)) else (if (x6.aC.Sync.WaitUntil != (IntKind.i64.wrap (x62 + 1))) = true then (some (-1)) else (if (x6.LastUsed != (IntKind.i64.wrap ((IntKind.i64.wrap (x62 + 1)) + 1))) = true then (some (-1)) else (if (!(x6.Persistent == ((Int.tmod (IntKind.i64.wrap ((IntKind.i64.wrap ((IntKind.i64.wrap (x62 + 1)) + 1)) + 1)) 3) == 0))) = true then (some (-1)) else (cK p0 nL1 (IntKind.i64.wrap ((IntKind.i64.wrap ((IntKind.i64.wrap ((IntKind.i64.wrap (x62 + 1)) + 1)) + 1)) + 1)) (IntKind.i64.wrap (v5 + 1))))))))))))))))))))))))))))))))))))))) else (some v1)
def mR (p0 : List M.aE) (p1 : Int) : Option Int :=
  cK p0 fuel p1 0
def tS (p0 : M.aK) (p1 : Int) : Option Int :=
  (mR p0.Buckets p1).bind fun x1 => (if (decide (x1 < 0)) = true then (some (-1)) else (some x1))
def dD (p0 : List M.aM) : Nat → Int → Int → Option Int
  | 0, _, _ => none
  | nL1 + 1, v1, v5 => if (decide (v5 < (List.length p0 : Int))) = true then ((idx p0 v5).bind fun x6 => ((aF v1).bind fun x11 => (if (!(x6.Path.toList == x11.toList)) = true then (some (-1)) else (if (x6.Version != (IntKind.i64.wrap (v1 + 1))) = true then (some (-1)) else (dD p0 nL1 (IntKind.i64.wrap ((IntKind.i64.wrap (v1 + 1)) + 1)) (IntKind.i64.wrap (v5 + 1))))))) else (some v1)
def nB (p0 : List M.aM) (p1 : Int) : Option Int :=
  dD p0 fuel p1 0
def dW (p0 : List M.Instr) : Nat → Int → Int → Option Int
  | 0, _, _ => none
  | nL1 + 1, v1, v5 => if (decide (v5 < (List.length p0 : Int))) = true then ((idx p0 v5).bind fun x6 => (if (x6.Kind != v1) = true then (some (-1)) else (if (x6.R != (IntKind.i64.wrap (v1 + 1))) = true then (some (-1)) else (if (x6.N != (IntKind.i64.wrap ((IntKind.i64.wrap (v1 + 1)) + 1))) = true then (some (-1)) else ((aF (IntKind.i64.wrap ((IntKind.i64.wrap ((IntKind.i64.wrap (v1 + 1)) + 1)) + 1))).bind fun x14 => (if (!(x6.Text.toList == x14.toList)) = true then (some (-1)) else (dW p0 nL1 (IntKind.i64.wrap ((IntKind.i64.wrap ((IntKind.i64.wrap ((IntKind.i64.wrap (v1 + 1)) + 1)) + 1)) + 1)) (IntKind.i64.wrap (v5 + 1))))))))) else (some v1)
def oQ (p0 : List M.Instr) (p1 : Int) : Option Int :=
  dW p0 fuel p1 0
def fN (p0 : List Int) : Nat → Int → Int → Option Int
  | 0, _, _ => none
  | nL1 + 1, v1, v5 => if (decide (v5 < (List.length p0 : Int))) = true then ((idx p0 v5).bind fun x6 => (if (x6 != v1) = true then (some (-1)) else (fN p0 nL1 (IntKind.i64.wrap (v1 + 1)) (IntKind.i64.wrap (v5 + 1))))) else (some v1)
def vF (p0 : List Int) (p1 : Int) : Option Int :=
  fN p0 fuel p1 0
def dK (p0 : List M.bJ) : Nat → Int → Int → Option Int
  | 0, _, _ => none
  | nL1 + 1, v1, v5 => if (decide (v5 < (List.length p0 : Int))) = true then ((idx p0 v5).bind fun x6 => (if (x6.Id != v1) = true then (some (-1)) else ((aF (IntKind.i64.wrap (v1 + 1))).bind fun x12 => (if (!(x6.Site.toList == x12.toList)) = true then (some (-1)) else ((aF (IntKind.i64.wrap ((IntKind.i64.wrap (v1 + 1)) + 1))).bind fun x15 => (if (!(x6.Top.toList == x15.toList)) = true then (some (-1)) else (if (x6.Version != (IntKind.i64.wrap ((IntKind.i64.wrap ((IntKind.i64.wrap (v1 + 1)) + 1)) + 1))) = true then (some (-1)) else ((nB x6.aM (IntKind.i64.wrap ((IntKind.i64.wrap ((IntKind.i64.wrap ((IntKind.i64.wrap (v1 + 1)) + 1)) + 1)) + 1))).bind fun x19 => (if (decide (x19 < 0)) = true then (some (-1)) else ((oQ x6.Machine.Script x19).bind fun x22 => (if (decide (x22 < 0)) = true then (some (-1)) else (if (x6.Machine.Pc != x22) = true then (some (-1)) else ((vF x6.Machine.Regs (IntKind.i64.wrap (x22 + 1))).bind fun x30 => (if (decide (x30 < 0)) = true then (some (-1)) else (if (x6.Machine.Steps != x30) = true then (some (-1)) else (if (!(x6.Machine.Done == ((Int.tmod (IntKind.i64.wrap (x30 + 1)) 3) == 0))) = true then (some (-1)) else (if (!(x6.Machine.Wait == ((Int.tmod (IntKind.i64.wrap ((IntKind.i64.wrap (x30 + 1)) + 1)) 3) == 0))) = true then (some (-1)) else (dK p0 nL1 (IntKind.i64.wrap ((IntKind.i64.wrap ((IntKind.i64.wrap (x30 + 1)) + 1)) + 1)) (IntKind.i64.wrap (v5 + 1)))))))))))))))))))) else (some v1)
def sJ (p0 : List M.bJ) (p1 : Int) : Option Int :=
  dK p0 fuel p1 0
def eY (p0 : List M.bY) : Nat → Int → Int → Option Int
  | 0, _, _ => none
  | nL1 + 1, v1, v5 => if (decide (v5 < (List.length p0 : Int))) = true then ((idx p0 v5).bind fun x6 => ((aF v1).bind fun x11 => (if (!(x6.Name.toList == x11.toList)) = true then (some (-1)) else (if (x6.bJ != (IntKind.i64.wrap (v1 + 1))) = true then (some (-1)) else (if (!(x6.Shared == ((Int.tmod (IntKind.i64.wrap ((IntKind.i64.wrap (v1 + 1)) + 1)) 3) == 0))) = true then (some (-1)) else (if (!(x6.Held == ((Int.tmod (IntKind.i64.wrap ((IntKind.i64.wrap ((IntKind.i64.wrap (v1 + 1)) + 1)) + 1)) 3) == 0))) = true then (some (-1)) else (eY p0 nL1 (IntKind.i64.wrap ((IntKind.i64.wrap ((IntKind.i64.wrap ((IntKind.i64.wrap (v1 + 1)) + 1)) + 1)) + 1)) (IntKind.i64.wrap (v5 + 1))))))))) else (some v1)
def rR (p0 : List M.bY) (p1 : Int) : Option Int :=
  eY p0 fuel p1 0
def oL (p0 : M.aQ) (p1 : Int) : Option Int :=
  (rR p0.Locks p1).bind fun x1 => (if (decide (x1 < 0)) = true then (some (-1)) else (some x1))
def eR (p0 : List M.fA) : Nat → Int → Int → Option Int
  | 0, _, _ => none
  | nL1 + 1, v1, v5 => if (decide (v5 < (List.length p0 : Int))) = true then ((idx p0 v5).bind fun x6 => (if (x6.To != v1) = true then (some (-1)) else (if (x6.From != (IntKind.i64.wrap (v1 + 1))) = true then (some (-1)) else (if (x6.N != (IntKind.i64.wrap ((IntKind.i64.wrap (v1 + 1)) + 1))) = true then (some (-1)) else (eR p0 nL1 (IntKind.i64.wrap ((IntKind.i64.wrap ((IntKind.i64.wrap (v1 + 1)) + 1)) + 1)) (IntKind.i64.wrap (v5 + 1))))))) else (some v1)
def sV (p0 : List M.fA) (p1 : Int) : Option Int :=
  eR p0 fuel p1 0
def tQ (p0 : M.Channel) (p1 : Int) : Option Int :=
  (sV p0.Mails p1).bind fun x1 => (if (decide (x1 < 0)) = true then (some (-1)) else (some x1))
def dE (p0 : List ByteArray) : Nat → Int → Int → Option Int
  | 0, _, _ => none
  | nL1 + 1, v1, v5 => if (decide (v5 < (List.length p0 : Int))) = true then ((idx p0 v5).bind fun x6 => ((aF v1).bind fun x11 => (if (!(x6.toList == x11.toList)) = true then (some (-1)) else (dE p0 nL1 (IntKind.i64.wrap (v1 + 1)) (IntKind.i64.wrap (v5 + 1)))))) else (some v1)
def nT (p0 : List ByteArray) (p1 : Int) : Option Int :=
  dE p0 fuel p1 0
def eZ (p0 : List M.Site) : Nat → Int → Int → Option Int
  | 0, _, _ => none
  | nL1 + 1, v1, v5 => if (decide (v5 < (List.length p0 : Int))) = true then ((idx p0 v5).bind fun x6 => ((aF v1).bind fun x11 => (if (!(x6.Name.toList == x11.toList)) = true then (some (-1)) else (if (x6.Version != (IntKind.i64.wrap (v1 + 1))) = true then (some (-1)) else ((nT x6.Files (IntKind.i64.wrap ((IntKind.i64.wrap (v1 + 1)) + 1))).bind fun x15 => (if (decide (x15 < 0)) = true then (some (-1)) else (if (!(x6.Shared == ((Int.tmod x15 3) == 0))) = true then (some (-1)) else (eZ p0 nL1 (IntKind.i64.wrap (x15 + 1)) (IntKind.i64.wrap (v5 + 1)))))))))) else (some v1)
def sP (p0 : List M.Site) (p1 : Int) : Option Int :=
  eZ p0 fuel p1 0
def cN (p0 : List M.aG) : Nat → Int → Int → Option Int
  | 0, _, _ => none
  | nL1 + 1, v1, v5 => if (decide (v5 < (List.length p0 : Int))) = true then ((idx p0 v5).bind fun x6 => (if (x6.Device != v1) = true then (some (-1)) else (if (x6.Seq != (IntKind.i64.wrap (v1 + 1))) = true then (some (-1)) else (cN p0 nL1 (IntKind.i64.wrap ((IntKind.i64.wrap (v1 + 1)) + 1)) (IntKind.i64.wrap (v5 + 1)))))) else (some v1)
def lY (p0 : List M.aG) (p1 : Int) : Option Int :=
  cN p0 fuel p1 0
def cE (p0 : List M.Server) : Nat → Int → Int → Option Int
  | 0, _, _ => none
  | nL1 + 1, v1, v5 => if (decide (v5 < (List.length p0 : Int))) = true then ((idx p0 v5).bind fun x6 => ((aF v1).bind fun x11 => (if (!(x6.aH.Name.toList == x11.toList)) = true then (some (-1)) else ((kK x6.aH.Items (IntKind.i64.wrap (v1 + 1))).bind fun x14 => (if (decide (x14 < 0)) = true then (some (-1)) else (if (x6.aH.Auto != x14) = true then (some (-1)) else ((lY x6.aG (IntKind.i64.wrap (x14 + 1))).bind fun x18 => (if (decide (x18 < 0)) = true then (some (-1)) else ((kV x6.Changes x18).bind fun x21 => (if (decide (x21 < 0)) = true then (some (-1)) else (cE p0 nL1 x21 (IntKind.i64.wrap (v5 + 1))))))))))))) else (some v1)
def mQ (p0 : List M.Server) (p1 : Int) : Option Int :=
  cE p0 fuel p1 0
def mP (p0 : M.World) (p1 : Int) : Option Int :=
  (tS p0.aK p1).bind fun x1 => (if (decide (x1 < 0)) = true then (some (-1)) else ((sJ p0.Pages x1).bind fun x4 => (if (decide (x4 < 0)) = true then (some (-1)) else ((oL p0.Locks x4).bind fun x7 => (if (decide (x7 < 0)) = true then (some (-1)) else ((tQ p0.Channel x7).bind fun x10 => (if (decide (x10 < 0)) = true then (some (-1)) else ((sP p0.Sites x10).bind fun x13 => (if (decide (x13 < 0)) = true then (some (-1)) else ((mQ p0.Servers x13).bind fun x16 => (if (decide (x16 < 0)) = true then (some (-1)) else (some x16))))))))))))
def jD (p0 : M.World) (p1 : ByteArray) : Option Bool :=
  if (decide ((p1.size : Int) > 1048576)) = true then (some true) else ((yK p0 1048576).bind fun x2 => (if (decide (x2 < 0)) = true then (some true) else ((kT p0).bind fun x5 => ((nG x5 p1).bind fun x7 => ((kT p0).bind fun x9 => ((kC x9 p1).bind fun x11 => ((kQ x11.1 x7.1).bind fun x13 => (if (!x13) = true then (some false) else (if (!(x11.2 == x7.2)) = true then (some false) else ((kT p0).bind fun x17 => ((kQ x9 x17).bind fun x19 => (if (!x19) = true then (some false) else ((mN x9 1).bind fun x22 => (if (decide (x22.2.2.2.2.2.2 < 0)) = true then (some false) else ((kQ x11.1 x7.1).bind fun x48 => (if (!x48) = true then (some false) else ((mN x11.1 1).bind fun x51 => ((mP (⟨x11.1.Now, x11.1.Online, x11.1.Device, (⟨x51.1⟩ : M.aK), x51.2.1, x11.1.NextPage, (⟨x51.2.2.1⟩ : M.aQ), (⟨x51.2.2.2.1⟩ : M.Channel), x51.2.2.2.2.1, x51.2.2.2.2.2.1⟩ : M.World) 1).bind fun x75 => (if (decide (x75 < 0)) = true then (some false) else (if (x75 != x51.2.2.2.2.2.2) = true then (some false) else ((kT p0).bind fun x79 => ((kC x79 p1).bind fun x81 => ((kQ x81.1 x7.1).bind fun x83 => (if (!x83) = true then (some false) else (if (!(x81.2 == x7.2)) = true then (some false) else ((mP (⟨x11.1.Now, x11.1.Online, x11.1.Device, (⟨x51.1⟩ : M.aK), x51.2.1, x11.1.NextPage, (⟨x51.2.2.1⟩ : M.aQ), (⟨x51.2.2.2.1⟩ : M.Channel), x51.2.2.2.2.1, x51.2.2.2.2.2.1⟩ : M.World) 1).bind fun x87 => (if (decide (x87 < 0)) = true then (some false) else (if (x87 != x51.2.2.2.2.2.2) = true then (some false) else (some true)))))))))))))))))))))))))))))
end Go.Proofs.YtecmnmaaopkdfaaGreat.gen
