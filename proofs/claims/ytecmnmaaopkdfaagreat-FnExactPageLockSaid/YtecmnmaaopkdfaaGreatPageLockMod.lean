/-
  Helper text. No conditions.
-/
import Derived.Test.YtecmnmaaopkdfaaGreatShS
namespace Go.Proofs.YtecmnmaaopkdfaaGreat.gen
open Go Go.Sh
set_option linter.unusedVariables false
set_option linter.unusedSimpArgs false
structure M.Registration where
  Site : ByteArray
  Installing : Int
  Waiting : Int
  Active : Int
def M.Registration.en (x : M.Registration) : List D := [.str x.Site, .int .i64 x.Installing, .int .i64 x.Waiting, .int .i64 x.Active]
theorem M.Registration.en.fl (l : List M.Registration) : (List.map M.Registration.en l).all (fun y => y.all D.flat) = true := aEH (fun _ => rfl) l
structure M.Response where
  Type_ : Int
  Status : Int
  Version : Int
  Body : List Int
  Shares : Bool
def M.Response.en (x : M.Response) : List D := [.int .i64 x.Type_, .int .i64 x.Status, .int .i64 x.Version, .sl (List.map enB x.Body), .bool x.Shares]
structure M.Cached where
  Site : ByteArray
  Path : ByteArray
  Response : M.Response
def M.Cached.en (x : M.Cached) : List D := [.str x.Site, .str x.Path, .int .i64 x.Response.Type_, .int .i64 x.Response.Status, .int .i64 x.Response.Version, .sl (List.map enB x.Response.Body), .bool x.Response.Shares]
structure M.Cache where
  Version : Int
  Entries : List M.Cached
def M.Cache.en (x : M.Cache) : List D := [.int .i64 x.Version, .sl (List.map M.Cached.en x.Entries)]
structure M.aT where
  Caches : List M.Cache
def M.aT.en (x : M.aT) : List D := [.sl (List.map M.Cache.en x.Caches)]
structure M.Key where
  Kind : Int
  N : Int
  Text : ByteArray
def M.Key.en (x : M.Key) : List D := [.int .i64 x.Kind, .int .i64 x.N, .str x.Text]
theorem M.Key.en.fl (l : List M.Key) : (List.map M.Key.en l).all (fun y => y.all D.flat) = true := aEH (fun _ => rfl) l
structure M.Field where
  Name : ByteArray
  N : Int
def M.Field.en (x : M.Field) : List D := [.str x.Name, .int .i64 x.N]
theorem M.Field.en.fl (l : List M.Field) : (List.map M.Field.en l).all (fun y => y.all D.flat) = true := aEH (fun _ => rfl) l
structure M.aU where
  Fields : List M.Field
def M.aU.en (x : M.aU) : List D := [.sl (List.map M.Field.en x.Fields)]
structure M.Item where
  Key : M.Key
  aU : M.aU
def M.Item.en (x : M.Item) : List D := [.int .i64 x.Key.Kind, .int .i64 x.Key.N, .str x.Key.Text, .sl (List.map M.Field.en x.aU.Fields)]
structure M.aH where
  Name : ByteArray
  Items : List M.Item
  Auto : Int
def M.aH.en (x : M.aH) : List D := [.str x.Name, .sl (List.map M.Item.en x.Items), .int .i64 x.Auto]
structure M.aA where
  aH : ByteArray
  Field : ByteArray
def M.aA.en (x : M.aA) : List D := [.str x.aH, .str x.Field]
theorem M.aA.en.fl (l : List M.aA) : (List.map M.aA.en l).all (fun y => y.all D.flat) = true := aEH (fun _ => rfl) l
structure M.Database where
  Name : ByteArray
  Version : Int
  Stores : List M.aH
  Unique : List M.aA
def M.Database.en (x : M.Database) : List D := [.str x.Name, .int .i64 x.Version, .sl (List.map M.aH.en x.Stores), .sl (List.map M.aA.en x.Unique)]
structure M.bE where
  Base : M.Database
  Log : List Int
  Count : Int
def M.bE.en (x : M.bE) : List D := [.str x.Base.Name, .int .i64 x.Base.Version, .sl (List.map M.aH.en x.Base.Stores), .sl (List.map M.aA.en x.Base.Unique), .sl (List.map enB x.Log), .int .i64 x.Count]
structure M.aW where
  Device : Int
  Seq : Int
  Key : M.Key
  Field : ByteArray
  N : Int
def M.aW.en (x : M.aW) : List D := [.int .i64 x.Device, .int .i64 x.Seq, .int .i64 x.Key.Kind, .int .i64 x.Key.N, .str x.Key.Text, .str x.Field, .int .i64 x.N]
theorem M.aW.en.fl (l : List M.aW) : (List.map M.aW.en l).all (fun y => y.all D.flat) = true := aEH (fun _ => rfl) l
structure M.aV where
  Device : Int
  Next : Int
  Writes : List M.aW
def M.aV.en (x : M.aV) : List D := [.int .i64 x.Device, .int .i64 x.Next, .sl (List.map M.aW.en x.Writes)]
structure M.Sync where
  aV : M.aV
  Tries : Int
  WaitUntil : Int
def M.Sync.en (x : M.Sync) : List D := [.int .i64 x.aV.Device, .int .i64 x.aV.Next, .sl (List.map M.aW.en x.aV.Writes), .int .i64 x.Tries, .int .i64 x.WaitUntil]
structure M.aC where
  Base : M.aH
  Seen : Int
  Sync : M.Sync
def M.aC.en (x : M.aC) : List D := [.str x.Base.Name, .sl (List.map M.Item.en x.Base.Items), .int .i64 x.Base.Auto, .int .i64 x.Seen, .int .i64 x.Sync.aV.Device, .int .i64 x.Sync.aV.Next, .sl (List.map M.aW.en x.Sync.aV.Writes), .int .i64 x.Sync.Tries, .int .i64 x.Sync.WaitUntil]
structure M.aE where
  Site : ByteArray
  Top : ByteArray
  Registration : M.Registration
  Caches : M.aT
  bE : M.bE
  aC : M.aC
  LastUsed : Int
  Persistent : Bool
def M.aE.en (x : M.aE) : List D := [.str x.Site, .str x.Top, .str x.Registration.Site, .int .i64 x.Registration.Installing, .int .i64 x.Registration.Waiting, .int .i64 x.Registration.Active, .sl (List.map M.Cache.en x.Caches.Caches), .str x.bE.Base.Name, .int .i64 x.bE.Base.Version, .sl (List.map M.aH.en x.bE.Base.Stores), .sl (List.map M.aA.en x.bE.Base.Unique), .sl (List.map enB x.bE.Log), .int .i64 x.bE.Count, .str x.aC.Base.Name, .sl (List.map M.Item.en x.aC.Base.Items), .int .i64 x.aC.Base.Auto, .int .i64 x.aC.Seen, .int .i64 x.aC.Sync.aV.Device, .int .i64 x.aC.Sync.aV.Next, .sl (List.map M.aW.en x.aC.Sync.aV.Writes), .int .i64 x.aC.Sync.Tries, .int .i64 x.aC.Sync.WaitUntil, .int .i64 x.LastUsed, .bool x.Persistent]
structure M.aM where
  Buckets : List M.aE
def M.aM.en (x : M.aM) : List D := [.sl (List.map M.aE.en x.Buckets)]
structure M.aN where
  Path : ByteArray
  Version : Int
def M.aN.en (x : M.aN) : List D := [.str x.Path, .int .i64 x.Version]
theorem M.aN.en.fl (l : List M.aN) : (List.map M.aN.en l).all (fun y => y.all D.flat) = true := aEH (fun _ => rfl) l
structure M.Instr where
  Kind : Int
  R : Int
  N : Int
  Text : ByteArray
def M.Instr.en (x : M.Instr) : List D := [.int .i64 x.Kind, .int .i64 x.R, .int .i64 x.N, .str x.Text]
theorem M.Instr.en.fl (l : List M.Instr) : (List.map M.Instr.en l).all (fun y => y.all D.flat) = true := aEH (fun _ => rfl) l
structure M.Machine where
  Script : List M.Instr
  Pc : Int
  Regs : List Int
  Steps : Int
  Done : Bool
  Wait : Bool
def M.Machine.en (x : M.Machine) : List D := [.sl (List.map M.Instr.en x.Script), .int .i64 x.Pc, .sl (List.map enI x.Regs), .int .i64 x.Steps, .bool x.Done, .bool x.Wait]
structure M.bG where
  Id : Int
  Site : ByteArray
  Top : ByteArray
  Version : Int
  aN : List M.aN
  Machine : M.Machine
def M.bG.en (x : M.bG) : List D := [.int .i64 x.Id, .str x.Site, .str x.Top, .int .i64 x.Version, .sl (List.map M.aN.en x.aN), .sl (List.map M.Instr.en x.Machine.Script), .int .i64 x.Machine.Pc, .sl (List.map enI x.Machine.Regs), .int .i64 x.Machine.Steps, .bool x.Machine.Done, .bool x.Machine.Wait]
structure M.bK where
  Name : ByteArray
  bG : Int
  Shared : Bool
  Held : Bool
def M.bK.en (x : M.bK) : List D := [.str x.Name, .int .i64 x.bG, .bool x.Shared, .bool x.Held]
theorem M.bK.en.fl (l : List M.bK) : (List.map M.bK.en l).all (fun y => y.all D.flat) = true := aEH (fun _ => rfl) l
structure M.aF where
  Locks : List M.bK
def M.aF.en (x : M.aF) : List D := [.sl (List.map M.bK.en x.Locks)]
structure M.fD where
  To : Int
  From : Int
  N : Int
def M.fD.en (x : M.fD) : List D := [.int .i64 x.To, .int .i64 x.From, .int .i64 x.N]
theorem M.fD.en.fl (l : List M.fD) : (List.map M.fD.en l).all (fun y => y.all D.flat) = true := aEH (fun _ => rfl) l
structure M.Channel where
  Mails : List M.fD
def M.Channel.en (x : M.Channel) : List D := [.sl (List.map M.fD.en x.Mails)]
structure M.Site where
  Name : ByteArray
  Version : Int
  Files : List ByteArray
  Shared : Bool
def M.Site.en (x : M.Site) : List D := [.str x.Name, .int .i64 x.Version, .sl (List.map enS x.Files), .bool x.Shared]
structure M.aJ where
  Device : Int
  Seq : Int
def M.aJ.en (x : M.aJ) : List D := [.int .i64 x.Device, .int .i64 x.Seq]
theorem M.aJ.en.fl (l : List M.aJ) : (List.map M.aJ.en l).all (fun y => y.all D.flat) = true := aEH (fun _ => rfl) l
structure M.Server where
  aH : M.aH
  aJ : List M.aJ
  Changes : List M.aW
def M.Server.en (x : M.Server) : List D := [.str x.aH.Name, .sl (List.map M.Item.en x.aH.Items), .int .i64 x.aH.Auto, .sl (List.map M.aJ.en x.aJ), .sl (List.map M.aW.en x.Changes)]
structure M.World where
  Now : Int
  Online : Bool
  Device : Int
  aM : M.aM
  Pages : List M.bG
  NextPage : Int
  Locks : M.aF
  Channel : M.Channel
  Sites : List M.Site
  Servers : List M.Server
def M.World.en (x : M.World) : List D := [.int .i64 x.Now, .bool x.Online, .int .i64 x.Device, .sl (List.map M.aE.en x.aM.Buckets), .sl (List.map M.bG.en x.Pages), .int .i64 x.NextPage, .sl (List.map M.bK.en x.Locks.Locks), .sl (List.map M.fD.en x.Channel.Mails), .sl (List.map M.Site.en x.Sites), .sl (List.map M.Server.en x.Servers)]
def jR (p0 : M.Registration) (p1 : Int) : Option Int :=
  if (decide ((IntKind.i64.wrap (p1 - (p0.Site.size : Int))) < 0)) = true then (some (-1)) else (some (IntKind.i64.wrap (p1 - (p0.Site.size : Int))))
def tV (p0 : List Int) (p1 : Int) : Option Int :=
  if (decide ((IntKind.i64.wrap (p1 - (List.length p0 : Int))) < 0)) = true then (some (-1)) else (some (IntKind.i64.wrap (p1 - (List.length p0 : Int))))
def pX (p0 : M.Response) (p1 : Int) : Option Int :=
  (tV p0.Body p1).bind fun x1 => (if (decide (x1 < 0)) = true then (some (-1)) else (some x1))
def vQ (p0 : M.Cached) (p1 : Int) : Option Int :=
  if (decide ((IntKind.i64.wrap (p1 - (p0.Site.size : Int))) < 0)) = true then (some (-1)) else (if (decide ((IntKind.i64.wrap ((IntKind.i64.wrap (p1 - (p0.Site.size : Int))) - (p0.Path.size : Int))) < 0)) = true then (some (-1)) else ((pX p0.Response (IntKind.i64.wrap ((IntKind.i64.wrap (p1 - (p0.Site.size : Int))) - (p0.Path.size : Int)))).bind fun x3 => (if (decide (x3 < 0)) = true then (some (-1)) else (some x3))))
def rM (p0 : List M.Cached) : Nat → Int → Int → Option Int
  | 0, _, _ => none
  | nL1 + 1, v1, v5 => if (decide (v5 < (List.length p0 : Int))) = true then ((idx p0 v5).bind fun x7 => ((vQ x7 v1).bind fun x12 => (if (decide (x12 < 0)) = true then (some (-1)) else (rM p0 nL1 x12 (IntKind.i64.wrap (v5 + 1)))))) else (some v1)
def tJ (p0 : List M.Cached) (p1 : Int) : Option Int :=
  if (decide ((IntKind.i64.wrap (p1 - (List.length p0 : Int))) < 0)) = true then (some (-1)) else (rM p0 fuel (IntKind.i64.wrap (p1 - (List.length p0 : Int))) 0)
def yM (p0 : M.Cache) (p1 : Int) : Option Int :=
  (tJ p0.Entries p1).bind fun x1 => (if (decide (x1 < 0)) = true then (some (-1)) else (some x1))
def uJ (p0 : List M.Cache) : Nat → Int → Int → Option Int
  | 0, _, _ => none
  | nL1 + 1, v1, v5 => if (decide (v5 < (List.length p0 : Int))) = true then ((idx p0 v5).bind fun x7 => ((yM x7 v1).bind fun x12 => (if (decide (x12 < 0)) = true then (some (-1)) else (uJ p0 nL1 x12 (IntKind.i64.wrap (v5 + 1)))))) else (some v1)
def vC (p0 : List M.Cache) (p1 : Int) : Option Int :=
  if (decide ((IntKind.i64.wrap (p1 - (List.length p0 : Int))) < 0)) = true then (some (-1)) else (uJ p0 fuel (IntKind.i64.wrap (p1 - (List.length p0 : Int))) 0)
def qB (p0 : M.aT) (p1 : Int) : Option Int :=
  (vC p0.Caches p1).bind fun x1 => (if (decide (x1 < 0)) = true then (some (-1)) else (some x1))
def zK (p0 : M.Key) (p1 : Int) : Option Int :=
  if (decide ((IntKind.i64.wrap (p1 - (p0.Text.size : Int))) < 0)) = true then (some (-1)) else (some (IntKind.i64.wrap (p1 - (p0.Text.size : Int))))
def xQ (p0 : M.Field) (p1 : Int) : Option Int :=
  if (decide ((IntKind.i64.wrap (p1 - (p0.Name.size : Int))) < 0)) = true then (some (-1)) else (some (IntKind.i64.wrap (p1 - (p0.Name.size : Int))))
def uC (p0 : List M.Field) : Nat → Int → Int → Option Int
  | 0, _, _ => none
  | nL1 + 1, v1, v5 => if (decide (v5 < (List.length p0 : Int))) = true then ((idx p0 v5).bind fun x7 => ((xQ x7 v1).bind fun x12 => (if (decide (x12 < 0)) = true then (some (-1)) else (uC p0 nL1 x12 (IntKind.i64.wrap (v5 + 1)))))) else (some v1)
def wA (p0 : List M.Field) (p1 : Int) : Option Int :=
  if (decide ((IntKind.i64.wrap (p1 - (List.length p0 : Int))) < 0)) = true then (some (-1)) else (uC p0 fuel (IntKind.i64.wrap (p1 - (List.length p0 : Int))) 0)
def wI (p0 : M.aU) (p1 : Int) : Option Int :=
  (wA p0.Fields p1).bind fun x1 => (if (decide (x1 < 0)) = true then (some (-1)) else (some x1))
def aAs (p0 : M.Item) (p1 : Int) : Option Int :=
  (zK p0.Key p1).bind fun x1 => (if (decide (x1 < 0)) = true then (some (-1)) else ((wI p0.aU x1).bind fun x4 => (if (decide (x4 < 0)) = true then (some (-1)) else (some x4))))
def wM (p0 : List M.Item) : Nat → Int → Int → Option Int
  | 0, _, _ => none
  | nL1 + 1, v1, v5 => if (decide (v5 < (List.length p0 : Int))) = true then ((idx p0 v5).bind fun x7 => ((aAs x7 v1).bind fun x12 => (if (decide (x12 < 0)) = true then (some (-1)) else (wM p0 nL1 x12 (IntKind.i64.wrap (v5 + 1)))))) else (some v1)
def xU (p0 : List M.Item) (p1 : Int) : Option Int :=
  if (decide ((IntKind.i64.wrap (p1 - (List.length p0 : Int))) < 0)) = true then (some (-1)) else (wM p0 fuel (IntKind.i64.wrap (p1 - (List.length p0 : Int))) 0)
def oO (p0 : M.aH) (p1 : Int) : Option Int :=
  if (decide ((IntKind.i64.wrap (p1 - (p0.Name.size : Int))) < 0)) = true then (some (-1)) else ((xU p0.Items (IntKind.i64.wrap (p1 - (p0.Name.size : Int)))).bind fun x2 => (if (decide (x2 < 0)) = true then (some (-1)) else (some x2)))
def uG (p0 : List M.aH) : Nat → Int → Int → Option Int
  | 0, _, _ => none
  | nL1 + 1, v1, v5 => if (decide (v5 < (List.length p0 : Int))) = true then ((idx p0 v5).bind fun x7 => ((oO x7 v1).bind fun x12 => (if (decide (x12 < 0)) = true then (some (-1)) else (uG p0 nL1 x12 (IntKind.i64.wrap (v5 + 1)))))) else (some v1)
def vY (p0 : List M.aH) (p1 : Int) : Option Int :=
  if (decide ((IntKind.i64.wrap (p1 - (List.length p0 : Int))) < 0)) = true then (some (-1)) else (uG p0 fuel (IntKind.i64.wrap (p1 - (List.length p0 : Int))) 0)
def pF (p0 : M.aA) (p1 : Int) : Option Int :=
  if (decide ((IntKind.i64.wrap (p1 - (p0.aH.size : Int))) < 0)) = true then (some (-1)) else (if (decide ((IntKind.i64.wrap ((IntKind.i64.wrap (p1 - (p0.aH.size : Int))) - (p0.Field.size : Int))) < 0)) = true then (some (-1)) else (some (IntKind.i64.wrap ((IntKind.i64.wrap (p1 - (p0.aH.size : Int))) - (p0.Field.size : Int)))))
def nY (p0 : List M.aA) : Nat → Int → Int → Option Int
  | 0, _, _ => none
  | nL1 + 1, v1, v5 => if (decide (v5 < (List.length p0 : Int))) = true then ((idx p0 v5).bind fun x7 => ((pF x7 v1).bind fun x12 => (if (decide (x12 < 0)) = true then (some (-1)) else (nY p0 nL1 x12 (IntKind.i64.wrap (v5 + 1)))))) else (some v1)
def nO (p0 : List M.aA) (p1 : Int) : Option Int :=
  if (decide ((IntKind.i64.wrap (p1 - (List.length p0 : Int))) < 0)) = true then (some (-1)) else (nY p0 fuel (IntKind.i64.wrap (p1 - (List.length p0 : Int))) 0)
def pP (p0 : M.Database) (p1 : Int) : Option Int :=
  if (decide ((IntKind.i64.wrap (p1 - (p0.Name.size : Int))) < 0)) = true then (some (-1)) else ((vY p0.Stores (IntKind.i64.wrap (p1 - (p0.Name.size : Int)))).bind fun x2 => (if (decide (x2 < 0)) = true then (some (-1)) else ((nO p0.Unique x2).bind fun x5 => (if (decide (x5 < 0)) = true then (some (-1)) else (some x5)))))
def aAA (p0 : M.bE) (p1 : Int) : Option Int :=
  (pP p0.Base p1).bind fun x1 => (if (decide (x1 < 0)) = true then (some (-1)) else ((tV p0.Log x1).bind fun x4 => (if (decide (x4 < 0)) = true then (some (-1)) else (some x4))))
def xM (p0 : M.aW) (p1 : Int) : Option Int :=
  (zK p0.Key p1).bind fun x1 => (if (decide (x1 < 0)) = true then (some (-1)) else (if (decide ((IntKind.i64.wrap (x1 - (p0.Field.size : Int))) < 0)) = true then (some (-1)) else (some (IntKind.i64.wrap (x1 - (p0.Field.size : Int))))))
def uF (p0 : List M.aW) : Nat → Int → Int → Option Int
  | 0, _, _ => none
  | nL1 + 1, v1, v5 => if (decide (v5 < (List.length p0 : Int))) = true then ((idx p0 v5).bind fun x7 => ((xM x7 v1).bind fun x12 => (if (decide (x12 < 0)) = true then (some (-1)) else (uF p0 nL1 x12 (IntKind.i64.wrap (v5 + 1)))))) else (some v1)
def pE (p0 : List M.aW) (p1 : Int) : Option Int :=
  if (decide ((IntKind.i64.wrap (p1 - (List.length p0 : Int))) < 0)) = true then (some (-1)) else (uF p0 fuel (IntKind.i64.wrap (p1 - (List.length p0 : Int))) 0)
def vF (p0 : M.aV) (p1 : Int) : Option Int :=
  (pE p0.Writes p1).bind fun x1 => (if (decide (x1 < 0)) = true then (some (-1)) else (some x1))
def aAc (p0 : M.Sync) (p1 : Int) : Option Int :=
  (vF p0.aV p1).bind fun x1 => (if (decide (x1 < 0)) = true then (some (-1)) else (some x1))
def sS (p0 : M.aC) (p1 : Int) : Option Int :=
  (oO p0.Base p1).bind fun x1 => (if (decide (x1 < 0)) = true then (some (-1)) else ((aAc p0.Sync x1).bind fun x4 => (if (decide (x4 < 0)) = true then (some (-1)) else (some x4))))
def vM (p0 : M.aE) (p1 : Int) : Option Int :=
  if (decide ((IntKind.i64.wrap (p1 - (p0.Site.size : Int))) < 0)) = true then (some (-1)) else (if (decide ((IntKind.i64.wrap ((IntKind.i64.wrap (p1 - (p0.Site.size : Int))) - (p0.Top.size : Int))) < 0)) = true then (some (-1)) else ((jR p0.Registration (IntKind.i64.wrap ((IntKind.i64.wrap (p1 - (p0.Site.size : Int))) - (p0.Top.size : Int)))).bind fun x3 => (if (decide (x3 < 0)) = true then (some (-1)) else ((qB p0.Caches x3).bind fun x6 => (if (decide (x6 < 0)) = true then (some (-1)) else ((aAA p0.bE x6).bind fun x9 => (if (decide (x9 < 0)) = true then (some (-1)) else ((sS p0.aC x9).bind fun x12 => (if (decide (x12 < 0)) = true then (some (-1)) else (some x12))))))))))
def qX (p0 : List M.aE) : Nat → Int → Int → Option Int
  | 0, _, _ => none
  | nL1 + 1, v1, v5 => if (decide (v5 < (List.length p0 : Int))) = true then ((idx p0 v5).bind fun x7 => ((vM x7 v1).bind fun x12 => (if (decide (x12 < 0)) = true then (some (-1)) else (qX p0 nL1 x12 (IntKind.i64.wrap (v5 + 1)))))) else (some v1)
def sN (p0 : List M.aE) (p1 : Int) : Option Int :=
  if (decide ((IntKind.i64.wrap (p1 - (List.length p0 : Int))) < 0)) = true then (some (-1)) else (qX p0 fuel (IntKind.i64.wrap (p1 - (List.length p0 : Int))) 0)
def sD (p0 : M.aM) (p1 : Int) : Option Int :=
  (sN p0.Buckets p1).bind fun x1 => (if (decide (x1 < 0)) = true then (some (-1)) else (some x1))
def uP (p0 : M.aN) (p1 : Int) : Option Int :=
  if (decide ((IntKind.i64.wrap (p1 - (p0.Path.size : Int))) < 0)) = true then (some (-1)) else (some (IntKind.i64.wrap (p1 - (p0.Path.size : Int))))
def rH (p0 : List M.aN) : Nat → Int → Int → Option Int
  | 0, _, _ => none
  | nL1 + 1, v1, v5 => if (decide (v5 < (List.length p0 : Int))) = true then ((idx p0 v5).bind fun x7 => ((uP x7 v1).bind fun x12 => (if (decide (x12 < 0)) = true then (some (-1)) else (rH p0 nL1 x12 (IntKind.i64.wrap (v5 + 1)))))) else (some v1)
def tN (p0 : List M.aN) (p1 : Int) : Option Int :=
  if (decide ((IntKind.i64.wrap (p1 - (List.length p0 : Int))) < 0)) = true then (some (-1)) else (rH p0 fuel (IntKind.i64.wrap (p1 - (List.length p0 : Int))) 0)
def zA (p0 : M.Instr) (p1 : Int) : Option Int :=
  if (decide ((IntKind.i64.wrap (p1 - (p0.Text.size : Int))) < 0)) = true then (some (-1)) else (some (IntKind.i64.wrap (p1 - (p0.Text.size : Int))))
def uD (p0 : List M.Instr) : Nat → Int → Int → Option Int
  | 0, _, _ => none
  | nL1 + 1, v1, v5 => if (decide (v5 < (List.length p0 : Int))) = true then ((idx p0 v5).bind fun x7 => ((zA x7 v1).bind fun x12 => (if (decide (x12 < 0)) = true then (some (-1)) else (uD p0 nL1 x12 (IntKind.i64.wrap (v5 + 1)))))) else (some v1)
def vU (p0 : List M.Instr) (p1 : Int) : Option Int :=
  if (decide ((IntKind.i64.wrap (p1 - (List.length p0 : Int))) < 0)) = true then (some (-1)) else (uD p0 fuel (IntKind.i64.wrap (p1 - (List.length p0 : Int))) 0)
def aAJ (p0 : List Int) (p1 : Int) : Option Int :=
  if (decide ((IntKind.i64.wrap (p1 - (List.length p0 : Int))) < 0)) = true then (some (-1)) else (some (IntKind.i64.wrap (p1 - (List.length p0 : Int))))
def tA (p0 : M.Machine) (p1 : Int) : Option Int :=
  (vU p0.Script p1).bind fun x1 => (if (decide (x1 < 0)) = true then (some (-1)) else ((aAJ p0.Regs x1).bind fun x4 => (if (decide (x4 < 0)) = true then (some (-1)) else (some x4))))
def aAB (p0 : M.bG) (p1 : Int) : Option Int :=
  if (decide ((IntKind.i64.wrap (p1 - (p0.Site.size : Int))) < 0)) = true then (some (-1)) else (if (decide ((IntKind.i64.wrap ((IntKind.i64.wrap (p1 - (p0.Site.size : Int))) - (p0.Top.size : Int))) < 0)) = true then (some (-1)) else ((tN p0.aN (IntKind.i64.wrap ((IntKind.i64.wrap (p1 - (p0.Site.size : Int))) - (p0.Top.size : Int)))).bind fun x3 => (if (decide (x3 < 0)) = true then (some (-1)) else ((tA p0.Machine x3).bind fun x6 => (if (decide (x6 < 0)) = true then (some (-1)) else (some x6))))))
def wX (p0 : List M.bG) : Nat → Int → Int → Option Int
  | 0, _, _ => none
  | nL1 + 1, v1, v5 => if (decide (v5 < (List.length p0 : Int))) = true then ((idx p0 v5).bind fun x7 => ((aAB x7 v1).bind fun x12 => (if (decide (x12 < 0)) = true then (some (-1)) else (wX p0 nL1 x12 (IntKind.i64.wrap (v5 + 1)))))) else (some v1)
def yG (p0 : List M.bG) (p1 : Int) : Option Int :=
  if (decide ((IntKind.i64.wrap (p1 - (List.length p0 : Int))) < 0)) = true then (some (-1)) else (wX p0 fuel (IntKind.i64.wrap (p1 - (List.length p0 : Int))) 0)
def aAg (p0 : M.bK) (p1 : Int) : Option Int :=
  if (decide ((IntKind.i64.wrap (p1 - (p0.Name.size : Int))) < 0)) = true then (some (-1)) else (some (IntKind.i64.wrap (p1 - (p0.Name.size : Int))))
def wW (p0 : List M.bK) : Nat → Int → Int → Option Int
  | 0, _, _ => none
  | nL1 + 1, v1, v5 => if (decide (v5 < (List.length p0 : Int))) = true then ((idx p0 v5).bind fun x7 => ((aAg x7 v1).bind fun x12 => (if (decide (x12 < 0)) = true then (some (-1)) else (wW p0 nL1 x12 (IntKind.i64.wrap (v5 + 1)))))) else (some v1)
def xX (p0 : List M.bK) (p1 : Int) : Option Int :=
  if (decide ((IntKind.i64.wrap (p1 - (List.length p0 : Int))) < 0)) = true then (some (-1)) else (wW p0 fuel (IntKind.i64.wrap (p1 - (List.length p0 : Int))) 0)
def oA (p0 : M.aF) (p1 : Int) : Option Int :=
  (xX p0.Locks p1).bind fun x1 => (if (decide (x1 < 0)) = true then (some (-1)) else (some x1))
def yH (p0 : List M.fD) (p1 : Int) : Option Int :=
  if (decide ((IntKind.i64.wrap (p1 - (List.length p0 : Int))) < 0)) = true then (some (-1)) else (some (IntKind.i64.wrap (p1 - (List.length p0 : Int))))
def sC (p0 : M.Channel) (p1 : Int) : Option Int :=
  (yH p0.Mails p1).bind fun x1 => (if (decide (x1 < 0)) = true then (some (-1)) else (some x1))
def rL (p0 : List ByteArray) : Nat → Int → Int → Option Int
  | 0, _, _ => none
  | nL1 + 1, v1, v5 => if (decide (v5 < (List.length p0 : Int))) = true then ((idx p0 v5).bind fun x7 => (if (decide ((IntKind.i64.wrap (v1 - (x7.size : Int))) < 0)) = true then (some (-1)) else (rL p0 nL1 (IntKind.i64.wrap (v1 - (x7.size : Int))) (IntKind.i64.wrap (v5 + 1))))) else (some v1)
def rP (p0 : List ByteArray) (p1 : Int) : Option Int :=
  if (decide ((IntKind.i64.wrap (p1 - (List.length p0 : Int))) < 0)) = true then (some (-1)) else (rL p0 fuel (IntKind.i64.wrap (p1 - (List.length p0 : Int))) 0)
def aAi (p0 : M.Site) (p1 : Int) : Option Int :=
  if (decide ((IntKind.i64.wrap (p1 - (p0.Name.size : Int))) < 0)) = true then (some (-1)) else ((rP p0.Files (IntKind.i64.wrap (p1 - (p0.Name.size : Int)))).bind fun x2 => (if (decide (x2 < 0)) = true then (some (-1)) else (some x2)))
def wN (p0 : List M.Site) : Nat → Int → Int → Option Int
  | 0, _, _ => none
  | nL1 + 1, v1, v5 => if (decide (v5 < (List.length p0 : Int))) = true then ((idx p0 v5).bind fun x7 => ((aAi x7 v1).bind fun x12 => (if (decide (x12 < 0)) = true then (some (-1)) else (wN p0 nL1 x12 (IntKind.i64.wrap (v5 + 1)))))) else (some v1)
def xD (p0 : List M.Site) (p1 : Int) : Option Int :=
  if (decide ((IntKind.i64.wrap (p1 - (List.length p0 : Int))) < 0)) = true then (some (-1)) else (wN p0 fuel (IntKind.i64.wrap (p1 - (List.length p0 : Int))) 0)
def qL (p0 : List M.aJ) (p1 : Int) : Option Int :=
  if (decide ((IntKind.i64.wrap (p1 - (List.length p0 : Int))) < 0)) = true then (some (-1)) else (some (IntKind.i64.wrap (p1 - (List.length p0 : Int))))
def vG (p0 : M.Server) (p1 : Int) : Option Int :=
  (oO p0.aH p1).bind fun x1 => (if (decide (x1 < 0)) = true then (some (-1)) else ((qL p0.aJ x1).bind fun x4 => (if (decide (x4 < 0)) = true then (some (-1)) else ((pE p0.Changes x4).bind fun x7 => (if (decide (x7 < 0)) = true then (some (-1)) else (some x7))))))
def rJ (p0 : List M.Server) : Nat → Int → Int → Option Int
  | 0, _, _ => none
  | nL1 + 1, v1, v5 => if (decide (v5 < (List.length p0 : Int))) = true then ((idx p0 v5).bind fun x7 => ((vG x7 v1).bind fun x12 => (if (decide (x12 < 0)) = true then (some (-1)) else (rJ p0 nL1 x12 (IntKind.i64.wrap (v5 + 1)))))) else (some v1)
def tM (p0 : List M.Server) (p1 : Int) : Option Int :=
  if (decide ((IntKind.i64.wrap (p1 - (List.length p0 : Int))) < 0)) = true then (some (-1)) else (rJ p0 fuel (IntKind.i64.wrap (p1 - (List.length p0 : Int))) 0)
def yW (p0 : M.World) (p1 : Int) : Option Int :=
  (sD p0.aM p1).bind fun x1 => (if (decide (x1 < 0)) = true then (some (-1)) else ((yG p0.Pages x1).bind fun x4 => (if (decide (x4 < 0)) = true then (some (-1)) else ((oA p0.Locks x4).bind fun x7 => (if (decide (x7 < 0)) = true then (some (-1)) else ((sC p0.Channel x7).bind fun x10 => (if (decide (x10 < 0)) = true then (some (-1)) else ((xD p0.Sites x10).bind fun x13 => (if (decide (x13 < 0)) = true then (some (-1)) else ((tM p0.Servers x13).bind fun x16 => (if (decide (x16 < 0)) = true then (some (-1)) else (some x16))))))))))))
def jT (p0 : M.Registration) : Option M.Registration :=
  some p0
def lP (p0 : List Int) : Nat → Int → List Int → Option (List Int)
  | 0, _, _ => none
  | nL1 + 1, v4, r7 => if (decide (v4 < (List.length p0 : Int))) = true then ((idx p0 v4).bind fun x13 => ((idx r7 v4).bind fun x18 => (lP p0 nL1 (IntKind.i64.wrap (v4 + 1)) (List.set r7 v4.toNat x13)))) else (some r7)
def tY (p0 : List Int) : Option (List Int) :=
  (mkL 1 (List.length p0 : Int) 0).bind fun x1 => (lP p0 fuel 0 (List.replicate (List.length p0 : Int).toNat 0))
def qO (p0 : M.Response) : Option M.Response :=
  (tY p0.Body).bind fun x1 => (some (⟨p0.Type_, p0.Status, p0.Version, x1, p0.Shares⟩ : M.Response))
def vV (p0 : M.Cached) : Option M.Cached :=
  (qO p0.Response).bind fun x1 => (some (⟨p0.Site, p0.Path, x1⟩ : M.Cached))
def jK (p0 : List M.Cached) : Nat → Int → List M.Cached → Option (List M.Cached)
  | 0, _, _ => none
  | nL1 + 1, v4, r7 => if (decide (v4 < (List.length p0 : Int))) = true then ((idx p0 v4).bind fun x13 => ((vV x13).bind fun x18 => ((idx r7 v4).bind fun x20 => (jK p0 nL1 (IntKind.i64.wrap (v4 + 1)) (List.set r7 v4.toNat x18))))) else (some r7)
def tD (p0 : List M.Cached) : Option (List M.Cached) :=
  (mkL 88 (List.length p0 : Int) (⟨(⟨#[]⟩ : ByteArray), (⟨#[]⟩ : ByteArray), (⟨0, 0, 0, ([] : List Int), false⟩ : M.Response)⟩ : M.Cached)).bind fun x1 => (jK p0 fuel 0 (List.replicate (List.length p0 : Int).toNat (⟨(⟨#[]⟩ : ByteArray), (⟨#[]⟩ : ByteArray), (⟨0, 0, 0, ([] : List Int), false⟩ : M.Response)⟩ : M.Cached)))
def yX (p0 : M.Cache) : Option M.Cache :=
  (tD p0.Entries).bind fun x1 => (some (⟨p0.Version, x1⟩ : M.Cache))
def kD (p0 : List M.Cache) : Nat → Int → List M.Cache → Option (List M.Cache)
  | 0, _, _ => none
  | nL1 + 1, v4, r7 => if (decide (v4 < (List.length p0 : Int))) = true then ((idx p0 v4).bind fun x13 => ((yX x13).bind fun x18 => ((idx r7 v4).bind fun x20 => (kD p0 nL1 (IntKind.i64.wrap (v4 + 1)) (List.set r7 v4.toNat x18))))) else (some r7)
def vA (p0 : List M.Cache) : Option (List M.Cache) :=
  (mkL 32 (List.length p0 : Int) (⟨0, ([] : List M.Cached)⟩ : M.Cache)).bind fun x1 => (kD p0 fuel 0 (List.replicate (List.length p0 : Int).toNat (⟨0, ([] : List M.Cached)⟩ : M.Cache)))
def pC (p0 : M.aT) : Option M.aT :=
  (vA p0.Caches).bind fun x1 => (some (⟨x1⟩ : M.aT))
def zI (p0 : M.Key) : Option M.Key :=
  some p0
def yA (p0 : M.Field) : Option M.Field :=
  some p0
def kE (p0 : List M.Field) : Nat → Int → List M.Field → Option (List M.Field)
  | 0, _, _ => none
  | nL1 + 1, v4, r7 => if (decide (v4 < (List.length p0 : Int))) = true then ((idx p0 v4).bind fun x13 => ((yA x13).bind fun x18 => ((idx r7 v4).bind fun x20 => (kE p0 nL1 (IntKind.i64.wrap (v4 + 1)) (List.set r7 v4.toNat x18))))) else (some r7)
def vN (p0 : List M.Field) : Option (List M.Field) :=
  (mkL 24 (List.length p0 : Int) (⟨(⟨#[]⟩ : ByteArray), 0⟩ : M.Field)).bind fun x1 => (kE p0 fuel 0 (List.replicate (List.length p0 : Int).toNat (⟨(⟨#[]⟩ : ByteArray), 0⟩ : M.Field)))
def uX (p0 : M.aU) : Option M.aU :=
  (vN p0.Fields).bind fun x1 => (some (⟨x1⟩ : M.aU))
def aAT (p0 : M.Item) : Option M.Item :=
  (zI p0.Key).bind fun x1 => ((uX p0.aU).bind fun x3 => (some (⟨x1, x3⟩ : M.Item)))
def lI (p0 : List M.Item) : Nat → Int → List M.Item → Option (List M.Item)
  | 0, _, _ => none
  | nL1 + 1, v4, r7 => if (decide (v4 < (List.length p0 : Int))) = true then ((idx p0 v4).bind fun x13 => ((aAT x13).bind fun x18 => ((idx r7 v4).bind fun x20 => (lI p0 nL1 (IntKind.i64.wrap (v4 + 1)) (List.set r7 v4.toNat x18))))) else (some r7)
def xT (p0 : List M.Item) : Option (List M.Item) :=
  (mkL 56 (List.length p0 : Int) (⟨(⟨0, 0, (⟨#[]⟩ : ByteArray)⟩ : M.Key), (⟨([] : List M.Field)⟩ : M.aU)⟩ : M.Item)).bind fun x1 => (lI p0 fuel 0 (List.replicate (List.length p0 : Int).toNat (⟨(⟨0, 0, (⟨#[]⟩ : ByteArray)⟩ : M.Key), (⟨([] : List M.Field)⟩ : M.aU)⟩ : M.Item)))
def oL (p0 : M.aH) : Option M.aH :=
  (xT p0.Items).bind fun x1 => (some (⟨p0.Name, x1, p0.Auto⟩ : M.aH))
def jX (p0 : List M.aH) : Nat → Int → List M.aH → Option (List M.aH)
  | 0, _, _ => none
  | nL1 + 1, v4, r7 => if (decide (v4 < (List.length p0 : Int))) = true then ((idx p0 v4).bind fun x13 => ((oL x13).bind fun x18 => ((idx r7 v4).bind fun x20 => (jX p0 nL1 (IntKind.i64.wrap (v4 + 1)) (List.set r7 v4.toNat x18))))) else (some r7)
def vZ (p0 : List M.aH) : Option (List M.aH) :=
  (mkL 48 (List.length p0 : Int) (⟨(⟨#[]⟩ : ByteArray), ([] : List M.Item), 0⟩ : M.aH)).bind fun x1 => (jX p0 fuel 0 (List.replicate (List.length p0 : Int).toNat (⟨(⟨#[]⟩ : ByteArray), ([] : List M.Item), 0⟩ : M.aH)))
def pW (p0 : M.aA) : Option M.aA :=
  some p0
def iD (p0 : List M.aA) : Nat → Int → List M.aA → Option (List M.aA)
  | 0, _, _ => none
  | nL1 + 1, v4, r7 => if (decide (v4 < (List.length p0 : Int))) = true then ((idx p0 v4).bind fun x13 => ((pW x13).bind fun x18 => ((idx r7 v4).bind fun x20 => (iD p0 nL1 (IntKind.i64.wrap (v4 + 1)) (List.set r7 v4.toNat x18))))) else (some r7)
def nJ (p0 : List M.aA) : Option (List M.aA) :=
  (mkL 32 (List.length p0 : Int) (⟨(⟨#[]⟩ : ByteArray), (⟨#[]⟩ : ByteArray)⟩ : M.aA)).bind fun x1 => (iD p0 fuel 0 (List.replicate (List.length p0 : Int).toNat (⟨(⟨#[]⟩ : ByteArray), (⟨#[]⟩ : ByteArray)⟩ : M.aA)))
def pI (p0 : M.Database) : Option M.Database :=
  (vZ p0.Stores).bind fun x1 => ((nJ p0.Unique).bind fun x3 => (some (⟨p0.Name, p0.Version, x1, x3⟩ : M.Database)))
def aAX (p0 : M.bE) : Option M.bE :=
  (pI p0.Base).bind fun x1 => ((tY p0.Log).bind fun x3 => (some (⟨x1, x3, p0.Count⟩ : M.bE)))
def xL (p0 : M.aW) : Option M.aW :=
  (zI p0.Key).bind fun x1 => (some (⟨p0.Device, p0.Seq, x1, p0.Field, p0.N⟩ : M.aW))
def kA (p0 : List M.aW) : Nat → Int → List M.aW → Option (List M.aW)
  | 0, _, _ => none
  | nL1 + 1, v4, r7 => if (decide (v4 < (List.length p0 : Int))) = true then ((idx p0 v4).bind fun x13 => ((xL x13).bind fun x18 => ((idx r7 v4).bind fun x20 => (kA p0 nL1 (IntKind.i64.wrap (v4 + 1)) (List.set r7 v4.toNat x18))))) else (some r7)
def pQ (p0 : List M.aW) : Option (List M.aW) :=
  (mkL 72 (List.length p0 : Int) (⟨0, 0, (⟨0, 0, (⟨#[]⟩ : ByteArray)⟩ : M.Key), (⟨#[]⟩ : ByteArray), 0⟩ : M.aW)).bind fun x1 => (kA p0 fuel 0 (List.replicate (List.length p0 : Int).toNat (⟨0, 0, (⟨0, 0, (⟨#[]⟩ : ByteArray)⟩ : M.Key), (⟨#[]⟩ : ByteArray), 0⟩ : M.aW)))
def wJ (p0 : M.aV) : Option M.aV :=
  (pQ p0.Writes).bind fun x1 => (some (⟨p0.Device, p0.Next, x1⟩ : M.aV))
def aAE (p0 : M.Sync) : Option M.Sync :=
  (wJ p0.aV).bind fun x1 => (some (⟨x1, p0.Tries, p0.WaitUntil⟩ : M.Sync))
def tO (p0 : M.aC) : Option M.aC :=
  (oL p0.Base).bind fun x1 => ((aAE p0.Sync).bind fun x3 => (some (⟨x1, p0.Seen, x3⟩ : M.aC)))
def uL (p0 : M.aE) : Option M.aE :=
  (jT p0.Registration).bind fun x1 => ((pC p0.Caches).bind fun x3 => ((aAX p0.bE).bind fun x5 => ((tO p0.aC).bind fun x7 => (some (⟨p0.Site, p0.Top, x1, x3, x5, x7, p0.LastUsed, p0.Persistent⟩ : M.aE)))))
def iZ (p0 : List M.aE) : Nat → Int → List M.aE → Option (List M.aE)
  | 0, _, _ => none
  | nL1 + 1, v4, r7 => if (decide (v4 < (List.length p0 : Int))) = true then ((idx p0 v4).bind fun x13 => ((uL x13).bind fun x18 => ((idx r7 v4).bind fun x20 => (iZ p0 nL1 (IntKind.i64.wrap (v4 + 1)) (List.set r7 v4.toNat x18))))) else (some r7)
def sY (p0 : List M.aE) : Option (List M.aE) :=
  (mkL 328 (List.length p0 : Int) (⟨(⟨#[]⟩ : ByteArray), (⟨#[]⟩ : ByteArray), (⟨(⟨#[]⟩ : ByteArray), 0, 0, 0⟩ : M.Registration), (⟨([] : List M.Cache)⟩ : M.aT), (⟨(⟨(⟨#[]⟩ : ByteArray), 0, ([] : List M.aH), ([] : List M.aA)⟩ : M.Database), ([] : List Int), 0⟩ : M.bE), (⟨(⟨(⟨#[]⟩ : ByteArray), ([] : List M.Item), 0⟩ : M.aH), 0, (⟨(⟨0, 0, ([] : List M.aW)⟩ : M.aV), 0, 0⟩ : M.Sync)⟩ : M.aC), 0, false⟩ : M.aE)).bind fun x1 => (iZ p0 fuel 0 (List.replicate (List.length p0 : Int).toNat (⟨(⟨#[]⟩ : ByteArray), (⟨#[]⟩ : ByteArray), (⟨(⟨#[]⟩ : ByteArray), 0, 0, 0⟩ : M.Registration), (⟨([] : List M.Cache)⟩ : M.aT), (⟨(⟨(⟨#[]⟩ : ByteArray), 0, ([] : List M.aH), ([] : List M.aA)⟩ : M.Database), ([] : List Int), 0⟩ : M.bE), (⟨(⟨(⟨#[]⟩ : ByteArray), ([] : List M.Item), 0⟩ : M.aH), 0, (⟨(⟨0, 0, ([] : List M.aW)⟩ : M.aV), 0, 0⟩ : M.Sync)⟩ : M.aC), 0, false⟩ : M.aE)))
def tI (p0 : M.aM) : Option M.aM :=
  (sY p0.Buckets).bind fun x1 => (some (⟨x1⟩ : M.aM))
def wB (p0 : M.aN) : Option M.aN :=
  some p0
def jI (p0 : List M.aN) : Nat → Int → List M.aN → Option (List M.aN)
  | 0, _, _ => none
  | nL1 + 1, v4, r7 => if (decide (v4 < (List.length p0 : Int))) = true then ((idx p0 v4).bind fun x13 => ((wB x13).bind fun x18 => ((idx r7 v4).bind fun x20 => (jI p0 nL1 (IntKind.i64.wrap (v4 + 1)) (List.set r7 v4.toNat x18))))) else (some r7)
def rZ (p0 : List M.aN) : Option (List M.aN) :=
  (mkL 24 (List.length p0 : Int) (⟨(⟨#[]⟩ : ByteArray), 0⟩ : M.aN)).bind fun x1 => (jI p0 fuel 0 (List.replicate (List.length p0 : Int).toNat (⟨(⟨#[]⟩ : ByteArray), 0⟩ : M.aN)))
def xW (p0 : M.Instr) : Option M.Instr :=
  some p0
def jZ (p0 : List M.Instr) : Nat → Int → List M.Instr → Option (List M.Instr)
  | 0, _, _ => none
  | nL1 + 1, v4, r7 => if (decide (v4 < (List.length p0 : Int))) = true then ((idx p0 v4).bind fun x13 => ((xW x13).bind fun x18 => ((idx r7 v4).bind fun x20 => (jZ p0 nL1 (IntKind.i64.wrap (v4 + 1)) (List.set r7 v4.toNat x18))))) else (some r7)
def vE (p0 : List M.Instr) : Option (List M.Instr) :=
  (mkL 40 (List.length p0 : Int) (⟨0, 0, 0, (⟨#[]⟩ : ByteArray)⟩ : M.Instr)).bind fun x1 => (jZ p0 fuel 0 (List.replicate (List.length p0 : Int).toNat (⟨0, 0, 0, (⟨#[]⟩ : ByteArray)⟩ : M.Instr)))
def mU (p0 : List Int) : Nat → Int → List Int → Option (List Int)
  | 0, _, _ => none
  | nL1 + 1, v4, r7 => if (decide (v4 < (List.length p0 : Int))) = true then ((idx p0 v4).bind fun x13 => ((idx r7 v4).bind fun x18 => (mU p0 nL1 (IntKind.i64.wrap (v4 + 1)) (List.set r7 v4.toNat x13)))) else (some r7)
def aAb (p0 : List Int) : Option (List Int) :=
  (mkL 8 (List.length p0 : Int) 0).bind fun x1 => (mU p0 fuel 0 (List.replicate (List.length p0 : Int).toNat 0))
def sZ (p0 : M.Machine) : Option M.Machine :=
  (vE p0.Script).bind fun x1 => ((aAb p0.Regs).bind fun x3 => (some (⟨x1, p0.Pc, x3, p0.Steps, p0.Done, p0.Wait⟩ : M.Machine)))
def aAf (p0 : M.bG) : Option M.bG :=
  (rZ p0.aN).bind fun x1 => ((sZ p0.Machine).bind fun x3 => (some (⟨p0.Id, p0.Site, p0.Top, p0.Version, x1, x3⟩ : M.bG)))
def lH (p0 : List M.bG) : Nat → Int → List M.bG → Option (List M.bG)
  | 0, _, _ => none
  | nL1 + 1, v4, r7 => if (decide (v4 < (List.length p0 : Int))) = true then ((idx p0 v4).bind fun x13 => ((aAf x13).bind fun x18 => ((idx r7 v4).bind fun x20 => (lH p0 nL1 (IntKind.i64.wrap (v4 + 1)) (List.set r7 v4.toNat x18))))) else (some r7)
def xN (p0 : List M.bG) : Option (List M.bG) :=
  (mkL 144 (List.length p0 : Int) (⟨0, (⟨#[]⟩ : ByteArray), (⟨#[]⟩ : ByteArray), 0, ([] : List M.aN), (⟨([] : List M.Instr), 0, ([] : List Int), 0, false, false⟩ : M.Machine)⟩ : M.bG)).bind fun x1 => (lH p0 fuel 0 (List.replicate (List.length p0 : Int).toNat (⟨0, (⟨#[]⟩ : ByteArray), (⟨#[]⟩ : ByteArray), 0, ([] : List M.aN), (⟨([] : List M.Instr), 0, ([] : List Int), 0, false, false⟩ : M.Machine)⟩ : M.bG)))
def aAk (p0 : M.bK) : Option M.bK :=
  some p0
def lD (p0 : List M.bK) : Nat → Int → List M.bK → Option (List M.bK)
  | 0, _, _ => none
  | nL1 + 1, v4, r7 => if (decide (v4 < (List.length p0 : Int))) = true then ((idx p0 v4).bind fun x13 => ((aAk x13).bind fun x18 => ((idx r7 v4).bind fun x20 => (lD p0 nL1 (IntKind.i64.wrap (v4 + 1)) (List.set r7 v4.toNat x18))))) else (some r7)
def xS (p0 : List M.bK) : Option (List M.bK) :=
  (mkL 32 (List.length p0 : Int) (⟨(⟨#[]⟩ : ByteArray), 0, false, false⟩ : M.bK)).bind fun x1 => (lD p0 fuel 0 (List.replicate (List.length p0 : Int).toNat (⟨(⟨#[]⟩ : ByteArray), 0, false, false⟩ : M.bK)))
def oH (p0 : M.aF) : Option M.aF :=
  (xS p0.Locks).bind fun x1 => (some (⟨x1⟩ : M.aF))
def aAS (p0 : M.fD) : Option M.fD :=
  some p0
def lQ (p0 : List M.fD) : Nat → Int → List M.fD → Option (List M.fD)
  | 0, _, _ => none
  | nL1 + 1, v4, r7 => if (decide (v4 < (List.length p0 : Int))) = true then ((idx p0 v4).bind fun x13 => ((aAS x13).bind fun x18 => ((idx r7 v4).bind fun x20 => (lQ p0 nL1 (IntKind.i64.wrap (v4 + 1)) (List.set r7 v4.toNat x18))))) else (some r7)
def yO (p0 : List M.fD) : Option (List M.fD) :=
  (mkL 24 (List.length p0 : Int) (⟨0, 0, 0⟩ : M.fD)).bind fun x1 => (lQ p0 fuel 0 (List.replicate (List.length p0 : Int).toNat (⟨0, 0, 0⟩ : M.fD)))
def sE (p0 : M.Channel) : Option M.Channel :=
  (yO p0.Mails).bind fun x1 => (some (⟨x1⟩ : M.Channel))
def jM (p0 : List ByteArray) : Nat → Int → List ByteArray → Option (List ByteArray)
  | 0, _, _ => none
  | nL1 + 1, v4, r7 => if (decide (v4 < (List.length p0 : Int))) = true then ((idx p0 v4).bind fun x13 => ((idx r7 v4).bind fun x18 => (jM p0 nL1 (IntKind.i64.wrap (v4 + 1)) (List.set r7 v4.toNat x13)))) else (some r7)
def sR (p0 : List ByteArray) : Option (List ByteArray) :=
  (mkL 16 (List.length p0 : Int) (⟨#[]⟩ : ByteArray)).bind fun x1 => (jM p0 fuel 0 (List.replicate (List.length p0 : Int).toNat (⟨#[]⟩ : ByteArray)))
def aAL (p0 : M.Site) : Option M.Site :=
  (sR p0.Files).bind fun x1 => (some (⟨p0.Name, p0.Version, x1, p0.Shared⟩ : M.Site))
def lK (p0 : List M.Site) : Nat → Int → List M.Site → Option (List M.Site)
  | 0, _, _ => none
  | nL1 + 1, v4, r7 => if (decide (v4 < (List.length p0 : Int))) = true then ((idx p0 v4).bind fun x13 => ((aAL x13).bind fun x18 => ((idx r7 v4).bind fun x20 => (lK p0 nL1 (IntKind.i64.wrap (v4 + 1)) (List.set r7 v4.toNat x18))))) else (some r7)
def xV (p0 : List M.Site) : Option (List M.Site) :=
  (mkL 56 (List.length p0 : Int) (⟨(⟨#[]⟩ : ByteArray), 0, ([] : List ByteArray), false⟩ : M.Site)).bind fun x1 => (lK p0 fuel 0 (List.replicate (List.length p0 : Int).toNat (⟨(⟨#[]⟩ : ByteArray), 0, ([] : List ByteArray), false⟩ : M.Site)))
def tP (p0 : M.aJ) : Option M.aJ :=
  some p0
def iQ (p0 : List M.aJ) : Nat → Int → List M.aJ → Option (List M.aJ)
  | 0, _, _ => none
  | nL1 + 1, v4, r7 => if (decide (v4 < (List.length p0 : Int))) = true then ((idx p0 v4).bind fun x13 => ((tP x13).bind fun x18 => ((idx r7 v4).bind fun x20 => (iQ p0 nL1 (IntKind.i64.wrap (v4 + 1)) (List.set r7 v4.toNat x18))))) else (some r7)
def qN (p0 : List M.aJ) : Option (List M.aJ) :=
  (mkL 16 (List.length p0 : Int) (⟨0, 0⟩ : M.aJ)).bind fun x1 => (iQ p0 fuel 0 (List.replicate (List.length p0 : Int).toNat (⟨0, 0⟩ : M.aJ)))
def uU (p0 : M.Server) : Option M.Server :=
  (oL p0.aH).bind fun x1 => ((qN p0.aJ).bind fun x3 => ((pQ p0.Changes).bind fun x5 => (some (⟨x1, x3, x5⟩ : M.Server))))
def jG (p0 : List M.Server) : Nat → Int → List M.Server → Option (List M.Server)
  | 0, _, _ => none
  | nL1 + 1, v4, r7 => if (decide (v4 < (List.length p0 : Int))) = true then ((idx p0 v4).bind fun x13 => ((uU x13).bind fun x18 => ((idx r7 v4).bind fun x20 => (jG p0 nL1 (IntKind.i64.wrap (v4 + 1)) (List.set r7 v4.toNat x18))))) else (some r7)
def sU (p0 : List M.Server) : Option (List M.Server) :=
  (mkL 96 (List.length p0 : Int) (⟨(⟨(⟨#[]⟩ : ByteArray), ([] : List M.Item), 0⟩ : M.aH), ([] : List M.aJ), ([] : List M.aW)⟩ : M.Server)).bind fun x1 => (jG p0 fuel 0 (List.replicate (List.length p0 : Int).toNat (⟨(⟨(⟨#[]⟩ : ByteArray), ([] : List M.Item), 0⟩ : M.aH), ([] : List M.aJ), ([] : List M.aW)⟩ : M.Server)))
def lA (p0 : M.World) : Option M.World :=
  (tI p0.aM).bind fun x1 => ((xN p0.Pages).bind fun x3 => ((oH p0.Locks).bind fun x5 => ((sE p0.Channel).bind fun x7 => ((xV p0.Sites).bind fun x9 => ((sU p0.Servers).bind fun x11 => (some (⟨p0.Now, p0.Online, p0.Device, x1, x3, p0.NextPage, x5, x7, x9, x11⟩ : M.World)))))))
def xK (p0 : M.Response) : Option M.Response :=
  (app 1 ([] : List Int) p0.Body).bind fun x1 => (some p0)
def iE (p0 : M.Cache) : Nat → Int → List M.Cached → Option M.Cache
  | 0, _, _ => none
  | nL1 + 1, v4, r50000 => if (decide (v4 < (List.length p0.Entries : Int))) = true then ((idx p0.Entries v4).bind fun x11 => ((xK x11.Response).bind fun x16 => ((app 88 r50000 ([(⟨x11.Site, x11.Path, x16⟩ : M.Cached)])).bind fun x18 => (iE p0 nL1 (IntKind.i64.wrap (v4 + 1)) (r50000 ++ [(⟨x11.Site, x11.Path, x16⟩ : M.Cached)]))))) else (some (⟨p0.Version, r50000⟩ : M.Cache))
def wE (p0 : M.Cache) : Option M.Cache :=
  iE p0 fuel 0 ([] : List M.Cached)
def jJ (p0 : M.aT) : Nat → Int → List M.Cache → Option M.aT
  | 0, _, _ => none
  | nL1 + 1, v4, r50000 => if (decide (v4 < (List.length p0.Caches : Int))) = true then ((idx p0.Caches v4).bind fun x11 => ((wE x11).bind fun x16 => ((app 32 r50000 ([x16])).bind fun x18 => (jJ p0 nL1 (IntKind.i64.wrap (v4 + 1)) (r50000 ++ [x16]))))) else (some (⟨r50000⟩ : M.aT))
def xO (p0 : M.aT) : Option M.aT :=
  jJ p0 fuel 0 ([] : List M.Cache)
def aAO (p0 : M.aU) : Option M.aU :=
  (app 24 ([] : List M.Field) p0.Fields).bind fun x1 => (some p0)
def wL (p0 : M.Item) : Option M.Item :=
  (aAO p0.aU).bind fun x1 => (some (⟨p0.Key, x1⟩ : M.Item))
def kS (p0 : M.aH) : Nat → Int → List M.Item → Option M.aH
  | 0, _, _ => none
  | nL1 + 1, v4, r50000 => if (decide (v4 < (List.length p0.Items : Int))) = true then ((idx p0.Items v4).bind fun x11 => ((wL x11).bind fun x16 => ((app 56 r50000 ([x16])).bind fun x18 => (kS p0 nL1 (IntKind.i64.wrap (v4 + 1)) (r50000 ++ [x16]))))) else (some (⟨p0.Name, r50000, p0.Auto⟩ : M.aH))
def rG (p0 : M.aH) : Option M.aH :=
  kS p0 fuel 0 ([] : List M.Item)
def kP (p0 : M.Database) : Nat → Int → List M.aH → Option M.Database
  | 0, _, _ => none
  | nL1 + 1, v4, r50000 => if (decide (v4 < (List.length p0.Stores : Int))) = true then ((idx p0.Stores v4).bind fun x22 => ((rG x22).bind fun x27 => ((app 48 r50000 ([x27])).bind fun x29 => (kP p0 nL1 (IntKind.i64.wrap (v4 + 1)) (r50000 ++ [x27]))))) else (some (⟨p0.Name, p0.Version, r50000, p0.Unique⟩ : M.Database))
def aAR (p0 : M.Database) : Option M.Database :=
  (app 32 ([] : List M.aA) p0.Unique).bind fun x1 => (kP p0 fuel 0 ([] : List M.aH))
def yQ (p0 : M.bE) : Option M.bE :=
  (aAR p0.Base).bind fun x1 => ((app 1 ([] : List Int) p0.Log).bind fun x3 => (some (⟨x1, p0.Log, p0.Count⟩ : M.bE)))
def yE (p0 : M.aV) : Option M.aV :=
  (app 72 ([] : List M.aW) p0.Writes).bind fun x1 => (some p0)
def xZ (p0 : M.Sync) : Option M.Sync :=
  (yE p0.aV).bind fun x1 => (some (⟨x1, p0.Tries, p0.WaitUntil⟩ : M.Sync))
def yU (p0 : M.aC) : Option M.aC :=
  (rG p0.Base).bind fun x1 => ((xZ p0.Sync).bind fun x3 => (some (⟨x1, p0.Seen, x3⟩ : M.aC)))
def xE (p0 : M.aE) : Option M.aE :=
  (xO p0.Caches).bind fun x1 => ((yQ p0.bE).bind fun x3 => ((yU p0.aC).bind fun x5 => (some (⟨p0.Site, p0.Top, p0.Registration, x1, x3, x5, p0.LastUsed, p0.Persistent⟩ : M.aE))))
def jE (p0 : M.aM) : Nat → Int → List M.aE → Option M.aM
  | 0, _, _ => none
  | nL1 + 1, v4, r50000 => if (decide (v4 < (List.length p0.Buckets : Int))) = true then ((idx p0.Buckets v4).bind fun x11 => ((xE x11).bind fun x16 => ((app 328 r50000 ([x16])).bind fun x18 => (jE p0 nL1 (IntKind.i64.wrap (v4 + 1)) (r50000 ++ [x16]))))) else (some (⟨r50000⟩ : M.aM))
def xC (p0 : M.aM) : Option M.aM :=
  jE p0 fuel 0 ([] : List M.aE)
def sB (p0 : List M.Instr) : Option (List M.Instr) :=
  (app 40 ([] : List M.Instr) p0).bind fun x1 => (some p0)
def yK (p0 : M.Machine) : Option M.Machine :=
  (sB p0.Script).bind fun x1 => ((app 8 ([] : List Int) p0.Regs).bind fun x3 => (some (⟨x1, p0.Pc, p0.Regs, p0.Steps, p0.Done, p0.Wait⟩ : M.Machine)))
def yV (p0 : M.bG) : Option M.bG :=
  (app 24 ([] : List M.aN) p0.aN).bind fun x1 => ((yK p0.Machine).bind fun x11 => (some (⟨p0.Id, p0.Site, p0.Top, p0.Version, p0.aN, x11⟩ : M.bG)))
def jO (p0 : M.aF) : Option M.aF :=
  (app 32 ([] : List M.bK) p0.Locks).bind fun x1 => (some p0)
def tX (p0 : M.Channel) : Option M.Channel :=
  (app 24 ([] : List M.fD) p0.Mails).bind fun x1 => (some p0)
def yS (p0 : M.Site) : Option M.Site :=
  (app 16 ([] : List ByteArray) p0.Files).bind fun x1 => (some p0)
def yJ (p0 : M.Server) : Option M.Server :=
  (rG p0.aH).bind fun x1 => ((app 16 ([] : List M.aJ) p0.aJ).bind fun x3 => ((app 72 ([] : List M.aW) p0.Changes).bind fun x5 => (some (⟨x1, p0.aJ, p0.Changes⟩ : M.Server))))
def gC (p0 : M.World) (x1 : M.aM) (r12 : List M.bG) (x42 : M.aF) (x44 : M.Channel) (r40 : List M.Site) : Nat → Int → List M.Server → Option M.World
  | 0, _, _ => none
  | nL3 + 1, v6, r60 => if (decide (v6 < (List.length p0.Servers : Int))) = true then ((idx p0.Servers v6).bind fun x122 => ((yJ x122).bind fun x127 => ((app 96 r60 ([x127])).bind fun x129 => (gC p0 x1 r12 x42 x44 r40 nL3 (IntKind.i64.wrap (v6 + 1)) (r60 ++ [x127]))))) else (some (⟨p0.Now, p0.Online, p0.Device, x1, r12, p0.NextPage, x42, x44, r40, r60⟩ : M.World))
def gE (p0 : M.World) (x1 : M.aM) (r12 : List M.bG) (x42 : M.aF) (x44 : M.Channel) : Nat → Int → List M.Site → Option M.World
  | 0, _, _ => none
  | nL2 + 1, v5, r40 => if (decide (v5 < (List.length p0.Sites : Int))) = true then ((idx p0.Sites v5).bind fun x72 => ((yS x72).bind fun x77 => ((app 56 r40 ([x77])).bind fun x79 => (gE p0 x1 r12 x42 x44 nL2 (IntKind.i64.wrap (v5 + 1)) (r40 ++ [x77]))))) else (gC p0 x1 r12 x42 x44 r40 fuel 0 ([] : List M.Server))
def iB (p0 : M.World) (x1 : M.aM) : Nat → Int → List M.bG → Option M.World
  | 0, _, _ => none
  | nL1 + 1, v4, r12 => if (decide (v4 < (List.length p0.Pages : Int))) = true then ((idx p0.Pages v4).bind fun x23 => ((yV x23).bind fun x28 => ((app 144 r12 ([x28])).bind fun x30 => (iB p0 x1 nL1 (IntKind.i64.wrap (v4 + 1)) (r12 ++ [x28]))))) else ((jO p0.Locks).bind fun x42 => ((tX p0.Channel).bind fun x44 => (gE p0 x1 r12 x42 x44 fuel 0 ([] : List M.Site))))
def zB (p0 : M.World) : Option M.World :=
  (xC p0.aM).bind fun x1 => (iB p0 x1 fuel 0 ([] : List M.bG))
def jD (p0 : List M.bG) (p1 : Int) : Nat → Int → Option Int
  | 0, _ => none
  | nL1 + 1, v5 => if (decide (v5 < (List.length p0 : Int))) = true then ((idx p0 v5).bind fun x6 => (if (x6.Id == p1) = true then (some v5) else (jD p0 p1 nL1 (IntKind.i64.wrap (v5 + 1))))) else (some (-1))
def xR (p0 : List M.bG) (p1 : Int) : Option Int :=
  jD p0 p1 fuel 0
def sG (p0 : M.World) (p1 : Int) : Option Int :=
  (xR p0.Pages p1).bind fun x1 => (some x1)
def bJ (p0 : Int) (p1 : Int) (p2 : Int) : Option Bool :=
  if (decide (p0 ≥ p1)) = true then (some (decide (p0 ≤ p2))) else (some false)
def iW (p0 : ByteArray) : Nat → Int → Option Bool
  | 0, _ => none
  | nL1 + 1, v3 => if (decide (v3 < (p0.size : Int))) = true then ((aMH p0 v3).bind fun x5 => (if (decide ((x5.toNat : Int) < 97)) = true then (some false) else (if (decide ((x5.toNat : Int) > 122)) = true then (some false) else (iW p0 nL1 (IntKind.i64.wrap (v3 + 1)))))) else ((bJ (p0.size : Int) 1 8).bind fun x11 => (some x11))
def cC (p0 : ByteArray) : Option Bool :=
  iW p0 fuel 0
def gY (p0 : M.Site) : Nat → Int → Option Bool
  | 0, _ => none
  | nL1 + 1, v3 => if (decide (v3 < (List.length p0.Files : Int))) = true then ((idx p0.Files v3).bind fun x6 => ((cC x6).bind fun x11 => (if (!x11) = true then (some false) else (if (decide (v3 > 0)) = true then ((idx p0.Files (IntKind.i64.wrap (v3 - 1))).bind fun x15 => (if (!(Op.bytesLess x15.toList x6.toList)) = true then (some false) else (gY p0 nL1 (IntKind.i64.wrap (v3 + 1))))) else (gY p0 nL1 (IntKind.i64.wrap (v3 + 1))))))) else ((cC p0.Name).bind fun x21 => (if x21 = true then ((bJ p0.Version 1 1000000000000).bind fun x24 => (if x24 = true then ((bJ (List.length p0.Files : Int) 1 6).bind fun x27 => (some x27)) else (some false))) else (some false)))
def aAF (p0 : M.Site) : Option Bool :=
  gY p0 fuel 0
def aAK  : Option (List ByteArray) :=
  some ([(⟨#[98, 97, 110, 107]⟩ : ByteArray), (⟨#[110, 101, 119, 115]⟩ : ByteArray), (⟨#[115, 104, 111, 112]⟩ : ByteArray)])
def fZ (p0 : ByteArray) : Nat → Int → Option Bool
  | 0, _ => none
  | nL1 + 1, v3 => if (decide (v3 < (p0.size : Int))) = true then ((aMH p0 v3).bind fun x5 => (if (decide ((x5.toNat : Int) < 97)) = true then (if (decide ((x5.toNat : Int) < 48)) = true then (some false) else (if (decide ((x5.toNat : Int) > 57)) = true then (some false) else (fZ p0 nL1 (IntKind.i64.wrap (v3 + 1))))) else (if (decide ((x5.toNat : Int) > 122)) = true then (if (decide ((x5.toNat : Int) < 48)) = true then (some false) else (if (decide ((x5.toNat : Int) > 57)) = true then (some false) else (fZ p0 nL1 (IntKind.i64.wrap (v3 + 1))))) else (fZ p0 nL1 (IntKind.i64.wrap (v3 + 1)))))) else (some (decide ((p0.size : Int) ≤ 12)))
def wU (p0 : ByteArray) : Option Bool :=
  fZ p0 fuel 0
def nW (p0 : M.Key) : Option Bool :=
  (bJ p0.Kind 1 3).bind fun x1 => (if x1 = true then ((bJ p0.N (-1000000000000) 1000000000000).bind fun x4 => (if x4 = true then (if (p0.Kind != 2) = true then ((wU p0.Text).bind fun x8 => (if x8 = true then (if (p0.Kind != 1) = true then (some true) else (some (p0.Text.toList == (⟨#[]⟩ : ByteArray).toList))) else (some false))) else (if (p0.N == 0) = true then ((wU p0.Text).bind fun x13 => (if x13 = true then (if (p0.Kind != 1) = true then (some true) else (some (p0.Text.toList == (⟨#[]⟩ : ByteArray).toList))) else (some false))) else (some false))) else (some false))) else (some false))
def iP (p0 : M.aW) : Option Bool :=
  (bJ p0.Device 1 1000000).bind fun x1 => (if x1 = true then ((bJ p0.Seq 1 1000000).bind fun x4 => (if x4 = true then ((nW p0.Key).bind fun x7 => (if x7 = true then ((cC p0.Field).bind fun x10 => (if x10 = true then ((bJ p0.N 0 1000000000).bind fun x13 => (some x13)) else (some false))) else (some false))) else (some false))) else (some false))
def fQ (p0 : M.aU) : Nat → Int → Option Bool
  | 0, _ => none
  | nL1 + 1, v3 => if (decide (v3 < (List.length p0.Fields : Int))) = true then ((idx p0.Fields v3).bind fun x6 => ((cC x6.Name).bind fun x11 => (if (!x11) = true then (some false) else ((bJ x6.N 0 1000000000).bind fun x14 => (if (!x14) = true then (some false) else (if (decide (v3 > 0)) = true then ((idx p0.Fields (IntKind.i64.wrap (v3 - 1))).bind fun x18 => (if (!(Op.bytesLess x18.Name.toList x6.Name.toList)) = true then (some false) else (fQ p0 nL1 (IntKind.i64.wrap (v3 + 1))))) else (fQ p0 nL1 (IntKind.i64.wrap (v3 + 1))))))))) else (some (decide ((List.length p0.Fields : Int) ≤ 6)))
def qC (p0 : M.aU) : Option Bool :=
  fQ p0 fuel 0
def wS (p0 : Bool) (p1 : Bool) : Option Int :=
  if p0 = true then (some (-1)) else (if p1 = true then (some 1) else (some 0))
def jW (p0 : M.Key) (p1 : M.Key) : Option Int :=
  (nW p0).bind fun x1 => (if (!x1) = true then (some 0) else ((nW p1).bind fun x4 => (if (!x4) = true then (some 0) else (if (p0.Kind != p1.Kind) = true then ((wS (decide (p0.Kind < p1.Kind)) true).bind fun x8 => (some x8)) else (if (p0.N != p1.N) = true then ((wS (decide (p0.N < p1.N)) true).bind fun x11 => (some x11)) else ((wS (Op.bytesLess p0.Text.toList p1.Text.toList) (!(Op.bytesLess p0.Text.toList p1.Text.toList || p0.Text.toList == p1.Text.toList))).bind fun x13 => (some x13)))))))
def gI (p0 : M.aH) : Nat → Int → Option Bool
  | 0, _ => none
  | nL1 + 1, v3 => if (decide (v3 < (List.length p0.Items : Int))) = true then ((idx p0.Items v3).bind fun x6 => ((nW x6.Key).bind fun x11 => (if (!x11) = true then (some false) else ((qC x6.aU).bind fun x14 => (if (!x14) = true then (some false) else (if (decide (v3 > 0)) = true then ((idx p0.Items (IntKind.i64.wrap (v3 - 1))).bind fun x18 => ((jW x18.Key x6.Key).bind fun x23 => (if (decide (x23 ≥ 0)) = true then (some false) else (gI p0 nL1 (IntKind.i64.wrap (v3 + 1)))))) else (gI p0 nL1 (IntKind.i64.wrap (v3 + 1))))))))) else ((cC p0.Name).bind fun x26 => (if x26 = true then (if (decide ((List.length p0.Items : Int) ≤ 16)) = true then ((bJ p0.Auto 0 1000000).bind fun x30 => (some x30)) else (some false)) else (some false)))
def oP (p0 : M.aH) : Option Bool :=
  gI p0 fuel 0
def gT (p0 : M.Server) : Nat → Int → Option Bool
  | 0, _ => none
  | nL2 + 1, v4 => if (decide (v4 < (List.length p0.Changes : Int))) = true then ((idx p0.Changes v4).bind fun x29 => ((iP x29).bind fun x34 => (if (!x34) = true then (some false) else (gT p0 nL2 (IntKind.i64.wrap (v4 + 1)))))) else ((oP p0.aH).bind fun x37 => (if x37 = true then (if (p0.aH.Name.toList == (⟨#[110, 111, 116, 101, 115]⟩ : ByteArray).toList) = true then (some (decide ((List.length p0.aJ : Int) ≤ 60))) else (some false)) else (some false)))
def fS (p0 : M.Server) : Nat → Int → Option Bool
  | 0, _ => none
  | nL1 + 1, v3 => if (decide (v3 < (List.length p0.aJ : Int))) = true then ((idx p0.aJ v3).bind fun x6 => ((bJ x6.Device 1 1000000).bind fun x11 => (if (!x11) = true then (some false) else ((bJ x6.Seq 0 1000000).bind fun x14 => (if (!x14) = true then (some false) else (if (decide (v3 > 0)) = true then ((idx p0.aJ (IntKind.i64.wrap (v3 - 1))).bind fun x18 => (if (decide (x18.Device ≥ x6.Device)) = true then (some false) else (fS p0 nL1 (IntKind.i64.wrap (v3 + 1))))) else (fS p0 nL1 (IntKind.i64.wrap (v3 + 1))))))))) else (gT p0 fuel 0)
def vT (p0 : M.Server) : Option Bool :=
  fS p0 fuel 0
def kO (p0 : M.bG) : Nat → Int → Option Bool
  | 0, _ => none
  | nL1 + 1, v3 => if (decide (v3 < (List.length p0.aN : Int))) = true then ((idx p0.aN v3).bind fun x6 => ((cC x6.Path).bind fun x11 => (if (!x11) = true then (some false) else (if (x6.Version != p0.Version) = true then (some false) else (kO p0 nL1 (IntKind.i64.wrap (v3 + 1))))))) else ((bJ p0.Id 1 1000000000000).bind fun x15 => (if x15 = true then ((cC p0.Site).bind fun x18 => (if x18 = true then ((cC p0.Top).bind fun x21 => (if x21 = true then ((bJ p0.Version 1 1000000000000).bind fun x24 => (if x24 = true then (some (decide ((List.length p0.aN : Int) ≤ 8))) else (some false))) else (some false))) else (some false))) else (some false)))
def zW (p0 : M.bG) : Option Bool :=
  kO p0 fuel 0
def fG (p0 : M.aM) (p1 : ByteArray) (p2 : ByteArray) : Nat → Int → Option Int
  | 0, _ => none
  | nL1 + 1, v7 => if (decide (v7 < (List.length p0.Buckets : Int))) = true then ((idx p0.Buckets v7).bind fun x8 => (if (x8.Site.toList == p1.toList) = true then (if (x8.Top.toList == p2.toList) = true then (some v7) else (fG p0 p1 p2 nL1 (IntKind.i64.wrap (v7 + 1)))) else (fG p0 p1 p2 nL1 (IntKind.i64.wrap (v7 + 1))))) else (some (-1))
def lE (p0 : M.aM) (p1 : ByteArray) (p2 : ByteArray) : Option Int :=
  fG p0 p1 p2 fuel 0
def bP (p0 : M.Registration) : Nat → Int → Int → Option Bool
  | 0, _, _ => none
  | nL1 + 1, v3, v5 => if (decide (v5 < ((3 : Nat) : Int))) = true then ((idx ([p0.Active, p0.Waiting, p0.Installing]) v5).bind fun x15 => ((bJ x15 0 1000000000000).bind fun x20 => (if (!x20) = true then (some false) else (if (x15 != 0) = true then (if (decide (x15 ≤ v3)) = true then (some false) else (bP p0 nL1 x15 (IntKind.i64.wrap (v5 + 1)))) else (bP p0 nL1 v3 (IntKind.i64.wrap (v5 + 1))))))) else ((cC p0.Site).bind fun x25 => (some x25))
def hU (p0 : M.Registration) : Option Bool :=
  bP p0 fuel 0 0
def qK (p0 : M.Response) : Option Bool :=
  (bJ p0.Type_ 1 4).bind fun x1 => (if x1 = true then ((bJ p0.Status 0 999).bind fun x4 => (if x4 = true then ((bJ p0.Version 0 1000000000000).bind fun x7 => (if x7 = true then (some (decide ((List.length p0.Body : Int) ≤ 60))) else (some false))) else (some false))) else (some false))
def fE (p0 : List M.Cached) (v3 : Int) (x5 : M.Cached) (k20 : Int → Option Bool) : Nat → Int → Option Bool
  | 0, _ => none
  | nL2 + 1, v4_L2 => if (decide (v4_L2 < v3)) = true then ((idx p0 v4_L2).bind fun x26 => (if (x26.Site.toList == x5.Site.toList) = true then (if (x26.Path.toList == x5.Path.toList) = true then (some false) else (fE p0 v3 x5 k20 nL2 (IntKind.i64.wrap (v4_L2 + 1)))) else (fE p0 v3 x5 k20 nL2 (IntKind.i64.wrap (v4_L2 + 1))))) else (k20 v4_L2)
def eD (p0 : List M.Cached) : Nat → Int → Option Bool
  | 0, _ => none
  | nL1 + 1, v3 => if (decide (v3 < (List.length p0 : Int))) = true then ((idx p0 v3).bind fun x5 => ((cC x5.Site).bind fun x10 => (if (!x10) = true then (some false) else ((cC x5.Path).bind fun x13 => (if (!x13) = true then (some false) else ((qK x5.Response).bind fun x16 => (if (!x16) = true then (some false) else (fE p0 v3 x5 (fun (v4_L2 : Int) => eD p0 nL1 (IntKind.i64.wrap (v3 + 1))) fuel 0)))))))) else (some (decide ((List.length p0 : Int) ≤ 12)))
def lC (p0 : List M.Cached) : Option Bool :=
  eD p0 fuel 0
def dY (p0 : M.aT) : Nat → Int → Option Bool
  | 0, _ => none
  | nL1 + 1, v3 => if (decide (v3 < (List.length p0.Caches : Int))) = true then ((idx p0.Caches v3).bind fun x6 => ((bJ x6.Version 1 1000000000000).bind fun x11 => (if (!x11) = true then (some false) else (if (decide (v3 > 0)) = true then ((idx p0.Caches (IntKind.i64.wrap (v3 - 1))).bind fun x15 => (if (decide (x15.Version ≥ x6.Version)) = true then (some false) else ((lC x6.Entries).bind fun x21 => (if (!x21) = true then (some false) else (dY p0 nL1 (IntKind.i64.wrap (v3 + 1))))))) else ((lC x6.Entries).bind fun x24 => (if (!x24) = true then (some false) else (dY p0 nL1 (IntKind.i64.wrap (v3 + 1))))))))) else (some (decide ((List.length p0.Caches : Int) ≤ 4)))
def pK (p0 : M.aT) : Option Bool :=
  dY p0 fuel 0
def hD (p0 : M.Database) (p1 : ByteArray) : Nat → Int → Option Int
  | 0, _ => none
  | nL1 + 1, v5 => if (decide (v5 < (List.length p0.Stores : Int))) = true then ((idx p0.Stores v5).bind fun x7 => (if (x7.Name.toList == p1.toList) = true then (some v5) else (hD p0 p1 nL1 (IntKind.i64.wrap (v5 + 1))))) else (some (-1))
def rR (p0 : M.Database) (p1 : ByteArray) : Option Int :=
  hD p0 p1 fuel 0
def kJ (p0 : M.aU) (p1 : ByteArray) : Nat → Int → Option (Int × Bool)
  | 0, _ => none
  | nL1 + 1, v6 => if (decide (v6 < (List.length p0.Fields : Int))) = true then ((idx p0.Fields v6).bind fun x7 => (if (x7.Name.toList == p1.toList) = true then (some (x7.N, true)) else (kJ p0 p1 nL1 (IntKind.i64.wrap (v6 + 1))))) else (some (0, false))
def jQ (p0 : M.aU) (p1 : ByteArray) : Option (Int × Bool) :=
  kJ p0 p1 fuel 0
def aAW (p0 : M.Item) (p1 : M.Item) (p2 : ByteArray) : Option Bool :=
  (jQ p0.aU p2).bind fun x1 => ((jQ p1.aU p2).bind fun x3 => (if (decide (x1.1 < x3.1)) = true then (some true) else (if (x1.1 == x3.1) = true then ((jW p0.Key p1.Key).bind fun x7 => (some (decide (x7 < 0)))) else (some false))))
def gA (p1 : ByteArray) (r50000 : List M.Item) (x15 : M.Item) (k24 : Int → Option (List M.Item)) : Nat → Int → Option (List M.Item)
  | 0, _ => none
  | nL2 + 1, v9_L2 => if (decide (v9_L2 > 0)) = true then ((idx r50000 (IntKind.i64.wrap (v9_L2 - 1))).bind fun x34 => ((aAW x15 x34 p1).bind fun x39 => (if x39 = true then (gA p1 r50000 x15 k24 nL2 (IntKind.i64.wrap (v9_L2 - 1))) else (k24 v9_L2)))) else (k24 v9_L2)
def gB (p0 : M.aH) (p1 : ByteArray) : Nat → Int → List M.Item → Option (List M.Item)
  | 0, _, _ => none
  | nL1 + 1, v6, r50000 => if (decide (v6 < (List.length p0.Items : Int))) = true then ((idx p0.Items v6).bind fun x15 => ((jQ x15.aU p1).bind fun x20 => (if (!x20.2) = true then (gB p0 p1 nL1 (IntKind.i64.wrap (v6 + 1)) r50000) else (gA p1 r50000 x15 (fun (v9_L2 : Int) => (aG7 r50000 v9_L2).bind fun x79 => ((app 56 ([] : List M.Item) (List.take v9_L2.toNat r50000)).bind fun x81 => ((wL x15).bind fun x93 => ((app 56 (List.take v9_L2.toNat r50000) ([x93])).bind fun x95 => ((app 56 ((List.take v9_L2.toNat r50000) ++ [x93]) (List.drop v9_L2.toNat r50000)).bind fun x107 => (gB p0 p1 nL1 (IntKind.i64.wrap (v6 + 1)) (((List.take v9_L2.toNat r50000) ++ [x93]) ++ (List.drop v9_L2.toNat r50000)))))))) fuel (List.length r50000 : Int))))) else (some r50000)
def yY (p0 : M.aH) (p1 : ByteArray) : Option (List M.Item) :=
  gB p0 p1 fuel 0 ([] : List M.Item)
def iC (p1 : ByteArray) (x1 : (List M.Item)) : Nat → Int → Option (M.Key × M.Key × Bool)
  | 0, _ => none
  | nL1 + 1, v8 => if (decide (v8 < (List.length x1 : Int))) = true then ((idx x1 (IntKind.i64.wrap (v8 - 1))).bind fun x13 => ((jQ x13.aU p1).bind fun x18 => ((idx x1 v8).bind fun x20 => ((jQ x20.aU p1).bind fun x25 => (if (x18.1 == x25.1) = true then (some (x13.Key, x20.Key, true)) else (iC p1 x1 nL1 (IntKind.i64.wrap (v8 + 1)))))))) else (some ((⟨0, 0, (⟨#[]⟩ : ByteArray)⟩ : M.Key), (⟨0, 0, (⟨#[]⟩ : ByteArray)⟩ : M.Key), false))
def nP (p0 : M.aH) (p1 : ByteArray) : Option (M.Key × M.Key × Bool) :=
  (yY p0 p1).bind fun x1 => (iC p1 x1 fuel 1)
def fF (p0 : M.Database) (v4 : Int) (x26 : M.aA) (k46 : Int → Option Bool) : Nat → Int → Option Bool
  | 0, _ => none
  | nL3 + 1, v9_L3 => if (decide (v9_L3 < v4)) = true then ((idx p0.Unique v9_L3).bind fun x53 => (if ((x53.aH.toList == x26.aH.toList) && (x53.Field.toList == x26.Field.toList)) = true then (some false) else (fF p0 v4 x26 k46 nL3 (IntKind.i64.wrap (v9_L3 + 1))))) else (k46 v9_L3)
def eI (p0 : M.Database) : Nat → Int → Option Bool
  | 0, _ => none
  | nL2 + 1, v4 => if (decide (v4 < (List.length p0.Unique : Int))) = true then ((idx p0.Unique v4).bind fun x26 => ((rR p0 x26.aH).bind fun x31 => (if (decide (x31 < 0)) = true then (some false) else ((cC x26.Field).bind fun x34 => (if (!x34) = true then (some false) else ((idx p0.Stores x31).bind fun x37 => ((nP x37 x26.Field).bind fun x42 => (if x42.2.2 = true then (some false) else (fF p0 v4 x26 (fun (v9_L3 : Int) => eI p0 nL2 (IntKind.i64.wrap (v4 + 1))) fuel 0))))))))) else ((cC p0.Name).bind fun x59 => (if x59 = true then ((bJ p0.Version 0 1000).bind fun x62 => (if x62 = true then (if (decide ((List.length p0.Stores : Int) ≤ 4)) = true then (some (decide ((List.length p0.Unique : Int) ≤ 4))) else (some false)) else (some false))) else (some false)))
def eG (p0 : M.Database) : Nat → Int → Option Bool
  | 0, _ => none
  | nL1 + 1, v3 => if (decide (v3 < (List.length p0.Stores : Int))) = true then ((idx p0.Stores v3).bind fun x6 => ((oP x6).bind fun x11 => (if (!x11) = true then (some false) else (if (decide (v3 > 0)) = true then ((idx p0.Stores (IntKind.i64.wrap (v3 - 1))).bind fun x15 => (if (!(Op.bytesLess x15.Name.toList x6.Name.toList)) = true then (some false) else (eG p0 nL1 (IntKind.i64.wrap (v3 + 1))))) else (eG p0 nL1 (IntKind.i64.wrap (v3 + 1))))))) else (eI p0 fuel 0)
def qV (p0 : M.Database) : Option Bool :=
  eG p0 fuel 0
def iH (p0 : M.aV) : Nat → Int → Option Bool
  | 0, _ => none
  | nL1 + 1, v4 => if (decide (v4 < (List.length p0.Writes : Int))) = true then ((idx p0.Writes v4).bind fun x14 => ((iP x14).bind fun x19 => (if (!x19) = true then (some false) else (if (x14.Device != p0.Device) = true then (some false) else (if (x14.Seq != (IntKind.i64.wrap ((IntKind.i64.wrap (p0.Next - (List.length p0.Writes : Int))) + v4))) = true then (some false) else (iH p0 nL1 (IntKind.i64.wrap (v4 + 1)))))))) else (some true)
def wG (p0 : M.aV) : Option Bool :=
  (bJ p0.Device 1 1000000).bind fun x1 => (if (!x1) = true then (some false) else ((bJ p0.Next 1 1000000).bind fun x4 => (if (!x4) = true then (some false) else (if (decide ((List.length p0.Writes : Int) > 20)) = true then (some false) else (iH p0 fuel 0)))))
def sQ (p0 : M.aC) : Option Bool :=
  (oP p0.Base).bind fun x1 => (if x1 = true then (if (p0.Base.Name.toList == (⟨#[110, 111, 116, 101, 115]⟩ : ByteArray).toList) = true then ((bJ p0.Seen 0 1000000000000).bind fun x5 => (if x5 = true then ((wG p0.Sync.aV).bind fun x8 => (some x8)) else (some false))) else (some false)) else (some false))
def pG (p0 : M.Response) (p1 : Bool) : Option Int :=
  if p1 = true then (some 76) else (some (IntKind.i64.wrap (16 + (List.length p0.Body : Int))))
def gR (p0 : M.aT) (v4 : Int) (k8 : Int → Int → Option Int) : Nat → Int → Int → Option Int
  | 0, _, _ => none
  | nL2 + 1, v3_L2, v5_L2 => (idx p0.Caches v4).bind fun x15 => (if (decide (v5_L2 < (List.length x15.Entries : Int))) = true then ((idx x15.Entries v5_L2).bind fun x21 => ((pG x21.Response (x21.Response.Type_ == 3)).bind fun x26 => (gR p0 v4 k8 nL2 (IntKind.i64.wrap (v3_L2 + x26)) (IntKind.i64.wrap (v5_L2 + 1))))) else (k8 v3_L2 v5_L2))
def eF (p0 : M.aT) : Nat → Int → Int → Option Int
  | 0, _, _ => none
  | nL1 + 1, v3, v4 => if (decide (v4 < (List.length p0.Caches : Int))) = true then (gR p0 v4 (fun (v3_L2 : Int) (v5_L2 : Int) => eF p0 nL1 v3_L2 (IntKind.i64.wrap (v4 + 1))) fuel v3 0) else (some v3)
def qT (p0 : M.aT) : Option Int :=
  eF p0 fuel 0 0
def bY (p0 : M.Key) : Nat → Int → List Int → Option (List Int)
  | 0, _, _ => none
  | nL1 + 1, v4, r12 => if (decide (v4 ≥ 0)) = true then (if (p0.Kind != 2) = true then (if (decide (0 ≤ (IntKind.i64.wrap (8 * v4)))) = true then ((app 1 r12 ([(IntKind.u8.wrap (IntKind.i64.wrap (BitVec.ofInt (IntKind.i64.bits) (Int.fdiv (IntKind.i64.wrap (p0.N + 1000000000000)) (2 ^ (min (IntKind.i64.wrap (8 * v4)).toNat IntKind.i64.bits))) &&& BitVec.ofInt (IntKind.i64.bits) 255).toNat))])).bind fun x18 => (bY p0 nL1 (IntKind.i64.wrap (v4 - 1)) (r12 ++ [(IntKind.u8.wrap (IntKind.i64.wrap (BitVec.ofInt (IntKind.i64.bits) (Int.fdiv (IntKind.i64.wrap (p0.N + 1000000000000)) (2 ^ (min (IntKind.i64.wrap (8 * v4)).toNat IntKind.i64.bits))) &&& BitVec.ofInt (IntKind.i64.bits) 255).toNat))]))) else none) else ((app 1 r12 (kY p0.Text)).bind fun x26 => (some (r12 ++ (kY p0.Text))))) else ((app 1 r12 (kY p0.Text)).bind fun x28 => (some (r12 ++ (kY p0.Text))))
def sH (p0 : M.Key) : Option (List Int) :=
  (nW p0).bind fun x1 => (if (!x1) = true then (some ([] : List Int)) else (bY p0 fuel 5 ([(IntKind.u8.wrap p0.Kind)])))
def dJ  : Nat → Int → List Int → Option (List Int)
  | 0, _, _ => none
  | nL1 + 1, v1, r6 => if (decide (v1 > 127)) = true then ((app 1 r6 ([(IntKind.u8.wrap (IntKind.i64.wrap (BitVec.ofInt (IntKind.i64.bits) (IntKind.i64.wrap (BitVec.ofInt (IntKind.i64.bits) v1 &&& BitVec.ofInt (IntKind.i64.bits) 127).toNat) ||| BitVec.ofInt (IntKind.i64.bits) 128).toNat))])).bind fun x15 => (dJ nL1 (Int.fdiv v1 (2 ^ (min (7 : Int).toNat IntKind.i64.bits))) (r6 ++ [(IntKind.u8.wrap (IntKind.i64.wrap (BitVec.ofInt (IntKind.i64.bits) (IntKind.i64.wrap (BitVec.ofInt (IntKind.i64.bits) v1 &&& BitVec.ofInt (IntKind.i64.bits) 127).toNat) ||| BitVec.ofInt (IntKind.i64.bits) 128).toNat))]))) else ((app 1 r6 ([(IntKind.u8.wrap v1)])).bind fun x21 => (some (r6 ++ [(IntKind.u8.wrap v1)])))
def gO (p0 : List Int) (p1 : Int) : Option (List Int) :=
  (app 1 ([] : List Int) p0).bind fun x1 => ((bJ p1 0 1000000000000).bind fun x7 => (if (!x7) = true then (some p0) else (dJ fuel p1 p0)))
def nV (p0 : List Int) (p1 : List Int) : Option (List Int) :=
  (gO p0 (List.length p1 : Int)).bind fun x1 => ((app 1 x1 p1).bind fun x3 => (some (x1 ++ p1)))
def fJ (p0 : M.aU) : Nat → Int → List Int → Option (List Int)
  | 0, _, _ => none
  | nL1 + 1, v4, r50000 => if (decide (v4 < (List.length p0.Fields : Int))) = true then ((idx p0.Fields v4).bind fun x18 => ((nV r50000 (kY x18.Name)).bind fun x23 => ((gO x23 x18.N).bind fun x25 => (fJ p0 nL1 (IntKind.i64.wrap (v4 + 1)) x25)))) else (some r50000)
def mI (p0 : M.aU) : Option (List Int) :=
  (qC p0).bind fun x1 => (if (!x1) = true then (some ([] : List Int)) else ((gO ([] : List Int) (List.length p0.Fields : Int)).bind fun x4 => (fJ p0 fuel 0 x4)))
def hJ (p0 : M.aH) : Nat → Int → Int → Option Int
  | 0, _, _ => none
  | nL1 + 1, v3, v4 => if (decide (v4 < (List.length p0.Items : Int))) = true then ((idx p0.Items v4).bind fun x7 => ((sH x7.Key).bind fun x12 => ((mI x7.aU).bind fun x14 => (hJ p0 nL1 (IntKind.i64.wrap ((IntKind.i64.wrap (v3 + (List.length x12 : Int))) + (List.length x14 : Int))) (IntKind.i64.wrap (v4 + 1)))))) else (some v3)
def mW (p0 : M.aH) : Option Int :=
  hJ p0 fuel 0 0
def fM (p0 : M.Database) : Nat → Int → Int → Option Int
  | 0, _, _ => none
  | nL1 + 1, v3, v4 => if (decide (v4 < (List.length p0.Stores : Int))) = true then ((idx p0.Stores v4).bind fun x7 => ((mW x7).bind fun x12 => (fM p0 nL1 (IntKind.i64.wrap (v3 + x12)) (IntKind.i64.wrap (v4 + 1))))) else (some v3)
def lV (p0 : M.Database) : Option Int :=
  fM p0 fuel 0 0
def zP (p0 : M.bE) : Option Int :=
  (lV p0.Base).bind fun x1 => (some (IntKind.i64.wrap (x1 + (List.length p0.Log : Int))))
def xF (p0 : M.aE) : Option Int :=
  (qT p0.Caches).bind fun x1 => ((zP p0.bE).bind fun x3 => ((mW p0.aC.Base).bind fun x5 => (some (IntKind.i64.wrap ((IntKind.i64.wrap ((IntKind.i64.wrap (x1 + x3)) + x5)) + (IntKind.i64.wrap (40 * (List.length p0.aC.Sync.aV.Writes : Int))))))))
def qF (p0 : M.aE) : Option Bool :=
  (cC p0.Site).bind fun x1 => (if x1 = true then ((cC p0.Top).bind fun x4 => (if x4 = true then ((hU p0.Registration).bind fun x7 => (if x7 = true then (if (p0.Registration.Site.toList == p0.Site.toList) = true then ((pK p0.Caches).bind fun x11 => (if x11 = true then ((qV p0.bE.Base).bind fun x14 => (if x14 = true then ((sQ p0.aC).bind fun x17 => (if x17 = true then ((bJ p0.LastUsed 0 1000000000000).bind fun x20 => (if x20 = true then ((xF p0).bind fun x23 => (some (decide (x23 ≤ 2500)))) else (some false))) else (some false))) else (some false))) else (some false))) else (some false)) else (some false))) else (some false))) else (some false))
def xP (p0 : M.aE) (p1 : ByteArray) (p2 : ByteArray) : Option Bool :=
  if (Op.bytesLess p0.Site.toList p1.toList) = true then (some true) else (if (p0.Site.toList == p1.toList) = true then (some (Op.bytesLess p0.Top.toList p2.toList)) else (some false))
def eW (p0 : M.aM) : Nat → Int → Option Bool
  | 0, _ => none
  | nL1 + 1, v3 => if (decide (v3 < (List.length p0.Buckets : Int))) = true then ((idx p0.Buckets v3).bind fun x6 => ((qF x6).bind fun x11 => (if (!x11) = true then (some false) else (if (decide (v3 > 0)) = true then ((idx p0.Buckets (IntKind.i64.wrap (v3 - 1))).bind fun x15 => ((xP x15 x6.Site x6.Top).bind fun x20 => (if (!x20) = true then (some false) else (eW p0 nL1 (IntKind.i64.wrap (v3 + 1)))))) else (eW p0 nL1 (IntKind.i64.wrap (v3 + 1))))))) else (some (decide ((List.length p0.Buckets : Int) ≤ 9)))
def mV (p0 : M.aM) : Option Bool :=
  eW p0 fuel 0
def cT (p0 : ByteArray) : Nat → Int → Option Bool
  | 0, _ => none
  | nL1 + 1, v3 => if (decide (v3 < (p0.size : Int))) = true then ((aMH p0 v3).bind fun x5 => (if (decide ((x5.toNat : Int) < 97)) = true then (if ((x5.toNat : Int) != 47) = true then (some false) else (cT p0 nL1 (IntKind.i64.wrap (v3 + 1)))) else (if (decide ((x5.toNat : Int) > 122)) = true then (if ((x5.toNat : Int) != 47) = true then (some false) else (cT p0 nL1 (IntKind.i64.wrap (v3 + 1)))) else (cT p0 nL1 (IntKind.i64.wrap (v3 + 1)))))) else ((bJ (p0.size : Int) 1 30).bind fun x13 => (some x13))
def pA (p0 : ByteArray) : Option Bool :=
  cT p0 fuel 0
def bU (p0 : M.aF) (v3 : Int) (x6 : M.bK) (k18 : Int → Option Bool) : Nat → Int → Option Bool
  | 0, _ => none
  | nL2 + 1, v5_L2 => if (decide (v5_L2 < v3)) = true then ((idx p0.Locks v5_L2).bind fun x27 => (if x6.Held = true then (if (x27.Name.toList == x6.Name.toList) = true then (if (!x27.Held) = true then (some false) else (if (!x6.Shared) = true then (some false) else (if (!x27.Shared) = true then (some false) else (bU p0 v3 x6 k18 nL2 (IntKind.i64.wrap (v5_L2 + 1)))))) else (bU p0 v3 x6 k18 nL2 (IntKind.i64.wrap (v5_L2 + 1)))) else (bU p0 v3 x6 k18 nL2 (IntKind.i64.wrap (v5_L2 + 1))))) else (k18 v5_L2)
def eQ (p0 : M.aF) : Nat → Int → Option Bool
  | 0, _ => none
  | nL1 + 1, v3 => if (decide (v3 < (List.length p0.Locks : Int))) = true then ((idx p0.Locks v3).bind fun x6 => ((pA x6.Name).bind fun x11 => (if (!x11) = true then (some false) else ((bJ x6.bG 1 1000000000000).bind fun x14 => (if (!x14) = true then (some false) else (bU p0 v3 x6 (fun (v5_L2 : Int) => eQ p0 nL1 (IntKind.i64.wrap (v3 + 1))) fuel 0)))))) else (some (decide ((List.length p0.Locks : Int) ≤ 12)))
def iG (p0 : M.aF) : Option Bool :=
  eQ p0 fuel 0
def dD (p0 : M.World) : Nat → Int → Option Bool
  | 0, _ => none
  | nL2 + 1, v4 => if (decide (v4 < (List.length p0.Pages : Int))) = true then ((idx p0.Pages v4).bind fun x38 => ((zW x38).bind fun x43 => (if (!x43) = true then (some false) else (if (decide (x38.Id ≥ p0.NextPage)) = true then (some false) else (if (decide (v4 > 0)) = true then ((idx p0.Pages (IntKind.i64.wrap (v4 - 1))).bind fun x48 => (if (decide (x48.Id ≥ x38.Id)) = true then (some false) else ((lE p0.aM x38.Site x38.Top).bind fun x54 => (if (decide (x54 < 0)) = true then (some false) else (dD p0 nL2 (IntKind.i64.wrap (v4 + 1))))))) else ((lE p0.aM x38.Site x38.Top).bind fun x57 => (if (decide (x57 < 0)) = true then (some false) else (dD p0 nL2 (IntKind.i64.wrap (v4 + 1)))))))))) else ((bJ p0.Now 0 999999990000).bind fun x60 => (if x60 = true then ((bJ p0.Device 1 1000000).bind fun x63 => (if x63 = true then ((mV p0.aM).bind fun x66 => (if x66 = true then ((bJ p0.NextPage 1 1000000000000).bind fun x69 => (if x69 = true then ((iG p0.Locks).bind fun x72 => (some x72)) else (some false))) else (some false))) else (some false))) else (some false)))
def hY (p0 : M.World) : Nat → Int → Option Bool
  | 0, _ => none
  | nL1 + 1, v3 => if (decide (v3 < 3)) = true then ((idx p0.Sites v3).bind fun x9 => ((aAF x9).bind fun x14 => (if (!x14) = true then (some false) else ((aAK).bind fun x17 => ((idx x17 v3).bind fun x19 => (if (!(x9.Name.toList == x19.toList)) = true then (some false) else ((idx p0.Servers v3).bind fun x25 => ((vT x25).bind fun x30 => (if (!x30) = true then (some false) else (hY p0 nL1 (IntKind.i64.wrap (v3 + 1)))))))))))) else (dD p0 fuel 0)
def yT (p0 : M.World) : Option Bool :=
  if ((List.length p0.Sites : Int) != 3) = true then (some false) else (if ((List.length p0.Servers : Int) != 3) = true then (some false) else (if (decide ((List.length p0.Pages : Int) > 6)) = true then (some false) else (hY p0 fuel 0)))
def iS (p0 : List M.bK) (p1 : Int) (p2 : M.bK) : Nat → Int → Option Bool
  | 0, _ => none
  | nL1 + 1, v7 => if (decide (v7 < p1)) = true then ((idx p0 v7).bind fun x8 => (if (x8.Name.toList == p2.Name.toList) = true then (if (!x8.Held) = true then (some false) else (if (!x8.Shared) = true then (some false) else (if (!p2.Shared) = true then (some false) else (iS p0 p1 p2 nL1 (IntKind.i64.wrap (v7 + 1)))))) else (iS p0 p1 p2 nL1 (IntKind.i64.wrap (v7 + 1))))) else (some true)
def zV (p0 : List M.bK) (p1 : Int) (p2 : M.bK) : Option Bool :=
  iS p0 p1 p2 fuel 0
def nN (p0 : M.aF) (p1 : ByteArray) (p2 : Int) (p3 : Bool) : Option (M.aF × Bool) :=
  (jO p0).bind fun x1 => ((zV p0.Locks (List.length p0.Locks : Int) (⟨p1, p2, p3, false⟩ : M.bK)).bind fun x3 => ((app 32 x1.Locks ([(⟨p1, p2, p3, x3⟩ : M.bK)])).bind fun x5 => ((iG p0).bind fun x15 => (if (!x15) = true then ((jO p0).bind fun x18 => (some (x18, false))) else ((iG (⟨(x1.Locks ++ [(⟨p1, p2, p3, x3⟩ : M.bK)])⟩ : M.aF)).bind fun x20 => (if (!x20) = true then ((jO p0).bind fun x23 => (some (x23, false))) else (some ((⟨(x1.Locks ++ [(⟨p1, p2, p3, x3⟩ : M.bK)])⟩ : M.aF), true))))))))
def eT (p0 : M.aF) (p1 : ByteArray) (p2 : Int) : Nat → Int → Option Bool
  | 0, _ => none
  | nL1 + 1, v7 => if (decide (v7 < (List.length p0.Locks : Int))) = true then ((idx p0.Locks v7).bind fun x8 => (if x8.Held = true then (if (x8.Name.toList == p1.toList) = true then (if (x8.bG == p2) = true then (some true) else (eT p0 p1 p2 nL1 (IntKind.i64.wrap (v7 + 1)))) else (eT p0 p1 p2 nL1 (IntKind.i64.wrap (v7 + 1)))) else (eT p0 p1 p2 nL1 (IntKind.i64.wrap (v7 + 1))))) else (some false)
def tQ (p0 : M.aF) (p1 : ByteArray) (p2 : Int) : Option Bool :=
  eT p0 p1 p2 fuel 0
def uW (p0 : M.World) (p1 : Int) (p2 : ByteArray) (p3 : Bool) : Option (M.World × Bool) :=
  (zB p0).bind fun x1 => ((sG p0 p1).bind fun x3 => ((yT p0).bind fun x5 => (if (!x5) = true then (some (x1, false)) else (if (decide (x3 < 0)) = true then (some (x1, false)) else ((idx p0.Pages x3).bind fun x9 => ((cat x9.Site (⟨#[47]⟩ : ByteArray)).bind fun x14 => ((cat (x9.Site ++ (⟨#[47]⟩ : ByteArray)) x9.Top).bind fun x16 => ((cat ((x9.Site ++ (⟨#[47]⟩ : ByteArray)) ++ x9.Top) (⟨#[47]⟩ : ByteArray)).bind fun x18 => ((cat (((x9.Site ++ (⟨#[47]⟩ : ByteArray)) ++ x9.Top) ++ (⟨#[47]⟩ : ByteArray)) p2).bind fun x20 => ((nN p0.Locks ((((x9.Site ++ (⟨#[47]⟩ : ByteArray)) ++ x9.Top) ++ (⟨#[47]⟩ : ByteArray)) ++ p2) p1 p3).bind fun x22 => (if (!x22.2) = true then (some (x1, false)) else ((tQ x22.1 ((((x9.Site ++ (⟨#[47]⟩ : ByteArray)) ++ x9.Top) ++ (⟨#[47]⟩ : ByteArray)) ++ p2) p1).bind fun x25 => (some ((⟨x1.Now, x1.Online, x1.Device, x1.aM, x1.Pages, x1.NextPage, x22.1, x1.Channel, x1.Sites, x1.Servers⟩ : M.World), x25))))))))))))))
def iT (p0 : List Int) : Option (List Int) :=
  (app 1 ([] : List Int) p0).bind fun x1 => (some p0)
def mC (p0 : M.Response) : Option M.Response :=
  (iT p0.Body).bind fun x1 => (some (⟨p0.Type_, p0.Status, p0.Version, x1, p0.Shares⟩ : M.Response))
def fN (x11 : M.Cache) (k17 : Int → List M.Cached → Option M.aT) : Nat → Int → List M.Cached → Option M.aT
  | 0, _, _ => none
  | nL2 + 1, v23_L2, r50000_L2 => if (decide (v23_L2 < (List.length x11.Entries : Int))) = true then ((idx x11.Entries v23_L2).bind fun x34 => ((mC x34.Response).bind fun x39 => ((app 88 r50000_L2 ([(⟨x34.Site, x34.Path, x39⟩ : M.Cached)])).bind fun x41 => (fN x11 k17 nL2 (IntKind.i64.wrap (v23_L2 + 1)) (r50000_L2 ++ [(⟨x34.Site, x34.Path, x39⟩ : M.Cached)]))))) else (k17 v23_L2 r50000_L2)
def dW (p0 : M.aT) : Nat → Int → List M.Cache → Option M.aT
  | 0, _, _ => none
  | nL1 + 1, v13, r50100 => if (decide (v13 < (List.length p0.Caches : Int))) = true then ((idx p0.Caches v13).bind fun x11 => (fN x11 (fun (v23_L2 : Int) (r50000_L2 : List M.Cached) => (app 32 r50100 ([(⟨x11.Version, r50000_L2⟩ : M.Cache)])).bind fun x58 => (dW p0 nL1 (IntKind.i64.wrap (v13 + 1)) (r50100 ++ [(⟨x11.Version, r50000_L2⟩ : M.Cache)]))) fuel 0 ([] : List M.Cached))) else (some (⟨r50100⟩ : M.aT))
def lW (p0 : M.aT) : Option M.aT :=
  dW p0 fuel 0 ([] : List M.Cache)
def qS (p0 : M.aU) : Option M.aU :=
  (app 24 ([] : List M.Field) p0.Fields).bind fun x1 => (some p0)
def pB (p0 : M.Item) : Option M.Item :=
  (qS p0.aU).bind fun x1 => (some (⟨p0.Key, x1⟩ : M.Item))
def hH (p0 : M.aH) : Nat → Int → List M.Item → Option M.aH
  | 0, _, _ => none
  | nL1 + 1, v14, r50000 => if (decide (v14 < (List.length p0.Items : Int))) = true then ((idx p0.Items v14).bind fun x11 => ((pB x11).bind fun x16 => ((app 56 r50000 ([x16])).bind fun x18 => (hH p0 nL1 (IntKind.i64.wrap (v14 + 1)) (r50000 ++ [x16]))))) else (some (⟨p0.Name, r50000, p0.Auto⟩ : M.aH))
def kN (p0 : M.aH) : Option M.aH :=
  hH p0 fuel 0 ([] : List M.Item)
def fH (p0 : M.Database) : Nat → Int → List M.aH → Option M.Database
  | 0, _, _ => none
  | nL1 + 1, v18, r50000 => if (decide (v18 < (List.length p0.Stores : Int))) = true then ((idx p0.Stores v18).bind fun x22 => ((kN x22).bind fun x27 => ((app 48 r50000 ([x27])).bind fun x29 => (fH p0 nL1 (IntKind.i64.wrap (v18 + 1)) (r50000 ++ [x27]))))) else (some (⟨p0.Name, p0.Version, r50000, p0.Unique⟩ : M.Database))
def mD (p0 : M.Database) : Option M.Database :=
  (app 32 ([] : List M.aA) p0.Unique).bind fun x1 => (fH p0 fuel 0 ([] : List M.aH))
def wH (p0 : M.bE) : Option M.bE :=
  (mD p0.Base).bind fun x1 => ((iT p0.Log).bind fun x3 => (some (⟨x1, x3, p0.Count⟩ : M.bE)))
def pL (p0 : M.aV) : Option M.aV :=
  (app 72 ([] : List M.aW) p0.Writes).bind fun x1 => (some p0)
def uZ (p0 : M.Sync) : Option M.Sync :=
  (pL p0.aV).bind fun x1 => (some (⟨x1, p0.Tries, p0.WaitUntil⟩ : M.Sync))
def nB (p0 : M.aC) : Option M.aC :=
  (kN p0.Base).bind fun x1 => ((uZ p0.Sync).bind fun x3 => (some (⟨x1, p0.Seen, x3⟩ : M.aC)))
def qJ (p0 : M.aE) : Option M.aE :=
  (lW p0.Caches).bind fun x1 => ((wH p0.bE).bind fun x3 => ((nB p0.aC).bind fun x5 => (some (⟨p0.Site, p0.Top, p0.Registration, x1, x3, x5, p0.LastUsed, p0.Persistent⟩ : M.aE))))
def fV (p0 : M.aM) : Nat → Int → List M.aE → Option M.aM
  | 0, _, _ => none
  | nL1 + 1, v10, r50000 => if (decide (v10 < (List.length p0.Buckets : Int))) = true then ((idx p0.Buckets v10).bind fun x11 => ((qJ x11).bind fun x16 => ((app 328 r50000 ([x16])).bind fun x18 => (fV p0 nL1 (IntKind.i64.wrap (v10 + 1)) (r50000 ++ [x16]))))) else (some (⟨r50000⟩ : M.aM))
def nE (p0 : M.aM) : Option M.aM :=
  fV p0 fuel 0 ([] : List M.aE)
def oE (p0 : M.Machine) : Option M.Machine :=
  (app 40 ([] : List M.Instr) p0.Script).bind fun x1 => ((app 8 ([] : List Int) p0.Regs).bind fun x11 => (some p0))
def vO (p0 : M.bG) : Option M.bG :=
  (app 24 ([] : List M.aN) p0.aN).bind fun x1 => ((oE p0.Machine).bind fun x9 => (some (⟨p0.Id, p0.Site, p0.Top, p0.Version, p0.aN, x9⟩ : M.bG)))
def hO (p0 : List M.bG) : Nat → Int → List M.bG → Option (List M.bG)
  | 0, _, _ => none
  | nL1 + 1, v9, r6 => if (decide (v9 < (List.length p0 : Int))) = true then ((idx p0 v9).bind fun x12 => ((vO x12).bind fun x17 => ((app 144 r6 ([x17])).bind fun x19 => (hO p0 nL1 (IntKind.i64.wrap (v9 + 1)) (r6 ++ [x17]))))) else (some r6)
def sV (p0 : List M.bG) : Option (List M.bG) :=
  hO p0 fuel 0 ([] : List M.bG)
def iV (p0 : M.aF) : Option M.aF :=
  (app 32 ([] : List M.bK) p0.Locks).bind fun x1 => (some p0)
def nH (p0 : M.Channel) : Option M.Channel :=
  (app 24 ([] : List M.fD) p0.Mails).bind fun x1 => (some p0)
def wF (p0 : M.Site) : Option M.Site :=
  (app 16 ([] : List ByteArray) p0.Files).bind fun x1 => (some p0)
def pU (p0 : M.Server) : Option M.Server :=
  (kN p0.aH).bind fun x1 => ((app 16 ([] : List M.aJ) p0.aJ).bind fun x3 => ((app 72 ([] : List M.aW) p0.Changes).bind fun x5 => (some (⟨x1, p0.aJ, p0.Changes⟩ : M.Server))))
def eU (p0 : M.World) (x1 : M.aM) (x3 : (List M.bG)) (x5 : M.aF) (x7 : M.Channel) (r50000 : List M.Site) : Nat → Int → List M.Server → Option M.World
  | 0, _, _ => none
  | nL2 + 1, v45, r50100 => if (decide (v45 < (List.length p0.Servers : Int))) = true then ((idx p0.Servers v45).bind fun x64 => ((pU x64).bind fun x69 => ((app 96 r50100 ([x69])).bind fun x71 => (eU p0 x1 x3 x5 x7 r50000 nL2 (IntKind.i64.wrap (v45 + 1)) (r50100 ++ [x69]))))) else (some (⟨p0.Now, p0.Online, p0.Device, x1, x3, p0.NextPage, x5, x7, r50000, r50100⟩ : M.World))
def fX (p0 : M.World) (x1 : M.aM) (x3 : (List M.bG)) (x5 : M.aF) (x7 : M.Channel) : Nat → Int → List M.Site → Option M.World
  | 0, _, _ => none
  | nL1 + 1, v29, r50000 => if (decide (v29 < (List.length p0.Sites : Int))) = true then ((idx p0.Sites v29).bind fun x25 => ((wF x25).bind fun x30 => ((app 56 r50000 ([x30])).bind fun x32 => (fX p0 x1 x3 x5 x7 nL1 (IntKind.i64.wrap (v29 + 1)) (r50000 ++ [x30]))))) else (eU p0 x1 x3 x5 x7 r50000 fuel 0 ([] : List M.Server))
def tH (p0 : M.World) : Option M.World :=
  (nE p0.aM).bind fun x1 => ((sV p0.Pages).bind fun x3 => ((iV p0.Locks).bind fun x5 => ((nH p0.Channel).bind fun x7 => (fX p0 x1 x3 x5 x7 fuel 0 ([] : List M.Site)))))
def oD (p0 : M.bG) (c0 : Int) : Option Bool :=
  some (p0.Id == c0)
def cA (p0 : List M.bG) (p1 : M.bG → Option Bool) : Nat → Int → Option Int
  | 0, _ => none
  | nL1 + 1, v8 => if (decide (v8 < (List.length p0 : Int))) = true then ((idx p0 v8).bind fun x7 => ((p1 x7).bind fun x12 => (if x12 = true then (some v8) else (cA p0 p1 nL1 (IntKind.i64.wrap (v8 + 1)))))) else (some (-1))
def iK (p0 : List M.bG) (p1 : M.bG → Option Bool) : Option Int :=
  cA p0 p1 fuel 0
def tT (p0 : M.World) (p1 : Int) : Option Int :=
  (iK p0.Pages (fun z0 => oD z0 p1)).bind fun x1 => (some x1)
def aZ (p0 : Int) (p1 : Int) (p2 : Int) : Option Bool :=
  if (decide (p1 ≤ p0)) = true then (some (decide (p0 ≤ p2))) else (some false)
def fY (p0 : ByteArray) (p1 : Int) (p2 : Bool) : Nat → Int → Option Bool
  | 0, _ => none
  | nL1 + 1, v7 => if (decide (v7 < (p0.size : Int))) = true then ((aMH p0 v7).bind fun x7 => (if (decide ((x7.toNat : Int) ≥ 97)) = true then (if (decide ((x7.toNat : Int) ≤ 122)) = true then (fY p0 p1 p2 nL1 (IntKind.i64.wrap (v7 + 1))) else (if p2 = true then (if (!((x7.toNat : Int) == 47)) = true then (some false) else (fY p0 p1 p2 nL1 (IntKind.i64.wrap (v7 + 1)))) else (some false))) else (if p2 = true then (if (!((x7.toNat : Int) == 47)) = true then (some false) else (fY p0 p1 p2 nL1 (IntKind.i64.wrap (v7 + 1)))) else (some false)))) else ((aZ (p0.size : Int) 1 p1).bind fun x17 => (some x17))
def wR (p0 : ByteArray) (p1 : Int) (p2 : Bool) : Option Bool :=
  fY p0 p1 p2 fuel 0
def bS (p0 : ByteArray) : Option Bool :=
  (wR p0 8 false).bind fun x1 => (some x1)
def cR (p0 : M.Registration) : Nat → Int → Int → Option Bool
  | 0, _, _ => none
  | nL1 + 1, v3, v14 => if (decide (v14 < ((3 : Nat) : Int))) = true then ((idx ([p0.Active, p0.Waiting, p0.Installing]) v14).bind fun x18 => ((aZ x18 0 1000000000000).bind fun x23 => (if (!x23) = true then (some false) else (if (x18 != 0) = true then (if (decide (x18 ≤ v3)) = true then (some false) else (cR p0 nL1 (if x18 > v3 then x18 else v3) (IntKind.i64.wrap (v14 + 1)))) else (cR p0 nL1 (if x18 > v3 then x18 else v3) (IntKind.i64.wrap (v14 + 1))))))) else ((bS p0.Site).bind fun x28 => (some x28))
def mZ (p0 : M.Registration) : Option Bool :=
  cR p0 fuel 0 0
def sJ (p0 : M.Cached) (c0 : ByteArray) (c1 : ByteArray) : Option Bool :=
  if (p0.Site.toList == c0.toList) = true then (some (p0.Path.toList == c1.toList)) else (some false)
def bR (p0 : List M.Cached) (p1 : M.Cached → Option Bool) : Nat → Int → Option Int
  | 0, _ => none
  | nL1 + 1, v8 => if (decide (v8 < (List.length p0 : Int))) = true then ((idx p0 v8).bind fun x7 => ((p1 x7).bind fun x12 => (if x12 = true then (some v8) else (bR p0 p1 nL1 (IntKind.i64.wrap (v8 + 1)))))) else (some (-1))
def gX (p0 : List M.Cached) (p1 : M.Cached → Option Bool) : Option Int :=
  bR p0 p1 fuel 0
def tU (p0 : M.Cache) (p1 : ByteArray) (p2 : ByteArray) : Option Int :=
  (gX p0.Entries (fun z0 => sJ z0 p1 p2)).bind fun x1 => (some x1)
def lS (p0 : M.Response) : Option Bool :=
  (aZ p0.Type_ 1 4).bind fun x1 => (if x1 = true then ((aZ p0.Status 0 999).bind fun x4 => (if x4 = true then ((aZ p0.Version 0 1000000000000).bind fun x7 => (if x7 = true then (some (decide ((List.length p0.Body : Int) ≤ 60))) else (some false))) else (some false))) else (some false))
def eE (x8 : M.Cache) (k25 : Int → Option Bool) : Nat → Int → Option Bool
  | 0, _ => none
  | nL2 + 1, v44_L2 => if (decide (v44_L2 < (List.length x8.Entries : Int))) = true then ((idx x8.Entries v44_L2).bind fun x38 => ((bS x38.Site).bind fun x43 => (if (!x43) = true then (some false) else ((bS x38.Path).bind fun x46 => (if (!x46) = true then (some false) else ((tU x8 x38.Site x38.Path).bind fun x49 => (if (x49 != v44_L2) = true then (some false) else ((lS x38.Response).bind fun x52 => (if (!x52) = true then (some false) else (eE x8 k25 nL2 (IntKind.i64.wrap (v44_L2 + 1)))))))))))) else (k25 v44_L2)
def dZ (x8 : M.Cache) (k57 : Int → Option Bool) : Nat → Int → Option Bool
  | 0, _ => none
  | nL3 + 1, v44_L3 => if (decide (v44_L3 < (List.length x8.Entries : Int))) = true then ((idx x8.Entries v44_L3).bind fun x70 => ((bS x70.Site).bind fun x75 => (if (!x75) = true then (some false) else ((bS x70.Path).bind fun x78 => (if (!x78) = true then (some false) else ((tU x8 x70.Site x70.Path).bind fun x81 => (if (x81 != v44_L3) = true then (some false) else ((lS x70.Response).bind fun x84 => (if (!x84) = true then (some false) else (dZ x8 k57 nL3 (IntKind.i64.wrap (v44_L3 + 1)))))))))))) else (k57 v44_L3)
def eC (p0 : M.aT) : Nat → Int → Option Bool
  | 0, _ => none
  | nL1 + 1, v10 => if (decide (v10 < (List.length p0.Caches : Int))) = true then ((idx p0.Caches v10).bind fun x8 => ((aZ x8.Version 1 1000000000000).bind fun x13 => (if (!x13) = true then (some false) else (if (decide (v10 > 0)) = true then ((idx p0.Caches (IntKind.i64.wrap (v10 - 1))).bind fun x17 => (if (decide (x8.Version ≤ x17.Version)) = true then (some false) else (if (decide ((List.length x8.Entries : Int) > 12)) = true then (some false) else (eE x8 (fun (v44_L2 : Int) => eC p0 nL1 (IntKind.i64.wrap (v10 + 1))) fuel 0)))) else (if (decide ((List.length x8.Entries : Int) > 12)) = true then (some false) else (dZ x8 (fun (v44_L3 : Int) => eC p0 nL1 (IntKind.i64.wrap (v10 + 1))) fuel 0)))))) else (some (decide ((List.length p0.Caches : Int) ≤ 4)))
def qR (p0 : M.aT) : Option Bool :=
  eC p0 fuel 0
def dR (p0 : ByteArray) : Nat → Int → Option Bool
  | 0, _ => none
  | nL1 + 1, v3 => if (decide (v3 < (p0.size : Int))) = true then ((aMH p0 v3).bind fun x5 => (if (decide ((x5.toNat : Int) ≥ 97)) = true then (if (decide ((x5.toNat : Int) ≤ 122)) = true then (dR p0 nL1 (IntKind.i64.wrap (v3 + 1))) else (if (decide ((x5.toNat : Int) ≥ 48)) = true then (if (!(decide ((x5.toNat : Int) ≤ 57))) = true then (some false) else (dR p0 nL1 (IntKind.i64.wrap (v3 + 1)))) else (some false))) else (if (decide ((x5.toNat : Int) ≥ 48)) = true then (if (!(decide ((x5.toNat : Int) ≤ 57))) = true then (some false) else (dR p0 nL1 (IntKind.i64.wrap (v3 + 1)))) else (some false)))) else (some (decide ((p0.size : Int) ≤ 12)))
def sI (p0 : ByteArray) : Option Bool :=
  dR p0 fuel 0
def nZ (p0 : M.Key) : Option Bool :=
  (aZ p0.Kind 1 3).bind fun x1 => (if (!x1) = true then (some false) else ((aZ p0.N (-1000000000000) 1000000000000).bind fun x4 => (if (!x4) = true then (some false) else ((sI p0.Text).bind fun x7 => (if (!x7) = true then (some false) else (if (p0.Kind == 2) = true then (if (!(p0.N != 0)) = true then (if (p0.Kind == 1) = true then (some (!(!(p0.Text.toList == (⟨#[]⟩ : ByteArray).toList)))) else (some true)) else (some false)) else (if (p0.Kind == 1) = true then (some (!(!(p0.Text.toList == (⟨#[]⟩ : ByteArray).toList)))) else (some true))))))))
def fR (p0 : M.aU) : Nat → Int → Option Bool
  | 0, _ => none
  | nL1 + 1, v8 => if (decide (v8 < (List.length p0.Fields : Int))) = true then ((idx p0.Fields v8).bind fun x8 => ((bS x8.Name).bind fun x13 => (if (!x13) = true then (some false) else ((aZ x8.N 0 1000000000).bind fun x16 => (if (!x16) = true then (some false) else (if (decide (v8 > 0)) = true then ((idx p0.Fields (IntKind.i64.wrap (v8 - 1))).bind fun x20 => (if (Op.bytesLess x8.Name.toList x20.Name.toList || x8.Name.toList == x20.Name.toList) = true then (some false) else (fR p0 nL1 (IntKind.i64.wrap (v8 + 1))))) else (fR p0 nL1 (IntKind.i64.wrap (v8 + 1))))))))) else (some (decide ((List.length p0.Fields : Int) ≤ 6)))
def pR (p0 : M.aU) : Option Bool :=
  fR p0 fuel 0
def oC (p0 : Int) (p1 : Int) : Option Int :=
  if (decide (p0 < p1)) = true then (some (-1)) else (if (decide (p0 > p1)) = true then (some 1) else (some 0))
def iX (p0 : ByteArray) (p1 : ByteArray) : Option Int := some (Lib.compareBytes p0.data.toList p1.data.toList)
def wP (p0 : ByteArray) (p1 : ByteArray) : Option Int :=
  (iX p0 p1).bind fun x1 => (some x1)
def jY (p0 : M.Key) (p1 : M.Key) : Option Int :=
  (nZ p0).bind fun x1 => (if (!x1) = true then (some 0) else ((nZ p1).bind fun x4 => (if (!x4) = true then (some 0) else ((oC p0.Kind p1.Kind).bind fun x7 => (if (x7 != 0) = true then (some x7) else ((oC p0.N p1.N).bind fun x10 => (if (x10 != 0) = true then (some x10) else ((wP p0.Text p1.Text).bind fun x13 => (some x13)))))))))
def gD (p0 : M.aH) : Nat → Int → Option Bool
  | 0, _ => none
  | nL1 + 1, v8 => if (decide (v8 < (List.length p0.Items : Int))) = true then ((idx p0.Items v8).bind fun x8 => ((nZ x8.Key).bind fun x13 => (if (!x13) = true then (some false) else ((pR x8.aU).bind fun x16 => (if (!x16) = true then (some false) else (if (decide (v8 > 0)) = true then ((idx p0.Items (IntKind.i64.wrap (v8 - 1))).bind fun x20 => ((jY x20.Key x8.Key).bind fun x25 => (if (decide (x25 ≥ 0)) = true then (some false) else (gD p0 nL1 (IntKind.i64.wrap (v8 + 1)))))) else (gD p0 nL1 (IntKind.i64.wrap (v8 + 1))))))))) else ((bS p0.Name).bind fun x28 => (if x28 = true then (if (decide ((List.length p0.Items : Int) ≤ 16)) = true then ((aZ p0.Auto 0 1000000).bind fun x32 => (some x32)) else (some false)) else (some false)))
def oM (p0 : M.aH) : Option Bool :=
  gD p0 fuel 0
def nS (p0 : M.aH) (c0 : ByteArray) : Option Bool :=
  some (p0.Name.toList == c0.toList)
def bW (p0 : List M.aH) (p1 : M.aH → Option Bool) : Nat → Int → Option Int
  | 0, _ => none
  | nL1 + 1, v8 => if (decide (v8 < (List.length p0 : Int))) = true then ((idx p0 v8).bind fun x7 => ((p1 x7).bind fun x12 => (if x12 = true then (some v8) else (bW p0 p1 nL1 (IntKind.i64.wrap (v8 + 1)))))) else (some (-1))
def hT (p0 : List M.aH) (p1 : M.aH → Option Bool) : Option Int :=
  bW p0 p1 fuel 0
def sM (p0 : M.Database) (p1 : ByteArray) : Option Int :=
  (hT p0.Stores (fun z0 => nS z0 p1)).bind fun x1 => (some x1)
def dC (p0 : List M.aA) (p1 : M.aA) : Nat → Int → Option Int
  | 0, _ => none
  | nL1 + 1, v8 => if (decide (v8 < (List.length p0 : Int))) = true then ((idx p0 v8).bind fun x8 => (if ((p1.aH.toList == x8.aH.toList) && (p1.Field.toList == x8.Field.toList)) = true then (some v8) else (dC p0 p1 nL1 (IntKind.i64.wrap (v8 + 1))))) else (some (-1))
def iI (p0 : List M.aA) (p1 : M.aA) : Option Int :=
  dC p0 p1 fuel 0
def gN (p0 : List M.aA) (p1 : M.aA) : Option Bool :=
  (iI p0 p1).bind fun x1 => (some (decide (x1 ≥ 0)))
def sL (p0 : M.Field) (c0 : ByteArray) : Option Bool :=
  some (p0.Name.toList == c0.toList)
def bV (p0 : List M.Field) (p1 : M.Field → Option Bool) : Nat → Int → Option Int
  | 0, _ => none
  | nL1 + 1, v8 => if (decide (v8 < (List.length p0 : Int))) = true then ((idx p0 v8).bind fun x7 => ((p1 x7).bind fun x12 => (if x12 = true then (some v8) else (bV p0 p1 nL1 (IntKind.i64.wrap (v8 + 1)))))) else (some (-1))
def iA (p0 : List M.Field) (p1 : M.Field → Option Bool) : Option Int :=
  bV p0 p1 fuel 0
def aAw (p0 : M.aU) (p1 : ByteArray) : Option Int :=
  (iA p0.Fields (fun z0 => sL z0 p1)).bind fun x1 => (some x1)
def iF (p0 : M.aU) (p1 : ByteArray) : Option (Int × Bool) :=
  (aAw p0 p1).bind fun x1 => (if (decide (x1 < 0)) = true then (some (0, false)) else ((idx p0.Fields x1).bind fun x4 => (some (x4.N, true))))
def nF (p0 : M.Item) (p1 : M.Item) (p2 : ByteArray) : Option Bool :=
  (iF p0.aU p2).bind fun x1 => ((iF p1.aU p2).bind fun x3 => (if (decide (x1.1 < x3.1)) = true then (some true) else (if (x1.1 == x3.1) = true then ((jY p0.Key p1.Key).bind fun x7 => (some (decide (x7 < 0)))) else (some false))))
def gJ (p1 : ByteArray) (r11 : List M.Item) (x15 : M.Item) (k24 : Int → Option (List M.Item)) : Nat → Int → Option (List M.Item)
  | 0, _ => none
  | nL2 + 1, v10_L2 => if (decide (v10_L2 > 0)) = true then ((idx r11 (IntKind.i64.wrap (v10_L2 - 1))).bind fun x36 => ((nF x15 x36 p1).bind fun x41 => (if x41 = true then (gJ p1 r11 x15 k24 nL2 (IntKind.i64.wrap (v10_L2 - 1))) else (k24 v10_L2)))) else (k24 v10_L2)
def gG (p0 : M.aH) (p1 : ByteArray) : Nat → Int → List M.Item → Option (List M.Item)
  | 0, _, _ => none
  | nL1 + 1, v15, r11 => if (decide (v15 < (List.length p0.Items : Int))) = true then ((idx p0.Items v15).bind fun x15 => ((iF x15.aU p1).bind fun x20 => (if (!x20.2) = true then (gG p0 p1 nL1 (IntKind.i64.wrap (v15 + 1)) r11) else (gJ p1 r11 x15 (fun (v10_L2 : Int) => (pB x15).bind fun x55 => ((aLN 56 r11 v10_L2 ([x55])).bind fun x57 => (gG p0 p1 nL1 (IntKind.i64.wrap (v15 + 1)) (List.take v10_L2.toNat r11 ++ ([x55] ++ List.drop v10_L2.toNat r11))))) fuel (List.length r11 : Int))))) else (some r11)
def yI (p0 : M.aH) (p1 : ByteArray) : Option (List M.Item) :=
  gG p0 p1 fuel 0 ([] : List M.Item)
def eR (p1 : ByteArray) (x1 : (List M.Item)) : Nat → Int → Option (M.Key × M.Key × Bool)
  | 0, _ => none
  | nL1 + 1, v8 => if (decide (v8 < (List.length x1 : Int))) = true then ((idx x1 (IntKind.i64.wrap (v8 - 1))).bind fun x13 => ((iF x13.aU p1).bind fun x18 => ((idx x1 v8).bind fun x20 => ((iF x20.aU p1).bind fun x25 => (if (x18.1 == x25.1) = true then (some (x13.Key, x20.Key, true)) else (eR p1 x1 nL1 (IntKind.i64.wrap (v8 + 1)))))))) else (some ((⟨0, 0, (⟨#[]⟩ : ByteArray)⟩ : M.Key), (⟨0, 0, (⟨#[]⟩ : ByteArray)⟩ : M.Key), false))
def gS (p0 : M.aH) (p1 : ByteArray) : Option (M.Key × M.Key × Bool) :=
  (yI p0 p1).bind fun x1 => (eR p1 x1 fuel 1)
def dA (p0 : M.Database) : Nat → Int → Option Bool
  | 0, _ => none
  | nL2 + 1, v64 => if (decide (v64 < (List.length p0.Unique : Int))) = true then ((idx p0.Unique v64).bind fun x38 => ((sM p0 x38.aH).bind fun x43 => (if (decide (x43 < 0)) = true then (some false) else ((bS x38.Field).bind fun x46 => (if (!x46) = true then (some false) else ((aG7 p0.Unique v64).bind fun x49 => ((gN (List.take v64.toNat p0.Unique) x38).bind fun x51 => (if x51 = true then (some false) else ((idx p0.Stores x43).bind fun x54 => ((gS x54 x38.Field).bind fun x59 => (if x59.2.2 = true then (some false) else (dA p0 nL2 (IntKind.i64.wrap (v64 + 1)))))))))))))) else (some true)
def cW (p0 : M.Database) : Nat → Int → Option Bool
  | 0, _ => none
  | nL1 + 1, v36 => if (decide (v36 < (List.length p0.Stores : Int))) = true then ((idx p0.Stores v36).bind fun x16 => ((oM x16).bind fun x21 => (if (!x21) = true then (some false) else (if (decide (v36 > 0)) = true then ((idx p0.Stores (IntKind.i64.wrap (v36 - 1))).bind fun x25 => (if (Op.bytesLess x16.Name.toList x25.Name.toList || x16.Name.toList == x25.Name.toList) = true then (some false) else (cW p0 nL1 (IntKind.i64.wrap (v36 + 1))))) else (cW p0 nL1 (IntKind.i64.wrap (v36 + 1))))))) else (dA p0 fuel 0)
def qH (p0 : M.Database) : Option Bool :=
  (bS p0.Name).bind fun x1 => (if (!x1) = true then (some false) else ((aZ p0.Version 0 1000).bind fun x4 => (if (!x4) = true then (some false) else (if (decide ((List.length p0.Stores : Int) > 4)) = true then (some false) else (if (decide ((List.length p0.Unique : Int) > 4)) = true then (some false) else (cW p0 fuel 0))))))
def iR (p0 : M.aW) : Option Bool :=
  (aZ p0.Device 1 1000000).bind fun x1 => (if x1 = true then ((aZ p0.Seq 1 1000000).bind fun x4 => (if x4 = true then ((nZ p0.Key).bind fun x7 => (if x7 = true then ((bS p0.Field).bind fun x10 => (if x10 = true then ((aZ p0.N 0 1000000000).bind fun x13 => (some x13)) else (some false))) else (some false))) else (some false))) else (some false))
def iN (p0 : M.aV) : Nat → Int → Option Bool
  | 0, _ => none
  | nL1 + 1, v12 => if (decide (v12 < (List.length p0.Writes : Int))) = true then ((idx p0.Writes v12).bind fun x9 => ((iR x9).bind fun x14 => (if (!x14) = true then (some false) else (if (x9.Device != p0.Device) = true then (some false) else (if (x9.Seq != (IntKind.i64.wrap ((IntKind.i64.wrap (p0.Next - (List.length p0.Writes : Int))) + v12))) = true then (some false) else (iN p0 nL1 (IntKind.i64.wrap (v12 + 1)))))))) else ((aZ p0.Device 1 1000000).bind fun x19 => (if x19 = true then ((aZ p0.Next 1 1000000).bind fun x22 => (if x22 = true then (some (decide ((List.length p0.Writes : Int) ≤ 20))) else (some false))) else (some false)))
def vK (p0 : M.aV) : Option Bool :=
  iN p0 fuel 0
def sO (p0 : M.aC) : Option Bool :=
  (oM p0.Base).bind fun x1 => (if x1 = true then (if (p0.Base.Name.toList == (⟨#[110, 111, 116, 101, 115]⟩ : ByteArray).toList) = true then ((aZ p0.Seen 0 1000000000000).bind fun x5 => (if x5 = true then ((vK p0.Sync.aV).bind fun x8 => (some x8)) else (some false))) else (some false)) else (some false))
def pJ (p0 : M.Response) (p1 : Bool) : Option Int :=
  if p1 = true then (some 76) else (some (IntKind.i64.wrap (16 + (List.length p0.Body : Int))))
def gP (x7 : M.Cache) (k13 : Int → Int → Option Int) : Nat → Int → Int → Option Int
  | 0, _, _ => none
  | nL2 + 1, v3_L2, v18_L2 => if (decide (v18_L2 < (List.length x7.Entries : Int))) = true then ((idx x7.Entries v18_L2).bind fun x23 => ((pJ x23.Response (x23.Response.Type_ == 3)).bind fun x28 => (gP x7 k13 nL2 (IntKind.i64.wrap (v3_L2 + x28)) (IntKind.i64.wrap (v18_L2 + 1))))) else (k13 v3_L2 v18_L2)
def dX (p0 : M.aT) : Nat → Int → Int → Option Int
  | 0, _, _ => none
  | nL1 + 1, v3, v11 => if (decide (v11 < (List.length p0.Caches : Int))) = true then ((idx p0.Caches v11).bind fun x7 => (gP x7 (fun (v3_L2 : Int) (v18_L2 : Int) => dX p0 nL1 v3_L2 (IntKind.i64.wrap (v11 + 1))) fuel v3 0)) else (some v3)
def pO (p0 : M.aT) : Option Int :=
  dX p0 fuel 0 0
def dN (p0 : M.Key) : Nat → Int → List Int → Option (List Int)
  | 0, _, _ => none
  | nL1 + 1, v4, r12 => if (decide (v4 ≥ 0)) = true then (if (decide (0 ≤ (IntKind.i64.wrap (8 * v4)))) = true then ((app 1 r12 ([(IntKind.u8.wrap (Int.fdiv (IntKind.i64.wrap (p0.N + 1000000000000)) (2 ^ (min (IntKind.i64.wrap (8 * v4)).toNat IntKind.i64.bits))))])).bind fun x18 => (dN p0 nL1 (IntKind.i64.wrap (v4 - 1)) (r12 ++ [(IntKind.u8.wrap (Int.fdiv (IntKind.i64.wrap (p0.N + 1000000000000)) (2 ^ (min (IntKind.i64.wrap (8 * v4)).toNat IntKind.i64.bits))))]))) else none) else ((app 1 r12 (kY p0.Text)).bind fun x26 => (some (r12 ++ kY p0.Text)))
def sX (p0 : M.Key) : Option (List Int) :=
  (nZ p0).bind fun x1 => (if (!x1) = true then (some ([] : List Int)) else (if (p0.Kind != 2) = true then (dN p0 fuel 5 ([(IntKind.u8.wrap p0.Kind)])) else ((app 1 ([(IntKind.u8.wrap p0.Kind)]) (kY p0.Text)).bind fun x28 => (some ([(IntKind.u8.wrap p0.Kind)] ++ kY p0.Text)))))
def eY  : Nat → Int → List Int → Option (List Int)
  | 0, _, _ => none
  | nL1 + 1, v1, r7 => if (decide (v1 ≥ 128)) = true then ((app 1 r7 ([(IntKind.u8.wrap (IntKind.i64.wrap ((Int.tmod v1 128) + 128)))])).bind fun x11 => (eY nL1 (IntKind.i64.wrap (Int.tdiv v1 128)) (r7 ++ [(IntKind.u8.wrap (IntKind.i64.wrap ((Int.tmod v1 128) + 128)))]))) else ((app 1 r7 ([(IntKind.u8.wrap v1)])).bind fun x17 => (some (r7 ++ [(IntKind.u8.wrap v1)])))
def gQ (p0 : List Int) (p1 : Int) : Option (List Int) :=
  (iT p0).bind fun x1 => ((aZ p1 0 1000000000000).bind fun x3 => (if (!x3) = true then (some x1) else (eY fuel p1 x1)))
def oG (p0 : List Int) (p1 : List Int) : Option (List Int) :=
  (gQ p0 (List.length p1 : Int)).bind fun x1 => ((app 1 x1 p1).bind fun x3 => (some (x1 ++ p1)))
def fI (p0 : M.aU) : Nat → Int → List Int → Option (List Int)
  | 0, _, _ => none
  | nL1 + 1, v17, r50000 => if (decide (v17 < (List.length p0.Fields : Int))) = true then ((idx p0.Fields v17).bind fun x13 => ((oG r50000 (kY x13.Name)).bind fun x18 => ((gQ x18 x13.N).bind fun x20 => (fI p0 nL1 (IntKind.i64.wrap (v17 + 1)) x20)))) else (some r50000)
def lX (p0 : M.aU) : Option (List Int) :=
  (pR p0).bind fun x1 => (if (!x1) = true then (some ([] : List Int)) else ((gQ ([] : List Int) (List.length p0.Fields : Int)).bind fun x4 => (fI p0 fuel 0 x4)))
def hM (p0 : M.aH) : Nat → Int → Int → Option Int
  | 0, _, _ => none
  | nL1 + 1, v3, v9 => if (decide (v9 < (List.length p0.Items : Int))) = true then ((idx p0.Items v9).bind fun x7 => ((sX x7.Key).bind fun x12 => ((lX x7.aU).bind fun x14 => (hM p0 nL1 (IntKind.i64.wrap (v3 + (IntKind.i64.wrap ((List.length x12 : Int) + (List.length x14 : Int))))) (IntKind.i64.wrap (v9 + 1)))))) else (some v3)
def mP (p0 : M.aH) : Option Int :=
  hM p0 fuel 0 0
def fL (p0 : M.Database) : Nat → Int → Int → Option Int
  | 0, _, _ => none
  | nL1 + 1, v3, v9 => if (decide (v9 < (List.length p0.Stores : Int))) = true then ((idx p0.Stores v9).bind fun x7 => ((mP x7).bind fun x12 => (fL p0 nL1 (IntKind.i64.wrap (v3 + x12)) (IntKind.i64.wrap (v9 + 1))))) else (some v3)
def lY (p0 : M.Database) : Option Int :=
  fL p0 fuel 0 0
def aAq (p0 : M.bE) : Option Int :=
  (lY p0.Base).bind fun x1 => (some (IntKind.i64.wrap (x1 + (List.length p0.Log : Int))))
def xY (p0 : M.aE) : Option Int :=
  (pO p0.Caches).bind fun x1 => ((aAq p0.bE).bind fun x3 => ((mP p0.aC.Base).bind fun x5 => (some (IntKind.i64.wrap ((IntKind.i64.wrap ((IntKind.i64.wrap (x1 + x3)) + x5)) + (IntKind.i64.wrap (40 * (List.length p0.aC.Sync.aV.Writes : Int))))))))
def pD (p0 : M.aE) : Option Bool :=
  (bS p0.Site).bind fun x1 => (if x1 = true then ((bS p0.Top).bind fun x4 => (if x4 = true then ((mZ p0.Registration).bind fun x7 => (if x7 = true then (if (p0.Registration.Site.toList == p0.Site.toList) = true then ((qR p0.Caches).bind fun x11 => (if x11 = true then ((qH p0.bE.Base).bind fun x14 => (if x14 = true then ((sO p0.aC).bind fun x17 => (if x17 = true then ((aZ p0.LastUsed 0 1000000000000).bind fun x20 => (if x20 = true then ((xY p0).bind fun x23 => (some (decide (x23 ≤ 2500)))) else (some false))) else (some false))) else (some false))) else (some false))) else (some false)) else (some false))) else (some false))) else (some false))
def mB (p0 : M.aE) (p1 : M.aE) : Option Bool :=
  if (Op.bytesLess p0.Site.toList p1.Site.toList) = true then (some true) else (if (p0.Site.toList == p1.Site.toList) = true then (some (Op.bytesLess p0.Top.toList p1.Top.toList)) else (some false))
def fA (p0 : M.aM) : Nat → Int → Option Bool
  | 0, _ => none
  | nL1 + 1, v8 => if (decide (v8 < (List.length p0.Buckets : Int))) = true then ((idx p0.Buckets v8).bind fun x8 => ((pD x8).bind fun x13 => (if (!x13) = true then (some false) else (if (decide (v8 > 0)) = true then ((idx p0.Buckets (IntKind.i64.wrap (v8 - 1))).bind fun x17 => ((mB x17 x8).bind fun x22 => (if (!x22) = true then (some false) else (fA p0 nL1 (IntKind.i64.wrap (v8 + 1)))))) else (fA p0 nL1 (IntKind.i64.wrap (v8 + 1))))))) else (some (decide ((List.length p0.Buckets : Int) ≤ 9)))
def mR (p0 : M.aM) : Option Bool :=
  fA p0 fuel 0
def pS (p0 : ByteArray) : Option Bool :=
  (wR p0 30 true).bind fun x1 => (some x1)
def bM (p0 : M.aF) (v10 : Int) (x8 : M.bK) (k22 : Int → Option Bool) : Nat → Int → Option Bool
  | 0, _ => none
  | nL2 + 1, v30_L2 => if (decide (v30_L2 < (List.length (List.take v10.toNat p0.Locks) : Int))) = true then ((idx (List.take v10.toNat p0.Locks) v30_L2).bind fun x35 => (if (x35.Name.toList == x8.Name.toList) = true then (if x8.Held = true then (if (!x35.Held) = true then (some false) else (if (!x8.Shared) = true then (some false) else (if (!x35.Shared) = true then (some false) else (bM p0 v10 x8 k22 nL2 (IntKind.i64.wrap (v30_L2 + 1)))))) else (bM p0 v10 x8 k22 nL2 (IntKind.i64.wrap (v30_L2 + 1)))) else (bM p0 v10 x8 k22 nL2 (IntKind.i64.wrap (v30_L2 + 1))))) else (k22 v30_L2)
def dH (p0 : M.aF) : Nat → Int → Option Bool
  | 0, _ => none
  | nL1 + 1, v10 => if (decide (v10 < (List.length p0.Locks : Int))) = true then ((idx p0.Locks v10).bind fun x8 => ((pS x8.Name).bind fun x13 => (if (!x13) = true then (some false) else ((aZ x8.bG 1 1000000000000).bind fun x16 => (if (!x16) = true then (some false) else ((aG7 p0.Locks v10).bind fun x19 => (bM p0 v10 x8 (fun (v30_L2 : Int) => dH p0 nL1 (IntKind.i64.wrap (v10 + 1))) fuel 0))))))) else (some (decide ((List.length p0.Locks : Int) ≤ 12)))
def iM (p0 : M.aF) : Option Bool :=
  dH p0 fuel 0
def kR (p0 : M.bG) : Nat → Int → Option Bool
  | 0, _ => none
  | nL1 + 1, v8 => if (decide (v8 < (List.length p0.aN : Int))) = true then ((idx p0.aN v8).bind fun x8 => ((bS x8.Path).bind fun x13 => (if (!x13) = true then (some false) else (if (x8.Version != p0.Version) = true then (some false) else (kR p0 nL1 (IntKind.i64.wrap (v8 + 1))))))) else ((aZ p0.Id 1 1000000000000).bind fun x17 => (if x17 = true then ((bS p0.Site).bind fun x20 => (if x20 = true then ((bS p0.Top).bind fun x23 => (if x23 = true then ((aZ p0.Version 1 1000000000000).bind fun x26 => (if x26 = true then (some (decide ((List.length p0.aN : Int) ≤ 8))) else (some false))) else (some false))) else (some false))) else (some false)))
def aAn (p0 : M.bG) : Option Bool :=
  kR p0 fuel 0
def mE (p0 : M.aE) (c0 : ByteArray) (c1 : ByteArray) : Option Bool :=
  if (p0.Site.toList == c0.toList) = true then (some (p0.Top.toList == c1.toList)) else (some false)
def bQ (p0 : List M.aE) (p1 : M.aE → Option Bool) : Nat → Int → Option Int
  | 0, _ => none
  | nL1 + 1, v8 => if (decide (v8 < (List.length p0 : Int))) = true then ((idx p0 v8).bind fun x7 => ((p1 x7).bind fun x12 => (if x12 = true then (some v8) else (bQ p0 p1 nL1 (IntKind.i64.wrap (v8 + 1)))))) else (some (-1))
def gW (p0 : List M.aE) (p1 : M.aE → Option Bool) : Option Int :=
  bQ p0 p1 fuel 0
def lM (p0 : M.aM) (p1 : ByteArray) (p2 : ByteArray) : Option Int :=
  (gW p0.Buckets (fun z0 => mE z0 p1 p2)).bind fun x1 => (some x1)
def gZ (p0 : M.Site) : Nat → Int → Option Bool
  | 0, _ => none
  | nL1 + 1, v8 => if (decide (v8 < (List.length p0.Files : Int))) = true then ((idx p0.Files v8).bind fun x8 => ((bS x8).bind fun x13 => (if (!x13) = true then (some false) else (if (decide (v8 > 0)) = true then ((idx p0.Files (IntKind.i64.wrap (v8 - 1))).bind fun x17 => (if (Op.bytesLess x8.toList x17.toList || x8.toList == x17.toList) = true then (some false) else (gZ p0 nL1 (IntKind.i64.wrap (v8 + 1))))) else (gZ p0 nL1 (IntKind.i64.wrap (v8 + 1))))))) else ((bS p0.Name).bind fun x23 => (if x23 = true then ((aZ p0.Version 1 1000000000000).bind fun x26 => (if x26 = true then ((aZ (List.length p0.Files : Int) 1 6).bind fun x29 => (some x29)) else (some false))) else (some false)))
def aAr (p0 : M.Site) : Option Bool :=
  gZ p0 fuel 0
def eN (p0 : List ByteArray) (p1 : ByteArray) : Nat → Int → Option Int
  | 0, _ => none
  | nL1 + 1, v8 => if (decide (v8 < (List.length p0 : Int))) = true then ((idx p0 v8).bind fun x7 => (if (p1.toList == x7.toList) = true then (some v8) else (eN p0 p1 nL1 (IntKind.i64.wrap (v8 + 1))))) else (some (-1))
def nU (p0 : List ByteArray) (p1 : ByteArray) : Option Int :=
  eN p0 p1 fuel 0
def qQ (p0 : ByteArray) : Option Int :=
  (nU ([(⟨#[98, 97, 110, 107]⟩ : ByteArray), (⟨#[110, 101, 119, 115]⟩ : ByteArray), (⟨#[115, 104, 111, 112]⟩ : ByteArray)]) p0).bind fun x1 => (some x1)
def gU (p0 : M.Server) : Nat → Int → Option Bool
  | 0, _ => none
  | nL2 + 1, v45 => if (decide (v45 < (List.length p0.Changes : Int))) = true then ((idx p0.Changes v45).bind fun x33 => ((iR x33).bind fun x38 => (if (!x38) = true then (some false) else (gU p0 nL2 (IntKind.i64.wrap (v45 + 1)))))) else ((oM p0.aH).bind fun x41 => (if x41 = true then (if (p0.aH.Name.toList == (⟨#[110, 111, 116, 101, 115]⟩ : ByteArray).toList) = true then (some (decide ((List.length p0.aJ : Int) ≤ 60))) else (some false)) else (some false)))
def fP (p0 : M.Server) : Nat → Int → Option Bool
  | 0, _ => none
  | nL1 + 1, v10 => if (decide (v10 < (List.length p0.aJ : Int))) = true then ((idx p0.aJ v10).bind fun x8 => ((aZ x8.Device 1 1000000).bind fun x13 => (if (!x13) = true then (some false) else ((aZ x8.Seq 0 1000000).bind fun x16 => (if (!x16) = true then (some false) else (if (decide (v10 > 0)) = true then ((idx p0.aJ (IntKind.i64.wrap (v10 - 1))).bind fun x20 => (if (decide (x8.Device ≤ x20.Device)) = true then (some false) else (fP p0 nL1 (IntKind.i64.wrap (v10 + 1))))) else (fP p0 nL1 (IntKind.i64.wrap (v10 + 1))))))))) else (gU p0 fuel 0)
def vW (p0 : M.Server) : Option Bool :=
  fP p0 fuel 0
def gF (p0 : M.World) : Nat → Int → Option Bool
  | 0, _ => none
  | nL2 + 1, v101 => if (decide (v101 < (List.length p0.Sites : Int))) = true then ((idx p0.Sites v101).bind fun x55 => ((aAr x55).bind fun x60 => (if (!x60) = true then (some false) else ((qQ x55.Name).bind fun x63 => (if (x63 != v101) = true then (some false) else ((idx p0.Servers v101).bind fun x66 => ((vW x66).bind fun x71 => (if (!x71) = true then (some false) else (gF p0 nL2 (IntKind.i64.wrap (v101 + 1))))))))))) else (some true)
def eM (p0 : M.World) : Nat → Int → Option Bool
  | 0, _ => none
  | nL1 + 1, v56 => if (decide (v56 < (List.length p0.Pages : Int))) = true then ((idx p0.Pages v56).bind fun x26 => ((aAn x26).bind fun x31 => (if (!x31) = true then (some false) else (if (decide (x26.Id ≥ p0.NextPage)) = true then (some false) else (if (decide (v56 > 0)) = true then ((idx p0.Pages (IntKind.i64.wrap (v56 - 1))).bind fun x36 => (if (decide (x26.Id ≤ x36.Id)) = true then (some false) else ((lM p0.aM x26.Site x26.Top).bind fun x42 => (if (decide (x42 < 0)) = true then (some false) else (eM p0 nL1 (IntKind.i64.wrap (v56 + 1))))))) else ((lM p0.aM x26.Site x26.Top).bind fun x45 => (if (decide (x45 < 0)) = true then (some false) else (eM p0 nL1 (IntKind.i64.wrap (v56 + 1)))))))))) else (gF p0 fuel 0)
def yP (p0 : M.World) : Option Bool :=
  (aZ p0.Now 0 999999990000).bind fun x1 => (if (!x1) = true then (some false) else ((aZ p0.Device 1 1000000).bind fun x4 => (if (!x4) = true then (some false) else ((mR p0.aM).bind fun x7 => (if (!x7) = true then (some false) else (if (decide ((List.length p0.Pages : Int) > 6)) = true then (some false) else ((aZ p0.NextPage 1 1000000000000).bind fun x11 => (if (!x11) = true then (some false) else ((iM p0.Locks).bind fun x14 => (if (!x14) = true then (some false) else (if ((List.length p0.Sites : Int) != 3) = true then (some false) else (if ((List.length p0.Servers : Int) != 3) = true then (some false) else (eM p0 fuel 0)))))))))))))
def gH (p0 : M.aF) (p1 : Int) : Nat → Int → Option Bool
  | 0, _ => none
  | nL1 + 1, v12 => if (decide (v12 < (List.length (List.take p1.toNat p0.Locks) : Int))) = true then ((idx (List.take p1.toNat p0.Locks) v12).bind fun x11 => ((idx p0.Locks p1).bind fun x16 => (if (x11.Name.toList == x16.Name.toList) = true then (if (!x11.Held) = true then (some false) else (if (!x11.Shared) = true then (some false) else (if (!x16.Shared) = true then (some false) else (gH p0 p1 nL1 (IntKind.i64.wrap (v12 + 1)))))) else (gH p0 p1 nL1 (IntKind.i64.wrap (v12 + 1)))))) else (some true)
def yZ (p0 : M.aF) (p1 : Int) : Option Bool :=
  (aG7 p0.Locks p1).bind fun x1 => (gH p0 p1 fuel 0)
def oJ (p0 : M.aF) (p1 : ByteArray) (p2 : Int) (p3 : Bool) : Option (M.aF × Bool) :=
  (iV p0).bind fun x1 => ((app 32 x1.Locks ([(⟨p1, p2, p3, false⟩ : M.bK)])).bind fun x3 => ((yZ (⟨(x1.Locks ++ [(⟨p1, p2, p3, false⟩ : M.bK)])⟩ : M.aF) (IntKind.i64.wrap ((List.length (x1.Locks ++ [(⟨p1, p2, p3, false⟩ : M.bK)]) : Int) - 1))).bind fun x13 => ((idx (x1.Locks ++ [(⟨p1, p2, p3, false⟩ : M.bK)]) (IntKind.i64.wrap ((List.length (x1.Locks ++ [(⟨p1, p2, p3, false⟩ : M.bK)]) : Int) - 1))).bind fun x15 => ((iM p0).bind fun x28 => (if (!x28) = true then ((iV p0).bind fun x31 => (some (x31, false))) else ((iM (⟨(List.set (x1.Locks ++ [(⟨p1, p2, p3, false⟩ : M.bK)]) (IntKind.i64.wrap ((List.length (x1.Locks ++ [(⟨p1, p2, p3, false⟩ : M.bK)]) : Int) - 1)).toNat (⟨x15.Name, x15.bG, x15.Shared, x13⟩ : M.bK))⟩ : M.aF)).bind fun x33 => (if (!x33) = true then ((iV p0).bind fun x36 => (some (x36, false))) else (some ((⟨(List.set (x1.Locks ++ [(⟨p1, p2, p3, false⟩ : M.bK)]) (IntKind.i64.wrap ((List.length (x1.Locks ++ [(⟨p1, p2, p3, false⟩ : M.bK)]) : Int) - 1)).toNat (⟨x15.Name, x15.bG, x15.Shared, x13⟩ : M.bK))⟩ : M.aF), true)))))))))
def nQ (p0 : M.bK) (c0 : ByteArray) (c1 : Int) : Option Bool :=
  if p0.Held = true then (if (p0.Name.toList == c0.toList) = true then (some (p0.bG == c1)) else (some false)) else (some false)
def bZ (p0 : List M.bK) (p1 : M.bK → Option Bool) : Nat → Int → Option Int
  | 0, _ => none
  | nL1 + 1, v8 => if (decide (v8 < (List.length p0 : Int))) = true then ((idx p0 v8).bind fun x7 => ((p1 x7).bind fun x12 => (if x12 = true then (some v8) else (bZ p0 p1 nL1 (IntKind.i64.wrap (v8 + 1)))))) else (some (-1))
def iL (p0 : List M.bK) (p1 : M.bK → Option Bool) : Option Int :=
  bZ p0 p1 fuel 0
def gM (p0 : List M.bK) (p1 : M.bK → Option Bool) : Option Bool :=
  (iL p0 p1).bind fun x1 => (some (decide (x1 ≥ 0)))
def tE (p0 : M.aF) (p1 : ByteArray) (p2 : Int) : Option Bool :=
  (gM p0.Locks (fun z0 => nQ z0 p1 p2)).bind fun x1 => (some x1)
def pY (p0 : M.World) (p1 : Int) (p2 : ByteArray) (p3 : Bool) : Option (M.World × Bool) :=
  (tH p0).bind fun x1 => ((tT p0 p1).bind fun x3 => ((yP p0).bind fun x5 => (if (!x5) = true then (some (x1, false)) else (if (decide (x3 < 0)) = true then (some (x1, false)) else ((idx p0.Pages x3).bind fun x9 => ((cat x9.Site (⟨#[47]⟩ : ByteArray)).bind fun x14 => ((cat (x9.Site ++ (⟨#[47]⟩ : ByteArray)) x9.Top).bind fun x16 => ((cat ((x9.Site ++ (⟨#[47]⟩ : ByteArray)) ++ x9.Top) (⟨#[47]⟩ : ByteArray)).bind fun x18 => ((cat (((x9.Site ++ (⟨#[47]⟩ : ByteArray)) ++ x9.Top) ++ (⟨#[47]⟩ : ByteArray)) p2).bind fun x20 => ((oJ p0.Locks ((((x9.Site ++ (⟨#[47]⟩ : ByteArray)) ++ x9.Top) ++ (⟨#[47]⟩ : ByteArray)) ++ p2) p1 p3).bind fun x22 => (if (!x22.2) = true then (some (x1, false)) else ((tE x22.1 ((((x9.Site ++ (⟨#[47]⟩ : ByteArray)) ++ x9.Top) ++ (⟨#[47]⟩ : ByteArray)) ++ p2) p1).bind fun x25 => (some ((⟨x1.Now, x1.Online, x1.Device, x1.aM, x1.Pages, x1.NextPage, x22.1, x1.Channel, x1.Sites, x1.Servers⟩ : M.World), x25))))))))))))))
def jS (p0 : M.Registration) (p1 : M.Registration) : Option Bool :=
  if (!(p0.Site.toList == p1.Site.toList)) = true then (some false) else (if (p0.Installing != p1.Installing) = true then (some false) else (if (p0.Waiting != p1.Waiting) = true then (some false) else (if (p0.Active != p1.Active) = true then (some false) else (some true))))
def lF (p0 : List Int) (p1 : List Int) : Nat → Int → Option Bool
  | 0, _ => none
  | nL1 + 1, v5 => if (decide (v5 < (List.length p0 : Int))) = true then ((idx p0 v5).bind fun x7 => ((idx p1 v5).bind fun x12 => (if (x7 != x12) = true then (some false) else (lF p0 p1 nL1 (IntKind.i64.wrap (v5 + 1)))))) else (some true)
def tW (p0 : List Int) (p1 : List Int) : Option Bool :=
  if ((List.length p0 : Int) != (List.length p1 : Int)) = true then (some false) else (lF p0 p1 fuel 0)
def qW (p0 : M.Response) (p1 : M.Response) : Option Bool :=
  if (p0.Type_ != p1.Type_) = true then (some false) else (if (p0.Status != p1.Status) = true then (some false) else (if (p0.Version != p1.Version) = true then (some false) else ((tW p0.Body p1.Body).bind fun x4 => (if (!x4) = true then (some false) else (if (!(p0.Shares == p1.Shares)) = true then (some false) else (some true))))))
def uS (p0 : M.Cached) (p1 : M.Cached) : Option Bool :=
  if (!(p0.Site.toList == p1.Site.toList)) = true then (some false) else (if (!(p0.Path.toList == p1.Path.toList)) = true then (some false) else ((qW p0.Response p1.Response).bind fun x3 => (if (!x3) = true then (some false) else (some true))))
def jL (p0 : List M.Cached) (p1 : List M.Cached) : Nat → Int → Option Bool
  | 0, _ => none
  | nL1 + 1, v5 => if (decide (v5 < (List.length p0 : Int))) = true then ((idx p0 v5).bind fun x7 => ((idx p1 v5).bind fun x12 => ((uS x7 x12).bind fun x17 => (if (!x17) = true then (some false) else (jL p0 p1 nL1 (IntKind.i64.wrap (v5 + 1))))))) else (some true)
def sK (p0 : List M.Cached) (p1 : List M.Cached) : Option Bool :=
  if ((List.length p0 : Int) != (List.length p1 : Int)) = true then (some false) else (jL p0 p1 fuel 0)
def yB (p0 : M.Cache) (p1 : M.Cache) : Option Bool :=
  if (p0.Version != p1.Version) = true then (some false) else ((sK p0.Entries p1.Entries).bind fun x2 => (if (!x2) = true then (some false) else (some true)))
def jV (p0 : List M.Cache) (p1 : List M.Cache) : Nat → Int → Option Bool
  | 0, _ => none
  | nL1 + 1, v5 => if (decide (v5 < (List.length p0 : Int))) = true then ((idx p0 v5).bind fun x7 => ((idx p1 v5).bind fun x12 => ((yB x7 x12).bind fun x17 => (if (!x17) = true then (some false) else (jV p0 p1 nL1 (IntKind.i64.wrap (v5 + 1))))))) else (some true)
def vH (p0 : List M.Cache) (p1 : List M.Cache) : Option Bool :=
  if ((List.length p0 : Int) != (List.length p1 : Int)) = true then (some false) else (jV p0 p1 fuel 0)
def qG (p0 : M.aT) (p1 : M.aT) : Option Bool :=
  (vH p0.Caches p1.Caches).bind fun x1 => (if (!x1) = true then (some false) else (some true))
def zJ (p0 : M.Key) (p1 : M.Key) : Option Bool :=
  if (p0.Kind != p1.Kind) = true then (some false) else (if (p0.N != p1.N) = true then (some false) else (if (!(p0.Text.toList == p1.Text.toList)) = true then (some false) else (some true)))
def yR (p0 : M.Field) (p1 : M.Field) : Option Bool :=
  if (!(p0.Name.toList == p1.Name.toList)) = true then (some false) else (if (p0.N != p1.N) = true then (some false) else (some true))
def kC (p0 : List M.Field) (p1 : List M.Field) : Nat → Int → Option Bool
  | 0, _ => none
  | nL1 + 1, v5 => if (decide (v5 < (List.length p0 : Int))) = true then ((idx p0 v5).bind fun x7 => ((idx p1 v5).bind fun x12 => ((yR x7 x12).bind fun x17 => (if (!x17) = true then (some false) else (kC p0 p1 nL1 (IntKind.i64.wrap (v5 + 1))))))) else (some true)
def uO (p0 : List M.Field) (p1 : List M.Field) : Option Bool :=
  if ((List.length p0 : Int) != (List.length p1 : Int)) = true then (some false) else (kC p0 p1 fuel 0)
def uY (p0 : M.aU) (p1 : M.aU) : Option Bool :=
  (uO p0.Fields p1.Fields).bind fun x1 => (if (!x1) = true then (some false) else (some true))
def zS (p0 : M.Item) (p1 : M.Item) : Option Bool :=
  (zJ p0.Key p1.Key).bind fun x1 => (if (!x1) = true then (some false) else ((uY p0.aU p1.aU).bind fun x4 => (if (!x4) = true then (some false) else (some true))))
def lJ (p0 : List M.Item) (p1 : List M.Item) : Nat → Int → Option Bool
  | 0, _ => none
  | nL1 + 1, v5 => if (decide (v5 < (List.length p0 : Int))) = true then ((idx p0 v5).bind fun x7 => ((idx p1 v5).bind fun x12 => ((zS x7 x12).bind fun x17 => (if (!x17) = true then (some false) else (lJ p0 p1 nL1 (IntKind.i64.wrap (v5 + 1))))))) else (some true)
def xJ (p0 : List M.Item) (p1 : List M.Item) : Option Bool :=
  if ((List.length p0 : Int) != (List.length p1 : Int)) = true then (some false) else (lJ p0 p1 fuel 0)
def oQ (p0 : M.aH) (p1 : M.aH) : Option Bool :=
  if (!(p0.Name.toList == p1.Name.toList)) = true then (some false) else ((xJ p0.Items p1.Items).bind fun x2 => (if (!x2) = true then (some false) else (if (p0.Auto != p1.Auto) = true then (some false) else (some true))))
def kI (p0 : List M.aH) (p1 : List M.aH) : Nat → Int → Option Bool
  | 0, _ => none
  | nL1 + 1, v5 => if (decide (v5 < (List.length p0 : Int))) = true then ((idx p0 v5).bind fun x7 => ((idx p1 v5).bind fun x12 => ((oQ x7 x12).bind fun x17 => (if (!x17) = true then (some false) else (kI p0 p1 nL1 (IntKind.i64.wrap (v5 + 1))))))) else (some true)
def uQ (p0 : List M.aH) (p1 : List M.aH) : Option Bool :=
  if ((List.length p0 : Int) != (List.length p1 : Int)) = true then (some false) else (kI p0 p1 fuel 0)
def pH (p0 : M.aA) (p1 : M.aA) : Option Bool :=
  if (!(p0.aH.toList == p1.aH.toList)) = true then (some false) else (if (!(p0.Field.toList == p1.Field.toList)) = true then (some false) else (some true))
def hZ (p0 : List M.aA) (p1 : List M.aA) : Nat → Int → Option Bool
  | 0, _ => none
  | nL1 + 1, v5 => if (decide (v5 < (List.length p0 : Int))) = true then ((idx p0 v5).bind fun x7 => ((idx p1 v5).bind fun x12 => ((pH x7 x12).bind fun x17 => (if (!x17) = true then (some false) else (hZ p0 p1 nL1 (IntKind.i64.wrap (v5 + 1))))))) else (some true)
def nA (p0 : List M.aA) (p1 : List M.aA) : Option Bool :=
  if ((List.length p0 : Int) != (List.length p1 : Int)) = true then (some false) else (hZ p0 p1 fuel 0)
def pM (p0 : M.Database) (p1 : M.Database) : Option Bool :=
  if (!(p0.Name.toList == p1.Name.toList)) = true then (some false) else (if (p0.Version != p1.Version) = true then (some false) else ((uQ p0.Stores p1.Stores).bind fun x3 => (if (!x3) = true then (some false) else ((nA p0.Unique p1.Unique).bind fun x6 => (if (!x6) = true then (some false) else (some true))))))
def aAN (p0 : M.bE) (p1 : M.bE) : Option Bool :=
  (pM p0.Base p1.Base).bind fun x1 => (if (!x1) = true then (some false) else ((tW p0.Log p1.Log).bind fun x4 => (if (!x4) = true then (some false) else (if (p0.Count != p1.Count) = true then (some false) else (some true)))))
def xH (p0 : M.aW) (p1 : M.aW) : Option Bool :=
  if (p0.Device != p1.Device) = true then (some false) else (if (p0.Seq != p1.Seq) = true then (some false) else ((zJ p0.Key p1.Key).bind fun x3 => (if (!x3) = true then (some false) else (if (!(p0.Field.toList == p1.Field.toList)) = true then (some false) else (if (p0.N != p1.N) = true then (some false) else (some true))))))
def kH (p0 : List M.aW) (p1 : List M.aW) : Nat → Int → Option Bool
  | 0, _ => none
  | nL1 + 1, v5 => if (decide (v5 < (List.length p0 : Int))) = true then ((idx p0 v5).bind fun x7 => ((idx p1 v5).bind fun x12 => ((xH x7 x12).bind fun x17 => (if (!x17) = true then (some false) else (kH p0 p1 nL1 (IntKind.i64.wrap (v5 + 1))))))) else (some true)
def qP (p0 : List M.aW) (p1 : List M.aW) : Option Bool :=
  if ((List.length p0 : Int) != (List.length p1 : Int)) = true then (some false) else (kH p0 p1 fuel 0)
def uV (p0 : M.aV) (p1 : M.aV) : Option Bool :=
  if (p0.Device != p1.Device) = true then (some false) else (if (p0.Next != p1.Next) = true then (some false) else ((qP p0.Writes p1.Writes).bind fun x3 => (if (!x3) = true then (some false) else (some true))))
def aAV (p0 : M.Sync) (p1 : M.Sync) : Option Bool :=
  (uV p0.aV p1.aV).bind fun x1 => (if (!x1) = true then (some false) else (if (p0.Tries != p1.Tries) = true then (some false) else (if (p0.WaitUntil != p1.WaitUntil) = true then (some false) else (some true))))
def sA (p0 : M.aC) (p1 : M.aC) : Option Bool :=
  (oQ p0.Base p1.Base).bind fun x1 => (if (!x1) = true then (some false) else (if (p0.Seen != p1.Seen) = true then (some false) else ((aAV p0.Sync p1.Sync).bind fun x5 => (if (!x5) = true then (some false) else (some true)))))
def uR (p0 : M.aE) (p1 : M.aE) : Option Bool :=
  if (!(p0.Site.toList == p1.Site.toList)) = true then (some false) else (if (!(p0.Top.toList == p1.Top.toList)) = true then (some false) else ((jS p0.Registration p1.Registration).bind fun x3 => (if (!x3) = true then (some false) else ((qG p0.Caches p1.Caches).bind fun x6 => (if (!x6) = true then (some false) else ((aAN p0.bE p1.bE).bind fun x9 => (if (!x9) = true then (some false) else ((sA p0.aC p1.aC).bind fun x12 => (if (!x12) = true then (some false) else (if (p0.LastUsed != p1.LastUsed) = true then (some false) else (if (!(p0.Persistent == p1.Persistent)) = true then (some false) else (some true))))))))))))
def jA (p0 : List M.aE) (p1 : List M.aE) : Nat → Int → Option Bool
  | 0, _ => none
  | nL1 + 1, v5 => if (decide (v5 < (List.length p0 : Int))) = true then ((idx p0 v5).bind fun x7 => ((idx p1 v5).bind fun x12 => ((uR x7 x12).bind fun x17 => (if (!x17) = true then (some false) else (jA p0 p1 nL1 (IntKind.i64.wrap (v5 + 1))))))) else (some true)
def sP (p0 : List M.aE) (p1 : List M.aE) : Option Bool :=
  if ((List.length p0 : Int) != (List.length p1 : Int)) = true then (some false) else (jA p0 p1 fuel 0)
def tC (p0 : M.aM) (p1 : M.aM) : Option Bool :=
  (sP p0.Buckets p1.Buckets).bind fun x1 => (if (!x1) = true then (some false) else (some true))
def uT (p0 : M.aN) (p1 : M.aN) : Option Bool :=
  if (!(p0.Path.toList == p1.Path.toList)) = true then (some false) else (if (p0.Version != p1.Version) = true then (some false) else (some true))
def jB (p0 : List M.aN) (p1 : List M.aN) : Nat → Int → Option Bool
  | 0, _ => none
  | nL1 + 1, v5 => if (decide (v5 < (List.length p0 : Int))) = true then ((idx p0 v5).bind fun x7 => ((idx p1 v5).bind fun x12 => ((uT x7 x12).bind fun x17 => (if (!x17) = true then (some false) else (jB p0 p1 nL1 (IntKind.i64.wrap (v5 + 1))))))) else (some true)
def rO (p0 : List M.aN) (p1 : List M.aN) : Option Bool :=
  if ((List.length p0 : Int) != (List.length p1 : Int)) = true then (some false) else (jB p0 p1 fuel 0)
def xB (p0 : M.Instr) (p1 : M.Instr) : Option Bool :=
  if (p0.Kind != p1.Kind) = true then (some false) else (if (p0.R != p1.R) = true then (some false) else (if (p0.N != p1.N) = true then (some false) else (if (!(p0.Text.toList == p1.Text.toList)) = true then (some false) else (some true))))
def kB (p0 : List M.Instr) (p1 : List M.Instr) : Nat → Int → Option Bool
  | 0, _ => none
  | nL1 + 1, v5 => if (decide (v5 < (List.length p0 : Int))) = true then ((idx p0 v5).bind fun x7 => ((idx p1 v5).bind fun x12 => ((xB x7 x12).bind fun x17 => (if (!x17) = true then (some false) else (kB p0 p1 nL1 (IntKind.i64.wrap (v5 + 1))))))) else (some true)
def wC (p0 : List M.Instr) (p1 : List M.Instr) : Option Bool :=
  if ((List.length p0 : Int) != (List.length p1 : Int)) = true then (some false) else (kB p0 p1 fuel 0)
def mY (p0 : List Int) (p1 : List Int) : Nat → Int → Option Bool
  | 0, _ => none
  | nL1 + 1, v5 => if (decide (v5 < (List.length p0 : Int))) = true then ((idx p0 v5).bind fun x7 => ((idx p1 v5).bind fun x12 => (if (x7 != x12) = true then (some false) else (mY p0 p1 nL1 (IntKind.i64.wrap (v5 + 1)))))) else (some true)
def aAQ (p0 : List Int) (p1 : List Int) : Option Bool :=
  if ((List.length p0 : Int) != (List.length p1 : Int)) = true then (some false) else (mY p0 p1 fuel 0)
def tK (p0 : M.Machine) (p1 : M.Machine) : Option Bool :=
  (wC p0.Script p1.Script).bind fun x1 => (if (!x1) = true then (some false) else (if (p0.Pc != p1.Pc) = true then (some false) else ((aAQ p0.Regs p1.Regs).bind fun x5 => (if (!x5) = true then (some false) else (if (p0.Steps != p1.Steps) = true then (some false) else (if (!(p0.Done == p1.Done)) = true then (some false) else (if (!(p0.Wait == p1.Wait)) = true then (some false) else (some true))))))))
def aAp (p0 : M.bG) (p1 : M.bG) : Option Bool :=
  if (p0.Id != p1.Id) = true then (some false) else (if (!(p0.Site.toList == p1.Site.toList)) = true then (some false) else (if (!(p0.Top.toList == p1.Top.toList)) = true then (some false) else (if (p0.Version != p1.Version) = true then (some false) else ((rO p0.aN p1.aN).bind fun x5 => (if (!x5) = true then (some false) else ((tK p0.Machine p1.Machine).bind fun x8 => (if (!x8) = true then (some false) else (some true))))))))
def lG (p0 : List M.bG) (p1 : List M.bG) : Nat → Int → Option Bool
  | 0, _ => none
  | nL1 + 1, v5 => if (decide (v5 < (List.length p0 : Int))) = true then ((idx p0 v5).bind fun x7 => ((idx p1 v5).bind fun x12 => ((aAp x7 x12).bind fun x17 => (if (!x17) = true then (some false) else (lG p0 p1 nL1 (IntKind.i64.wrap (v5 + 1))))))) else (some true)
def xI (p0 : List M.bG) (p1 : List M.bG) : Option Bool :=
  if ((List.length p0 : Int) != (List.length p1 : Int)) = true then (some false) else (lG p0 p1 fuel 0)
def zR (p0 : M.bK) (p1 : M.bK) : Option Bool :=
  if (!(p0.Name.toList == p1.Name.toList)) = true then (some false) else (if (p0.bG != p1.bG) = true then (some false) else (if (!(p0.Shared == p1.Shared)) = true then (some false) else (if (!(p0.Held == p1.Held)) = true then (some false) else (some true))))
def lL (p0 : List M.bK) (p1 : List M.bK) : Nat → Int → Option Bool
  | 0, _ => none
  | nL1 + 1, v5 => if (decide (v5 < (List.length p0 : Int))) = true then ((idx p0 v5).bind fun x7 => ((idx p1 v5).bind fun x12 => ((zR x7 x12).bind fun x17 => (if (!x17) = true then (some false) else (lL p0 p1 nL1 (IntKind.i64.wrap (v5 + 1))))))) else (some true)
def yD (p0 : List M.bK) (p1 : List M.bK) : Option Bool :=
  if ((List.length p0 : Int) != (List.length p1 : Int)) = true then (some false) else (lL p0 p1 fuel 0)
def oI (p0 : M.aF) (p1 : M.aF) : Option Bool :=
  (yD p0.Locks p1.Locks).bind fun x1 => (if (!x1) = true then (some false) else (some true))
def aAC (p0 : M.fD) (p1 : M.fD) : Option Bool :=
  if (p0.To != p1.To) = true then (some false) else (if (p0.From != p1.From) = true then (some false) else (if (p0.N != p1.N) = true then (some false) else (some true)))
def lR (p0 : List M.fD) (p1 : List M.fD) : Nat → Int → Option Bool
  | 0, _ => none
  | nL1 + 1, v5 => if (decide (v5 < (List.length p0 : Int))) = true then ((idx p0 v5).bind fun x7 => ((idx p1 v5).bind fun x12 => ((aAC x7 x12).bind fun x17 => (if (!x17) = true then (some false) else (lR p0 p1 nL1 (IntKind.i64.wrap (v5 + 1))))))) else (some true)
def yL (p0 : List M.fD) (p1 : List M.fD) : Option Bool :=
  if ((List.length p0 : Int) != (List.length p1 : Int)) = true then (some false) else (lR p0 p1 fuel 0)
def tB (p0 : M.Channel) (p1 : M.Channel) : Option Bool :=
  (yL p0.Mails p1.Mails).bind fun x1 => (if (!x1) = true then (some false) else (some true))
def jF (p0 : List ByteArray) (p1 : List ByteArray) : Nat → Int → Option Bool
  | 0, _ => none
  | nL1 + 1, v5 => if (decide (v5 < (List.length p0 : Int))) = true then ((idx p0 v5).bind fun x7 => ((idx p1 v5).bind fun x12 => (if (!(x7.toList == x12.toList)) = true then (some false) else (jF p0 p1 nL1 (IntKind.i64.wrap (v5 + 1)))))) else (some true)
def rU (p0 : List ByteArray) (p1 : List ByteArray) : Option Bool :=
  if ((List.length p0 : Int) != (List.length p1 : Int)) = true then (some false) else (jF p0 p1 fuel 0)
def aAo (p0 : M.Site) (p1 : M.Site) : Option Bool :=
  if (!(p0.Name.toList == p1.Name.toList)) = true then (some false) else (if (p0.Version != p1.Version) = true then (some false) else ((rU p0.Files p1.Files).bind fun x3 => (if (!x3) = true then (some false) else (if (!(p0.Shared == p1.Shared)) = true then (some false) else (some true)))))
def lT (p0 : List M.Site) (p1 : List M.Site) : Nat → Int → Option Bool
  | 0, _ => none
  | nL1 + 1, v5 => if (decide (v5 < (List.length p0 : Int))) = true then ((idx p0 v5).bind fun x7 => ((idx p1 v5).bind fun x12 => ((aAo x7 x12).bind fun x17 => (if (!x17) = true then (some false) else (lT p0 p1 nL1 (IntKind.i64.wrap (v5 + 1))))))) else (some true)
def yC (p0 : List M.Site) (p1 : List M.Site) : Option Bool :=
  if ((List.length p0 : Int) != (List.length p1 : Int)) = true then (some false) else (lT p0 p1 fuel 0)
def rY (p0 : M.aJ) (p1 : M.aJ) : Option Bool :=
  if (p0.Device != p1.Device) = true then (some false) else (if (p0.Seq != p1.Seq) = true then (some false) else (some true))
def iO (p0 : List M.aJ) (p1 : List M.aJ) : Nat → Int → Option Bool
  | 0, _ => none
  | nL1 + 1, v5 => if (decide (v5 < (List.length p0 : Int))) = true then ((idx p0 v5).bind fun x7 => ((idx p1 v5).bind fun x12 => ((rY x7 x12).bind fun x17 => (if (!x17) = true then (some false) else (iO p0 p1 nL1 (IntKind.i64.wrap (v5 + 1))))))) else (some true)
def qI (p0 : List M.aJ) (p1 : List M.aJ) : Option Bool :=
  if ((List.length p0 : Int) != (List.length p1 : Int)) = true then (some false) else (iO p0 p1 fuel 0)
def uK (p0 : M.Server) (p1 : M.Server) : Option Bool :=
  (oQ p0.aH p1.aH).bind fun x1 => (if (!x1) = true then (some false) else ((qI p0.aJ p1.aJ).bind fun x4 => (if (!x4) = true then (some false) else ((qP p0.Changes p1.Changes).bind fun x7 => (if (!x7) = true then (some false) else (some true))))))
def jC (p0 : List M.Server) (p1 : List M.Server) : Nat → Int → Option Bool
  | 0, _ => none
  | nL1 + 1, v5 => if (decide (v5 < (List.length p0 : Int))) = true then ((idx p0 v5).bind fun x7 => ((idx p1 v5).bind fun x12 => ((uK x7 x12).bind fun x17 => (if (!x17) = true then (some false) else (jC p0 p1 nL1 (IntKind.i64.wrap (v5 + 1))))))) else (some true)
def rV (p0 : List M.Server) (p1 : List M.Server) : Option Bool :=
  if ((List.length p0 : Int) != (List.length p1 : Int)) = true then (some false) else (jC p0 p1 fuel 0)
def kZ (p0 : M.World) (p1 : M.World) : Option Bool :=
  if (p0.Now != p1.Now) = true then (some false) else (if (!(p0.Online == p1.Online)) = true then (some false) else (if (p0.Device != p1.Device) = true then (some false) else ((tC p0.aM p1.aM).bind fun x4 => (if (!x4) = true then (some false) else ((xI p0.Pages p1.Pages).bind fun x7 => (if (!x7) = true then (some false) else (if (p0.NextPage != p1.NextPage) = true then (some false) else ((oI p0.Locks p1.Locks).bind fun x11 => (if (!x11) = true then (some false) else ((tB p0.Channel p1.Channel).bind fun x14 => (if (!x14) = true then (some false) else ((yC p0.Sites p1.Sites).bind fun x17 => (if (!x17) = true then (some false) else ((rV p0.Servers p1.Servers).bind fun x20 => (if (!x20) = true then (some false) else (some true))))))))))))))))
def kK  : Nat → Int → ByteArray → Option ByteArray
  | 0, _, _ => none
  | nL1 + 1, v0, v3 => if (decide (v0 > 0)) = true then ((toStr ([(IntKind.u8.wrap (IntKind.i64.wrap (48 + (Int.tmod v0 10))))])).bind fun x6 => ((cat (aBj ([(IntKind.u8.wrap (IntKind.i64.wrap (48 + (Int.tmod v0 10))))])) v3).bind fun x8 => (kK nL1 (IntKind.i64.wrap (Int.tdiv v0 10)) ((aBj ([(IntKind.u8.wrap (IntKind.i64.wrap (48 + (Int.tmod v0 10))))])) ++ v3)))) else ((cat (⟨#[109]⟩ : ByteArray) v3).bind fun x13 => (some ((⟨#[109]⟩ : ByteArray) ++ v3)))
def aG (p0 : Int) : Option ByteArray :=
  if (decide (p0 ≤ 0)) = true then (some (⟨#[109, 48]⟩ : ByteArray)) else (kK fuel p0 (⟨#[]⟩ : ByteArray))
def dS  : Nat → Int → Int → List Int → Option (List Int × Int)
  | 0, _, _, _ => none
  | nL1 + 1, v1, v5, r99 => if (decide (v5 < (List.length r99 : Int))) = true then ((idx r99 v5).bind fun x8 => ((some (List.set r99 v5.toNat (IntKind.u8.wrap v1))).bind fun y13 => (dS nL1 (IntKind.i64.wrap (v1 + 1)) (IntKind.i64.wrap (v5 + 1)) y13))) else (some (r99, v1))
def mS (p0 : List Int) (p1 : Int) : Option (List Int × Int) :=
  dS fuel p1 0 p0
def cN  : Nat → Int → Int → List M.Cached → Option (List M.Cached × Int)
  | 0, _, _, _ => none
  | nL1 + 1, v1, v5, r99 => if (decide (v5 < (List.length r99 : Int))) = true then ((aG v1).bind fun x8 => ((idx r99 v5).bind fun x10 => ((some (List.set r99 v5.toNat (⟨x8, x10.Path, x10.Response⟩ : M.Cached))).bind fun y15 => ((aG (IntKind.i64.wrap (v1 + 1))).bind fun x23 => ((idx y15 v5).bind fun x25 => ((some (List.set y15 v5.toNat (⟨x25.Site, x23, x25.Response⟩ : M.Cached))).bind fun y30 => ((idx y30 v5).bind fun x38 => ((some (List.set y30 v5.toNat (⟨x38.Site, x38.Path, (⟨(IntKind.i64.wrap ((IntKind.i64.wrap (v1 + 1)) + 1)), x38.Response.Status, x38.Response.Version, x38.Response.Body, x38.Response.Shares⟩ : M.Response)⟩ : M.Cached))).bind fun y43 => ((idx y43 v5).bind fun x51 => ((some (List.set y43 v5.toNat (⟨x51.Site, x51.Path, (⟨x51.Response.Type_, (IntKind.i64.wrap ((IntKind.i64.wrap ((IntKind.i64.wrap (v1 + 1)) + 1)) + 1)), x51.Response.Version, x51.Response.Body, x51.Response.Shares⟩ : M.Response)⟩ : M.Cached))).bind fun y56 => ((idx y56 v5).bind fun x64 => ((some (List.set y56 v5.toNat (⟨x64.Site, x64.Path, (⟨x64.Response.Type_, x64.Response.Status, (IntKind.i64.wrap ((IntKind.i64.wrap ((IntKind.i64.wrap ((IntKind.i64.wrap (v1 + 1)) + 1)) + 1)) + 1)), x64.Response.Body, x64.Response.Shares⟩ : M.Response)⟩ : M.Cached))).bind fun y69 => ((idx y69 v5).bind fun x77 => ((mS x77.Response.Body (IntKind.i64.wrap ((IntKind.i64.wrap ((IntKind.i64.wrap ((IntKind.i64.wrap ((IntKind.i64.wrap (v1 + 1)) + 1)) + 1)) + 1)) + 1))).bind fun x82 => ((some (List.set y69 v5.toNat (⟨x77.Site, x77.Path, (⟨x77.Response.Type_, x77.Response.Status, x77.Response.Version, x82.1, x77.Response.Shares⟩ : M.Response)⟩ : M.Cached))).bind fun y84 => ((idx y84 v5).bind fun x92 => ((some (List.set y84 v5.toNat (⟨x92.Site, x92.Path, (⟨x92.Response.Type_, x92.Response.Status, x92.Response.Version, x92.Response.Body, ((Int.tmod x82.2 3) == 0)⟩ : M.Response)⟩ : M.Cached))).bind fun y97 => (cN nL1 (IntKind.i64.wrap (x82.2 + 1)) (IntKind.i64.wrap (v5 + 1)) y97)))))))))))))))))) else (some (r99, v1))
def oK (p0 : List M.Cached) (p1 : Int) : Option (List M.Cached × Int) :=
  cN fuel p1 0 p0
def cY  : Nat → Int → Int → List M.Cache → Option (List M.Cache × Int)
  | 0, _, _, _ => none
  | nL1 + 1, v1, v5, r99 => if (decide (v5 < (List.length r99 : Int))) = true then ((idx r99 v5).bind fun x8 => ((some (List.set r99 v5.toNat (⟨v1, x8.Entries⟩ : M.Cache))).bind fun y13 => ((idx y13 v5).bind fun x21 => ((oK x21.Entries (IntKind.i64.wrap (v1 + 1))).bind fun x26 => ((some (List.set y13 v5.toNat (⟨x21.Version, x26.1⟩ : M.Cache))).bind fun y28 => (cY nL1 x26.2 (IntKind.i64.wrap (v5 + 1)) y28)))))) else (some (r99, v1))
def qU (p0 : List M.Cache) (p1 : Int) : Option (List M.Cache × Int) :=
  cY fuel p1 0 p0
def cZ  : Nat → Int → Int → List M.Field → Option (List M.Field × Int)
  | 0, _, _, _ => none
  | nL1 + 1, v1, v5, r99 => if (decide (v5 < (List.length r99 : Int))) = true then ((aG v1).bind fun x8 => ((idx r99 v5).bind fun x10 => ((some (List.set r99 v5.toNat (⟨x8, x10.N⟩ : M.Field))).bind fun y15 => ((idx y15 v5).bind fun x23 => ((some (List.set y15 v5.toNat (⟨x23.Name, (IntKind.i64.wrap (v1 + 1))⟩ : M.Field))).bind fun y28 => (cZ nL1 (IntKind.i64.wrap ((IntKind.i64.wrap (v1 + 1)) + 1)) (IntKind.i64.wrap (v5 + 1)) y28)))))) else (some (r99, v1))
def qD (p0 : List M.Field) (p1 : Int) : Option (List M.Field × Int) :=
  cZ fuel p1 0 p0
def dU  : Nat → Int → Int → List M.Item → Option (List M.Item × Int)
  | 0, _, _, _ => none
  | nL1 + 1, v1, v5, r99 => if (decide (v5 < (List.length r99 : Int))) = true then ((idx r99 v5).bind fun x8 => ((some (List.set r99 v5.toNat (⟨(⟨v1, x8.Key.N, x8.Key.Text⟩ : M.Key), x8.aU⟩ : M.Item))).bind fun y13 => ((idx y13 v5).bind fun x21 => ((some (List.set y13 v5.toNat (⟨(⟨x21.Key.Kind, (IntKind.i64.wrap (v1 + 1)), x21.Key.Text⟩ : M.Key), x21.aU⟩ : M.Item))).bind fun y26 => ((aG (IntKind.i64.wrap ((IntKind.i64.wrap (v1 + 1)) + 1))).bind fun x34 => ((idx y26 v5).bind fun x36 => ((some (List.set y26 v5.toNat (⟨(⟨x36.Key.Kind, x36.Key.N, x34⟩ : M.Key), x36.aU⟩ : M.Item))).bind fun y41 => ((idx y41 v5).bind fun x49 => ((qD x49.aU.Fields (IntKind.i64.wrap ((IntKind.i64.wrap ((IntKind.i64.wrap (v1 + 1)) + 1)) + 1))).bind fun x54 => ((some (List.set y41 v5.toNat (⟨x49.Key, (⟨x54.1⟩ : M.aU)⟩ : M.Item))).bind fun y56 => (dU nL1 x54.2 (IntKind.i64.wrap (v5 + 1)) y56))))))))))) else (some (r99, v1))
def kT (p0 : List M.Item) (p1 : Int) : Option (List M.Item × Int) :=
  dU fuel p1 0 p0
def cU  : Nat → Int → Int → List M.aH → Option (List M.aH × Int)
  | 0, _, _, _ => none
  | nL1 + 1, v1, v5, r99 => if (decide (v5 < (List.length r99 : Int))) = true then ((aG v1).bind fun x8 => ((idx r99 v5).bind fun x10 => ((some (List.set r99 v5.toNat (⟨x8, x10.Items, x10.Auto⟩ : M.aH))).bind fun y15 => ((idx y15 v5).bind fun x23 => ((kT x23.Items (IntKind.i64.wrap (v1 + 1))).bind fun x28 => ((some (List.set y15 v5.toNat (⟨x23.Name, x28.1, x23.Auto⟩ : M.aH))).bind fun y30 => ((idx y30 v5).bind fun x38 => ((some (List.set y30 v5.toNat (⟨x38.Name, x38.Items, x28.2⟩ : M.aH))).bind fun y43 => (cU nL1 (IntKind.i64.wrap (x28.2 + 1)) (IntKind.i64.wrap (v5 + 1)) y43))))))))) else (some (r99, v1))
def qA (p0 : List M.aH) (p1 : Int) : Option (List M.aH × Int) :=
  cU fuel p1 0 p0
def bT  : Nat → Int → Int → List M.aA → Option (List M.aA × Int)
  | 0, _, _, _ => none
  | nL1 + 1, v1, v5, r99 => if (decide (v5 < (List.length r99 : Int))) = true then ((aG v1).bind fun x8 => ((idx r99 v5).bind fun x10 => ((some (List.set r99 v5.toNat (⟨x8, x10.Field⟩ : M.aA))).bind fun y15 => ((aG (IntKind.i64.wrap (v1 + 1))).bind fun x23 => ((idx y15 v5).bind fun x25 => ((some (List.set y15 v5.toNat (⟨x25.aH, x23⟩ : M.aA))).bind fun y30 => (bT nL1 (IntKind.i64.wrap ((IntKind.i64.wrap (v1 + 1)) + 1)) (IntKind.i64.wrap (v5 + 1)) y30))))))) else (some (r99, v1))
def kW (p0 : List M.aA) (p1 : Int) : Option (List M.aA × Int) :=
  bT fuel p1 0 p0
def cX  : Nat → Int → Int → List M.aW → Option (List M.aW × Int)
  | 0, _, _, _ => none
  | nL1 + 1, v1, v5, r99 => if (decide (v5 < (List.length r99 : Int))) = true then ((idx r99 v5).bind fun x8 => ((some (List.set r99 v5.toNat (⟨v1, x8.Seq, x8.Key, x8.Field, x8.N⟩ : M.aW))).bind fun y13 => ((idx y13 v5).bind fun x21 => ((some (List.set y13 v5.toNat (⟨x21.Device, (IntKind.i64.wrap (v1 + 1)), x21.Key, x21.Field, x21.N⟩ : M.aW))).bind fun y26 => ((idx y26 v5).bind fun x34 => ((some (List.set y26 v5.toNat (⟨x34.Device, x34.Seq, (⟨(IntKind.i64.wrap ((IntKind.i64.wrap (v1 + 1)) + 1)), x34.Key.N, x34.Key.Text⟩ : M.Key), x34.Field, x34.N⟩ : M.aW))).bind fun y39 => ((idx y39 v5).bind fun x47 => ((some (List.set y39 v5.toNat (⟨x47.Device, x47.Seq, (⟨x47.Key.Kind, (IntKind.i64.wrap ((IntKind.i64.wrap ((IntKind.i64.wrap (v1 + 1)) + 1)) + 1)), x47.Key.Text⟩ : M.Key), x47.Field, x47.N⟩ : M.aW))).bind fun y52 => ((aG (IntKind.i64.wrap ((IntKind.i64.wrap ((IntKind.i64.wrap ((IntKind.i64.wrap (v1 + 1)) + 1)) + 1)) + 1))).bind fun x60 => ((idx y52 v5).bind fun x62 => ((some (List.set y52 v5.toNat (⟨x62.Device, x62.Seq, (⟨x62.Key.Kind, x62.Key.N, x60⟩ : M.Key), x62.Field, x62.N⟩ : M.aW))).bind fun y67 => ((aG (IntKind.i64.wrap ((IntKind.i64.wrap ((IntKind.i64.wrap ((IntKind.i64.wrap ((IntKind.i64.wrap (v1 + 1)) + 1)) + 1)) + 1)) + 1))).bind fun x75 => ((idx y67 v5).bind fun x77 => ((some (List.set y67 v5.toNat (⟨x77.Device, x77.Seq, x77.Key, x75, x77.N⟩ : M.aW))).bind fun y82 => ((idx y82 v5).bind fun x90 => ((some (List.set y82 v5.toNat (⟨x90.Device, x90.Seq, x90.Key, x90.Field, (IntKind.i64.wrap ((IntKind.i64.wrap ((IntKind.i64.wrap ((IntKind.i64.wrap ((IntKind.i64.wrap ((IntKind.i64.wrap (v1 + 1)) + 1)) + 1)) + 1)) + 1)) + 1))⟩ : M.aW))).bind fun y95 => (cX nL1 (IntKind.i64.wrap ((IntKind.i64.wrap ((IntKind.i64.wrap ((IntKind.i64.wrap ((IntKind.i64.wrap ((IntKind.i64.wrap ((IntKind.i64.wrap (v1 + 1)) + 1)) + 1)) + 1)) + 1)) + 1)) + 1)) (IntKind.i64.wrap (v5 + 1)) y95))))))))))))))))) else (some (r99, v1))
def lO (p0 : List M.aW) (p1 : Int) : Option (List M.aW × Int) :=
  cX fuel p1 0 p0
def cH  : Nat → Int → Int → List M.aE → Option (List M.aE × Int)
  | 0, _, _, _ => none
  | nL1 + 1, v1, v5, r99 => if (decide (v5 < (List.length r99 : Int))) = true then ((aG v1).bind fun x8 => ((idx r99 v5).bind fun x10 => ((some (List.set r99 v5.toNat (⟨x8, x10.Top, x10.Registration, x10.Caches, x10.bE, x10.aC, x10.LastUsed, x10.Persistent⟩ : M.aE))).bind fun y15 => ((aG (IntKind.i64.wrap (v1 + 1))).bind fun x23 => ((idx y15 v5).bind fun x25 => ((some (List.set y15 v5.toNat (⟨x25.Site, x23, x25.Registration, x25.Caches, x25.bE, x25.aC, x25.LastUsed, x25.Persistent⟩ : M.aE))).bind fun y30 => ((aG (IntKind.i64.wrap ((IntKind.i64.wrap (v1 + 1)) + 1))).bind fun x38 => ((idx y30 v5).bind fun x40 => ((some (List.set y30 v5.toNat (⟨x40.Site, x40.Top, (⟨x38, x40.Registration.Installing, x40.Registration.Waiting, x40.Registration.Active⟩ : M.Registration), x40.Caches, x40.bE, x40.aC, x40.LastUsed, x40.Persistent⟩ : M.aE))).bind fun y45 => ((idx y45 v5).bind fun x53 => ((some (List.set y45 v5.toNat (⟨x53.Site, x53.Top, (⟨x53.Registration.Site, (IntKind.i64.wrap ((IntKind.i64.wrap ((IntKind.i64.wrap (v1 + 1)) + 1)) + 1)), x53.Registration.Waiting, x53.Registration.Active⟩ : M.Registration), x53.Caches, x53.bE, x53.aC, x53.LastUsed, x53.Persistent⟩ : M.aE))).bind fun y58 => ((idx y58 v5).bind fun x66 => ((some (List.set y58 v5.toNat (⟨x66.Site, x66.Top, (⟨x66.Registration.Site, x66.Registration.Installing, (IntKind.i64.wrap ((IntKind.i64.wrap ((IntKind.i64.wrap ((IntKind.i64.wrap (v1 + 1)) + 1)) + 1)) + 1)), x66.Registration.Active⟩ : M.Registration), x66.Caches, x66.bE, x66.aC, x66.LastUsed, x66.Persistent⟩ : M.aE))).bind fun y71 => ((idx y71 v5).bind fun x79 => ((some (List.set y71 v5.toNat (⟨x79.Site, x79.Top, (⟨x79.Registration.Site, x79.Registration.Installing, x79.Registration.Waiting, (IntKind.i64.wrap ((IntKind.i64.wrap ((IntKind.i64.wrap ((IntKind.i64.wrap ((IntKind.i64.wrap (v1 + 1)) + 1)) + 1)) + 1)) + 1))⟩ : M.Registration), x79.Caches, x79.bE, x79.aC, x79.LastUsed, x79.Persistent⟩ : M.aE))).bind fun y84 => ((idx y84 v5).bind fun x92 => ((qU x92.Caches.Caches (IntKind.i64.wrap ((IntKind.i64.wrap ((IntKind.i64.wrap ((IntKind.i64.wrap ((IntKind.i64.wrap ((IntKind.i64.wrap (v1 + 1)) + 1)) + 1)) + 1)) + 1)) + 1))).bind fun x97 => ((some (List.set y84 v5.toNat (⟨x92.Site, x92.Top, x92.Registration, (⟨x97.1⟩ : M.aT), x92.bE, x92.aC, x92.LastUsed, x92.Persistent⟩ : M.aE))).bind fun y99 => ((aG x97.2).bind fun x107 => ((idx y99 v5).bind fun x109 => ((some (List.set y99 v5.toNat (⟨x109.Site, x109.Top, x109.Registration, x109.Caches, (⟨(⟨x107, x109.bE.Base.Version, x109.bE.Base.Stores, x109.bE.Base.Unique⟩ : M.Database), x109.bE.Log, x109.bE.Count⟩ : M.bE), x109.aC, x109.LastUsed, x109.Persistent⟩ : M.aE))).bind fun y114 => ((idx y114 v5).bind fun x122 => ((some (List.set y114 v5.toNat (⟨x122.Site, x122.Top, x122.Registration, x122.Caches, (⟨(⟨x122.bE.Base.Name, (IntKind.i64.wrap (x97.2 + 1)), x122.bE.Base.Stores, x122.bE.Base.Unique⟩ : M.Database), x122.bE.Log, x122.bE.Count⟩ : M.bE), x122.aC, x122.LastUsed, x122.Persistent⟩ : M.aE))).bind fun y127 => ((idx y127 v5).bind fun x135 => ((qA x135.bE.Base.Stores (IntKind.i64.wrap ((IntKind.i64.wrap (x97.2 + 1)) + 1))).bind fun x140 => ((some (List.set y127 v5.toNat (⟨x135.Site, x135.Top, x135.Registration, x135.Caches, (⟨(⟨x135.bE.Base.Name, x135.bE.Base.Version, x140.1, x135.bE.Base.Unique⟩ : M.Database), x135.bE.Log, x135.bE.Count⟩ : M.bE), x135.aC, x135.LastUsed, x135.Persistent⟩ : M.aE))).bind fun y142 => ((idx y142 v5).bind fun x150 => ((kW x150.bE.Base.Unique x140.2).bind fun x155 => ((some (List.set y142 v5.toNat (⟨x150.Site, x150.Top, x150.Registration, x150.Caches, (⟨(⟨x150.bE.Base.Name, x150.bE.Base.Version, x150.bE.Base.Stores, x155.1⟩ : M.Database), x150.bE.Log, x150.bE.Count⟩ : M.bE), x150.aC, x150.LastUsed, x150.Persistent⟩ : M.aE))).bind fun y157 => ((idx y157 v5).bind fun x165 => ((mS x165.bE.Log x155.2).bind fun x170 => ((some (List.set y157 v5.toNat (⟨x165.Site, x165.Top, x165.Registration, x165.Caches, (⟨x165.bE.Base, x170.1, x165.bE.Count⟩ : M.bE), x165.aC, x165.LastUsed, x165.Persistent⟩ : M.aE))).bind fun y172 => ((idx y172 v5).bind fun x180 => ((some (List.set y172 v5.toNat (⟨x180.Site, x180.Top, x180.Registration, x180.Caches, (⟨x180.bE.Base, x180.bE.Log, x170.2⟩ : M.bE), x180.aC, x180.LastUsed, x180.Persistent⟩ : M.aE))).bind fun y185 => ((aG (IntKind.i64.wrap (x170.2 + 1))).bind fun x193 => ((idx y185 v5).bind fun x195 => ((some (List.set y185 v5.toNat (⟨x195.Site, x195.Top, x195.Registration, x195.Caches, x195.bE, (⟨(⟨x193, x195.aC.Base.Items, x195.aC.Base.Auto⟩ : M.aH), x195.aC.Seen, x195.aC.Sync⟩ : M.aC), x195.LastUsed, x195.Persistent⟩ : M.aE))).bind fun y200 => ((idx y200 v5).bind fun x208 => ((kT x208.aC.Base.Items (IntKind.i64.wrap ((IntKind.i64.wrap (x170.2 + 1)) + 1))).bind fun x213 => ((some (List.set y200 v5.toNat (⟨x208.Site, x208.Top, x208.Registration, x208.Caches, x208.bE, (⟨(⟨x208.aC.Base.Name, x213.1, x208.aC.Base.Auto⟩ : M.aH), x208.aC.Seen, x208.aC.Sync⟩ : M.aC), x208.LastUsed, x208.Persistent⟩ : M.aE))).bind fun y215 => ((idx y215 v5).bind fun x223 => ((some (List.set y215 v5.toNat (⟨x223.Site, x223.Top, x223.Registration, x223.Caches, x223.bE, (⟨(⟨x223.aC.Base.Name, x223.aC.Base.Items, x213.2⟩ : M.aH), x223.aC.Seen, x223.aC.Sync⟩ : M.aC), x223.LastUsed, x223.Persistent⟩ : M.aE))).bind fun y228 => ((idx y228 v5).bind fun x236 => ((some (List.set y228 v5.toNat (⟨x236.Site, x236.Top, x236.Registration, x236.Caches, x236.bE, (⟨x236.aC.Base, (IntKind.i64.wrap (x213.2 + 1)), x236.aC.Sync⟩ : M.aC), x236.LastUsed, x236.Persistent⟩ : M.aE))).bind fun y241 => ((idx y241 v5).bind fun x249 => ((some (List.set y241 v5.toNat (⟨x249.Site, x249.Top, x249.Registration, x249.Caches, x249.bE, (⟨x249.aC.Base, x249.aC.Seen, (⟨(⟨(IntKind.i64.wrap ((IntKind.i64.wrap (x213.2 + 1)) + 1)), x249.aC.Sync.aV.Next, x249.aC.Sync.aV.Writes⟩ : M.aV), x249.aC.Sync.Tries, x249.aC.Sync.WaitUntil⟩ : M.Sync)⟩ : M.aC), x249.LastUsed, x249.Persistent⟩ : M.aE))).bind fun y254 => ((idx y254 v5).bind fun x262 => ((some (List.set y254 v5.toNat (⟨x262.Site, x262.Top, x262.Registration, x262.Caches, x262.bE, (⟨x262.aC.Base, x262.aC.Seen, (⟨(⟨x262.aC.Sync.aV.Device, (IntKind.i64.wrap ((IntKind.i64.wrap ((IntKind.i64.wrap (x213.2 + 1)) + 1)) + 1)), x262.aC.Sync.aV.Writes⟩ : M.aV), x262.aC.Sync.Tries, x262.aC.Sync.WaitUntil⟩ : M.Sync)⟩ : M.aC), x262.LastUsed, x262.Persistent⟩ : M.aE))).bind fun y267 => ((idx y267 v5).bind fun x275 => ((lO x275.aC.Sync.aV.Writes (IntKind.i64.wrap ((IntKind.i64.wrap ((IntKind.i64.wrap ((IntKind.i64.wrap (x213.2 + 1)) + 1)) + 1)) + 1))).bind fun x280 => ((some (List.set y267 v5.toNat (⟨x275.Site, x275.Top, x275.Registration, x275.Caches, x275.bE, (⟨x275.aC.Base, x275.aC.Seen, (⟨(⟨x275.aC.Sync.aV.Device, x275.aC.Sync.aV.Next, x280.1⟩ : M.aV), x275.aC.Sync.Tries, x275.aC.Sync.WaitUntil⟩ : M.Sync)⟩ : M.aC), x275.LastUsed, x275.Persistent⟩ : M.aE))).bind fun y282 => ((idx y282 v5).bind fun x290 => ((some (List.set y282 v5.toNat (⟨x290.Site, x290.Top, x290.Registration, x290.Caches, x290.bE, (⟨x290.aC.Base, x290.aC.Seen, (⟨x290.aC.Sync.aV, x280.2, x290.aC.Sync.WaitUntil⟩ : M.Sync)⟩ : M.aC), x290.LastUsed, x290.Persistent⟩ : M.aE))).bind fun y295 => ((idx y295 v5).bind fun x303 => ((some (List.set y295 v5.toNat (⟨x303.Site, x303.Top, x303.Registration, x303.Caches, x303.bE, (⟨x303.aC.Base, x303.aC.Seen, (⟨x303.aC.Sync.aV, x303.aC.Sync.Tries, (IntKind.i64.wrap (x280.2 + 1))⟩ : M.Sync)⟩ : M.aC), x303.LastUsed, x303.Persistent⟩ : M.aE))).bind fun y308 => ((idx y308 v5).bind fun x316 => ((some (List.set y308 v5.toNat (⟨x316.Site, x316.Top, x316.Registration, x316.Caches, x316.bE, x316.aC, (IntKind.i64.wrap ((IntKind.i64.wrap (x280.2 + 1)) + 1)), x316.Persistent⟩ : M.aE))).bind fun y321 => ((idx y321 v5).bind fun x329 => ((some (List.set y321 v5.toNat (⟨x329.Site, x329.Top, x329.Registration, x329.Caches, x329.bE, x329.aC, x329.LastUsed, ((Int.tmod (IntKind.i64.wrap ((IntKind.i64.wrap ((IntKind.i64.wrap (x280.2 + 1)) + 1)) + 1)) 3) == 0)⟩ : M.aE))).bind fun y334 => (cH nL1 (IntKind.i64.wrap ((IntKind.i64.wrap ((IntKind.i64.wrap ((IntKind.i64.wrap (x280.2 + 1)) + 1)) + 1)) + 1)) (IntKind.i64.wrap (v5 + 1)) y334)))))))))))))))))))))))))))))))))))))))))))))))))))))))))))) else (some (r99, v1))
def nK (p0 : List M.aE) (p1 : Int) : Option (List M.aE × Int) :=
  cH fuel p1 0 p0
def uE (p0 : M.aM) (p1 : Int) : Option (List M.aE × Int) :=
  (nK p0.Buckets p1).bind fun x1 => (some (x1.1, x1.2))
def cF  : Nat → Int → Int → List M.aN → Option (List M.aN × Int)
  | 0, _, _, _ => none
  | nL1 + 1, v1, v5, r99 => if (decide (v5 < (List.length r99 : Int))) = true then ((aG v1).bind fun x8 => ((idx r99 v5).bind fun x10 => ((some (List.set r99 v5.toNat (⟨x8, x10.Version⟩ : M.aN))).bind fun y15 => ((idx y15 v5).bind fun x23 => ((some (List.set y15 v5.toNat (⟨x23.Path, (IntKind.i64.wrap (v1 + 1))⟩ : M.aN))).bind fun y28 => (cF nL1 (IntKind.i64.wrap ((IntKind.i64.wrap (v1 + 1)) + 1)) (IntKind.i64.wrap (v5 + 1)) y28)))))) else (some (r99, v1))
def nR (p0 : List M.aN) (p1 : Int) : Option (List M.aN × Int) :=
  cF fuel p1 0 p0
def cV  : Nat → Int → Int → List M.Instr → Option (List M.Instr × Int)
  | 0, _, _, _ => none
  | nL1 + 1, v1, v5, r99 => if (decide (v5 < (List.length r99 : Int))) = true then ((idx r99 v5).bind fun x8 => ((some (List.set r99 v5.toNat (⟨v1, x8.R, x8.N, x8.Text⟩ : M.Instr))).bind fun y13 => ((idx y13 v5).bind fun x21 => ((some (List.set y13 v5.toNat (⟨x21.Kind, (IntKind.i64.wrap (v1 + 1)), x21.N, x21.Text⟩ : M.Instr))).bind fun y26 => ((idx y26 v5).bind fun x34 => ((some (List.set y26 v5.toNat (⟨x34.Kind, x34.R, (IntKind.i64.wrap ((IntKind.i64.wrap (v1 + 1)) + 1)), x34.Text⟩ : M.Instr))).bind fun y39 => ((aG (IntKind.i64.wrap ((IntKind.i64.wrap ((IntKind.i64.wrap (v1 + 1)) + 1)) + 1))).bind fun x47 => ((idx y39 v5).bind fun x49 => ((some (List.set y39 v5.toNat (⟨x49.Kind, x49.R, x49.N, x47⟩ : M.Instr))).bind fun y54 => (cV nL1 (IntKind.i64.wrap ((IntKind.i64.wrap ((IntKind.i64.wrap ((IntKind.i64.wrap (v1 + 1)) + 1)) + 1)) + 1)) (IntKind.i64.wrap (v5 + 1)) y54)))))))))) else (some (r99, v1))
def qE (p0 : List M.Instr) (p1 : Int) : Option (List M.Instr × Int) :=
  cV fuel p1 0 p0
def eO  : Nat → Int → Int → List Int → Option (List Int × Int)
  | 0, _, _, _ => none
  | nL1 + 1, v1, v5, r99 => if (decide (v5 < (List.length r99 : Int))) = true then ((idx r99 v5).bind fun x8 => ((some (List.set r99 v5.toNat v1)).bind fun y13 => (eO nL1 (IntKind.i64.wrap (v1 + 1)) (IntKind.i64.wrap (v5 + 1)) y13))) else (some (r99, v1))
def vD (p0 : List Int) (p1 : Int) : Option (List Int × Int) :=
  eO fuel p1 0 p0
def dQ  : Nat → Int → Int → List M.bG → Option (List M.bG × Int)
  | 0, _, _, _ => none
  | nL1 + 1, v1, v5, r99 => if (decide (v5 < (List.length r99 : Int))) = true then ((idx r99 v5).bind fun x8 => ((some (List.set r99 v5.toNat (⟨v1, x8.Site, x8.Top, x8.Version, x8.aN, x8.Machine⟩ : M.bG))).bind fun y13 => ((aG (IntKind.i64.wrap (v1 + 1))).bind fun x21 => ((idx y13 v5).bind fun x23 => ((some (List.set y13 v5.toNat (⟨x23.Id, x21, x23.Top, x23.Version, x23.aN, x23.Machine⟩ : M.bG))).bind fun y28 => ((aG (IntKind.i64.wrap ((IntKind.i64.wrap (v1 + 1)) + 1))).bind fun x36 => ((idx y28 v5).bind fun x38 => ((some (List.set y28 v5.toNat (⟨x38.Id, x38.Site, x36, x38.Version, x38.aN, x38.Machine⟩ : M.bG))).bind fun y43 => ((idx y43 v5).bind fun x51 => ((some (List.set y43 v5.toNat (⟨x51.Id, x51.Site, x51.Top, (IntKind.i64.wrap ((IntKind.i64.wrap ((IntKind.i64.wrap (v1 + 1)) + 1)) + 1)), x51.aN, x51.Machine⟩ : M.bG))).bind fun y56 => ((idx y56 v5).bind fun x64 => ((nR x64.aN (IntKind.i64.wrap ((IntKind.i64.wrap ((IntKind.i64.wrap ((IntKind.i64.wrap (v1 + 1)) + 1)) + 1)) + 1))).bind fun x69 => ((some (List.set y56 v5.toNat (⟨x64.Id, x64.Site, x64.Top, x64.Version, x69.1, x64.Machine⟩ : M.bG))).bind fun y71 => ((idx y71 v5).bind fun x79 => ((qE x79.Machine.Script x69.2).bind fun x84 => ((some (List.set y71 v5.toNat (⟨x79.Id, x79.Site, x79.Top, x79.Version, x79.aN, (⟨x84.1, x79.Machine.Pc, x79.Machine.Regs, x79.Machine.Steps, x79.Machine.Done, x79.Machine.Wait⟩ : M.Machine)⟩ : M.bG))).bind fun y86 => ((idx y86 v5).bind fun x94 => ((some (List.set y86 v5.toNat (⟨x94.Id, x94.Site, x94.Top, x94.Version, x94.aN, (⟨x94.Machine.Script, x84.2, x94.Machine.Regs, x94.Machine.Steps, x94.Machine.Done, x94.Machine.Wait⟩ : M.Machine)⟩ : M.bG))).bind fun y99 => ((idx y99 v5).bind fun x107 => ((vD x107.Machine.Regs (IntKind.i64.wrap (x84.2 + 1))).bind fun x112 => ((some (List.set y99 v5.toNat (⟨x107.Id, x107.Site, x107.Top, x107.Version, x107.aN, (⟨x107.Machine.Script, x107.Machine.Pc, x112.1, x107.Machine.Steps, x107.Machine.Done, x107.Machine.Wait⟩ : M.Machine)⟩ : M.bG))).bind fun y114 => ((idx y114 v5).bind fun x122 => ((some (List.set y114 v5.toNat (⟨x122.Id, x122.Site, x122.Top, x122.Version, x122.aN, (⟨x122.Machine.Script, x122.Machine.Pc, x122.Machine.Regs, x112.2, x122.Machine.Done, x122.Machine.Wait⟩ : M.Machine)⟩ : M.bG))).bind fun y127 => ((idx y127 v5).bind fun x135 => ((some (List.set y127 v5.toNat (⟨x135.Id, x135.Site, x135.Top, x135.Version, x135.aN, (⟨x135.Machine.Script, x135.Machine.Pc, x135.Machine.Regs, x135.Machine.Steps, ((Int.tmod (IntKind.i64.wrap (x112.2 + 1)) 3) == 0), x135.Machine.Wait⟩ : M.Machine)⟩ : M.bG))).bind fun y140 => ((idx y140 v5).bind fun x148 => ((some (List.set y140 v5.toNat (⟨x148.Id, x148.Site, x148.Top, x148.Version, x148.aN, (⟨x148.Machine.Script, x148.Machine.Pc, x148.Machine.Regs, x148.Machine.Steps, x148.Machine.Done, ((Int.tmod (IntKind.i64.wrap ((IntKind.i64.wrap (x112.2 + 1)) + 1)) 3) == 0)⟩ : M.Machine)⟩ : M.bG))).bind fun y153 => (dQ nL1 (IntKind.i64.wrap ((IntKind.i64.wrap ((IntKind.i64.wrap (x112.2 + 1)) + 1)) + 1)) (IntKind.i64.wrap (v5 + 1)) y153)))))))))))))))))))))))))))) else (some (r99, v1))
def rQ (p0 : List M.bG) (p1 : Int) : Option (List M.bG × Int) :=
  dQ fuel p1 0 p0
def dP  : Nat → Int → Int → List M.bK → Option (List M.bK × Int)
  | 0, _, _, _ => none
  | nL1 + 1, v1, v5, r99 => if (decide (v5 < (List.length r99 : Int))) = true then ((aG v1).bind fun x8 => ((idx r99 v5).bind fun x10 => ((some (List.set r99 v5.toNat (⟨x8, x10.bG, x10.Shared, x10.Held⟩ : M.bK))).bind fun y15 => ((idx y15 v5).bind fun x23 => ((some (List.set y15 v5.toNat (⟨x23.Name, (IntKind.i64.wrap (v1 + 1)), x23.Shared, x23.Held⟩ : M.bK))).bind fun y28 => ((idx y28 v5).bind fun x36 => ((some (List.set y28 v5.toNat (⟨x36.Name, x36.bG, ((Int.tmod (IntKind.i64.wrap ((IntKind.i64.wrap (v1 + 1)) + 1)) 3) == 0), x36.Held⟩ : M.bK))).bind fun y41 => ((idx y41 v5).bind fun x49 => ((some (List.set y41 v5.toNat (⟨x49.Name, x49.bG, x49.Shared, ((Int.tmod (IntKind.i64.wrap ((IntKind.i64.wrap ((IntKind.i64.wrap (v1 + 1)) + 1)) + 1)) 3) == 0)⟩ : M.bK))).bind fun y54 => (dP nL1 (IntKind.i64.wrap ((IntKind.i64.wrap ((IntKind.i64.wrap ((IntKind.i64.wrap (v1 + 1)) + 1)) + 1)) + 1)) (IntKind.i64.wrap (v5 + 1)) y54)))))))))) else (some (r99, v1))
def tL (p0 : List M.bK) (p1 : Int) : Option (List M.bK × Int) :=
  dP fuel p1 0 p0
def oZ (p0 : M.aF) (p1 : Int) : Option (List M.bK × Int) :=
  (tL p0.Locks p1).bind fun x1 => (some (x1.1, x1.2))
def dV  : Nat → Int → Int → List M.fD → Option (List M.fD × Int)
  | 0, _, _, _ => none
  | nL1 + 1, v1, v5, r99 => if (decide (v5 < (List.length r99 : Int))) = true then ((idx r99 v5).bind fun x8 => ((some (List.set r99 v5.toNat (⟨v1, x8.From, x8.N⟩ : M.fD))).bind fun y13 => ((idx y13 v5).bind fun x21 => ((some (List.set y13 v5.toNat (⟨x21.To, (IntKind.i64.wrap (v1 + 1)), x21.N⟩ : M.fD))).bind fun y26 => ((idx y26 v5).bind fun x34 => ((some (List.set y26 v5.toNat (⟨x34.To, x34.From, (IntKind.i64.wrap ((IntKind.i64.wrap (v1 + 1)) + 1))⟩ : M.fD))).bind fun y39 => (dV nL1 (IntKind.i64.wrap ((IntKind.i64.wrap ((IntKind.i64.wrap (v1 + 1)) + 1)) + 1)) (IntKind.i64.wrap (v5 + 1)) y39))))))) else (some (r99, v1))
def tR (p0 : List M.fD) (p1 : Int) : Option (List M.fD × Int) :=
  dV fuel p1 0 p0
def uH (p0 : M.Channel) (p1 : Int) : Option (List M.fD × Int) :=
  (tR p0.Mails p1).bind fun x1 => (some (x1.1, x1.2))
def cG  : Nat → Int → Int → List ByteArray → Option (List ByteArray × Int)
  | 0, _, _, _ => none
  | nL1 + 1, v1, v5, r99 => if (decide (v5 < (List.length r99 : Int))) = true then ((aG v1).bind fun x8 => ((idx r99 v5).bind fun x10 => ((some (List.set r99 v5.toNat x8)).bind fun y15 => (cG nL1 (IntKind.i64.wrap (v1 + 1)) (IntKind.i64.wrap (v5 + 1)) y15)))) else (some (r99, v1))
def nD (p0 : List ByteArray) (p1 : Int) : Option (List ByteArray × Int) :=
  cG fuel p1 0 p0
def dM  : Nat → Int → Int → List M.Site → Option (List M.Site × Int)
  | 0, _, _, _ => none
  | nL1 + 1, v1, v5, r99 => if (decide (v5 < (List.length r99 : Int))) = true then ((aG v1).bind fun x8 => ((idx r99 v5).bind fun x10 => ((some (List.set r99 v5.toNat (⟨x8, x10.Version, x10.Files, x10.Shared⟩ : M.Site))).bind fun y15 => ((idx y15 v5).bind fun x23 => ((some (List.set y15 v5.toNat (⟨x23.Name, (IntKind.i64.wrap (v1 + 1)), x23.Files, x23.Shared⟩ : M.Site))).bind fun y28 => ((idx y28 v5).bind fun x36 => ((nD x36.Files (IntKind.i64.wrap ((IntKind.i64.wrap (v1 + 1)) + 1))).bind fun x41 => ((some (List.set y28 v5.toNat (⟨x36.Name, x36.Version, x41.1, x36.Shared⟩ : M.Site))).bind fun y43 => ((idx y43 v5).bind fun x51 => ((some (List.set y43 v5.toNat (⟨x51.Name, x51.Version, x51.Files, ((Int.tmod x41.2 3) == 0)⟩ : M.Site))).bind fun y56 => (dM nL1 (IntKind.i64.wrap (x41.2 + 1)) (IntKind.i64.wrap (v5 + 1)) y56))))))))))) else (some (r99, v1))
def tF (p0 : List M.Site) (p1 : Int) : Option (List M.Site × Int) :=
  dM fuel p1 0 p0
def bX  : Nat → Int → Int → List M.aJ → Option (List M.aJ × Int)
  | 0, _, _, _ => none
  | nL1 + 1, v1, v5, r99 => if (decide (v5 < (List.length r99 : Int))) = true then ((idx r99 v5).bind fun x8 => ((some (List.set r99 v5.toNat (⟨v1, x8.Seq⟩ : M.aJ))).bind fun y13 => ((idx y13 v5).bind fun x21 => ((some (List.set y13 v5.toNat (⟨x21.Device, (IntKind.i64.wrap (v1 + 1))⟩ : M.aJ))).bind fun y26 => (bX nL1 (IntKind.i64.wrap ((IntKind.i64.wrap (v1 + 1)) + 1)) (IntKind.i64.wrap (v5 + 1)) y26))))) else (some (r99, v1))
def mF (p0 : List M.aJ) (p1 : Int) : Option (List M.aJ × Int) :=
  bX fuel p1 0 p0
def cK  : Nat → Int → Int → List M.Server → Option (List M.Server × Int)
  | 0, _, _, _ => none
  | nL1 + 1, v1, v5, r99 => if (decide (v5 < (List.length r99 : Int))) = true then ((aG v1).bind fun x8 => ((idx r99 v5).bind fun x10 => ((some (List.set r99 v5.toNat (⟨(⟨x8, x10.aH.Items, x10.aH.Auto⟩ : M.aH), x10.aJ, x10.Changes⟩ : M.Server))).bind fun y15 => ((idx y15 v5).bind fun x23 => ((kT x23.aH.Items (IntKind.i64.wrap (v1 + 1))).bind fun x28 => ((some (List.set y15 v5.toNat (⟨(⟨x23.aH.Name, x28.1, x23.aH.Auto⟩ : M.aH), x23.aJ, x23.Changes⟩ : M.Server))).bind fun y30 => ((idx y30 v5).bind fun x38 => ((some (List.set y30 v5.toNat (⟨(⟨x38.aH.Name, x38.aH.Items, x28.2⟩ : M.aH), x38.aJ, x38.Changes⟩ : M.Server))).bind fun y43 => ((idx y43 v5).bind fun x51 => ((mF x51.aJ (IntKind.i64.wrap (x28.2 + 1))).bind fun x56 => ((some (List.set y43 v5.toNat (⟨x51.aH, x56.1, x51.Changes⟩ : M.Server))).bind fun y58 => ((idx y58 v5).bind fun x66 => ((lO x66.Changes x56.2).bind fun x71 => ((some (List.set y58 v5.toNat (⟨x66.aH, x66.aJ, x71.1⟩ : M.Server))).bind fun y73 => (cK nL1 x71.2 (IntKind.i64.wrap (v5 + 1)) y73))))))))))))))) else (some (r99, v1))
def oF (p0 : List M.Server) (p1 : Int) : Option (List M.Server × Int) :=
  cK fuel p1 0 p0
def mQ (p0 : M.World) (p1 : Int) : Option (List M.aE × List M.bG × List M.bK × List M.fD × List M.Site × List M.Server × Int) :=
  (uE p0.aM p1).bind fun x1 => ((rQ p0.Pages x1.2).bind fun x8 => ((oZ p0.Locks x8.2).bind fun x15 => ((uH p0.Channel x15.2).bind fun x22 => ((tF p0.Sites x22.2).bind fun x29 => ((oF p0.Servers x29.2).bind fun x36 => (some (x1.1, x8.1, x15.1, x22.1, x29.1, x36.1, x36.2)))))))
def eV (p0 : List Int) : Nat → Int → Int → Option Int
  | 0, _, _ => none
  | nL1 + 1, v1, v5 => if (decide (v5 < (List.length p0 : Int))) = true then ((idx p0 v5).bind fun x6 => (if (x6 != (IntKind.u8.wrap v1)) = true then (some (-1)) else (eV p0 nL1 (IntKind.i64.wrap (v1 + 1)) (IntKind.i64.wrap (v5 + 1))))) else (some v1)
def mX (p0 : List Int) (p1 : Int) : Option Int :=
  eV p0 fuel p1 0
def dI (p0 : List M.Cached) : Nat → Int → Int → Option Int
  | 0, _, _ => none
  | nL1 + 1, v1, v5 => if (decide (v5 < (List.length p0 : Int))) = true then ((idx p0 v5).bind fun x6 => ((aG v1).bind fun x11 => (if (!(x6.Site.toList == x11.toList)) = true then (some (-1)) else ((aG (IntKind.i64.wrap (v1 + 1))).bind fun x14 => (if (!(x6.Path.toList == x14.toList)) = true then (some (-1)) else (if (x6.Response.Type_ != (IntKind.i64.wrap ((IntKind.i64.wrap (v1 + 1)) + 1))) = true then (some (-1)) else (if (x6.Response.Status != (IntKind.i64.wrap ((IntKind.i64.wrap ((IntKind.i64.wrap (v1 + 1)) + 1)) + 1))) = true then (some (-1)) else (if (x6.Response.Version != (IntKind.i64.wrap ((IntKind.i64.wrap ((IntKind.i64.wrap ((IntKind.i64.wrap (v1 + 1)) + 1)) + 1)) + 1))) = true then (some (-1)) else ((mX x6.Response.Body (IntKind.i64.wrap ((IntKind.i64.wrap ((IntKind.i64.wrap ((IntKind.i64.wrap ((IntKind.i64.wrap (v1 + 1)) + 1)) + 1)) + 1)) + 1))).bind fun x20 => (if (decide (x20 < 0)) = true then (some (-1)) else (if (!(x6.Response.Shares == ((Int.tmod x20 3) == 0))) = true then (some (-1)) else (dI p0 nL1 (IntKind.i64.wrap (x20 + 1)) (IntKind.i64.wrap (v5 + 1)))))))))))))) else (some v1)
def nM (p0 : List M.Cached) (p1 : Int) : Option Int :=
  dI p0 fuel p1 0
def eB (p0 : List M.Cache) : Nat → Int → Int → Option Int
  | 0, _, _ => none
  | nL1 + 1, v1, v5 => if (decide (v5 < (List.length p0 : Int))) = true then ((idx p0 v5).bind fun x6 => (if (x6.Version != v1) = true then (some (-1)) else ((nM x6.Entries (IntKind.i64.wrap (v1 + 1))).bind fun x12 => (if (decide (x12 < 0)) = true then (some (-1)) else (eB p0 nL1 x12 (IntKind.i64.wrap (v5 + 1))))))) else (some v1)
def qM (p0 : List M.Cache) (p1 : Int) : Option Int :=
  eB p0 fuel p1 0
def eK (p0 : List M.Field) : Nat → Int → Int → Option Int
  | 0, _, _ => none
  | nL1 + 1, v1, v5 => if (decide (v5 < (List.length p0 : Int))) = true then ((idx p0 v5).bind fun x6 => ((aG v1).bind fun x11 => (if (!(x6.Name.toList == x11.toList)) = true then (some (-1)) else (if (x6.N != (IntKind.i64.wrap (v1 + 1))) = true then (some (-1)) else (eK p0 nL1 (IntKind.i64.wrap ((IntKind.i64.wrap (v1 + 1)) + 1)) (IntKind.i64.wrap (v5 + 1))))))) else (some v1)
def pT (p0 : List M.Field) (p1 : Int) : Option Int :=
  eK p0 fuel p1 0
def eX (p0 : List M.Item) : Nat → Int → Int → Option Int
  | 0, _, _ => none
  | nL1 + 1, v1, v5 => if (decide (v5 < (List.length p0 : Int))) = true then ((idx p0 v5).bind fun x6 => (if (x6.Key.Kind != v1) = true then (some (-1)) else (if (x6.Key.N != (IntKind.i64.wrap (v1 + 1))) = true then (some (-1)) else ((aG (IntKind.i64.wrap ((IntKind.i64.wrap (v1 + 1)) + 1))).bind fun x13 => (if (!(x6.Key.Text.toList == x13.toList)) = true then (some (-1)) else ((pT x6.aU.Fields (IntKind.i64.wrap ((IntKind.i64.wrap ((IntKind.i64.wrap (v1 + 1)) + 1)) + 1))).bind fun x16 => (if (decide (x16 < 0)) = true then (some (-1)) else (eX p0 nL1 x16 (IntKind.i64.wrap (v5 + 1)))))))))) else (some v1)
def kQ (p0 : List M.Item) (p1 : Int) : Option Int :=
  eX p0 fuel p1 0
def eH (p0 : List M.aH) : Nat → Int → Int → Option Int
  | 0, _, _ => none
  | nL1 + 1, v1, v5 => if (decide (v5 < (List.length p0 : Int))) = true then ((idx p0 v5).bind fun x6 => ((aG v1).bind fun x11 => (if (!(x6.Name.toList == x11.toList)) = true then (some (-1)) else ((kQ x6.Items (IntKind.i64.wrap (v1 + 1))).bind fun x14 => (if (decide (x14 < 0)) = true then (some (-1)) else (if (x6.Auto != x14) = true then (some (-1)) else (eH p0 nL1 (IntKind.i64.wrap (x14 + 1)) (IntKind.i64.wrap (v5 + 1))))))))) else (some v1)
def pN (p0 : List M.aH) (p1 : Int) : Option Int :=
  eH p0 fuel p1 0
def cD (p0 : List M.aA) : Nat → Int → Int → Option Int
  | 0, _, _ => none
  | nL1 + 1, v1, v5 => if (decide (v5 < (List.length p0 : Int))) = true then ((idx p0 v5).bind fun x6 => ((aG v1).bind fun x11 => (if (!(x6.aH.toList == x11.toList)) = true then (some (-1)) else ((aG (IntKind.i64.wrap (v1 + 1))).bind fun x14 => (if (!(x6.Field.toList == x14.toList)) = true then (some (-1)) else (cD p0 nL1 (IntKind.i64.wrap ((IntKind.i64.wrap (v1 + 1)) + 1)) (IntKind.i64.wrap (v5 + 1)))))))) else (some v1)
def kV (p0 : List M.aA) (p1 : Int) : Option Int :=
  cD p0 fuel p1 0
def eL (p0 : List M.aW) : Nat → Int → Int → Option Int
  | 0, _, _ => none
  | nL1 + 1, v1, v5 => if (decide (v5 < (List.length p0 : Int))) = true then ((idx p0 v5).bind fun x6 => (if (x6.Device != v1) = true then (some (-1)) else (if (x6.Seq != (IntKind.i64.wrap (v1 + 1))) = true then (some (-1)) else (if (x6.Key.Kind != (IntKind.i64.wrap ((IntKind.i64.wrap (v1 + 1)) + 1))) = true then (some (-1)) else (if (x6.Key.N != (IntKind.i64.wrap ((IntKind.i64.wrap ((IntKind.i64.wrap (v1 + 1)) + 1)) + 1))) = true then (some (-1)) else ((aG (IntKind.i64.wrap ((IntKind.i64.wrap ((IntKind.i64.wrap ((IntKind.i64.wrap (v1 + 1)) + 1)) + 1)) + 1))).bind fun x15 => (if (!(x6.Key.Text.toList == x15.toList)) = true then (some (-1)) else ((aG (IntKind.i64.wrap ((IntKind.i64.wrap ((IntKind.i64.wrap ((IntKind.i64.wrap ((IntKind.i64.wrap (v1 + 1)) + 1)) + 1)) + 1)) + 1))).bind fun x18 => (if (!(x6.Field.toList == x18.toList)) = true then (some (-1)) else (if (x6.N != (IntKind.i64.wrap ((IntKind.i64.wrap ((IntKind.i64.wrap ((IntKind.i64.wrap ((IntKind.i64.wrap ((IntKind.i64.wrap (v1 + 1)) + 1)) + 1)) + 1)) + 1)) + 1))) = true then (some (-1)) else (eL p0 nL1 (IntKind.i64.wrap ((IntKind.i64.wrap ((IntKind.i64.wrap ((IntKind.i64.wrap ((IntKind.i64.wrap ((IntKind.i64.wrap ((IntKind.i64.wrap (v1 + 1)) + 1)) + 1)) + 1)) + 1)) + 1)) + 1)) (IntKind.i64.wrap (v5 + 1))))))))))))) else (some v1)
def lN (p0 : List M.aW) (p1 : Int) : Option Int :=
  eL p0 fuel p1 0
def cM (p0 : List M.aE) : Nat → Int → Int → Option Int
  | 0, _, _ => none
  | nL1 + 1, v1, v5 => if (decide (v5 < (List.length p0 : Int))) = true then ((idx p0 v5).bind fun x6 => ((aG v1).bind fun x11 => (if (!(x6.Site.toList == x11.toList)) = true then (some (-1)) else ((aG (IntKind.i64.wrap (v1 + 1))).bind fun x14 => (if (!(x6.Top.toList == x14.toList)) = true then (some (-1)) else ((aG (IntKind.i64.wrap ((IntKind.i64.wrap (v1 + 1)) + 1))).bind fun x17 => (if (!(x6.Registration.Site.toList == x17.toList)) = true then (some (-1)) else (if (x6.Registration.Installing != (IntKind.i64.wrap ((IntKind.i64.wrap ((IntKind.i64.wrap (v1 + 1)) + 1)) + 1))) = true then (some (-1)) else (if (x6.Registration.Waiting != (IntKind.i64.wrap ((IntKind.i64.wrap ((IntKind.i64.wrap ((IntKind.i64.wrap (v1 + 1)) + 1)) + 1)) + 1))) = true then (some (-1)) else (if (x6.Registration.Active != (IntKind.i64.wrap ((IntKind.i64.wrap ((IntKind.i64.wrap ((IntKind.i64.wrap ((IntKind.i64.wrap (v1 + 1)) + 1)) + 1)) + 1)) + 1))) = true then (some (-1)) else ((qM x6.Caches.Caches (IntKind.i64.wrap ((IntKind.i64.wrap ((IntKind.i64.wrap ((IntKind.i64.wrap ((IntKind.i64.wrap ((IntKind.i64.wrap (v1 + 1)) + 1)) + 1)) + 1)) + 1)) + 1))).bind fun x27 => (if (decide (x27 < 0)) = true then (some (-1)) else ((aG x27).bind fun x30 => (if (!(x6.bE.Base.Name.toList == x30.toList)) = true then (some (-1)) else (if (x6.bE.Base.Version != (IntKind.i64.wrap (x27 + 1))) = true then (some (-1)) else ((pN x6.bE.Base.Stores (IntKind.i64.wrap ((IntKind.i64.wrap (x27 + 1)) + 1))).bind fun x34 => (if (decide (x34 < 0)) = true then (some (-1)) else ((kV x6.bE.Base.Unique x34).bind fun x37 => (if (decide (x37 < 0)) = true then (some (-1)) else ((mX x6.bE.Log x37).bind fun x40 => (if (decide (x40 < 0)) = true then (some (-1)) else (if (x6.bE.Count != x40) = true then (some (-1)) else ((aG (IntKind.i64.wrap (x40 + 1))).bind fun x48 => (if (!(x6.aC.Base.Name.toList == x48.toList)) = true then (some (-1)) else ((kQ x6.aC.Base.Items (IntKind.i64.wrap ((IntKind.i64.wrap (x40 + 1)) + 1))).bind fun x51 => (if (decide (x51 < 0)) = true then (some (-1)) else (if (x6.aC.Base.Auto != x51) = true then (some (-1)) else (if (x6.aC.Seen != (IntKind.i64.wrap (x51 + 1))) = true then (some (-1)) else (if (x6.aC.Sync.aV.Device != (IntKind.i64.wrap ((IntKind.i64.wrap (x51 + 1)) + 1))) = true then (some (-1)) else (if (x6.aC.Sync.aV.Next != (IntKind.i64.wrap ((IntKind.i64.wrap ((IntKind.i64.wrap (x51 + 1)) + 1)) + 1))) = true then (some (-1)) else ((lN x6.aC.Sync.aV.Writes (IntKind.i64.wrap ((IntKind.i64.wrap ((IntKind.i64.wrap ((IntKind.i64.wrap (x51 + 1)) + 1)) + 1)) + 1))).bind fun x62 => (if (decide (x62 < 0)) = true then (some (-1)) else (if (x6.aC.Sync.Tries != x62) = true then (some (-1)) else (if (x6.aC.Sync.WaitUntil != (IntKind.i64.wrap (x62 + 1))) = true then (some (-1)) else (if (x6.LastUsed != (IntKind.i64.wrap ((IntKind.i64.wrap (x62 + 1)) + 1))) = true then (some (-1)) else (if (!(x6.Persistent == ((Int.tmod (IntKind.i64.wrap ((IntKind.i64.wrap ((IntKind.i64.wrap (x62 + 1)) + 1)) + 1)) 3) == 0))) = true then (some (-1)) else (cM p0 nL1 (IntKind.i64.wrap ((IntKind.i64.wrap ((IntKind.i64.wrap ((IntKind.i64.wrap (x62 + 1)) + 1)) + 1)) + 1)) (IntKind.i64.wrap (v5 + 1))))))))))))))))))))))))))))))))))))))) else (some v1)
def nT (p0 : List M.aE) (p1 : Int) : Option Int :=
  cM p0 fuel p1 0
def uB (p0 : M.aM) (p1 : Int) : Option Int :=
  (nT p0.Buckets p1).bind fun x1 => (if (decide (x1 < 0)) = true then (some (-1)) else (some x1))
def dE (p0 : List M.aN) : Nat → Int → Int → Option Int
  | 0, _, _ => none
  | nL1 + 1, v1, v5 => if (decide (v5 < (List.length p0 : Int))) = true then ((idx p0 v5).bind fun x6 => ((aG v1).bind fun x11 => (if (!(x6.Path.toList == x11.toList)) = true then (some (-1)) else (if (x6.Version != (IntKind.i64.wrap (v1 + 1))) = true then (some (-1)) else (dE p0 nL1 (IntKind.i64.wrap ((IntKind.i64.wrap (v1 + 1)) + 1)) (IntKind.i64.wrap (v5 + 1))))))) else (some v1)
def nC (p0 : List M.aN) (p1 : Int) : Option Int :=
  dE p0 fuel p1 0
def eJ (p0 : List M.Instr) : Nat → Int → Int → Option Int
  | 0, _, _ => none
  | nL1 + 1, v1, v5 => if (decide (v5 < (List.length p0 : Int))) = true then ((idx p0 v5).bind fun x6 => (if (x6.Kind != v1) = true then (some (-1)) else (if (x6.R != (IntKind.i64.wrap (v1 + 1))) = true then (some (-1)) else (if (x6.N != (IntKind.i64.wrap ((IntKind.i64.wrap (v1 + 1)) + 1))) = true then (some (-1)) else ((aG (IntKind.i64.wrap ((IntKind.i64.wrap ((IntKind.i64.wrap (v1 + 1)) + 1)) + 1))).bind fun x14 => (if (!(x6.Text.toList == x14.toList)) = true then (some (-1)) else (eJ p0 nL1 (IntKind.i64.wrap ((IntKind.i64.wrap ((IntKind.i64.wrap ((IntKind.i64.wrap (v1 + 1)) + 1)) + 1)) + 1)) (IntKind.i64.wrap (v5 + 1))))))))) else (some v1)
def pZ (p0 : List M.Instr) (p1 : Int) : Option Int :=
  eJ p0 fuel p1 0
def fO (p0 : List Int) : Nat → Int → Int → Option Int
  | 0, _, _ => none
  | nL1 + 1, v1, v5 => if (decide (v5 < (List.length p0 : Int))) = true then ((idx p0 v5).bind fun x6 => (if (x6 != v1) = true then (some (-1)) else (fO p0 nL1 (IntKind.i64.wrap (v1 + 1)) (IntKind.i64.wrap (v5 + 1))))) else (some v1)
def uM (p0 : List Int) (p1 : Int) : Option Int :=
  fO p0 fuel p1 0
def dO (p0 : List M.bG) : Nat → Int → Int → Option Int
  | 0, _, _ => none
  | nL1 + 1, v1, v5 => if (decide (v5 < (List.length p0 : Int))) = true then ((idx p0 v5).bind fun x6 => (if (x6.Id != v1) = true then (some (-1)) else ((aG (IntKind.i64.wrap (v1 + 1))).bind fun x12 => (if (!(x6.Site.toList == x12.toList)) = true then (some (-1)) else ((aG (IntKind.i64.wrap ((IntKind.i64.wrap (v1 + 1)) + 1))).bind fun x15 => (if (!(x6.Top.toList == x15.toList)) = true then (some (-1)) else (if (x6.Version != (IntKind.i64.wrap ((IntKind.i64.wrap ((IntKind.i64.wrap (v1 + 1)) + 1)) + 1))) = true then (some (-1)) else ((nC x6.aN (IntKind.i64.wrap ((IntKind.i64.wrap ((IntKind.i64.wrap ((IntKind.i64.wrap (v1 + 1)) + 1)) + 1)) + 1))).bind fun x19 => (if (decide (x19 < 0)) = true then (some (-1)) else ((pZ x6.Machine.Script x19).bind fun x22 => (if (decide (x22 < 0)) = true then (some (-1)) else (if (x6.Machine.Pc != x22) = true then (some (-1)) else ((uM x6.Machine.Regs (IntKind.i64.wrap (x22 + 1))).bind fun x30 => (if (decide (x30 < 0)) = true then (some (-1)) else (if (x6.Machine.Steps != x30) = true then (some (-1)) else (if (!(x6.Machine.Done == ((Int.tmod (IntKind.i64.wrap (x30 + 1)) 3) == 0))) = true then (some (-1)) else (if (!(x6.Machine.Wait == ((Int.tmod (IntKind.i64.wrap ((IntKind.i64.wrap (x30 + 1)) + 1)) 3) == 0))) = true then (some (-1)) else (dO p0 nL1 (IntKind.i64.wrap ((IntKind.i64.wrap ((IntKind.i64.wrap (x30 + 1)) + 1)) + 1)) (IntKind.i64.wrap (v5 + 1)))))))))))))))))))) else (some v1)
def tS (p0 : List M.bG) (p1 : Int) : Option Int :=
  dO p0 fuel p1 0
def eZ (p0 : List M.bK) : Nat → Int → Int → Option Int
  | 0, _, _ => none
  | nL1 + 1, v1, v5 => if (decide (v5 < (List.length p0 : Int))) = true then ((idx p0 v5).bind fun x6 => ((aG v1).bind fun x11 => (if (!(x6.Name.toList == x11.toList)) = true then (some (-1)) else (if (x6.bG != (IntKind.i64.wrap (v1 + 1))) = true then (some (-1)) else (if (!(x6.Shared == ((Int.tmod (IntKind.i64.wrap ((IntKind.i64.wrap (v1 + 1)) + 1)) 3) == 0))) = true then (some (-1)) else (if (!(x6.Held == ((Int.tmod (IntKind.i64.wrap ((IntKind.i64.wrap ((IntKind.i64.wrap (v1 + 1)) + 1)) + 1)) 3) == 0))) = true then (some (-1)) else (eZ p0 nL1 (IntKind.i64.wrap ((IntKind.i64.wrap ((IntKind.i64.wrap ((IntKind.i64.wrap (v1 + 1)) + 1)) + 1)) + 1)) (IntKind.i64.wrap (v5 + 1))))))))) else (some v1)
def rN (p0 : List M.bK) (p1 : Int) : Option Int :=
  eZ p0 fuel p1 0
def oU (p0 : M.aF) (p1 : Int) : Option Int :=
  (rN p0.Locks p1).bind fun x1 => (if (decide (x1 < 0)) = true then (some (-1)) else (some x1))
def fC (p0 : List M.fD) : Nat → Int → Int → Option Int
  | 0, _, _ => none
  | nL1 + 1, v1, v5 => if (decide (v5 < (List.length p0 : Int))) = true then ((idx p0 v5).bind fun x6 => (if (x6.To != v1) = true then (some (-1)) else (if (x6.From != (IntKind.i64.wrap (v1 + 1))) = true then (some (-1)) else (if (x6.N != (IntKind.i64.wrap ((IntKind.i64.wrap (v1 + 1)) + 1))) = true then (some (-1)) else (fC p0 nL1 (IntKind.i64.wrap ((IntKind.i64.wrap ((IntKind.i64.wrap (v1 + 1)) + 1)) + 1)) (IntKind.i64.wrap (v5 + 1))))))) else (some v1)
def sW (p0 : List M.fD) (p1 : Int) : Option Int :=
  fC p0 fuel p1 0
def uA (p0 : M.Channel) (p1 : Int) : Option Int :=
  (sW p0.Mails p1).bind fun x1 => (if (decide (x1 < 0)) = true then (some (-1)) else (some x1))
def dF (p0 : List ByteArray) : Nat → Int → Int → Option Int
  | 0, _, _ => none
  | nL1 + 1, v1, v5 => if (decide (v5 < (List.length p0 : Int))) = true then ((idx p0 v5).bind fun x6 => ((aG v1).bind fun x11 => (if (!(x6.toList == x11.toList)) = true then (some (-1)) else (dF p0 nL1 (IntKind.i64.wrap (v1 + 1)) (IntKind.i64.wrap (v5 + 1)))))) else (some v1)
def nX (p0 : List ByteArray) (p1 : Int) : Option Int :=
  dF p0 fuel p1 0
def eS (p0 : List M.Site) : Nat → Int → Int → Option Int
  | 0, _, _ => none
  | nL1 + 1, v1, v5 => if (decide (v5 < (List.length p0 : Int))) = true then ((idx p0 v5).bind fun x6 => ((aG v1).bind fun x11 => (if (!(x6.Name.toList == x11.toList)) = true then (some (-1)) else (if (x6.Version != (IntKind.i64.wrap (v1 + 1))) = true then (some (-1)) else ((nX x6.Files (IntKind.i64.wrap ((IntKind.i64.wrap (v1 + 1)) + 1))).bind fun x15 => (if (decide (x15 < 0)) = true then (some (-1)) else (if (!(x6.Shared == ((Int.tmod x15 3) == 0))) = true then (some (-1)) else (eS p0 nL1 (IntKind.i64.wrap (x15 + 1)) (IntKind.i64.wrap (v5 + 1)))))))))) else (some v1)
def rT (p0 : List M.Site) (p1 : Int) : Option Int :=
  eS p0 fuel p1 0
def cP (p0 : List M.aJ) : Nat → Int → Int → Option Int
  | 0, _, _ => none
  | nL1 + 1, v1, v5 => if (decide (v5 < (List.length p0 : Int))) = true then ((idx p0 v5).bind fun x6 => (if (x6.Device != v1) = true then (some (-1)) else (if (x6.Seq != (IntKind.i64.wrap (v1 + 1))) = true then (some (-1)) else (cP p0 nL1 (IntKind.i64.wrap ((IntKind.i64.wrap (v1 + 1)) + 1)) (IntKind.i64.wrap (v5 + 1)))))) else (some v1)
def mH (p0 : List M.aJ) (p1 : Int) : Option Int :=
  cP p0 fuel p1 0
def cJ (p0 : List M.Server) : Nat → Int → Int → Option Int
  | 0, _, _ => none
  | nL1 + 1, v1, v5 => if (decide (v5 < (List.length p0 : Int))) = true then ((idx p0 v5).bind fun x6 => ((aG v1).bind fun x11 => (if (!(x6.aH.Name.toList == x11.toList)) = true then (some (-1)) else ((kQ x6.aH.Items (IntKind.i64.wrap (v1 + 1))).bind fun x14 => (if (decide (x14 < 0)) = true then (some (-1)) else (if (x6.aH.Auto != x14) = true then (some (-1)) else ((mH x6.aJ (IntKind.i64.wrap (x14 + 1))).bind fun x18 => (if (decide (x18 < 0)) = true then (some (-1)) else ((lN x6.Changes x18).bind fun x21 => (if (decide (x21 < 0)) = true then (some (-1)) else (cJ p0 nL1 x21 (IntKind.i64.wrap (v5 + 1))))))))))))) else (some v1)
def nG (p0 : List M.Server) (p1 : Int) : Option Int :=
  cJ p0 fuel p1 0
def mT (p0 : M.World) (p1 : Int) : Option Int :=
  (uB p0.aM p1).bind fun x1 => (if (decide (x1 < 0)) = true then (some (-1)) else ((tS p0.Pages x1).bind fun x4 => (if (decide (x4 < 0)) = true then (some (-1)) else ((oU p0.Locks x4).bind fun x7 => (if (decide (x7 < 0)) = true then (some (-1)) else ((uA p0.Channel x7).bind fun x10 => (if (decide (x10 < 0)) = true then (some (-1)) else ((rT p0.Sites x10).bind fun x13 => (if (decide (x13 < 0)) = true then (some (-1)) else ((nG p0.Servers x13).bind fun x16 => (if (decide (x16 < 0)) = true then (some (-1)) else (some x16))))))))))))
def mM (p0 : M.World) (p1 : Int) (p2 : ByteArray) (p3 : Bool) : Option Bool :=
  if (decide ((p2.size : Int) > 1048576)) = true then (some true) else ((yW p0 1048576).bind fun x2 => (if (decide (x2 < 0)) = true then (some true) else ((lA p0).bind fun x5 => ((uW x5 p1 p2 p3).bind fun x7 => ((lA p0).bind fun x9 => ((pY x9 p1 p2 p3).bind fun x11 => ((kZ x11.1 x7.1).bind fun x13 => (if (!x13) = true then (some false) else (if (!(x11.2 == x7.2)) = true then (some false) else ((lA p0).bind fun x17 => ((kZ x9 x17).bind fun x19 => (if (!x19) = true then (some false) else ((mQ x9 1).bind fun x22 => (if (decide (x22.2.2.2.2.2.2 < 0)) = true then (some false) else ((kZ x11.1 x7.1).bind fun x50 => (if (!x50) = true then (some false) else ((mQ x11.1 1).bind fun x53 => ((mT (⟨x11.1.Now, x11.1.Online, x11.1.Device, (⟨x53.1⟩ : M.aM), x53.2.1, x11.1.NextPage, (⟨x53.2.2.1⟩ : M.aF), (⟨x53.2.2.2.1⟩ : M.Channel), x53.2.2.2.2.1, x53.2.2.2.2.2.1⟩ : M.World) 1).bind fun x79 => (if (decide (x79 < 0)) = true then (some false) else (if (x79 != x53.2.2.2.2.2.2) = true then (some false) else ((lA p0).bind fun x83 => ((pY x83 p1 p2 p3).bind fun x85 => ((kZ x85.1 x7.1).bind fun x87 => (if (!x87) = true then (some false) else (if (!(x85.2 == x7.2)) = true then (some false) else ((mT (⟨x11.1.Now, x11.1.Online, x11.1.Device, (⟨x53.1⟩ : M.aM), x53.2.1, x11.1.NextPage, (⟨x53.2.2.1⟩ : M.aF), (⟨x53.2.2.2.1⟩ : M.Channel), x53.2.2.2.2.1, x53.2.2.2.2.2.1⟩ : M.World) 1).bind fun x91 => (if (decide (x91 < 0)) = true then (some false) else (if (x91 != x53.2.2.2.2.2.2) = true then (some false) else (some true)))))))))))))))))))))))))))))
end Go.Proofs.YtecmnmaaopkdfaaGreat.gen
