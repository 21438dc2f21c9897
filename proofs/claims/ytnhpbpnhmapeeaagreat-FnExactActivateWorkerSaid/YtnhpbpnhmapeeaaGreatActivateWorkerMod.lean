/-
  Helper text. No conditions.
-/
import Derived.Test.YtnhpbpnhmapeeaaGreatShS
namespace Go.Proofs.YtnhpbpnhmapeeaaGreat.gen
open Go Go.Sh
open Go.IntKind (i64)
set_option linter.unusedVariables false
set_option linter.unusedSimpArgs false
structure M.Registration where
 Site:ByteArray
 Installing:Int
 Waiting:Int
 Active:Int
def M.Registration.en (x:M.Registration):List D:=[.str x.Site,.int .i64 x.Installing,.int .i64 x.Waiting,.int .i64 x.Active]
theorem M.Registration.en.fl (l:List M.Registration):(List.map M.Registration.en l).all (fun y=>y.all D.flat)=true:=aES (fun _=>rfl) l
structure M.Response where
 Type_:Int
 Status:Int
 Version:Int
 Body:List Int
 Shares:Bool
def M.Response.en (x:M.Response):List D:=[.int .i64 x.Type_,.int .i64 x.Status,.int .i64 x.Version,.sl (List.map enB x.Body),.bool x.Shares]
structure M.Cached where
 Site:ByteArray
 Path:ByteArray
 Response:M.Response
def M.Cached.en (x:M.Cached):List D:=[.str x.Site,.str x.Path,.int .i64 x.Response.Type_,.int .i64 x.Response.Status,.int .i64 x.Response.Version,.sl (List.map enB x.Response.Body),.bool x.Response.Shares]
structure M.Cache where
 Version:Int
 Entries:List M.Cached
def M.Cache.en (x:M.Cache):List D:=[.int .i64 x.Version,.sl (List.map M.Cached.en x.Entries)]
structure M.aM where
 Caches:List M.Cache
def M.aM.en (x:M.aM):List D:=[.sl (List.map M.Cache.en x.Caches)]
structure M.Key where
 Kind:Int
 N:Int
 Text:ByteArray
def M.Key.en (x:M.Key):List D:=[.int .i64 x.Kind,.int .i64 x.N,.str x.Text]
theorem M.Key.en.fl (l:List M.Key):(List.map M.Key.en l).all (fun y=>y.all D.flat)=true:=aES (fun _=>rfl) l
structure M.Field where
 Name:ByteArray
 N:Int
def M.Field.en (x:M.Field):List D:=[.str x.Name,.int .i64 x.N]
theorem M.Field.en.fl (l:List M.Field):(List.map M.Field.en l).all (fun y=>y.all D.flat)=true:=aES (fun _=>rfl) l
structure M.aU where
 Fields:List M.Field
def M.aU.en (x:M.aU):List D:=[.sl (List.map M.Field.en x.Fields)]
structure M.Item where
 Key:M.Key
 aU:M.aU
def M.Item.en (x:M.Item):List D:=[.int .i64 x.Key.Kind,.int .i64 x.Key.N,.str x.Key.Text,.sl (List.map M.Field.en x.aU.Fields)]
structure M.aH where
 Name:ByteArray
 Items:List M.Item
 Auto:Int
def M.aH.en (x:M.aH):List D:=[.str x.Name,.sl (List.map M.Item.en x.Items),.int .i64 x.Auto]
structure M.aD where
 aH:ByteArray
 Field:ByteArray
def M.aD.en (x:M.aD):List D:=[.str x.aH,.str x.Field]
theorem M.aD.en.fl (l:List M.aD):(List.map M.aD.en l).all (fun y=>y.all D.flat)=true:=aES (fun _=>rfl) l
structure M.Database where
 Name:ByteArray
 Version:Int
 Stores:List M.aH
 Unique:List M.aD
def M.Database.en (x:M.Database):List D:=[.str x.Name,.int .i64 x.Version,.sl (List.map M.aH.en x.Stores),.sl (List.map M.aD.en x.Unique)]
structure M.bB where
 Base:M.Database
 Log:List Int
 Count:Int
def M.bB.en (x:M.bB):List D:=[.str x.Base.Name,.int .i64 x.Base.Version,.sl (List.map M.aH.en x.Base.Stores),.sl (List.map M.aD.en x.Base.Unique),.sl (List.map enB x.Log),.int .i64 x.Count]
structure M.aY where
 Device:Int
 Seq:Int
 Key:M.Key
 Field:ByteArray
 N:Int
def M.aY.en (x:M.aY):List D:=[.int .i64 x.Device,.int .i64 x.Seq,.int .i64 x.Key.Kind,.int .i64 x.Key.N,.str x.Key.Text,.str x.Field,.int .i64 x.N]
theorem M.aY.en.fl (l:List M.aY):(List.map M.aY.en l).all (fun y=>y.all D.flat)=true:=aES (fun _=>rfl) l
structure M.aV where
 Device:Int
 Next:Int
 Writes:List M.aY
def M.aV.en (x:M.aV):List D:=[.int .i64 x.Device,.int .i64 x.Next,.sl (List.map M.aY.en x.Writes)]
structure M.Sync where
 aV:M.aV
 Tries:Int
 WaitUntil:Int
def M.Sync.en (x:M.Sync):List D:=[.int .i64 x.aV.Device,.int .i64 x.aV.Next,.sl (List.map M.aY.en x.aV.Writes),.int .i64 x.Tries,.int .i64 x.WaitUntil]
structure M.aE where
 Base:M.aH
 Seen:Int
 Sync:M.Sync
def M.aE.en (x:M.aE):List D:=[.str x.Base.Name,.sl (List.map M.Item.en x.Base.Items),.int .i64 x.Base.Auto,.int .i64 x.Seen,.int .i64 x.Sync.aV.Device,.int .i64 x.Sync.aV.Next,.sl (List.map M.aY.en x.Sync.aV.Writes),.int .i64 x.Sync.Tries,.int .i64 x.Sync.WaitUntil]
structure M.aA where
 Site:ByteArray
 Top:ByteArray
 Registration:M.Registration
 Caches:M.aM
 bB:M.bB
 aE:M.aE
 LastUsed:Int
 Persistent:Bool
def M.aA.en (x:M.aA):List D:=[.str x.Site,.str x.Top,.str x.Registration.Site,.int .i64 x.Registration.Installing,.int .i64 x.Registration.Waiting,.int .i64 x.Registration.Active,.sl (List.map M.Cache.en x.Caches.Caches),.str x.bB.Base.Name,.int .i64 x.bB.Base.Version,.sl (List.map M.aH.en x.bB.Base.Stores),.sl (List.map M.aD.en x.bB.Base.Unique),.sl (List.map enB x.bB.Log),.int .i64 x.bB.Count,.str x.aE.Base.Name,.sl (List.map M.Item.en x.aE.Base.Items),.int .i64 x.aE.Base.Auto,.int .i64 x.aE.Seen,.int .i64 x.aE.Sync.aV.Device,.int .i64 x.aE.Sync.aV.Next,.sl (List.map M.aY.en x.aE.Sync.aV.Writes),.int .i64 x.aE.Sync.Tries,.int .i64 x.aE.Sync.WaitUntil,.int .i64 x.LastUsed,.bool x.Persistent]
structure M.aC where
 Buckets:List M.aA
def M.aC.en (x:M.aC):List D:=[.sl (List.map M.aA.en x.Buckets)]
structure M.aN where
 Path:ByteArray
 Version:Int
def M.aN.en (x:M.aN):List D:=[.str x.Path,.int .i64 x.Version]
theorem M.aN.en.fl (l:List M.aN):(List.map M.aN.en l).all (fun y=>y.all D.flat)=true:=aES (fun _=>rfl) l
structure M.Instr where
 Kind:Int
 R:Int
 N:Int
 Text:ByteArray
def M.Instr.en (x:M.Instr):List D:=[.int .i64 x.Kind,.int .i64 x.R,.int .i64 x.N,.str x.Text]
theorem M.Instr.en.fl (l:List M.Instr):(List.map M.Instr.en l).all (fun y=>y.all D.flat)=true:=aES (fun _=>rfl) l
structure M.Machine where
 Script:List M.Instr
 Pc:Int
 Regs:List Int
 Steps:Int
 Done:Bool
 Wait:Bool
def M.Machine.en (x:M.Machine):List D:=[.sl (List.map M.Instr.en x.Script),.int .i64 x.Pc,.sl (List.map enI x.Regs),.int .i64 x.Steps,.bool x.Done,.bool x.Wait]
structure M.bI where
 Id:Int
 Site:ByteArray
 Top:ByteArray
 Version:Int
 aN:List M.aN
 Machine:M.Machine
def M.bI.en (x:M.bI):List D:=[.int .i64 x.Id,.str x.Site,.str x.Top,.int .i64 x.Version,.sl (List.map M.aN.en x.aN),.sl (List.map M.Instr.en x.Machine.Script),.int .i64 x.Machine.Pc,.sl (List.map enI x.Machine.Regs),.int .i64 x.Machine.Steps,.bool x.Machine.Done,.bool x.Machine.Wait]
structure M.cG where
 Name:ByteArray
 bI:Int
 Shared:Bool
 Held:Bool
def M.cG.en (x:M.cG):List D:=[.str x.Name,.int .i64 x.bI,.bool x.Shared,.bool x.Held]
theorem M.cG.en.fl (l:List M.cG):(List.map M.cG.en l).all (fun y=>y.all D.flat)=true:=aES (fun _=>rfl) l
structure M.aR where
 Locks:List M.cG
def M.aR.en (x:M.aR):List D:=[.sl (List.map M.cG.en x.Locks)]
structure M.fK where
 To:Int
 From:Int
 N:Int
def M.fK.en (x:M.fK):List D:=[.int .i64 x.To,.int .i64 x.From,.int .i64 x.N]
theorem M.fK.en.fl (l:List M.fK):(List.map M.fK.en l).all (fun y=>y.all D.flat)=true:=aES (fun _=>rfl) l
structure M.Channel where
 Mails:List M.fK
def M.Channel.en (x:M.Channel):List D:=[.sl (List.map M.fK.en x.Mails)]
structure M.Site where
 Name:ByteArray
 Version:Int
 Files:List ByteArray
 Shared:Bool
def M.Site.en (x:M.Site):List D:=[.str x.Name,.int .i64 x.Version,.sl (List.map enS x.Files),.bool x.Shared]
structure M.aJ where
 Device:Int
 Seq:Int
def M.aJ.en (x:M.aJ):List D:=[.int .i64 x.Device,.int .i64 x.Seq]
theorem M.aJ.en.fl (l:List M.aJ):(List.map M.aJ.en l).all (fun y=>y.all D.flat)=true:=aES (fun _=>rfl) l
structure M.Server where
 aH:M.aH
 aJ:List M.aJ
 Changes:List M.aY
def M.Server.en (x:M.Server):List D:=[.str x.aH.Name,.sl (List.map M.Item.en x.aH.Items),.int .i64 x.aH.Auto,.sl (List.map M.aJ.en x.aJ),.sl (List.map M.aY.en x.Changes)]
structure M.World where
 Now:Int
 Online:Bool
 Device:Int
 aC:M.aC
 Pages:List M.bI
 NextPage:Int
 Locks:M.aR
 Channel:M.Channel
 Sites:List M.Site
 Servers:List M.Server
def M.World.en (x:M.World):List D:=[.int .i64 x.Now,.bool x.Online,.int .i64 x.Device,.sl (List.map M.aA.en x.aC.Buckets),.sl (List.map M.bI.en x.Pages),.int .i64 x.NextPage,.sl (List.map M.cG.en x.Locks.Locks),.sl (List.map M.fK.en x.Channel.Mails),.sl (List.map M.Site.en x.Sites),.sl (List.map M.Server.en x.Servers)]
def kE (p0:M.Registration) (p1:Int):Option Int:=
 if (decide ((i64.wrap (p1-(p0.Site.size:Int)))<0))=true then (some (-1)) else (some (i64.wrap (p1-(p0.Site.size:Int))))
def uX (p0:List Int) (p1:Int):Option Int:=
 if (decide ((i64.wrap (p1-(List.length p0:Int)))<0))=true then (some (-1)) else (some (i64.wrap (p1-(List.length p0:Int))))
def qV (p0:M.Response) (p1:Int):Option Int:=
 (uX p0.Body p1).bind fun x1=>(if (decide (x1<0))=true then (some (-1)) else (some x1))
def wF (p0:M.Cached) (p1:Int):Option Int:=
 if (decide ((i64.wrap (p1-(p0.Site.size:Int)))<0))=true then (some (-1)) else (if (decide ((i64.wrap ((i64.wrap (p1-(p0.Site.size:Int)))-(p0.Path.size:Int)))<0))=true then (some (-1)) else ((qV p0.Response (i64.wrap ((i64.wrap (p1-(p0.Site.size:Int)))-(p0.Path.size:Int)))).bind fun x3=>(if (decide (x3<0))=true then (some (-1)) else (some x3))))
def sB (p0:List M.Cached):Nat→Int→Int→Option Int
 | 0,_,_=>none
 | nL1+1,v1,v5=>if (decide (v5<(List.length p0:Int)))=true then ((idx p0 v5).bind fun x7=>((wF x7 v1).bind fun x12=>(if (decide (x12<0))=true then (some (-1)) else (sB p0 nL1 x12 (i64.wrap (v5+1)))))) else (some v1)
def tH (p0:List M.Cached) (p1:Int):Option Int:=
 if (decide ((i64.wrap (p1-(List.length p0:Int)))<0))=true then (some (-1)) else (sB p0 fuel (i64.wrap (p1-(List.length p0:Int))) 0)
def zS (p0:M.Cache) (p1:Int):Option Int:=
 (tH p0.Entries p1).bind fun x1=>(if (decide (x1<0))=true then (some (-1)) else (some x1))
def vO (p0:List M.Cache):Nat→Int→Int→Option Int
 | 0,_,_=>none
 | nL1+1,v1,v5=>if (decide (v5<(List.length p0:Int)))=true then ((idx p0 v5).bind fun x7=>((zS x7 v1).bind fun x12=>(if (decide (x12<0))=true then (some (-1)) else (vO p0 nL1 x12 (i64.wrap (v5+1)))))) else (some v1)
def xP (p0:List M.Cache) (p1:Int):Option Int:=
 if (decide ((i64.wrap (p1-(List.length p0:Int)))<0))=true then (some (-1)) else (vO p0 fuel (i64.wrap (p1-(List.length p0:Int))) 0)
def rR (p0:M.aM) (p1:Int):Option Int:=
 (xP p0.Caches p1).bind fun x1=>(if (decide (x1<0))=true then (some (-1)) else (some x1))
def aAS (p0:M.Key) (p1:Int):Option Int:=
 if (decide ((i64.wrap (p1-(p0.Text.size:Int)))<0))=true then (some (-1)) else (some (i64.wrap (p1-(p0.Text.size:Int))))
def zH (p0:M.Field) (p1:Int):Option Int:=
 if (decide ((i64.wrap (p1-(p0.Name.size:Int)))<0))=true then (some (-1)) else (some (i64.wrap (p1-(p0.Name.size:Int))))
def vJ (p0:List M.Field):Nat→Int→Int→Option Int
 | 0,_,_=>none
 | nL1+1,v1,v5=>if (decide (v5<(List.length p0:Int)))=true then ((idx p0 v5).bind fun x7=>((zH x7 v1).bind fun x12=>(if (decide (x12<0))=true then (some (-1)) else (vJ p0 nL1 x12 (i64.wrap (v5+1)))))) else (some v1)
def wC (p0:List M.Field) (p1:Int):Option Int:=
 if (decide ((i64.wrap (p1-(List.length p0:Int)))<0))=true then (some (-1)) else (vJ p0 fuel (i64.wrap (p1-(List.length p0:Int))) 0)
def xO (p0:M.aU) (p1:Int):Option Int:=
 (wC p0.Fields p1).bind fun x1=>(if (decide (x1<0))=true then (some (-1)) else (some x1))
def aAz (p0:M.Item) (p1:Int):Option Int:=
 (aAS p0.Key p1).bind fun x1=>(if (decide (x1<0))=true then (some (-1)) else ((xO p0.aU x1).bind fun x4=>(if (decide (x4<0))=true then (some (-1)) else (some x4))))
def yC (p0:List M.Item):Nat→Int→Int→Option Int
 | 0,_,_=>none
 | nL1+1,v1,v5=>if (decide (v5<(List.length p0:Int)))=true then ((idx p0 v5).bind fun x7=>((aAz x7 v1).bind fun x12=>(if (decide (x12<0))=true then (some (-1)) else (yC p0 nL1 x12 (i64.wrap (v5+1)))))) else (some v1)
def aAB (p0:List M.Item) (p1:Int):Option Int:=
 if (decide ((i64.wrap (p1-(List.length p0:Int)))<0))=true then (some (-1)) else (yC p0 fuel (i64.wrap (p1-(List.length p0:Int))) 0)
def pL (p0:M.aH) (p1:Int):Option Int:=
 if (decide ((i64.wrap (p1-(p0.Name.size:Int)))<0))=true then (some (-1)) else ((aAB p0.Items (i64.wrap (p1-(p0.Name.size:Int)))).bind fun x2=>(if (decide (x2<0))=true then (some (-1)) else (some x2)))
def vQ (p0:List M.aH):Nat→Int→Int→Option Int
 | 0,_,_=>none
 | nL1+1,v1,v5=>if (decide (v5<(List.length p0:Int)))=true then ((idx p0 v5).bind fun x7=>((pL x7 v1).bind fun x12=>(if (decide (x12<0))=true then (some (-1)) else (vQ p0 nL1 x12 (i64.wrap (v5+1)))))) else (some v1)
def wW (p0:List M.aH) (p1:Int):Option Int:=
 if (decide ((i64.wrap (p1-(List.length p0:Int)))<0))=true then (some (-1)) else (vQ p0 fuel (i64.wrap (p1-(List.length p0:Int))) 0)
def qD (p0:M.aD) (p1:Int):Option Int:=
 if (decide ((i64.wrap (p1-(p0.aH.size:Int)))<0))=true then (some (-1)) else (if (decide ((i64.wrap ((i64.wrap (p1-(p0.aH.size:Int)))-(p0.Field.size:Int)))<0))=true then (some (-1)) else (some (i64.wrap ((i64.wrap (p1-(p0.aH.size:Int)))-(p0.Field.size:Int)))))
def oA (p0:List M.aD):Nat→Int→Int→Option Int
 | 0,_,_=>none
 | nL1+1,v1,v5=>if (decide (v5<(List.length p0:Int)))=true then ((idx p0 v5).bind fun x7=>((qD x7 v1).bind fun x12=>(if (decide (x12<0))=true then (some (-1)) else (oA p0 nL1 x12 (i64.wrap (v5+1)))))) else (some v1)
def oL (p0:List M.aD) (p1:Int):Option Int:=
 if (decide ((i64.wrap (p1-(List.length p0:Int)))<0))=true then (some (-1)) else (oA p0 fuel (i64.wrap (p1-(List.length p0:Int))) 0)
def rL (p0:M.Database) (p1:Int):Option Int:=
 if (decide ((i64.wrap (p1-(p0.Name.size:Int)))<0))=true then (some (-1)) else ((wW p0.Stores (i64.wrap (p1-(p0.Name.size:Int)))).bind fun x2=>(if (decide (x2<0))=true then (some (-1)) else ((oL p0.Unique x2).bind fun x5=>(if (decide (x5<0))=true then (some (-1)) else (some x5)))))
def aAW (p0:M.bB) (p1:Int):Option Int:=
 (rL p0.Base p1).bind fun x1=>(if (decide (x1<0))=true then (some (-1)) else ((uX p0.Log x1).bind fun x4=>(if (decide (x4<0))=true then (some (-1)) else (some x4))))
def zQ (p0:M.aY) (p1:Int):Option Int:=
 (aAS p0.Key p1).bind fun x1=>(if (decide (x1<0))=true then (some (-1)) else (if (decide ((i64.wrap (x1-(p0.Field.size:Int)))<0))=true then (some (-1)) else (some (i64.wrap (x1-(p0.Field.size:Int))))))
def vK (p0:List M.aY):Nat→Int→Int→Option Int
 | 0,_,_=>none
 | nL1+1,v1,v5=>if (decide (v5<(List.length p0:Int)))=true then ((idx p0 v5).bind fun x7=>((zQ x7 v1).bind fun x12=>(if (decide (x12<0))=true then (some (-1)) else (vK p0 nL1 x12 (i64.wrap (v5+1)))))) else (some v1)
def qW (p0:List M.aY) (p1:Int):Option Int:=
 if (decide ((i64.wrap (p1-(List.length p0:Int)))<0))=true then (some (-1)) else (vK p0 fuel (i64.wrap (p1-(List.length p0:Int))) 0)
def wP (p0:M.aV) (p1:Int):Option Int:=
 (qW p0.Writes p1).bind fun x1=>(if (decide (x1<0))=true then (some (-1)) else (some x1))
def aBF (p0:M.Sync) (p1:Int):Option Int:=
 (wP p0.aV p1).bind fun x1=>(if (decide (x1<0))=true then (some (-1)) else (some x1))
def uN (p0:M.aE) (p1:Int):Option Int:=
 (pL p0.Base p1).bind fun x1=>(if (decide (x1<0))=true then (some (-1)) else ((aBF p0.Sync x1).bind fun x4=>(if (decide (x4<0))=true then (some (-1)) else (some x4))))
def xR (p0:M.aA) (p1:Int):Option Int:=
 if (decide ((i64.wrap (p1-(p0.Site.size:Int)))<0))=true then (some (-1)) else (if (decide ((i64.wrap ((i64.wrap (p1-(p0.Site.size:Int)))-(p0.Top.size:Int)))<0))=true then (some (-1)) else ((kE p0.Registration (i64.wrap ((i64.wrap (p1-(p0.Site.size:Int)))-(p0.Top.size:Int)))).bind fun x3=>(if (decide (x3<0))=true then (some (-1)) else ((rR p0.Caches x3).bind fun x6=>(if (decide (x6<0))=true then (some (-1)) else ((aAW p0.bB x6).bind fun x9=>(if (decide (x9<0))=true then (some (-1)) else ((uN p0.aE x9).bind fun x12=>(if (decide (x12<0))=true then (some (-1)) else (some x12))))))))))
def sO (p0:List M.aA):Nat→Int→Int→Option Int
 | 0,_,_=>none
 | nL1+1,v1,v5=>if (decide (v5<(List.length p0:Int)))=true then ((idx p0 v5).bind fun x7=>((xR x7 v1).bind fun x12=>(if (decide (x12<0))=true then (some (-1)) else (sO p0 nL1 x12 (i64.wrap (v5+1)))))) else (some v1)
def tM (p0:List M.aA) (p1:Int):Option Int:=
 if (decide ((i64.wrap (p1-(List.length p0:Int)))<0))=true then (some (-1)) else (sO p0 fuel (i64.wrap (p1-(List.length p0:Int))) 0)
def sZ (p0:M.aC) (p1:Int):Option Int:=
 (tM p0.Buckets p1).bind fun x1=>(if (decide (x1<0))=true then (some (-1)) else (some x1))
def wG (p0:M.aN) (p1:Int):Option Int:=
 if (decide ((i64.wrap (p1-(p0.Path.size:Int)))<0))=true then (some (-1)) else (some (i64.wrap (p1-(p0.Path.size:Int))))
def sN (p0:List M.aN):Nat→Int→Int→Option Int
 | 0,_,_=>none
 | nL1+1,v1,v5=>if (decide (v5<(List.length p0:Int)))=true then ((idx p0 v5).bind fun x7=>((wG x7 v1).bind fun x12=>(if (decide (x12<0))=true then (some (-1)) else (sN p0 nL1 x12 (i64.wrap (v5+1)))))) else (some v1)
def tO (p0:List M.aN) (p1:Int):Option Int:=
 if (decide ((i64.wrap (p1-(List.length p0:Int)))<0))=true then (some (-1)) else (sN p0 fuel (i64.wrap (p1-(List.length p0:Int))) 0)
def yM (p0:M.Instr) (p1:Int):Option Int:=
 if (decide ((i64.wrap (p1-(p0.Text.size:Int)))<0))=true then (some (-1)) else (some (i64.wrap (p1-(p0.Text.size:Int))))
def vW (p0:List M.Instr):Nat→Int→Int→Option Int
 | 0,_,_=>none
 | nL1+1,v1,v5=>if (decide (v5<(List.length p0:Int)))=true then ((idx p0 v5).bind fun x7=>((yM x7 v1).bind fun x12=>(if (decide (x12<0))=true then (some (-1)) else (vW p0 nL1 x12 (i64.wrap (v5+1)))))) else (some v1)
def xD (p0:List M.Instr) (p1:Int):Option Int:=
 if (decide ((i64.wrap (p1-(List.length p0:Int)))<0))=true then (some (-1)) else (vW p0 fuel (i64.wrap (p1-(List.length p0:Int))) 0)
def aA7 (p0:List Int) (p1:Int):Option Int:=
 if (decide ((i64.wrap (p1-(List.length p0:Int)))<0))=true then (some (-1)) else (some (i64.wrap (p1-(List.length p0:Int))))
def uP (p0:M.Machine) (p1:Int):Option Int:=
 (xD p0.Script p1).bind fun x1=>(if (decide (x1<0))=true then (some (-1)) else ((aA7 p0.Regs x1).bind fun x4=>(if (decide (x4<0))=true then (some (-1)) else (some x4))))
def aA3 (p0:M.bI) (p1:Int):Option Int:=
 if (decide ((i64.wrap (p1-(p0.Site.size:Int)))<0))=true then (some (-1)) else (if (decide ((i64.wrap ((i64.wrap (p1-(p0.Site.size:Int)))-(p0.Top.size:Int)))<0))=true then (some (-1)) else ((tO p0.aN (i64.wrap ((i64.wrap (p1-(p0.Site.size:Int)))-(p0.Top.size:Int)))).bind fun x3=>(if (decide (x3<0))=true then (some (-1)) else ((uP p0.Machine x3).bind fun x6=>(if (decide (x6<0))=true then (some (-1)) else (some x6))))))
def yD (p0:List M.bI):Nat→Int→Int→Option Int
 | 0,_,_=>none
 | nL1+1,v1,v5=>if (decide (v5<(List.length p0:Int)))=true then ((idx p0 v5).bind fun x7=>((aA3 x7 v1).bind fun x12=>(if (decide (x12<0))=true then (some (-1)) else (yD p0 nL1 x12 (i64.wrap (v5+1)))))) else (some v1)
def zB (p0:List M.bI) (p1:Int):Option Int:=
 if (decide ((i64.wrap (p1-(List.length p0:Int)))<0))=true then (some (-1)) else (yD p0 fuel (i64.wrap (p1-(List.length p0:Int))) 0)
def aBI (p0:M.cG) (p1:Int):Option Int:=
 if (decide ((i64.wrap (p1-(p0.Name.size:Int)))<0))=true then (some (-1)) else (some (i64.wrap (p1-(p0.Name.size:Int))))
def yB (p0:List M.cG):Nat→Int→Int→Option Int
 | 0,_,_=>none
 | nL1+1,v1,v5=>if (decide (v5<(List.length p0:Int)))=true then ((idx p0 v5).bind fun x7=>((aBI x7 v1).bind fun x12=>(if (decide (x12<0))=true then (some (-1)) else (yB p0 nL1 x12 (i64.wrap (v5+1)))))) else (some v1)
def yX (p0:List M.cG) (p1:Int):Option Int:=
 if (decide ((i64.wrap (p1-(List.length p0:Int)))<0))=true then (some (-1)) else (yB p0 fuel (i64.wrap (p1-(List.length p0:Int))) 0)
def oN (p0:M.aR) (p1:Int):Option Int:=
 (yX p0.Locks p1).bind fun x1=>(if (decide (x1<0))=true then (some (-1)) else (some x1))
def zI (p0:List M.fK) (p1:Int):Option Int:=
 if (decide ((i64.wrap (p1-(List.length p0:Int)))<0))=true then (some (-1)) else (some (i64.wrap (p1-(List.length p0:Int))))
def uL (p0:M.Channel) (p1:Int):Option Int:=
 (zI p0.Mails p1).bind fun x1=>(if (decide (x1<0))=true then (some (-1)) else (some x1))
def sM (p0:List ByteArray):Nat→Int→Int→Option Int
 | 0,_,_=>none
 | nL1+1,v1,v5=>if (decide (v5<(List.length p0:Int)))=true then ((idx p0 v5).bind fun x7=>(if (decide ((i64.wrap (v1-(x7.size:Int)))<0))=true then (some (-1)) else (sM p0 nL1 (i64.wrap (v1-(x7.size:Int))) (i64.wrap (v5+1))))) else (some v1)
def sQ (p0:List ByteArray) (p1:Int):Option Int:=
 if (decide ((i64.wrap (p1-(List.length p0:Int)))<0))=true then (some (-1)) else (sM p0 fuel (i64.wrap (p1-(List.length p0:Int))) 0)
def aAe (p0:M.Site) (p1:Int):Option Int:=
 if (decide ((i64.wrap (p1-(p0.Name.size:Int)))<0))=true then (some (-1)) else ((sQ p0.Files (i64.wrap (p1-(p0.Name.size:Int)))).bind fun x2=>(if (decide (x2<0))=true then (some (-1)) else (some x2)))
def xZ (p0:List M.Site):Nat→Int→Int→Option Int
 | 0,_,_=>none
 | nL1+1,v1,v5=>if (decide (v5<(List.length p0:Int)))=true then ((idx p0 v5).bind fun x7=>((aAe x7 v1).bind fun x12=>(if (decide (x12<0))=true then (some (-1)) else (xZ p0 nL1 x12 (i64.wrap (v5+1)))))) else (some v1)
def aAF (p0:List M.Site) (p1:Int):Option Int:=
 if (decide ((i64.wrap (p1-(List.length p0:Int)))<0))=true then (some (-1)) else (xZ p0 fuel (i64.wrap (p1-(List.length p0:Int))) 0)
def qT (p0:List M.aJ) (p1:Int):Option Int:=
 if (decide ((i64.wrap (p1-(List.length p0:Int)))<0))=true then (some (-1)) else (some (i64.wrap (p1-(List.length p0:Int))))
def wA (p0:M.Server) (p1:Int):Option Int:=
 (pL p0.aH p1).bind fun x1=>(if (decide (x1<0))=true then (some (-1)) else ((qT p0.aJ x1).bind fun x4=>(if (decide (x4<0))=true then (some (-1)) else ((qW p0.Changes x4).bind fun x7=>(if (decide (x7<0))=true then (some (-1)) else (some x7))))))
def sE (p0:List M.Server):Nat→Int→Int→Option Int
 | 0,_,_=>none
 | nL1+1,v1,v5=>if (decide (v5<(List.length p0:Int)))=true then ((idx p0 v5).bind fun x7=>((wA x7 v1).bind fun x12=>(if (decide (x12<0))=true then (some (-1)) else (sE p0 nL1 x12 (i64.wrap (v5+1)))))) else (some v1)
def uV (p0:List M.Server) (p1:Int):Option Int:=
 if (decide ((i64.wrap (p1-(List.length p0:Int)))<0))=true then (some (-1)) else (sE p0 fuel (i64.wrap (p1-(List.length p0:Int))) 0)
def zD (p0:M.World) (p1:Int):Option Int:=
 (sZ p0.aC p1).bind fun x1=>(if (decide (x1<0))=true then (some (-1)) else ((zB p0.Pages x1).bind fun x4=>(if (decide (x4<0))=true then (some (-1)) else ((oN p0.Locks x4).bind fun x7=>(if (decide (x7<0))=true then (some (-1)) else ((uL p0.Channel x7).bind fun x10=>(if (decide (x10<0))=true then (some (-1)) else ((aAF p0.Sites x10).bind fun x13=>(if (decide (x13<0))=true then (some (-1)) else ((uV p0.Servers x13).bind fun x16=>(if (decide (x16<0))=true then (some (-1)) else (some x16))))))))))))
def kM (p0:M.Registration):Option M.Registration:=
 some p0
def mM (p0:List Int):Nat→Int→List Int→Option (List Int)
 | 0,_,_=>none
 | nL1+1,v4,r7=>if (decide (v4<(List.length p0:Int)))=true then ((idx p0 v4).bind fun x13=>((idx r7 v4).bind fun x18=>(mM p0 nL1 (i64.wrap (v4+1)) (List.set r7 v4.toNat x13)))) else (some r7)
def vD (p0:List Int):Option (List Int):=
 (mkL 1 (List.length p0:Int) 0).bind fun x1=>(mM p0 fuel 0 (List.replicate (List.length p0:Int).toNat 0))
def qM (p0:M.Response):Option M.Response:=
 (vD p0.Body).bind fun x1=>(some (⟨p0.Type_,p0.Status,p0.Version,x1,p0.Shares⟩:M.Response))
def wS (p0:M.Cached):Option M.Cached:=
 (qM p0.Response).bind fun x1=>(some (⟨p0.Site,p0.Path,x1⟩:M.Cached))
def jM (p0:List M.Cached):Nat→Int→List M.Cached→Option (List M.Cached)
 | 0,_,_=>none
 | nL1+1,v4,r7=>if (decide (v4<(List.length p0:Int)))=true then ((idx p0 v4).bind fun x13=>((wS x13).bind fun x18=>((idx r7 v4).bind fun x20=>(jM p0 nL1 (i64.wrap (v4+1)) (List.set r7 v4.toNat x18))))) else (some r7)
def uC (p0:List M.Cached):Option (List M.Cached):=
 (mkL 88 (List.length p0:Int) (⟨(⟨#[]⟩:ByteArray),(⟨#[]⟩:ByteArray),(⟨0,0,0,([]:List Int),false⟩:M.Response)⟩:M.Cached)).bind fun x1=>(jM p0 fuel 0 (List.replicate (List.length p0:Int).toNat (⟨(⟨#[]⟩:ByteArray),(⟨#[]⟩:ByteArray),(⟨0,0,0,([]:List Int),false⟩:M.Response)⟩:M.Cached)))
def yV (p0:M.Cache):Option M.Cache:=
 (uC p0.Entries).bind fun x1=>(some (⟨p0.Version,x1⟩:M.Cache))
def lC (p0:List M.Cache):Nat→Int→List M.Cache→Option (List M.Cache)
 | 0,_,_=>none
 | nL1+1,v4,r7=>if (decide (v4<(List.length p0:Int)))=true then ((idx p0 v4).bind fun x13=>((yV x13).bind fun x18=>((idx r7 v4).bind fun x20=>(lC p0 nL1 (i64.wrap (v4+1)) (List.set r7 v4.toNat x18))))) else (some r7)
def xC (p0:List M.Cache):Option (List M.Cache):=
 (mkL 32 (List.length p0:Int) (⟨0,([]:List M.Cached)⟩:M.Cache)).bind fun x1=>(lC p0 fuel 0 (List.replicate (List.length p0:Int).toNat (⟨0,([]:List M.Cached)⟩:M.Cache)))
def qR (p0:M.aM):Option M.aM:=
 (xC p0.Caches).bind fun x1=>(some (⟨x1⟩:M.aM))
def aAP (p0:M.Key):Option M.Key:=
 some p0
def zU (p0:M.Field):Option M.Field:=
 some p0
def kQ (p0:List M.Field):Nat→Int→List M.Field→Option (List M.Field)
 | 0,_,_=>none
 | nL1+1,v4,r7=>if (decide (v4<(List.length p0:Int)))=true then ((idx p0 v4).bind fun x13=>((zU x13).bind fun x18=>((idx r7 v4).bind fun x20=>(kQ p0 nL1 (i64.wrap (v4+1)) (List.set r7 v4.toNat x18))))) else (some r7)
def xS (p0:List M.Field):Option (List M.Field):=
 (mkL 24 (List.length p0:Int) (⟨(⟨#[]⟩:ByteArray),0⟩:M.Field)).bind fun x1=>(kQ p0 fuel 0 (List.replicate (List.length p0:Int).toNat (⟨(⟨#[]⟩:ByteArray),0⟩:M.Field)))
def wQ (p0:M.aU):Option M.aU:=
 (xS p0.Fields).bind fun x1=>(some (⟨x1⟩:M.aU))
def aAX (p0:M.Item):Option M.Item:=
 (aAP p0.Key).bind fun x1=>((wQ p0.aU).bind fun x3=>(some (⟨x1,x3⟩:M.Item)))
def mO (p0:List M.Item):Nat→Int→List M.Item→Option (List M.Item)
 | 0,_,_=>none
 | nL1+1,v4,r7=>if (decide (v4<(List.length p0:Int)))=true then ((idx p0 v4).bind fun x13=>((aAX x13).bind fun x18=>((idx r7 v4).bind fun x20=>(mO p0 nL1 (i64.wrap (v4+1)) (List.set r7 v4.toNat x18))))) else (some r7)
def yU (p0:List M.Item):Option (List M.Item):=
 (mkL 56 (List.length p0:Int) (⟨(⟨0,0,(⟨#[]⟩:ByteArray)⟩:M.Key),(⟨([]:List M.Field)⟩:M.aU)⟩:M.Item)).bind fun x1=>(mO p0 fuel 0 (List.replicate (List.length p0:Int).toNat (⟨(⟨0,0,(⟨#[]⟩:ByteArray)⟩:M.Key),(⟨([]:List M.Field)⟩:M.aU)⟩:M.Item)))
def pR (p0:M.aH):Option M.aH:=
 (yU p0.Items).bind fun x1=>(some (⟨p0.Name,x1,p0.Auto⟩:M.aH))
def kY (p0:List M.aH):Nat→Int→List M.aH→Option (List M.aH)
 | 0,_,_=>none
 | nL1+1,v4,r7=>if (decide (v4<(List.length p0:Int)))=true then ((idx p0 v4).bind fun x13=>((pR x13).bind fun x18=>((idx r7 v4).bind fun x20=>(kY p0 nL1 (i64.wrap (v4+1)) (List.set r7 v4.toNat x18))))) else (some r7)
def wJ (p0:List M.aH):Option (List M.aH):=
 (mkL 48 (List.length p0:Int) (⟨(⟨#[]⟩:ByteArray),([]:List M.Item),0⟩:M.aH)).bind fun x1=>(kY p0 fuel 0 (List.replicate (List.length p0:Int).toNat (⟨(⟨#[]⟩:ByteArray),([]:List M.Item),0⟩:M.aH)))
def rN (p0:M.aD):Option M.aD:=
 some p0
def iJ (p0:List M.aD):Nat→Int→List M.aD→Option (List M.aD)
 | 0,_,_=>none
 | nL1+1,v4,r7=>if (decide (v4<(List.length p0:Int)))=true then ((idx p0 v4).bind fun x13=>((rN x13).bind fun x18=>((idx r7 v4).bind fun x20=>(iJ p0 nL1 (i64.wrap (v4+1)) (List.set r7 v4.toNat x18))))) else (some r7)
def oZ (p0:List M.aD):Option (List M.aD):=
 (mkL 32 (List.length p0:Int) (⟨(⟨#[]⟩:ByteArray),(⟨#[]⟩:ByteArray)⟩:M.aD)).bind fun x1=>(iJ p0 fuel 0 (List.replicate (List.length p0:Int).toNat (⟨(⟨#[]⟩:ByteArray),(⟨#[]⟩:ByteArray)⟩:M.aD)))
def pZ (p0:M.Database):Option M.Database:=
 (wJ p0.Stores).bind fun x1=>((oZ p0.Unique).bind fun x3=>(some (⟨p0.Name,p0.Version,x1,x3⟩:M.Database)))
def aBC (p0:M.bB):Option M.bB:=
 (pZ p0.Base).bind fun x1=>((vD p0.Log).bind fun x3=>(some (⟨x1,x3,p0.Count⟩:M.bB)))
def zF (p0:M.aY):Option M.aY:=
 (aAP p0.Key).bind fun x1=>(some (⟨p0.Device,p0.Seq,x1,p0.Field,p0.N⟩:M.aY))
def lD (p0:List M.aY):Nat→Int→List M.aY→Option (List M.aY)
 | 0,_,_=>none
 | nL1+1,v4,r7=>if (decide (v4<(List.length p0:Int)))=true then ((idx p0 v4).bind fun x13=>((zF x13).bind fun x18=>((idx r7 v4).bind fun x20=>(lD p0 nL1 (i64.wrap (v4+1)) (List.set r7 v4.toNat x18))))) else (some r7)
def rA (p0:List M.aY):Option (List M.aY):=
 (mkL 72 (List.length p0:Int) (⟨0,0,(⟨0,0,(⟨#[]⟩:ByteArray)⟩:M.Key),(⟨#[]⟩:ByteArray),0⟩:M.aY)).bind fun x1=>(lD p0 fuel 0 (List.replicate (List.length p0:Int).toNat (⟨0,0,(⟨0,0,(⟨#[]⟩:ByteArray)⟩:M.Key),(⟨#[]⟩:ByteArray),0⟩:M.aY)))
def wD (p0:M.aV):Option M.aV:=
 (rA p0.Writes).bind fun x1=>(some (⟨p0.Device,p0.Next,x1⟩:M.aV))
def aA5 (p0:M.Sync):Option M.Sync:=
 (wD p0.aV).bind fun x1=>(some (⟨x1,p0.Tries,p0.WaitUntil⟩:M.Sync))
def uD (p0:M.aE):Option M.aE:=
 (pR p0.Base).bind fun x1=>((aA5 p0.Sync).bind fun x3=>(some (⟨x1,p0.Seen,x3⟩:M.aE)))
def xE (p0:M.aA):Option M.aA:=
 (kM p0.Registration).bind fun x1=>((qR p0.Caches).bind fun x3=>((aBC p0.bB).bind fun x5=>((uD p0.aE).bind fun x7=>(some (⟨p0.Site,p0.Top,x1,x3,x5,x7,p0.LastUsed,p0.Persistent⟩:M.aA)))))
def jX (p0:List M.aA):Nat→Int→List M.aA→Option (List M.aA)
 | 0,_,_=>none
 | nL1+1,v4,r7=>if (decide (v4<(List.length p0:Int)))=true then ((idx p0 v4).bind fun x13=>((xE x13).bind fun x18=>((idx r7 v4).bind fun x20=>(jX p0 nL1 (i64.wrap (v4+1)) (List.set r7 v4.toNat x18))))) else (some r7)
def uT (p0:List M.aA):Option (List M.aA):=
 (mkL 328 (List.length p0:Int) (⟨(⟨#[]⟩:ByteArray),(⟨#[]⟩:ByteArray),(⟨(⟨#[]⟩:ByteArray),0,0,0⟩:M.Registration),(⟨([]:List M.Cache)⟩:M.aM),(⟨(⟨(⟨#[]⟩:ByteArray),0,([]:List M.aH),([]:List M.aD)⟩:M.Database),([]:List Int),0⟩:M.bB),(⟨(⟨(⟨#[]⟩:ByteArray),([]:List M.Item),0⟩:M.aH),0,(⟨(⟨0,0,([]:List M.aY)⟩:M.aV),0,0⟩:M.Sync)⟩:M.aE),0,false⟩:M.aA)).bind fun x1=>(jX p0 fuel 0 (List.replicate (List.length p0:Int).toNat (⟨(⟨#[]⟩:ByteArray),(⟨#[]⟩:ByteArray),(⟨(⟨#[]⟩:ByteArray),0,0,0⟩:M.Registration),(⟨([]:List M.Cache)⟩:M.aM),(⟨(⟨(⟨#[]⟩:ByteArray),0,([]:List M.aH),([]:List M.aD)⟩:M.Database),([]:List Int),0⟩:M.bB),(⟨(⟨(⟨#[]⟩:ByteArray),([]:List M.Item),0⟩:M.aH),0,(⟨(⟨0,0,([]:List M.aY)⟩:M.aV),0,0⟩:M.Sync)⟩:M.aE),0,false⟩:M.aA)))
def tU (p0:M.aC):Option M.aC:=
 (uT p0.Buckets).bind fun x1=>(some (⟨x1⟩:M.aC))
def vY (p0:M.aN):Option M.aN:=
 some p0
def jW (p0:List M.aN):Nat→Int→List M.aN→Option (List M.aN)
 | 0,_,_=>none
 | nL1+1,v4,r7=>if (decide (v4<(List.length p0:Int)))=true then ((idx p0 v4).bind fun x13=>((vY x13).bind fun x18=>((idx r7 v4).bind fun x20=>(jW p0 nL1 (i64.wrap (v4+1)) (List.set r7 v4.toNat x18))))) else (some r7)
def tP (p0:List M.aN):Option (List M.aN):=
 (mkL 24 (List.length p0:Int) (⟨(⟨#[]⟩:ByteArray),0⟩:M.aN)).bind fun x1=>(jW p0 fuel 0 (List.replicate (List.length p0:Int).toNat (⟨(⟨#[]⟩:ByteArray),0⟩:M.aN)))
def zV (p0:M.Instr):Option M.Instr:=
 some p0
def kP (p0:List M.Instr):Nat→Int→List M.Instr→Option (List M.Instr)
 | 0,_,_=>none
 | nL1+1,v4,r7=>if (decide (v4<(List.length p0:Int)))=true then ((idx p0 v4).bind fun x13=>((zV x13).bind fun x18=>((idx r7 v4).bind fun x20=>(kP p0 nL1 (i64.wrap (v4+1)) (List.set r7 v4.toNat x18))))) else (some r7)
def xT (p0:List M.Instr):Option (List M.Instr):=
 (mkL 40 (List.length p0:Int) (⟨0,0,0,(⟨#[]⟩:ByteArray)⟩:M.Instr)).bind fun x1=>(kP p0 fuel 0 (List.replicate (List.length p0:Int).toNat (⟨0,0,0,(⟨#[]⟩:ByteArray)⟩:M.Instr)))
def nU (p0:List Int):Nat→Int→List Int→Option (List Int)
 | 0,_,_=>none
 | nL1+1,v4,r7=>if (decide (v4<(List.length p0:Int)))=true then ((idx p0 v4).bind fun x13=>((idx r7 v4).bind fun x18=>(nU p0 nL1 (i64.wrap (v4+1)) (List.set r7 v4.toNat x13)))) else (some r7)
def aAj (p0:List Int):Option (List Int):=
 (mkL 8 (List.length p0:Int) 0).bind fun x1=>(nU p0 fuel 0 (List.replicate (List.length p0:Int).toNat 0))
def tJ (p0:M.Machine):Option M.Machine:=
 (xT p0.Script).bind fun x1=>((aAj p0.Regs).bind fun x3=>(some (⟨x1,p0.Pc,x3,p0.Steps,p0.Done,p0.Wait⟩:M.Machine)))
def aAa (p0:M.bI):Option M.bI:=
 (tP p0.aN).bind fun x1=>((tJ p0.Machine).bind fun x3=>(some (⟨p0.Id,p0.Site,p0.Top,p0.Version,x1,x3⟩:M.bI)))
def mJ (p0:List M.bI):Nat→Int→List M.bI→Option (List M.bI)
 | 0,_,_=>none
 | nL1+1,v4,r7=>if (decide (v4<(List.length p0:Int)))=true then ((idx p0 v4).bind fun x13=>((aAa x13).bind fun x18=>((idx r7 v4).bind fun x20=>(mJ p0 nL1 (i64.wrap (v4+1)) (List.set r7 v4.toNat x18))))) else (some r7)
def zC (p0:List M.bI):Option (List M.bI):=
 (mkL 144 (List.length p0:Int) (⟨0,(⟨#[]⟩:ByteArray),(⟨#[]⟩:ByteArray),0,([]:List M.aN),(⟨([]:List M.Instr),0,([]:List Int),0,false,false⟩:M.Machine)⟩:M.bI)).bind fun x1=>(mJ p0 fuel 0 (List.replicate (List.length p0:Int).toNat (⟨0,(⟨#[]⟩:ByteArray),(⟨#[]⟩:ByteArray),0,([]:List M.aN),(⟨([]:List M.Instr),0,([]:List Int),0,false,false⟩:M.Machine)⟩:M.bI)))
def aAn (p0:M.cG):Option M.cG:=
 some p0
def mA (p0:List M.cG):Nat→Int→List M.cG→Option (List M.cG)
 | 0,_,_=>none
 | nL1+1,v4,r7=>if (decide (v4<(List.length p0:Int)))=true then ((idx p0 v4).bind fun x13=>((aAn x13).bind fun x18=>((idx r7 v4).bind fun x20=>(mA p0 nL1 (i64.wrap (v4+1)) (List.set r7 v4.toNat x18))))) else (some r7)
def yW (p0:List M.cG):Option (List M.cG):=
 (mkL 32 (List.length p0:Int) (⟨(⟨#[]⟩:ByteArray),0,false,false⟩:M.cG)).bind fun x1=>(mA p0 fuel 0 (List.replicate (List.length p0:Int).toNat (⟨(⟨#[]⟩:ByteArray),0,false,false⟩:M.cG)))
def oO (p0:M.aR):Option M.aR:=
 (yW p0.Locks).bind fun x1=>(some (⟨x1⟩:M.aR))
def aAy (p0:M.fK):Option M.fK:=
 some p0
def mC (p0:List M.fK):Nat→Int→List M.fK→Option (List M.fK)
 | 0,_,_=>none
 | nL1+1,v4,r7=>if (decide (v4<(List.length p0:Int)))=true then ((idx p0 v4).bind fun x13=>((aAy x13).bind fun x18=>((idx r7 v4).bind fun x20=>(mC p0 nL1 (i64.wrap (v4+1)) (List.set r7 v4.toNat x18))))) else (some r7)
def yO (p0:List M.fK):Option (List M.fK):=
 (mkL 24 (List.length p0:Int) (⟨0,0,0⟩:M.fK)).bind fun x1=>(mC p0 fuel 0 (List.replicate (List.length p0:Int).toNat (⟨0,0,0⟩:M.fK)))
def tB (p0:M.Channel):Option M.Channel:=
 (yO p0.Mails).bind fun x1=>(some (⟨x1⟩:M.Channel))
def jO (p0:List ByteArray):Nat→Int→List ByteArray→Option (List ByteArray)
 | 0,_,_=>none
 | nL1+1,v4,r7=>if (decide (v4<(List.length p0:Int)))=true then ((idx p0 v4).bind fun x13=>((idx r7 v4).bind fun x18=>(jO p0 nL1 (i64.wrap (v4+1)) (List.set r7 v4.toNat x13)))) else (some r7)
def uO (p0:List ByteArray):Option (List ByteArray):=
 (mkL 16 (List.length p0:Int) (⟨#[]⟩:ByteArray)).bind fun x1=>(jO p0 fuel 0 (List.replicate (List.length p0:Int).toNat (⟨#[]⟩:ByteArray)))
def aAu (p0:M.Site):Option M.Site:=
 (uO p0.Files).bind fun x1=>(some (⟨p0.Name,p0.Version,x1,p0.Shared⟩:M.Site))
def mK (p0:List M.Site):Nat→Int→List M.Site→Option (List M.Site)
 | 0,_,_=>none
 | nL1+1,v4,r7=>if (decide (v4<(List.length p0:Int)))=true then ((idx p0 v4).bind fun x13=>((aAu x13).bind fun x18=>((idx r7 v4).bind fun x20=>(mK p0 nL1 (i64.wrap (v4+1)) (List.set r7 v4.toNat x18))))) else (some r7)
def zJ (p0:List M.Site):Option (List M.Site):=
 (mkL 56 (List.length p0:Int) (⟨(⟨#[]⟩:ByteArray),0,([]:List ByteArray),false⟩:M.Site)).bind fun x1=>(mK p0 fuel 0 (List.replicate (List.length p0:Int).toNat (⟨(⟨#[]⟩:ByteArray),0,([]:List ByteArray),false⟩:M.Site)))
def uI (p0:M.aJ):Option M.aJ:=
 some p0
def jD (p0:List M.aJ):Nat→Int→List M.aJ→Option (List M.aJ)
 | 0,_,_=>none
 | nL1+1,v4,r7=>if (decide (v4<(List.length p0:Int)))=true then ((idx p0 v4).bind fun x13=>((uI x13).bind fun x18=>((idx r7 v4).bind fun x20=>(jD p0 nL1 (i64.wrap (v4+1)) (List.set r7 v4.toNat x18))))) else (some r7)
def rE (p0:List M.aJ):Option (List M.aJ):=
 (mkL 16 (List.length p0:Int) (⟨0,0⟩:M.aJ)).bind fun x1=>(jD p0 fuel 0 (List.replicate (List.length p0:Int).toNat (⟨0,0⟩:M.aJ)))
def xQ (p0:M.Server):Option M.Server:=
 (pR p0.aH).bind fun x1=>((rE p0.aJ).bind fun x3=>((rA p0.Changes).bind fun x5=>(some (⟨x1,x3,x5⟩:M.Server))))
def jT (p0:List M.Server):Nat→Int→List M.Server→Option (List M.Server)
 | 0,_,_=>none
 | nL1+1,v4,r7=>if (decide (v4<(List.length p0:Int)))=true then ((idx p0 v4).bind fun x13=>((xQ x13).bind fun x18=>((idx r7 v4).bind fun x20=>(jT p0 nL1 (i64.wrap (v4+1)) (List.set r7 v4.toNat x18))))) else (some r7)
def tQ (p0:List M.Server):Option (List M.Server):=
 (mkL 96 (List.length p0:Int) (⟨(⟨(⟨#[]⟩:ByteArray),([]:List M.Item),0⟩:M.aH),([]:List M.aJ),([]:List M.aY)⟩:M.Server)).bind fun x1=>(jT p0 fuel 0 (List.replicate (List.length p0:Int).toNat (⟨(⟨(⟨#[]⟩:ByteArray),([]:List M.Item),0⟩:M.aH),([]:List M.aJ),([]:List M.aY)⟩:M.Server)))
def lZ (p0:M.World):Option M.World:=
 (tU p0.aC).bind fun x1=>((zC p0.Pages).bind fun x3=>((oO p0.Locks).bind fun x5=>((tB p0.Channel).bind fun x7=>((zJ p0.Sites).bind fun x9=>((tQ p0.Servers).bind fun x11=>(some (⟨p0.Now,p0.Online,p0.Device,x1,x3,p0.NextPage,x5,x7,x9,x11⟩:M.World)))))))
def fO (p0:M.aC) (p1:ByteArray) (p2:ByteArray):Nat→Int→Option Int
 | 0,_=>none
 | nL1+1,v7=>if (decide (v7<(List.length p0.Buckets:Int)))=true then ((idx p0.Buckets v7).bind fun x8=>(if (x8.Site.toList==p1.toList)=true then (if (x8.Top.toList==p2.toList)=true then (some v7) else (fO p0 p1 p2 nL1 (i64.wrap (v7+1)))) else (fO p0 p1 p2 nL1 (i64.wrap (v7+1))))) else (some (-1))
def iS (p0:M.aC) (p1:ByteArray) (p2:ByteArray):Option Int:=
 fO p0 p1 p2 fuel 0
def bJ (p0:Int) (p1:Int) (p2:Int):Option Bool:=
 if (decide (p0≥p1))=true then (some (decide (p0≤p2))) else (some false)
def jG (p0:ByteArray):Nat→Int→Option Bool
 | 0,_=>none
 | nL1+1,v3=>if (decide (v3<(p0.size:Int)))=true then ((aN5 p0 v3).bind fun x5=>(if (decide ((x5.toNat:Int)<97))=true then (some false) else (if (decide ((x5.toNat:Int)>122))=true then (some false) else (jG p0 nL1 (i64.wrap (v3+1)))))) else ((bJ (p0.size:Int) 1 8).bind fun x11=>(some x11))
def cJ (p0:ByteArray):Option Bool:=
 jG p0 fuel 0
def iC (p0:M.Site):Nat→Int→Option Bool
 | 0,_=>none
 | nL1+1,v3=>if (decide (v3<(List.length p0.Files:Int)))=true then ((idx p0.Files v3).bind fun x6=>((cJ x6).bind fun x11=>(if (!x11)=true then (some false) else (if (decide (v3>0))=true then ((idx p0.Files (i64.wrap (v3-1))).bind fun x15=>(if (!(Op.bytesLess x15.toList x6.toList))=true then (some false) else (iC p0 nL1 (i64.wrap (v3+1))))) else (iC p0 nL1 (i64.wrap (v3+1))))))) else ((cJ p0.Name).bind fun x21=>(if x21=true then ((bJ p0.Version 1 1000000000000).bind fun x24=>(if x24=true then ((bJ (List.length p0.Files:Int) 1 6).bind fun x27=>(some x27)) else (some false))) else (some false)))
def aA6 (p0:M.Site):Option Bool:=
 iC p0 fuel 0
def aAm  : Option (List ByteArray):=
 some ([(⟨#[98,97,110,107]⟩:ByteArray),(⟨#[110,101,119,115]⟩:ByteArray),(⟨#[115,104,111,112]⟩:ByteArray)])
def gL (p0:ByteArray):Nat→Int→Option Bool
 | 0,_=>none
 | nL1+1,v3=>if (decide (v3<(p0.size:Int)))=true then ((aN5 p0 v3).bind fun x5=>(if (decide ((x5.toNat:Int)<97))=true then (if (decide ((x5.toNat:Int)<48))=true then (some false) else (if (decide ((x5.toNat:Int)>57))=true then (some false) else (gL p0 nL1 (i64.wrap (v3+1))))) else (if (decide ((x5.toNat:Int)>122))=true then (if (decide ((x5.toNat:Int)<48))=true then (some false) else (if (decide ((x5.toNat:Int)>57))=true then (some false) else (gL p0 nL1 (i64.wrap (v3+1))))) else (gL p0 nL1 (i64.wrap (v3+1)))))) else (some (decide ((p0.size:Int)≤12)))
def xU (p0:ByteArray):Option Bool:=
 gL p0 fuel 0
def nX (p0:M.Key):Option Bool:=
 (bJ p0.Kind 1 3).bind fun x1=>(if x1=true then ((bJ p0.N (-1000000000000) 1000000000000).bind fun x4=>(if x4=true then (if (p0.Kind != 2)=true then ((xU p0.Text).bind fun x8=>(if x8=true then (if (p0.Kind != 1)=true then (some true) else (some (p0.Text.toList==(⟨#[]⟩:ByteArray).toList))) else (some false))) else (if (p0.N==0)=true then ((xU p0.Text).bind fun x13=>(if x13=true then (if (p0.Kind != 1)=true then (some true) else (some (p0.Text.toList==(⟨#[]⟩:ByteArray).toList))) else (some false))) else (some false))) else (some false))) else (some false))
def jE (p0:M.aY):Option Bool:=
 (bJ p0.Device 1 1000000).bind fun x1=>(if x1=true then ((bJ p0.Seq 1 1000000).bind fun x4=>(if x4=true then ((nX p0.Key).bind fun x7=>(if x7=true then ((cJ p0.Field).bind fun x10=>(if x10=true then ((bJ p0.N 0 1000000000).bind fun x13=>(some x13)) else (some false))) else (some false))) else (some false))) else (some false))
def fW (p0:M.aU):Nat→Int→Option Bool
 | 0,_=>none
 | nL1+1,v3=>if (decide (v3<(List.length p0.Fields:Int)))=true then ((idx p0.Fields v3).bind fun x6=>((cJ x6.Name).bind fun x11=>(if (!x11)=true then (some false) else ((bJ x6.N 0 1000000000).bind fun x14=>(if (!x14)=true then (some false) else (if (decide (v3>0))=true then ((idx p0.Fields (i64.wrap (v3-1))).bind fun x18=>(if (!(Op.bytesLess x18.Name.toList x6.Name.toList))=true then (some false) else (fW p0 nL1 (i64.wrap (v3+1))))) else (fW p0 nL1 (i64.wrap (v3+1))))))))) else (some (decide ((List.length p0.Fields:Int)≤6)))
def rP (p0:M.aU):Option Bool:=
 fW p0 fuel 0
def xW (p0:Bool) (p1:Bool):Option Int:=
 if p0=true then (some (-1)) else (if p1=true then (some 1) else (some 0))
def kZ (p0:M.Key) (p1:M.Key):Option Int:=
 (nX p0).bind fun x1=>(if (!x1)=true then (some 0) else ((nX p1).bind fun x4=>(if (!x4)=true then (some 0) else (if (p0.Kind != p1.Kind)=true then ((xW (decide (p0.Kind<p1.Kind)) true).bind fun x8=>(some x8)) else (if (p0.N != p1.N)=true then ((xW (decide (p0.N<p1.N)) true).bind fun x11=>(some x11)) else ((xW (Op.bytesLess p0.Text.toList p1.Text.toList) (!(Op.bytesLess p0.Text.toList p1.Text.toList||p0.Text.toList==p1.Text.toList))).bind fun x13=>(some x13)))))))
def gX (p0:M.aH):Nat→Int→Option Bool
 | 0,_=>none
 | nL1+1,v3=>if (decide (v3<(List.length p0.Items:Int)))=true then ((idx p0.Items v3).bind fun x6=>((nX x6.Key).bind fun x11=>(if (!x11)=true then (some false) else ((rP x6.aU).bind fun x14=>(if (!x14)=true then (some false) else (if (decide (v3>0))=true then ((idx p0.Items (i64.wrap (v3-1))).bind fun x18=>((kZ x18.Key x6.Key).bind fun x23=>(if (decide (x23≥0))=true then (some false) else (gX p0 nL1 (i64.wrap (v3+1)))))) else (gX p0 nL1 (i64.wrap (v3+1))))))))) else ((cJ p0.Name).bind fun x26=>(if x26=true then (if (decide ((List.length p0.Items:Int)≤16))=true then ((bJ p0.Auto 0 1000000).bind fun x30=>(some x30)) else (some false)) else (some false)))
def pO (p0:M.aH):Option Bool:=
 gX p0 fuel 0
def hP (p0:M.Server):Nat→Int→Option Bool
 | 0,_=>none
 | nL2+1,v4=>if (decide (v4<(List.length p0.Changes:Int)))=true then ((idx p0.Changes v4).bind fun x29=>((jE x29).bind fun x34=>(if (!x34)=true then (some false) else (hP p0 nL2 (i64.wrap (v4+1)))))) else ((pO p0.aH).bind fun x37=>(if x37=true then (if (p0.aH.Name.toList==(⟨#[110,111,116,101,115]⟩:ByteArray).toList)=true then (some (decide ((List.length p0.aJ:Int)≤60))) else (some false)) else (some false)))
def fY (p0:M.Server):Nat→Int→Option Bool
 | 0,_=>none
 | nL1+1,v3=>if (decide (v3<(List.length p0.aJ:Int)))=true then ((idx p0.aJ v3).bind fun x6=>((bJ x6.Device 1 1000000).bind fun x11=>(if (!x11)=true then (some false) else ((bJ x6.Seq 0 1000000).bind fun x14=>(if (!x14)=true then (some false) else (if (decide (v3>0))=true then ((idx p0.aJ (i64.wrap (v3-1))).bind fun x18=>(if (decide (x18.Device≥x6.Device))=true then (some false) else (fY p0 nL1 (i64.wrap (v3+1))))) else (fY p0 nL1 (i64.wrap (v3+1))))))))) else (hP p0 fuel 0)
def xM (p0:M.Server):Option Bool:=
 fY p0 fuel 0
def lF (p0:M.bI):Nat→Int→Option Bool
 | 0,_=>none
 | nL1+1,v3=>if (decide (v3<(List.length p0.aN:Int)))=true then ((idx p0.aN v3).bind fun x6=>((cJ x6.Path).bind fun x11=>(if (!x11)=true then (some false) else (if (x6.Version != p0.Version)=true then (some false) else (lF p0 nL1 (i64.wrap (v3+1))))))) else ((bJ p0.Id 1 1000000000000).bind fun x15=>(if x15=true then ((cJ p0.Site).bind fun x18=>(if x18=true then ((cJ p0.Top).bind fun x21=>(if x21=true then ((bJ p0.Version 1 1000000000000).bind fun x24=>(if x24=true then (some (decide ((List.length p0.aN:Int)≤8))) else (some false))) else (some false))) else (some false))) else (some false)))
def aBK (p0:M.bI):Option Bool:=
 lF p0 fuel 0
def bO (p0:M.Registration):Nat→Int→Int→Option Bool
 | 0,_,_=>none
 | nL1+1,v3,v5=>if (decide (v5<((3:Nat):Int)))=true then ((idx ([p0.Active,p0.Waiting,p0.Installing]) v5).bind fun x15=>((bJ x15 0 1000000000000).bind fun x20=>(if (!x20)=true then (some false) else (if (x15 != 0)=true then (if (decide (x15≤v3))=true then (some false) else (bO p0 nL1 x15 (i64.wrap (v5+1)))) else (bO p0 nL1 v3 (i64.wrap (v5+1))))))) else ((cJ p0.Site).bind fun x25=>(some x25))
def fA (p0:M.Registration):Option Bool:=
 bO p0 fuel 0 0
def qX (p0:M.Response):Option Bool:=
 (bJ p0.Type_ 1 4).bind fun x1=>(if x1=true then ((bJ p0.Status 0 999).bind fun x4=>(if x4=true then ((bJ p0.Version 0 1000000000000).bind fun x7=>(if x7=true then (some (decide ((List.length p0.Body:Int)≤60))) else (some false))) else (some false))) else (some false))
def fN (p0:List M.Cached) (v3:Int) (x5:M.Cached) (k20:Int→Option Bool):Nat→Int→Option Bool
 | 0,_=>none
 | nL2+1,v4_L2=>if (decide (v4_L2<v3))=true then ((idx p0 v4_L2).bind fun x26=>(if (x26.Site.toList==x5.Site.toList)=true then (if (x26.Path.toList==x5.Path.toList)=true then (some false) else (fN p0 v3 x5 k20 nL2 (i64.wrap (v4_L2+1)))) else (fN p0 v3 x5 k20 nL2 (i64.wrap (v4_L2+1))))) else (k20 v4_L2)
def eK (p0:List M.Cached):Nat→Int→Option Bool
 | 0,_=>none
 | nL1+1,v3=>if (decide (v3<(List.length p0:Int)))=true then ((idx p0 v3).bind fun x5=>((cJ x5.Site).bind fun x10=>(if (!x10)=true then (some false) else ((cJ x5.Path).bind fun x13=>(if (!x13)=true then (some false) else ((qX x5.Response).bind fun x16=>(if (!x16)=true then (some false) else (fN p0 v3 x5 (fun (v4_L2:Int)=>eK p0 nL1 (i64.wrap (v3+1))) fuel 0)))))))) else (some (decide ((List.length p0:Int)≤12)))
def mE (p0:List M.Cached):Option Bool:=
 eK p0 fuel 0
def eH (p0:M.aM):Nat→Int→Option Bool
 | 0,_=>none
 | nL1+1,v3=>if (decide (v3<(List.length p0.Caches:Int)))=true then ((idx p0.Caches v3).bind fun x6=>((bJ x6.Version 1 1000000000000).bind fun x11=>(if (!x11)=true then (some false) else (if (decide (v3>0))=true then ((idx p0.Caches (i64.wrap (v3-1))).bind fun x15=>(if (decide (x15.Version≥x6.Version))=true then (some false) else ((mE x6.Entries).bind fun x21=>(if (!x21)=true then (some false) else (eH p0 nL1 (i64.wrap (v3+1))))))) else ((mE x6.Entries).bind fun x24=>(if (!x24)=true then (some false) else (eH p0 nL1 (i64.wrap (v3+1))))))))) else (some (decide ((List.length p0.Caches:Int)≤4)))
def rC (p0:M.aM):Option Bool:=
 eH p0 fuel 0
def iI (p0:M.Database) (p1:ByteArray):Nat→Int→Option Int
 | 0,_=>none
 | nL1+1,v5=>if (decide (v5<(List.length p0.Stores:Int)))=true then ((idx p0.Stores v5).bind fun x7=>(if (x7.Name.toList==p1.toList)=true then (some v5) else (iI p0 p1 nL1 (i64.wrap (v5+1))))) else (some (-1))
def tA (p0:M.Database) (p1:ByteArray):Option Int:=
 iI p0 p1 fuel 0
def kW (p0:M.aU) (p1:ByteArray):Nat→Int→Option (Int×Bool)
 | 0,_=>none
 | nL1+1,v6=>if (decide (v6<(List.length p0.Fields:Int)))=true then ((idx p0.Fields v6).bind fun x7=>(if (x7.Name.toList==p1.toList)=true then (some (x7.N,true)) else (kW p0 p1 nL1 (i64.wrap (v6+1))))) else (some (0,false))
def kG (p0:M.aU) (p1:ByteArray):Option (Int×Bool):=
 kW p0 p1 fuel 0
def aBJ (p0:M.Item) (p1:M.Item) (p2:ByteArray):Option Bool:=
 (kG p0.aU p2).bind fun x1=>((kG p1.aU p2).bind fun x3=>(if (decide (x1.1<x3.1))=true then (some true) else (if (x1.1==x3.1)=true then ((kZ p0.Key p1.Key).bind fun x7=>(some (decide (x7<0)))) else (some false))))
def aAs (p0:M.aU):Option M.aU:=
 (app 24 ([]:List M.Field) p0.Fields).bind fun x1=>(some p0)
def xY (p0:M.Item):Option M.Item:=
 (aAs p0.aU).bind fun x1=>(some (⟨p0.Key,x1⟩:M.Item))
def gN (p1:ByteArray) (r50000:List M.Item) (x15:M.Item) (k24:Int→Option (List M.Item)):Nat→Int→Option (List M.Item)
 | 0,_=>none
 | nL2+1,v9_L2=>if (decide (v9_L2>0))=true then ((idx r50000 (i64.wrap (v9_L2-1))).bind fun x34=>((aBJ x15 x34 p1).bind fun x39=>(if x39=true then (gN p1 r50000 x15 k24 nL2 (i64.wrap (v9_L2-1))) else (k24 v9_L2)))) else (k24 v9_L2)
def gQ (p0:M.aH) (p1:ByteArray):Nat→Int→List M.Item→Option (List M.Item)
 | 0,_,_=>none
 | nL1+1,v6,r50000=>if (decide (v6<(List.length p0.Items:Int)))=true then ((idx p0.Items v6).bind fun x15=>((kG x15.aU p1).bind fun x20=>(if (!x20.2)=true then (gQ p0 p1 nL1 (i64.wrap (v6+1)) r50000) else (gN p1 r50000 x15 (fun (v9_L2:Int)=>(aEH r50000 v9_L2).bind fun x79=>((app 56 ([]:List M.Item) (List.take v9_L2.toNat r50000)).bind fun x81=>((xY x15).bind fun x93=>((app 56 (List.take v9_L2.toNat r50000) ([x93])).bind fun x95=>((app 56 ((List.take v9_L2.toNat r50000)++[x93]) (List.drop v9_L2.toNat r50000)).bind fun x107=>(gQ p0 p1 nL1 (i64.wrap (v6+1)) (((List.take v9_L2.toNat r50000)++[x93])++(List.drop v9_L2.toNat r50000)))))))) fuel (List.length r50000:Int))))) else (some r50000)
def zN (p0:M.aH) (p1:ByteArray):Option (List M.Item):=
 gQ p0 p1 fuel 0 ([]:List M.Item)
def iQ (p1:ByteArray) (x1:(List M.Item)):Nat→Int→Option (M.Key×M.Key×Bool)
 | 0,_=>none
 | nL1+1,v8=>if (decide (v8<(List.length x1:Int)))=true then ((idx x1 (i64.wrap (v8-1))).bind fun x13=>((kG x13.aU p1).bind fun x18=>((idx x1 v8).bind fun x20=>((kG x20.aU p1).bind fun x25=>(if (x18.1==x25.1)=true then (some (x13.Key,x20.Key,true)) else (iQ p1 x1 nL1 (i64.wrap (v8+1)))))))) else (some ((⟨0,0,(⟨#[]⟩:ByteArray)⟩:M.Key),(⟨0,0,(⟨#[]⟩:ByteArray)⟩:M.Key),false))
def oE (p0:M.aH) (p1:ByteArray):Option (M.Key×M.Key×Bool):=
 (zN p0 p1).bind fun x1=>(iQ p1 x1 fuel 1)
def fM (p0:M.Database) (v4:Int) (x26:M.aD) (k46:Int→Option Bool):Nat→Int→Option Bool
 | 0,_=>none
 | nL3+1,v9_L3=>if (decide (v9_L3<v4))=true then ((idx p0.Unique v9_L3).bind fun x53=>(if ((x53.aH.toList==x26.aH.toList)&&(x53.Field.toList==x26.Field.toList))=true then (some false) else (fM p0 v4 x26 k46 nL3 (i64.wrap (v9_L3+1))))) else (k46 v9_L3)
def eN (p0:M.Database):Nat→Int→Option Bool
 | 0,_=>none
 | nL2+1,v4=>if (decide (v4<(List.length p0.Unique:Int)))=true then ((idx p0.Unique v4).bind fun x26=>((tA p0 x26.aH).bind fun x31=>(if (decide (x31<0))=true then (some false) else ((cJ x26.Field).bind fun x34=>(if (!x34)=true then (some false) else ((idx p0.Stores x31).bind fun x37=>((oE x37 x26.Field).bind fun x42=>(if x42.2.2=true then (some false) else (fM p0 v4 x26 (fun (v9_L3:Int)=>eN p0 nL2 (i64.wrap (v4+1))) fuel 0))))))))) else ((cJ p0.Name).bind fun x59=>(if x59=true then ((bJ p0.Version 0 1000).bind fun x62=>(if x62=true then (if (decide ((List.length p0.Stores:Int)≤4))=true then (some (decide ((List.length p0.Unique:Int)≤4))) else (some false)) else (some false))) else (some false)))
def eM (p0:M.Database):Nat→Int→Option Bool
 | 0,_=>none
 | nL1+1,v3=>if (decide (v3<(List.length p0.Stores:Int)))=true then ((idx p0.Stores v3).bind fun x6=>((pO x6).bind fun x11=>(if (!x11)=true then (some false) else (if (decide (v3>0))=true then ((idx p0.Stores (i64.wrap (v3-1))).bind fun x15=>(if (!(Op.bytesLess x15.Name.toList x6.Name.toList))=true then (some false) else (eM p0 nL1 (i64.wrap (v3+1))))) else (eM p0 nL1 (i64.wrap (v3+1))))))) else (eN p0 fuel 0)
def qH (p0:M.Database):Option Bool:=
 eM p0 fuel 0
def iW (p0:M.aV):Nat→Int→Option Bool
 | 0,_=>none
 | nL1+1,v4=>if (decide (v4<(List.length p0.Writes:Int)))=true then ((idx p0.Writes v4).bind fun x14=>((jE x14).bind fun x19=>(if (!x19)=true then (some false) else (if (x14.Device != p0.Device)=true then (some false) else (if (x14.Seq != (i64.wrap ((i64.wrap (p0.Next-(List.length p0.Writes:Int)))+v4)))=true then (some false) else (iW p0 nL1 (i64.wrap (v4+1)))))))) else (some true)
def xJ (p0:M.aV):Option Bool:=
 (bJ p0.Device 1 1000000).bind fun x1=>(if (!x1)=true then (some false) else ((bJ p0.Next 1 1000000).bind fun x4=>(if (!x4)=true then (some false) else (if (decide ((List.length p0.Writes:Int)>20))=true then (some false) else (iW p0 fuel 0)))))
def tK (p0:M.aE):Option Bool:=
 (pO p0.Base).bind fun x1=>(if x1=true then (if (p0.Base.Name.toList==(⟨#[110,111,116,101,115]⟩:ByteArray).toList)=true then ((bJ p0.Seen 0 1000000000000).bind fun x5=>(if x5=true then ((xJ p0.Sync.aV).bind fun x8=>(some x8)) else (some false))) else (some false)) else (some false))
def qN (p0:M.Response) (p1:Bool):Option Int:=
 if p1=true then (some 76) else (some (i64.wrap (16+(List.length p0.Body:Int))))
def hJ (p0:M.aM) (v4:Int) (k8:Int→Int→Option Int):Nat→Int→Int→Option Int
 | 0,_,_=>none
 | nL2+1,v3_L2,v5_L2=>(idx p0.Caches v4).bind fun x15=>(if (decide (v5_L2<(List.length x15.Entries:Int)))=true then ((idx x15.Entries v5_L2).bind fun x21=>((qN x21.Response (x21.Response.Type_==3)).bind fun x26=>(hJ p0 v4 k8 nL2 (i64.wrap (v3_L2+x26)) (i64.wrap (v5_L2+1))))) else (k8 v3_L2 v5_L2))
def eD (p0:M.aM):Nat→Int→Int→Option Int
 | 0,_,_=>none
 | nL1+1,v3,v4=>if (decide (v4<(List.length p0.Caches:Int)))=true then (hJ p0 v4 (fun (v3_L2:Int) (v5_L2:Int)=>eD p0 nL1 v3_L2 (i64.wrap (v4+1))) fuel v3 0) else (some v3)
def qG (p0:M.aM):Option Int:=
 eD p0 fuel 0 0
def cE (p0:M.Key):Nat→Int→List Int→Option (List Int)
 | 0,_,_=>none
 | nL1+1,v4,r12=>if (decide (v4≥0))=true then (if (p0.Kind != 2)=true then (if (decide (0≤(i64.wrap (8*v4))))=true then ((app 1 r12 ([(IntKind.u8.wrap (i64.wrap (BitVec.ofInt (IntKind.i64.bits) (Int.fdiv (i64.wrap (p0.N+1000000000000)) (2^(min (i64.wrap (8*v4)).toNat IntKind.i64.bits)))&&&BitVec.ofInt (IntKind.i64.bits) 255).toNat))])).bind fun x18=>(cE p0 nL1 (i64.wrap (v4-1)) (r12++[(IntKind.u8.wrap (i64.wrap (BitVec.ofInt (IntKind.i64.bits) (Int.fdiv (i64.wrap (p0.N+1000000000000)) (2^(min (i64.wrap (8*v4)).toNat IntKind.i64.bits)))&&&BitVec.ofInt (IntKind.i64.bits) 255).toNat))]))) else none) else ((app 1 r12 (lV p0.Text)).bind fun x26=>(some (r12++(lV p0.Text))))) else ((app 1 r12 (lV p0.Text)).bind fun x28=>(some (r12++(lV p0.Text))))
def tG (p0:M.Key):Option (List Int):=
 (nX p0).bind fun x1=>(if (!x1)=true then (some ([]:List Int)) else (cE p0 fuel 5 ([(IntKind.u8.wrap p0.Kind)])))
def dP  : Nat→Int→List Int→Option (List Int)
 | 0,_,_=>none
 | nL1+1,v1,r6=>if (decide (v1>127))=true then ((app 1 r6 ([(IntKind.u8.wrap (i64.wrap (BitVec.ofInt (IntKind.i64.bits) (i64.wrap (BitVec.ofInt (IntKind.i64.bits) v1&&&BitVec.ofInt (IntKind.i64.bits) 127).toNat)|||BitVec.ofInt (IntKind.i64.bits) 128).toNat))])).bind fun x15=>(dP nL1 (Int.fdiv v1 (2^(min (7:Int).toNat IntKind.i64.bits))) (r6++[(IntKind.u8.wrap (i64.wrap (BitVec.ofInt (IntKind.i64.bits) (i64.wrap (BitVec.ofInt (IntKind.i64.bits) v1&&&BitVec.ofInt (IntKind.i64.bits) 127).toNat)|||BitVec.ofInt (IntKind.i64.bits) 128).toNat))]))) else ((app 1 r6 ([(IntKind.u8.wrap v1)])).bind fun x21=>(some (r6++[(IntKind.u8.wrap v1)])))
def hM (p0:List Int) (p1:Int):Option (List Int):=
 (app 1 ([]:List Int) p0).bind fun x1=>((bJ p1 0 1000000000000).bind fun x7=>(if (!x7)=true then (some p0) else (dP fuel p1 p0)))
def oC (p0:List Int) (p1:List Int):Option (List Int):=
 (hM p0 (List.length p1:Int)).bind fun x1=>((app 1 x1 p1).bind fun x3=>(some (x1++p1)))
def fT (p0:M.aU):Nat→Int→List Int→Option (List Int)
 | 0,_,_=>none
 | nL1+1,v4,r50000=>if (decide (v4<(List.length p0.Fields:Int)))=true then ((idx p0.Fields v4).bind fun x18=>((oC r50000 (lV x18.Name)).bind fun x23=>((hM x23 x18.N).bind fun x25=>(fT p0 nL1 (i64.wrap (v4+1)) x25)))) else (some r50000)
def nF (p0:M.aU):Option (List Int):=
 (rP p0).bind fun x1=>(if (!x1)=true then (some ([]:List Int)) else ((hM ([]:List Int) (List.length p0.Fields:Int)).bind fun x4=>(fT p0 fuel 0 x4)))
def iG (p0:M.aH):Nat→Int→Int→Option Int
 | 0,_,_=>none
 | nL1+1,v3,v4=>if (decide (v4<(List.length p0.Items:Int)))=true then ((idx p0.Items v4).bind fun x7=>((tG x7.Key).bind fun x12=>((nF x7.aU).bind fun x14=>(iG p0 nL1 (i64.wrap ((i64.wrap (v3+(List.length x12:Int)))+(List.length x14:Int))) (i64.wrap (v4+1)))))) else (some v3)
def nT (p0:M.aH):Option Int:=
 iG p0 fuel 0 0
def fS (p0:M.Database):Nat→Int→Int→Option Int
 | 0,_,_=>none
 | nL1+1,v3,v4=>if (decide (v4<(List.length p0.Stores:Int)))=true then ((idx p0.Stores v4).bind fun x7=>((nT x7).bind fun x12=>(fS p0 nL1 (i64.wrap (v3+x12)) (i64.wrap (v4+1))))) else (some v3)
def nC (p0:M.Database):Option Int:=
 fS p0 fuel 0 0
def aA8 (p0:M.bB):Option Int:=
 (nC p0.Base).bind fun x1=>(some (i64.wrap (x1+(List.length p0.Log:Int))))
def aAC (p0:M.aA):Option Int:=
 (qG p0.Caches).bind fun x1=>((aA8 p0.bB).bind fun x3=>((nT p0.aE.Base).bind fun x5=>(some (i64.wrap ((i64.wrap ((i64.wrap (x1+x3))+x5))+(i64.wrap (40*(List.length p0.aE.Sync.aV.Writes:Int))))))))
def kH (p0:M.aA):Option Bool:=
 (cJ p0.Site).bind fun x1=>(if x1=true then ((cJ p0.Top).bind fun x4=>(if x4=true then ((fA p0.Registration).bind fun x7=>(if x7=true then (if (p0.Registration.Site.toList==p0.Site.toList)=true then ((rC p0.Caches).bind fun x11=>(if x11=true then ((qH p0.bB.Base).bind fun x14=>(if x14=true then ((tK p0.aE).bind fun x17=>(if x17=true then ((bJ p0.LastUsed 0 1000000000000).bind fun x20=>(if x20=true then ((aAC p0).bind fun x23=>(some (decide (x23≤2500)))) else (some false))) else (some false))) else (some false))) else (some false))) else (some false)) else (some false))) else (some false))) else (some false))
def uZ (p0:M.aA) (p1:ByteArray) (p2:ByteArray):Option Bool:=
 if (Op.bytesLess p0.Site.toList p1.toList)=true then (some true) else (if (p0.Site.toList==p1.toList)=true then (some (Op.bytesLess p0.Top.toList p2.toList)) else (some false))
def fI (p0:M.aC):Nat→Int→Option Bool
 | 0,_=>none
 | nL1+1,v3=>if (decide (v3<(List.length p0.Buckets:Int)))=true then ((idx p0.Buckets v3).bind fun x6=>((kH x6).bind fun x11=>(if (!x11)=true then (some false) else (if (decide (v3>0))=true then ((idx p0.Buckets (i64.wrap (v3-1))).bind fun x15=>((uZ x15 x6.Site x6.Top).bind fun x20=>(if (!x20)=true then (some false) else (fI p0 nL1 (i64.wrap (v3+1)))))) else (fI p0 nL1 (i64.wrap (v3+1))))))) else (some (decide ((List.length p0.Buckets:Int)≤9)))
def bS (p0:M.aC):Option Bool:=
 fI p0 fuel 0
def cZ (p0:ByteArray):Nat→Int→Option Bool
 | 0,_=>none
 | nL1+1,v3=>if (decide (v3<(p0.size:Int)))=true then ((aN5 p0 v3).bind fun x5=>(if (decide ((x5.toNat:Int)<97))=true then (if ((x5.toNat:Int) != 47)=true then (some false) else (cZ p0 nL1 (i64.wrap (v3+1)))) else (if (decide ((x5.toNat:Int)>122))=true then (if ((x5.toNat:Int) != 47)=true then (some false) else (cZ p0 nL1 (i64.wrap (v3+1)))) else (cZ p0 nL1 (i64.wrap (v3+1)))))) else ((bJ (p0.size:Int) 1 30).bind fun x13=>(some x13))
def pY (p0:ByteArray):Option Bool:=
 cZ p0 fuel 0
def bW (p0:M.aR) (v3:Int) (x6:M.cG) (k18:Int→Option Bool):Nat→Int→Option Bool
 | 0,_=>none
 | nL2+1,v5_L2=>if (decide (v5_L2<v3))=true then ((idx p0.Locks v5_L2).bind fun x27=>(if x6.Held=true then (if (x27.Name.toList==x6.Name.toList)=true then (if (!x27.Held)=true then (some false) else (if (!x6.Shared)=true then (some false) else (if (!x27.Shared)=true then (some false) else (bW p0 v3 x6 k18 nL2 (i64.wrap (v5_L2+1)))))) else (bW p0 v3 x6 k18 nL2 (i64.wrap (v5_L2+1)))) else (bW p0 v3 x6 k18 nL2 (i64.wrap (v5_L2+1))))) else (k18 v5_L2)
def eZ (p0:M.aR):Nat→Int→Option Bool
 | 0,_=>none
 | nL1+1,v3=>if (decide (v3<(List.length p0.Locks:Int)))=true then ((idx p0.Locks v3).bind fun x6=>((pY x6.Name).bind fun x11=>(if (!x11)=true then (some false) else ((bJ x6.bI 1 1000000000000).bind fun x14=>(if (!x14)=true then (some false) else (bW p0 v3 x6 (fun (v5_L2:Int)=>eZ p0 nL1 (i64.wrap (v3+1))) fuel 0)))))) else (some (decide ((List.length p0.Locks:Int)≤12)))
def pK (p0:M.aR):Option Bool:=
 eZ p0 fuel 0
def dH (p0:M.World):Nat→Int→Option Bool
 | 0,_=>none
 | nL2+1,v4=>if (decide (v4<(List.length p0.Pages:Int)))=true then ((idx p0.Pages v4).bind fun x38=>((aBK x38).bind fun x43=>(if (!x43)=true then (some false) else (if (decide (x38.Id≥p0.NextPage))=true then (some false) else (if (decide (v4>0))=true then ((idx p0.Pages (i64.wrap (v4-1))).bind fun x48=>(if (decide (x48.Id≥x38.Id))=true then (some false) else ((iS p0.aC x38.Site x38.Top).bind fun x54=>(if (decide (x54<0))=true then (some false) else (dH p0 nL2 (i64.wrap (v4+1))))))) else ((iS p0.aC x38.Site x38.Top).bind fun x57=>(if (decide (x57<0))=true then (some false) else (dH p0 nL2 (i64.wrap (v4+1)))))))))) else ((bJ p0.Now 0 999999990000).bind fun x60=>(if x60=true then ((bJ p0.Device 1 1000000).bind fun x63=>(if x63=true then ((bS p0.aC).bind fun x66=>(if x66=true then ((bJ p0.NextPage 1 1000000000000).bind fun x69=>(if x69=true then ((pK p0.Locks).bind fun x72=>(some x72)) else (some false))) else (some false))) else (some false))) else (some false)))
def iN (p0:M.World):Nat→Int→Option Bool
 | 0,_=>none
 | nL1+1,v3=>if (decide (v3<3))=true then ((idx p0.Sites v3).bind fun x9=>((aA6 x9).bind fun x14=>(if (!x14)=true then (some false) else ((aAm).bind fun x17=>((idx x17 v3).bind fun x19=>(if (!(x9.Name.toList==x19.toList))=true then (some false) else ((idx p0.Servers v3).bind fun x25=>((xM x25).bind fun x30=>(if (!x30)=true then (some false) else (iN p0 nL1 (i64.wrap (v3+1)))))))))))) else (dH p0 fuel 0)
def vE (p0:M.World):Option Bool:=
 if ((List.length p0.Sites:Int) != 3)=true then (some false) else (if ((List.length p0.Servers:Int) != 3)=true then (some false) else (if (decide ((List.length p0.Pages:Int)>6))=true then (some false) else (iN p0 fuel 0)))
def zO (p0:M.Response):Option M.Response:=
 (app 1 ([]:List Int) p0.Body).bind fun x1=>(some p0)
def iV (p0:M.Cache):Nat→Int→List M.Cached→Option M.Cache
 | 0,_,_=>none
 | nL1+1,v4,r50000=>if (decide (v4<(List.length p0.Entries:Int)))=true then ((idx p0.Entries v4).bind fun x11=>((zO x11.Response).bind fun x16=>((app 88 r50000 ([(⟨x11.Site,x11.Path,x16⟩:M.Cached)])).bind fun x18=>(iV p0 nL1 (i64.wrap (v4+1)) (r50000++[(⟨x11.Site,x11.Path,x16⟩:M.Cached)]))))) else (some (⟨p0.Version,r50000⟩:M.Cache))
def wU (p0:M.Cache):Option M.Cache:=
 iV p0 fuel 0 ([]:List M.Cached)
def kA (p0:M.aM):Nat→Int→List M.Cache→Option M.aM
 | 0,_,_=>none
 | nL1+1,v4,r50000=>if (decide (v4<(List.length p0.Caches:Int)))=true then ((idx p0.Caches v4).bind fun x11=>((wU x11).bind fun x16=>((app 32 r50000 ([x16])).bind fun x18=>(kA p0 nL1 (i64.wrap (v4+1)) (r50000++[x16]))))) else (some (⟨r50000⟩:M.aM))
def pS (p0:M.aM):Option M.aM:=
 kA p0 fuel 0 ([]:List M.Cache)
def lI (p0:M.aH):Nat→Int→List M.Item→Option M.aH
 | 0,_,_=>none
 | nL1+1,v4,r50000=>if (decide (v4<(List.length p0.Items:Int)))=true then ((idx p0.Items v4).bind fun x11=>((xY x11).bind fun x16=>((app 56 r50000 ([x16])).bind fun x18=>(lI p0 nL1 (i64.wrap (v4+1)) (r50000++[x16]))))) else (some (⟨p0.Name,r50000,p0.Auto⟩:M.aH))
def sG (p0:M.aH):Option M.aH:=
 lI p0 fuel 0 ([]:List M.Item)
def lL (p0:M.Database):Nat→Int→List M.aH→Option M.Database
 | 0,_,_=>none
 | nL1+1,v4,r50000=>if (decide (v4<(List.length p0.Stores:Int)))=true then ((idx p0.Stores v4).bind fun x22=>((sG x22).bind fun x27=>((app 48 r50000 ([x27])).bind fun x29=>(lL p0 nL1 (i64.wrap (v4+1)) (r50000++[x27]))))) else (some (⟨p0.Name,p0.Version,r50000,p0.Unique⟩:M.Database))
def aAi (p0:M.Database):Option M.Database:=
 (app 32 ([]:List M.aD) p0.Unique).bind fun x1=>(lL p0 fuel 0 ([]:List M.aH))
def yS (p0:M.bB):Option M.bB:=
 (aAi p0.Base).bind fun x1=>((app 1 ([]:List Int) p0.Log).bind fun x3=>(some (⟨x1,p0.Log,p0.Count⟩:M.bB)))
def zY (p0:M.aV):Option M.aV:=
 (app 72 ([]:List M.aY) p0.Writes).bind fun x1=>(some p0)
def zA (p0:M.Sync):Option M.Sync:=
 (zY p0.aV).bind fun x1=>(some (⟨x1,p0.Tries,p0.WaitUntil⟩:M.Sync))
def aAE (p0:M.aE):Option M.aE:=
 (sG p0.Base).bind fun x1=>((zA p0.Sync).bind fun x3=>(some (⟨x1,p0.Seen,x3⟩:M.aE)))
def gK (p0:M.aA):Option M.aA:=
 (pS p0.Caches).bind fun x1=>((yS p0.bB).bind fun x3=>((aAE p0.aE).bind fun x5=>(some (⟨p0.Site,p0.Top,p0.Registration,x1,x3,x5,p0.LastUsed,p0.Persistent⟩:M.aA))))
def jN (p0:M.aC):Nat→Int→List M.aA→Option M.aC
 | 0,_,_=>none
 | nL1+1,v4,r50000=>if (decide (v4<(List.length p0.Buckets:Int)))=true then ((idx p0.Buckets v4).bind fun x11=>((gK x11).bind fun x16=>((app 328 r50000 ([x16])).bind fun x18=>(jN p0 nL1 (i64.wrap (v4+1)) (r50000++[x16]))))) else (some (⟨r50000⟩:M.aC))
def eX (p0:M.aC):Option M.aC:=
 jN p0 fuel 0 ([]:List M.aA)
def tV (p0:List M.Instr):Option (List M.Instr):=
 (app 40 ([]:List M.Instr) p0).bind fun x1=>(some p0)
def zL (p0:M.Machine):Option M.Machine:=
 (tV p0.Script).bind fun x1=>((app 8 ([]:List Int) p0.Regs).bind fun x3=>(some (⟨x1,p0.Pc,p0.Regs,p0.Steps,p0.Done,p0.Wait⟩:M.Machine)))
def vA (p0:M.bI):Option M.bI:=
 (app 24 ([]:List M.aN) p0.aN).bind fun x1=>((zL p0.Machine).bind fun x11=>(some (⟨p0.Id,p0.Site,p0.Top,p0.Version,p0.aN,x11⟩:M.bI)))
def vH (p0:M.aR):Option M.aR:=
 (app 32 ([]:List M.cG) p0.Locks).bind fun x1=>(some p0)
def vG (p0:M.Channel):Option M.Channel:=
 (app 24 ([]:List M.fK) p0.Mails).bind fun x1=>(some p0)
def zP (p0:M.Site):Option M.Site:=
 (app 16 ([]:List ByteArray) p0.Files).bind fun x1=>(some p0)
def zE (p0:M.Server):Option M.Server:=
 (sG p0.aH).bind fun x1=>((app 16 ([]:List M.aJ) p0.aJ).bind fun x3=>((app 72 ([]:List M.aY) p0.Changes).bind fun x5=>(some (⟨x1,p0.aJ,p0.Changes⟩:M.Server))))
def gT (p0:M.World) (x1:M.aC) (r12:List M.bI) (x42:M.aR) (x44:M.Channel) (r40:List M.Site):Nat→Int→List M.Server→Option M.World
 | 0,_,_=>none
 | nL3+1,v6,r60=>if (decide (v6<(List.length p0.Servers:Int)))=true then ((idx p0.Servers v6).bind fun x122=>((zE x122).bind fun x127=>((app 96 r60 ([x127])).bind fun x129=>(gT p0 x1 r12 x42 x44 r40 nL3 (i64.wrap (v6+1)) (r60++[x127]))))) else (some (⟨p0.Now,p0.Online,p0.Device,x1,r12,p0.NextPage,x42,x44,r40,r60⟩:M.World))
def gW (p0:M.World) (x1:M.aC) (r12:List M.bI) (x42:M.aR) (x44:M.Channel):Nat→Int→List M.Site→Option M.World
 | 0,_,_=>none
 | nL2+1,v5,r40=>if (decide (v5<(List.length p0.Sites:Int)))=true then ((idx p0.Sites v5).bind fun x72=>((zP x72).bind fun x77=>((app 56 r40 ([x77])).bind fun x79=>(gW p0 x1 r12 x42 x44 nL2 (i64.wrap (v5+1)) (r40++[x77]))))) else (gT p0 x1 r12 x42 x44 r40 fuel 0 ([]:List M.Server))
def iP (p0:M.World) (x1:M.aC):Nat→Int→List M.bI→Option M.World
 | 0,_,_=>none
 | nL1+1,v4,r12=>if (decide (v4<(List.length p0.Pages:Int)))=true then ((idx p0.Pages v4).bind fun x23=>((vA x23).bind fun x28=>((app 144 r12 ([x28])).bind fun x30=>(iP p0 x1 nL1 (i64.wrap (v4+1)) (r12++[x28]))))) else ((vH p0.Locks).bind fun x42=>((vG p0.Channel).bind fun x44=>(gW p0 x1 r12 x42 x44 fuel 0 ([]:List M.Site))))
def pT (p0:M.World):Option M.World:=
 (eX p0.aC).bind fun x1=>(iP p0 x1 fuel 0 ([]:List M.bI))
def gU (p0:M.World) (p1:ByteArray) (p2:ByteArray):Nat→Int→List M.bI→Option (List M.bI)
 | 0,_,_=>none
 | nL1+1,v8,r9=>if (decide (v8<(List.length p0.Pages:Int)))=true then ((idx p0.Pages v8).bind fun x17=>(if (x17.Site.toList==p1.toList)=true then (if (x17.Top.toList==p2.toList)=true then ((vA x17).bind fun x24=>((app 144 r9 ([x24])).bind fun x26=>(gU p0 p1 p2 nL1 (i64.wrap (v8+1)) (r9++[x24])))) else (gU p0 p1 p2 nL1 (i64.wrap (v8+1)) r9)) else (gU p0 p1 p2 nL1 (i64.wrap (v8+1)) r9))) else (some r9)
def zM (p0:M.World) (p1:ByteArray) (p2:ByteArray):Option (List M.bI):=
 gU p0 p1 p2 fuel 0 ([]:List M.bI)
def eA (p0:List M.bI) (p1:ByteArray):Nat→Int→List Int→Option (List Int)
 | 0,_,_=>none
 | nL1+1,v6,r7=>if (decide (v6<(List.length p0:Int)))=true then ((idx p0 v6).bind fun x13=>(if (x13.Site.toList==p1.toList)=true then ((app 8 r7 ([x13.Version])).bind fun x19=>(eA p0 p1 nL1 (i64.wrap (v6+1)) (r7++[x13.Version]))) else (eA p0 p1 nL1 (i64.wrap (v6+1)) r7))) else (some r7)
def nB (p0:List M.bI) (p1:ByteArray):Option (List Int):=
 eA p0 p1 fuel 0 ([]:List Int)
def gD (p0:M.Registration) (p1:List Int):Nat→Int→Option Bool
 | 0,_=>none
 | nL1+1,v5=>if (decide (v5<(List.length p1:Int)))=true then ((idx p1 v5).bind fun x7=>(if (x7==p0.Active)=true then (some false) else (gD p0 p1 nL1 (i64.wrap (v5+1))))) else ((fA p0).bind fun x13=>(if x13=true then (some (p0.Waiting != 0)) else (some false)))
def oD (p0:M.Registration) (p1:List Int):Option Bool:=
 gD p0 p1 fuel 0
def wZ (p0:M.Registration) (p1:List Int):Option (M.Registration×Int×Bool):=
 (oD p0 p1).bind fun x1=>(if (!x1)=true then (some (p0,0,false)) else (some ((⟨p0.Site,p0.Installing,0,p0.Waiting⟩:M.Registration),p0.Active,true)))
def iE (p0:M.aM) (p1:Int):Nat→Int→Option Int
 | 0,_=>none
 | nL1+1,v5=>if (decide (v5<(List.length p0.Caches:Int)))=true then ((idx p0.Caches v5).bind fun x7=>(if (x7.Version==p1)=true then (some v5) else (iE p0 p1 nL1 (i64.wrap (v5+1))))) else (some (-1))
def uU (p0:M.aM) (p1:Int):Option Int:=
 iE p0 p1 fuel 0
def tZ (p0:M.aM) (p1:Int):Option (M.aM×Bool):=
 (pS p0).bind fun x1=>((uU p0 p1).bind fun x3=>(if (decide (x3<0))=true then (some (x1,false)) else ((aEH x1.Caches x3).bind fun x6=>((aKc x1.Caches (i64.wrap (x3+1))).bind fun x8=>((app 32 (List.take x3.toNat x1.Caches) (List.drop (i64.wrap (x3+1)).toNat x1.Caches)).bind fun x10=>(some ((⟨((List.take x3.toNat x1.Caches)++(List.drop (i64.wrap (x3+1)).toNat x1.Caches))⟩:M.aM),true)))))))
def lJ (p0:M.aA) (p1:M.aA):Option (M.aA×Bool):=
 (kH p0).bind fun x1=>(if (!x1)=true then ((gK p0).bind fun x4=>(some (x4,false))) else ((kH p1).bind fun x6=>(if (!x6)=true then ((gK p0).bind fun x9=>(some (x9,false))) else (some (p1,true)))))
def lT (p0:M.aA) (p1:M.aM) (p2:M.Registration):Option (M.aA×Bool):=
 (gK p0).bind fun x1=>((pS p1).bind fun x3=>((lJ p0 (⟨x1.Site,x1.Top,p2,x3,x1.bB,x1.aE,x1.LastUsed,x1.Persistent⟩:M.aA)).bind fun x5=>(if x5.2=true then (some ((⟨x1.Site,x1.Top,p2,x3,x1.bB,x1.aE,x1.LastUsed,x1.Persistent⟩:M.aA),true)) else (some (x5.1,false)))))
def gH (p0:M.aC) (p1:M.aA) (x1:M.aC):Nat→Int→Option (M.aC×Bool)
 | 0,_=>none
 | nL1+1,v8=>if (decide (v8<(List.length p0.Buckets:Int)))=true then ((idx p0.Buckets v8).bind fun x43=>((uZ x43 p1.Site p1.Top).bind fun x48=>(if x48=true then (gH p0 p1 x1 nL1 (i64.wrap (v8+1))) else ((aEH x1.Buckets v8).bind fun x51=>((app 328 ([]:List M.aA) (List.take v8.toNat x1.Buckets)).bind fun x53=>((gK p1).bind fun x68=>((app 328 (List.take v8.toNat x1.Buckets) ([x68])).bind fun x70=>((app 328 ((List.take v8.toNat x1.Buckets)++[x68]) (List.drop v8.toNat x1.Buckets)).bind fun x83=>((bS p0).bind fun x93=>(if (!x93)=true then ((eX p0).bind fun x96=>(some (x96,false))) else ((bS (⟨(((List.take v8.toNat x1.Buckets)++[x68])++(List.drop v8.toNat x1.Buckets))⟩:M.aC)).bind fun x98=>(if (!x98)=true then ((eX p0).bind fun x101=>(some (x101,false))) else (some ((⟨(((List.take v8.toNat x1.Buckets)++[x68])++(List.drop v8.toNat x1.Buckets))⟩:M.aC),true)))))))))))))) else ((aEH x1.Buckets v8).bind fun x103=>((app 328 ([]:List M.aA) (List.take v8.toNat x1.Buckets)).bind fun x105=>((gK p1).bind fun x120=>((app 328 (List.take v8.toNat x1.Buckets) ([x120])).bind fun x122=>((app 328 ((List.take v8.toNat x1.Buckets)++[x120]) (List.drop v8.toNat x1.Buckets)).bind fun x135=>((bS p0).bind fun x145=>(if (!x145)=true then ((eX p0).bind fun x148=>(some (x148,false))) else ((bS (⟨(((List.take v8.toNat x1.Buckets)++[x120])++(List.drop v8.toNat x1.Buckets))⟩:M.aC)).bind fun x150=>(if (!x150)=true then ((eX p0).bind fun x153=>(some (x153,false))) else (some ((⟨(((List.take v8.toNat x1.Buckets)++[x120])++(List.drop v8.toNat x1.Buckets))⟩:M.aC),true)))))))))))
def sW (p0:M.aC) (p1:M.aA):Option (M.aC×Bool):=
 (eX p0).bind fun x1=>((iS p0 p1.Site p1.Top).bind fun x3=>(if (decide (x3≥0))=true then ((gK p1).bind fun x6=>((idx x1.Buckets x3).bind fun x8=>((bS p0).bind fun x21=>(if (!x21)=true then ((eX p0).bind fun x24=>(some (x24,false))) else ((bS (⟨(List.set x1.Buckets x3.toNat x6)⟩:M.aC)).bind fun x26=>(if (!x26)=true then ((eX p0).bind fun x29=>(some (x29,false))) else (some ((⟨(List.set x1.Buckets x3.toNat x6)⟩:M.aC),true)))))))) else (gH p0 p1 x1 fuel 0)))
def yA (p0:M.World) (p1:M.aA) (p2:Bool):Option (M.World×Bool):=
 (pT p0).bind fun x1=>((sW p0.aC p1).bind fun x3=>(if (!p2)=true then (some (x1,false)) else (if (!x3.2)=true then (some (x1,false)) else (some ((⟨x1.Now,x1.Online,x1.Device,x3.1,x1.Pages,x1.NextPage,x1.Locks,x1.Channel,x1.Sites,x1.Servers⟩:M.World),true)))))
def kJ (p0:M.World) (p1:ByteArray) (p2:ByteArray):Option (M.World×Bool):=
 (iS p0.aC p1 p2).bind fun x1=>((vE p0).bind fun x3=>(if (!x3)=true then ((pT p0).bind fun x6=>(some (x6,false))) else (if (decide (x1<0))=true then ((pT p0).bind fun x9=>(some (x9,false))) else ((idx p0.aC.Buckets x1).bind fun x11=>((zM p0 p1 p2).bind fun x16=>((nB x16 p1).bind fun x18=>((wZ x11.Registration x18).bind fun x20=>((tZ x11.Caches x20.2.1).bind fun x22=>((lT x11 x22.1 x20.1).bind fun x24=>(if x20.2.2=true then ((yA p0 x24.1 x24.2).bind fun x42=>(some (x42.1,x42.2))) else ((yA p0 x24.1 false).bind fun x44=>(some (x44.1,x44.2)))))))))))))
def jF (p0:List Int):Option (List Int):=
 (app 1 ([]:List Int) p0).bind fun x1=>(some p0)
def nA (p0:M.Response):Option M.Response:=
 (jF p0.Body).bind fun x1=>(some (⟨p0.Type_,p0.Status,p0.Version,x1,p0.Shares⟩:M.Response))
def fP (x11:M.Cache) (k17:Int→List M.Cached→Option M.aM):Nat→Int→List M.Cached→Option M.aM
 | 0,_,_=>none
 | nL2+1,v23_L2,r50000_L2=>if (decide (v23_L2<(List.length x11.Entries:Int)))=true then ((idx x11.Entries v23_L2).bind fun x34=>((nA x34.Response).bind fun x39=>((app 88 r50000_L2 ([(⟨x34.Site,x34.Path,x39⟩:M.Cached)])).bind fun x41=>(fP x11 k17 nL2 (i64.wrap (v23_L2+1)) (r50000_L2++[(⟨x34.Site,x34.Path,x39⟩:M.Cached)]))))) else (k17 v23_L2 r50000_L2)
def eC (p0:M.aM):Nat→Int→List M.Cache→Option M.aM
 | 0,_,_=>none
 | nL1+1,v13,r50100=>if (decide (v13<(List.length p0.Caches:Int)))=true then ((idx p0.Caches v13).bind fun x11=>(fP x11 (fun (v23_L2:Int) (r50000_L2:List M.Cached)=>(app 32 r50100 ([(⟨x11.Version,r50000_L2⟩:M.Cache)])).bind fun x58=>(eC p0 nL1 (i64.wrap (v13+1)) (r50100++[(⟨x11.Version,r50000_L2⟩:M.Cache)]))) fuel 0 ([]:List M.Cached))) else (some (⟨r50100⟩:M.aM))
def jR (p0:M.aM):Option M.aM:=
 eC p0 fuel 0 ([]:List M.Cache)
def qS (p0:M.aU):Option M.aU:=
 (app 24 ([]:List M.Field) p0.Fields).bind fun x1=>(some p0)
def rF (p0:M.Item):Option M.Item:=
 (qS p0.aU).bind fun x1=>(some (⟨p0.Key,x1⟩:M.Item))
def iF (p0:M.aH):Nat→Int→List M.Item→Option M.aH
 | 0,_,_=>none
 | nL1+1,v14,r50000=>if (decide (v14<(List.length p0.Items:Int)))=true then ((idx p0.Items v14).bind fun x11=>((rF x11).bind fun x16=>((app 56 r50000 ([x16])).bind fun x18=>(iF p0 nL1 (i64.wrap (v14+1)) (r50000++[x16]))))) else (some (⟨p0.Name,r50000,p0.Auto⟩:M.aH))
def lK (p0:M.aH):Option M.aH:=
 iF p0 fuel 0 ([]:List M.Item)
def fR (p0:M.Database):Nat→Int→List M.aH→Option M.Database
 | 0,_,_=>none
 | nL1+1,v18,r50000=>if (decide (v18<(List.length p0.Stores:Int)))=true then ((idx p0.Stores v18).bind fun x22=>((lK x22).bind fun x27=>((app 48 r50000 ([x27])).bind fun x29=>(fR p0 nL1 (i64.wrap (v18+1)) (r50000++[x27]))))) else (some (⟨p0.Name,p0.Version,r50000,p0.Unique⟩:M.Database))
def nG (p0:M.Database):Option M.Database:=
 (app 32 ([]:List M.aD) p0.Unique).bind fun x1=>(fR p0 fuel 0 ([]:List M.aH))
def wM (p0:M.bB):Option M.bB:=
 (nG p0.Base).bind fun x1=>((jF p0.Log).bind fun x3=>(some (⟨x1,x3,p0.Count⟩:M.bB)))
def rH (p0:M.aV):Option M.aV:=
 (app 72 ([]:List M.aY) p0.Writes).bind fun x1=>(some p0)
def xL (p0:M.Sync):Option M.Sync:=
 (rH p0.aV).bind fun x1=>(some (⟨x1,p0.Tries,p0.WaitUntil⟩:M.Sync))
def pG (p0:M.aE):Option M.aE:=
 (lK p0.Base).bind fun x1=>((xL p0.Sync).bind fun x3=>(some (⟨x1,p0.Seen,x3⟩:M.aE)))
def dI (p0:M.aA):Option M.aA:=
 (jR p0.Caches).bind fun x1=>((wM p0.bB).bind fun x3=>((pG p0.aE).bind fun x5=>(some (⟨p0.Site,p0.Top,p0.Registration,x1,x3,x5,p0.LastUsed,p0.Persistent⟩:M.aA))))
def gC (p0:M.aC):Nat→Int→List M.aA→Option M.aC
 | 0,_,_=>none
 | nL1+1,v10,r50000=>if (decide (v10<(List.length p0.Buckets:Int)))=true then ((idx p0.Buckets v10).bind fun x11=>((dI x11).bind fun x16=>((app 328 r50000 ([x16])).bind fun x18=>(gC p0 nL1 (i64.wrap (v10+1)) (r50000++[x16]))))) else (some (⟨r50000⟩:M.aC))
def bP (p0:M.aC):Option M.aC:=
 gC p0 fuel 0 ([]:List M.aA)
def pB (p0:M.Machine):Option M.Machine:=
 (app 40 ([]:List M.Instr) p0.Script).bind fun x1=>((app 8 ([]:List Int) p0.Regs).bind fun x11=>(some p0))
def rV (p0:M.bI):Option M.bI:=
 (app 24 ([]:List M.aN) p0.aN).bind fun x1=>((pB p0.Machine).bind fun x9=>(some (⟨p0.Id,p0.Site,p0.Top,p0.Version,p0.aN,x9⟩:M.bI)))
def iH (p0:List M.bI):Nat→Int→List M.bI→Option (List M.bI)
 | 0,_,_=>none
 | nL1+1,v9,r6=>if (decide (v9<(List.length p0:Int)))=true then ((idx p0 v9).bind fun x12=>((rV x12).bind fun x17=>((app 144 r6 ([x17])).bind fun x19=>(iH p0 nL1 (i64.wrap (v9+1)) (r6++[x17]))))) else (some r6)
def sV (p0:List M.bI):Option (List M.bI):=
 iH p0 fuel 0 ([]:List M.bI)
def sY (p0:M.aR):Option M.aR:=
 (app 32 ([]:List M.cG) p0.Locks).bind fun x1=>(some p0)
def pF (p0:M.Channel):Option M.Channel:=
 (app 24 ([]:List M.fK) p0.Mails).bind fun x1=>(some p0)
def wY (p0:M.Site):Option M.Site:=
 (app 16 ([]:List ByteArray) p0.Files).bind fun x1=>(some p0)
def qP (p0:M.Server):Option M.Server:=
 (lK p0.aH).bind fun x1=>((app 16 ([]:List M.aJ) p0.aJ).bind fun x3=>((app 72 ([]:List M.aY) p0.Changes).bind fun x5=>(some (⟨x1,p0.aJ,p0.Changes⟩:M.Server))))
def fC (p0:M.World) (x1:M.aC) (x3:(List M.bI)) (x5:M.aR) (x7:M.Channel) (r50000:List M.Site):Nat→Int→List M.Server→Option M.World
 | 0,_,_=>none
 | nL2+1,v45,r50100=>if (decide (v45<(List.length p0.Servers:Int)))=true then ((idx p0.Servers v45).bind fun x64=>((qP x64).bind fun x69=>((app 96 r50100 ([x69])).bind fun x71=>(fC p0 x1 x3 x5 x7 r50000 nL2 (i64.wrap (v45+1)) (r50100++[x69]))))) else (some (⟨p0.Now,p0.Online,p0.Device,x1,x3,p0.NextPage,x5,x7,r50000,r50100⟩:M.World))
def gI (p0:M.World) (x1:M.aC) (x3:(List M.bI)) (x5:M.aR) (x7:M.Channel):Nat→Int→List M.Site→Option M.World
 | 0,_,_=>none
 | nL1+1,v29,r50000=>if (decide (v29<(List.length p0.Sites:Int)))=true then ((idx p0.Sites v29).bind fun x25=>((wY x25).bind fun x30=>((app 56 r50000 ([x30])).bind fun x32=>(gI p0 x1 x3 x5 x7 nL1 (i64.wrap (v29+1)) (r50000++[x30]))))) else (fC p0 x1 x3 x5 x7 r50000 fuel 0 ([]:List M.Server))
def nS (p0:M.World):Option M.World:=
 (bP p0.aC).bind fun x1=>((sV p0.Pages).bind fun x3=>((sY p0.Locks).bind fun x5=>((pF p0.Channel).bind fun x7=>(gI p0 x1 x3 x5 x7 fuel 0 ([]:List M.Site)))))
def mS (p0:M.aA) (c0:ByteArray) (c1:ByteArray):Option Bool:=
 if (p0.Site.toList==c0.toList)=true then (some (p0.Top.toList==c1.toList)) else (some false)
def bQ (p0:List M.aA) (p1:M.aA→Option Bool):Nat→Int→Option Int
 | 0,_=>none
 | nL1+1,v8=>if (decide (v8<(List.length p0:Int)))=true then ((idx p0 v8).bind fun x7=>((p1 x7).bind fun x12=>(if x12=true then (some v8) else (bQ p0 p1 nL1 (i64.wrap (v8+1)))))) else (some (-1))
def hY (p0:List M.aA) (p1:M.aA→Option Bool):Option Int:=
 bQ p0 p1 fuel 0
def iK (p0:M.aC) (p1:ByteArray) (p2:ByteArray):Option Int:=
 (hY p0.Buckets (fun z0=>mS z0 p1 p2)).bind fun x1=>(some x1)
def aAk (p0:M.World) (p1:ByteArray) (p2:ByteArray):Option (M.aA×Bool):=
 (iK p0.aC p1 p2).bind fun x1=>(if (decide (x1<0))=true then (some ((⟨(⟨#[]⟩:ByteArray),(⟨#[]⟩:ByteArray),(⟨(⟨#[]⟩:ByteArray),0,0,0⟩:M.Registration),(⟨([]:List M.Cache)⟩:M.aM),(⟨(⟨(⟨#[]⟩:ByteArray),0,([]:List M.aH),([]:List M.aD)⟩:M.Database),([]:List Int),0⟩:M.bB),(⟨(⟨(⟨#[]⟩:ByteArray),([]:List M.Item),0⟩:M.aH),0,(⟨(⟨0,0,([]:List M.aY)⟩:M.aV),0,0⟩:M.Sync)⟩:M.aE),0,false⟩:M.aA),false)) else ((idx p0.aC.Buckets x1).bind fun x4=>(some (x4,true))))
def bA (p0:Int) (p1:Int) (p2:Int):Option Bool:=
 if (decide (p1≤p0))=true then (some (decide (p0≤p2))) else (some false)
def gM (p0:ByteArray) (p1:Int) (p2:Bool):Nat→Int→Option Bool
 | 0,_=>none
 | nL1+1,v7=>if (decide (v7<(p0.size:Int)))=true then ((aN5 p0 v7).bind fun x7=>(if (decide ((x7.toNat:Int)≥97))=true then (if (decide ((x7.toNat:Int)≤122))=true then (gM p0 p1 p2 nL1 (i64.wrap (v7+1))) else (if p2=true then (if (!((x7.toNat:Int)==47))=true then (some false) else (gM p0 p1 p2 nL1 (i64.wrap (v7+1)))) else (some false))) else (if p2=true then (if (!((x7.toNat:Int)==47))=true then (some false) else (gM p0 p1 p2 nL1 (i64.wrap (v7+1)))) else (some false)))) else ((bA (p0.size:Int) 1 p1).bind fun x17=>(some x17))
def xV (p0:ByteArray) (p1:Int) (p2:Bool):Option Bool:=
 gM p0 p1 p2 fuel 0
def bV (p0:ByteArray):Option Bool:=
 (xV p0 8 false).bind fun x1=>(some x1)
def cW (p0:M.Registration):Nat→Int→Int→Option Bool
 | 0,_,_=>none
 | nL1+1,v3,v14=>if (decide (v14<((3:Nat):Int)))=true then ((idx ([p0.Active,p0.Waiting,p0.Installing]) v14).bind fun x18=>((bA x18 0 1000000000000).bind fun x23=>(if (!x23)=true then (some false) else (if (x18 != 0)=true then (if (decide (x18≤v3))=true then (some false) else (cW p0 nL1 (if x18>v3 then x18 else v3) (i64.wrap (v14+1)))) else (cW p0 nL1 (if x18>v3 then x18 else v3) (i64.wrap (v14+1))))))) else ((bV p0.Site).bind fun x28=>(some x28))
def kL (p0:M.Registration):Option Bool:=
 cW p0 fuel 0 0
def tL (p0:M.Cached) (c0:ByteArray) (c1:ByteArray):Option Bool:=
 if (p0.Site.toList==c0.toList)=true then (some (p0.Path.toList==c1.toList)) else (some false)
def bR (p0:List M.Cached) (p1:M.Cached→Option Bool):Nat→Int→Option Int
 | 0,_=>none
 | nL1+1,v8=>if (decide (v8<(List.length p0:Int)))=true then ((idx p0 v8).bind fun x7=>((p1 x7).bind fun x12=>(if x12=true then (some v8) else (bR p0 p1 nL1 (i64.wrap (v8+1)))))) else (some (-1))
def hZ (p0:List M.Cached) (p1:M.Cached→Option Bool):Option Int:=
 bR p0 p1 fuel 0
def vC (p0:M.Cache) (p1:ByteArray) (p2:ByteArray):Option Int:=
 (hZ p0.Entries (fun z0=>tL z0 p1 p2)).bind fun x1=>(some x1)
def mB (p0:M.Response):Option Bool:=
 (bA p0.Type_ 1 4).bind fun x1=>(if x1=true then ((bA p0.Status 0 999).bind fun x4=>(if x4=true then ((bA p0.Version 0 1000000000000).bind fun x7=>(if x7=true then (some (decide ((List.length p0.Body:Int)≤60))) else (some false))) else (some false))) else (some false))
def eR (x8:M.Cache) (k25:Int→Option Bool):Nat→Int→Option Bool
 | 0,_=>none
 | nL2+1,v44_L2=>if (decide (v44_L2<(List.length x8.Entries:Int)))=true then ((idx x8.Entries v44_L2).bind fun x38=>((bV x38.Site).bind fun x43=>(if (!x43)=true then (some false) else ((bV x38.Path).bind fun x46=>(if (!x46)=true then (some false) else ((vC x8 x38.Site x38.Path).bind fun x49=>(if (x49 != v44_L2)=true then (some false) else ((mB x38.Response).bind fun x52=>(if (!x52)=true then (some false) else (eR x8 k25 nL2 (i64.wrap (v44_L2+1)))))))))))) else (k25 v44_L2)
def eE (x8:M.Cache) (k57:Int→Option Bool):Nat→Int→Option Bool
 | 0,_=>none
 | nL3+1,v44_L3=>if (decide (v44_L3<(List.length x8.Entries:Int)))=true then ((idx x8.Entries v44_L3).bind fun x70=>((bV x70.Site).bind fun x75=>(if (!x75)=true then (some false) else ((bV x70.Path).bind fun x78=>(if (!x78)=true then (some false) else ((vC x8 x70.Site x70.Path).bind fun x81=>(if (x81 != v44_L3)=true then (some false) else ((mB x70.Response).bind fun x84=>(if (!x84)=true then (some false) else (eE x8 k57 nL3 (i64.wrap (v44_L3+1)))))))))))) else (k57 v44_L3)
def eQ (p0:M.aM):Nat→Int→Option Bool
 | 0,_=>none
 | nL1+1,v10=>if (decide (v10<(List.length p0.Caches:Int)))=true then ((idx p0.Caches v10).bind fun x8=>((bA x8.Version 1 1000000000000).bind fun x13=>(if (!x13)=true then (some false) else (if (decide (v10>0))=true then ((idx p0.Caches (i64.wrap (v10-1))).bind fun x17=>(if (decide (x8.Version≤x17.Version))=true then (some false) else (if (decide ((List.length x8.Entries:Int)>12))=true then (some false) else (eR x8 (fun (v44_L2:Int)=>eQ p0 nL1 (i64.wrap (v10+1))) fuel 0)))) else (if (decide ((List.length x8.Entries:Int)>12))=true then (some false) else (eE x8 (fun (v44_L3:Int)=>eQ p0 nL1 (i64.wrap (v10+1))) fuel 0)))))) else (some (decide ((List.length p0.Caches:Int)≤4)))
def qC (p0:M.aM):Option Bool:=
 eQ p0 fuel 0
def dR (p0:ByteArray):Nat→Int→Option Bool
 | 0,_=>none
 | nL1+1,v3=>if (decide (v3<(p0.size:Int)))=true then ((aN5 p0 v3).bind fun x5=>(if (decide ((x5.toNat:Int)≥97))=true then (if (decide ((x5.toNat:Int)≤122))=true then (dR p0 nL1 (i64.wrap (v3+1))) else (if (decide ((x5.toNat:Int)≥48))=true then (if (!(decide ((x5.toNat:Int)≤57)))=true then (some false) else (dR p0 nL1 (i64.wrap (v3+1)))) else (some false))) else (if (decide ((x5.toNat:Int)≥48))=true then (if (!(decide ((x5.toNat:Int)≤57)))=true then (some false) else (dR p0 nL1 (i64.wrap (v3+1)))) else (some false)))) else (some (decide ((p0.size:Int)≤12)))
def sX (p0:ByteArray):Option Bool:=
 dR p0 fuel 0
def oJ (p0:M.Key):Option Bool:=
 (bA p0.Kind 1 3).bind fun x1=>(if (!x1)=true then (some false) else ((bA p0.N (-1000000000000) 1000000000000).bind fun x4=>(if (!x4)=true then (some false) else ((sX p0.Text).bind fun x7=>(if (!x7)=true then (some false) else (if (p0.Kind==2)=true then (if (!(p0.N != 0))=true then (if (p0.Kind==1)=true then (some (!(!(p0.Text.toList==(⟨#[]⟩:ByteArray).toList)))) else (some true)) else (some false)) else (if (p0.Kind==1)=true then (some (!(!(p0.Text.toList==(⟨#[]⟩:ByteArray).toList)))) else (some true))))))))
def gA (p0:M.aU):Nat→Int→Option Bool
 | 0,_=>none
 | nL1+1,v8=>if (decide (v8<(List.length p0.Fields:Int)))=true then ((idx p0.Fields v8).bind fun x8=>((bV x8.Name).bind fun x13=>(if (!x13)=true then (some false) else ((bA x8.N 0 1000000000).bind fun x16=>(if (!x16)=true then (some false) else (if (decide (v8>0))=true then ((idx p0.Fields (i64.wrap (v8-1))).bind fun x20=>(if (Op.bytesLess x8.Name.toList x20.Name.toList||x8.Name.toList==x20.Name.toList)=true then (some false) else (gA p0 nL1 (i64.wrap (v8+1))))) else (gA p0 nL1 (i64.wrap (v8+1))))))))) else (some (decide ((List.length p0.Fields:Int)≤6)))
def qI (p0:M.aU):Option Bool:=
 gA p0 fuel 0
def oG (p0:Int) (p1:Int):Option Int:=
 if (decide (p0<p1))=true then (some (-1)) else (if (decide (p0>p1))=true then (some 1) else (some 0))
def jI (p0:ByteArray) (p1:ByteArray):Option Int:=some (Lib.compareBytes p0.data.toList p1.data.toList)
def xX (p0:ByteArray) (p1:ByteArray):Option Int:=
 (jI p0 p1).bind fun x1=>(some x1)
def kU (p0:M.Key) (p1:M.Key):Option Int:=
 (oJ p0).bind fun x1=>(if (!x1)=true then (some 0) else ((oJ p1).bind fun x4=>(if (!x4)=true then (some 0) else ((oG p0.Kind p1.Kind).bind fun x7=>(if (x7 != 0)=true then (some x7) else ((oG p0.N p1.N).bind fun x10=>(if (x10 != 0)=true then (some x10) else ((xX p0.Text p1.Text).bind fun x13=>(some x13)))))))))
def gY (p0:M.aH):Nat→Int→Option Bool
 | 0,_=>none
 | nL1+1,v8=>if (decide (v8<(List.length p0.Items:Int)))=true then ((idx p0.Items v8).bind fun x8=>((oJ x8.Key).bind fun x13=>(if (!x13)=true then (some false) else ((qI x8.aU).bind fun x16=>(if (!x16)=true then (some false) else (if (decide (v8>0))=true then ((idx p0.Items (i64.wrap (v8-1))).bind fun x20=>((kU x20.Key x8.Key).bind fun x25=>(if (decide (x25≥0))=true then (some false) else (gY p0 nL1 (i64.wrap (v8+1)))))) else (gY p0 nL1 (i64.wrap (v8+1))))))))) else ((bV p0.Name).bind fun x28=>(if x28=true then (if (decide ((List.length p0.Items:Int)≤16))=true then ((bA p0.Auto 0 1000000).bind fun x32=>(some x32)) else (some false)) else (some false)))
def pN (p0:M.aH):Option Bool:=
 gY p0 fuel 0
def oM (p0:M.aH) (c0:ByteArray):Option Bool:=
 some (p0.Name.toList==c0.toList)
def bZ (p0:List M.aH) (p1:M.aH→Option Bool):Nat→Int→Option Int
 | 0,_=>none
 | nL1+1,v8=>if (decide (v8<(List.length p0:Int)))=true then ((idx p0 v8).bind fun x7=>((p1 x7).bind fun x12=>(if x12=true then (some v8) else (bZ p0 p1 nL1 (i64.wrap (v8+1)))))) else (some (-1))
def iO (p0:List M.aH) (p1:M.aH→Option Bool):Option Int:=
 bZ p0 p1 fuel 0
def tF (p0:M.Database) (p1:ByteArray):Option Int:=
 (iO p0.Stores (fun z0=>oM z0 p1)).bind fun x1=>(some x1)
def dF (p0:List M.aD) (p1:M.aD):Nat→Int→Option Int
 | 0,_=>none
 | nL1+1,v8=>if (decide (v8<(List.length p0:Int)))=true then ((idx p0 v8).bind fun x8=>(if ((p1.aH.toList==x8.aH.toList)&&(p1.Field.toList==x8.Field.toList))=true then (some v8) else (dF p0 p1 nL1 (i64.wrap (v8+1))))) else (some (-1))
def iY (p0:List M.aD) (p1:M.aD):Option Int:=
 dF p0 p1 fuel 0
def gZ (p0:List M.aD) (p1:M.aD):Option Bool:=
 (iY p0 p1).bind fun x1=>(some (decide (x1≥0)))
def sP (p0:M.Field) (c0:ByteArray):Option Bool:=
 some (p0.Name.toList==c0.toList)
def bX (p0:List M.Field) (p1:M.Field→Option Bool):Nat→Int→Option Int
 | 0,_=>none
 | nL1+1,v8=>if (decide (v8<(List.length p0:Int)))=true then ((idx p0 v8).bind fun x7=>((p1 x7).bind fun x12=>(if x12=true then (some v8) else (bX p0 p1 nL1 (i64.wrap (v8+1)))))) else (some (-1))
def iR (p0:List M.Field) (p1:M.Field→Option Bool):Option Int:=
 bX p0 p1 fuel 0
def aBY (p0:M.aU) (p1:ByteArray):Option Int:=
 (iR p0.Fields (fun z0=>sP z0 p1)).bind fun x1=>(some x1)
def iZ (p0:M.aU) (p1:ByteArray):Option (Int×Bool):=
 (aBY p0 p1).bind fun x1=>(if (decide (x1<0))=true then (some (0,false)) else ((idx p0.Fields x1).bind fun x4=>(some (x4.N,true))))
def pA (p0:M.Item) (p1:M.Item) (p2:ByteArray):Option Bool:=
 (iZ p0.aU p2).bind fun x1=>((iZ p1.aU p2).bind fun x3=>(if (decide (x1.1<x3.1))=true then (some true) else (if (x1.1==x3.1)=true then ((kU p0.Key p1.Key).bind fun x7=>(some (decide (x7<0)))) else (some false))))
def gV (p1:ByteArray) (r11:List M.Item) (x15:M.Item) (k24:Int→Option (List M.Item)):Nat→Int→Option (List M.Item)
 | 0,_=>none
 | nL2+1,v10_L2=>if (decide (v10_L2>0))=true then ((idx r11 (i64.wrap (v10_L2-1))).bind fun x36=>((pA x15 x36 p1).bind fun x41=>(if x41=true then (gV p1 r11 x15 k24 nL2 (i64.wrap (v10_L2-1))) else (k24 v10_L2)))) else (k24 v10_L2)
def gP (p0:M.aH) (p1:ByteArray):Nat→Int→List M.Item→Option (List M.Item)
 | 0,_,_=>none
 | nL1+1,v15,r11=>if (decide (v15<(List.length p0.Items:Int)))=true then ((idx p0.Items v15).bind fun x15=>((iZ x15.aU p1).bind fun x20=>(if (!x20.2)=true then (gP p0 p1 nL1 (i64.wrap (v15+1)) r11) else (gV p1 r11 x15 (fun (v10_L2:Int)=>(rF x15).bind fun x55=>((aJ3 56 r11 v10_L2 ([x55])).bind fun x57=>(gP p0 p1 nL1 (i64.wrap (v15+1)) (List.take v10_L2.toNat r11++([x55]++List.drop v10_L2.toNat r11))))) fuel (List.length r11:Int))))) else (some r11)
def yZ (p0:M.aH) (p1:ByteArray):Option (List M.Item):=
 gP p0 p1 fuel 0 ([]:List M.Item)
def eY (p1:ByteArray) (x1:(List M.Item)):Nat→Int→Option (M.Key×M.Key×Bool)
 | 0,_=>none
 | nL1+1,v8=>if (decide (v8<(List.length x1:Int)))=true then ((idx x1 (i64.wrap (v8-1))).bind fun x13=>((iZ x13.aU p1).bind fun x18=>((idx x1 v8).bind fun x20=>((iZ x20.aU p1).bind fun x25=>(if (x18.1==x25.1)=true then (some (x13.Key,x20.Key,true)) else (eY p1 x1 nL1 (i64.wrap (v8+1)))))))) else (some ((⟨0,0,(⟨#[]⟩:ByteArray)⟩:M.Key),(⟨0,0,(⟨#[]⟩:ByteArray)⟩:M.Key),false))
def hU (p0:M.aH) (p1:ByteArray):Option (M.Key×M.Key×Bool):=
 (yZ p0 p1).bind fun x1=>(eY p1 x1 fuel 1)
def dE (p0:M.Database):Nat→Int→Option Bool
 | 0,_=>none
 | nL2+1,v64=>if (decide (v64<(List.length p0.Unique:Int)))=true then ((idx p0.Unique v64).bind fun x38=>((tF p0 x38.aH).bind fun x43=>(if (decide (x43<0))=true then (some false) else ((bV x38.Field).bind fun x46=>(if (!x46)=true then (some false) else ((aEH p0.Unique v64).bind fun x49=>((gZ (List.take v64.toNat p0.Unique) x38).bind fun x51=>(if x51=true then (some false) else ((idx p0.Stores x43).bind fun x54=>((hU x54 x38.Field).bind fun x59=>(if x59.2.2=true then (some false) else (dE p0 nL2 (i64.wrap (v64+1)))))))))))))) else (some true)
def dC (p0:M.Database):Nat→Int→Option Bool
 | 0,_=>none
 | nL1+1,v36=>if (decide (v36<(List.length p0.Stores:Int)))=true then ((idx p0.Stores v36).bind fun x16=>((pN x16).bind fun x21=>(if (!x21)=true then (some false) else (if (decide (v36>0))=true then ((idx p0.Stores (i64.wrap (v36-1))).bind fun x25=>(if (Op.bytesLess x16.Name.toList x25.Name.toList||x16.Name.toList==x25.Name.toList)=true then (some false) else (dC p0 nL1 (i64.wrap (v36+1))))) else (dC p0 nL1 (i64.wrap (v36+1))))))) else (dE p0 fuel 0)
def qB (p0:M.Database):Option Bool:=
 (bV p0.Name).bind fun x1=>(if (!x1)=true then (some false) else ((bA p0.Version 0 1000).bind fun x4=>(if (!x4)=true then (some false) else (if (decide ((List.length p0.Stores:Int)>4))=true then (some false) else (if (decide ((List.length p0.Unique:Int)>4))=true then (some false) else (dC p0 fuel 0))))))
def jB (p0:M.aY):Option Bool:=
 (bA p0.Device 1 1000000).bind fun x1=>(if x1=true then ((bA p0.Seq 1 1000000).bind fun x4=>(if x4=true then ((oJ p0.Key).bind fun x7=>(if x7=true then ((bV p0.Field).bind fun x10=>(if x10=true then ((bA p0.N 0 1000000000).bind fun x13=>(some x13)) else (some false))) else (some false))) else (some false))) else (some false))
def iX (p0:M.aV):Nat→Int→Option Bool
 | 0,_=>none
 | nL1+1,v12=>if (decide (v12<(List.length p0.Writes:Int)))=true then ((idx p0.Writes v12).bind fun x9=>((jB x9).bind fun x14=>(if (!x14)=true then (some false) else (if (x9.Device != p0.Device)=true then (some false) else (if (x9.Seq != (i64.wrap ((i64.wrap (p0.Next-(List.length p0.Writes:Int)))+v12)))=true then (some false) else (iX p0 nL1 (i64.wrap (v12+1)))))))) else ((bA p0.Device 1 1000000).bind fun x19=>(if x19=true then ((bA p0.Next 1 1000000).bind fun x22=>(if x22=true then (some (decide ((List.length p0.Writes:Int)≤20))) else (some false))) else (some false)))
def wN (p0:M.aV):Option Bool:=
 iX p0 fuel 0
def uQ (p0:M.aE):Option Bool:=
 (pN p0.Base).bind fun x1=>(if x1=true then (if (p0.Base.Name.toList==(⟨#[110,111,116,101,115]⟩:ByteArray).toList)=true then ((bA p0.Seen 0 1000000000000).bind fun x5=>(if x5=true then ((wN p0.Sync.aV).bind fun x8=>(some x8)) else (some false))) else (some false)) else (some false))
def rM (p0:M.Response) (p1:Bool):Option Int:=
 if p1=true then (some 76) else (some (i64.wrap (16+(List.length p0.Body:Int))))
def hH (x7:M.Cache) (k13:Int→Int→Option Int):Nat→Int→Int→Option Int
 | 0,_,_=>none
 | nL2+1,v3_L2,v18_L2=>if (decide (v18_L2<(List.length x7.Entries:Int)))=true then ((idx x7.Entries v18_L2).bind fun x23=>((rM x23.Response (x23.Response.Type_==3)).bind fun x28=>(hH x7 k13 nL2 (i64.wrap (v3_L2+x28)) (i64.wrap (v18_L2+1))))) else (k13 v3_L2 v18_L2)
def eP (p0:M.aM):Nat→Int→Int→Option Int
 | 0,_,_=>none
 | nL1+1,v3,v11=>if (decide (v11<(List.length p0.Caches:Int)))=true then ((idx p0.Caches v11).bind fun x7=>(hH x7 (fun (v3_L2:Int) (v18_L2:Int)=>eP p0 nL1 v3_L2 (i64.wrap (v11+1))) fuel v3 0)) else (some v3)
def qY (p0:M.aM):Option Int:=
 eP p0 fuel 0 0
def dV (p0:M.Key):Nat→Int→List Int→Option (List Int)
 | 0,_,_=>none
 | nL1+1,v4,r12=>if (decide (v4≥0))=true then (if (decide (0≤(i64.wrap (8*v4))))=true then ((app 1 r12 ([(IntKind.u8.wrap (Int.fdiv (i64.wrap (p0.N+1000000000000)) (2^(min (i64.wrap (8*v4)).toNat IntKind.i64.bits))))])).bind fun x18=>(dV p0 nL1 (i64.wrap (v4-1)) (r12++[(IntKind.u8.wrap (Int.fdiv (i64.wrap (p0.N+1000000000000)) (2^(min (i64.wrap (8*v4)).toNat IntKind.i64.bits))))]))) else none) else ((app 1 r12 (lV p0.Text)).bind fun x26=>(some (r12++lV p0.Text)))
def uG (p0:M.Key):Option (List Int):=
 (oJ p0).bind fun x1=>(if (!x1)=true then (some ([]:List Int)) else (if (p0.Kind != 2)=true then (dV p0 fuel 5 ([(IntKind.u8.wrap p0.Kind)])) else ((app 1 ([(IntKind.u8.wrap p0.Kind)]) (lV p0.Text)).bind fun x28=>(some ([(IntKind.u8.wrap p0.Kind)]++lV p0.Text)))))
def fD  : Nat→Int→List Int→Option (List Int)
 | 0,_,_=>none
 | nL1+1,v1,r7=>if (decide (v1≥128))=true then ((app 1 r7 ([(IntKind.u8.wrap (i64.wrap ((Int.tmod v1 128)+128)))])).bind fun x11=>(fD nL1 (i64.wrap (Int.tdiv v1 128)) (r7++[(IntKind.u8.wrap (i64.wrap ((Int.tmod v1 128)+128)))]))) else ((app 1 r7 ([(IntKind.u8.wrap v1)])).bind fun x17=>(some (r7++[(IntKind.u8.wrap v1)])))
def hD (p0:List Int) (p1:Int):Option (List Int):=
 (jF p0).bind fun x1=>((bA p1 0 1000000000000).bind fun x3=>(if (!x3)=true then (some x1) else (fD fuel p1 x1)))
def pE (p0:List Int) (p1:List Int):Option (List Int):=
 (hD p0 (List.length p1:Int)).bind fun x1=>((app 1 x1 p1).bind fun x3=>(some (x1++p1)))
def fV (p0:M.aU):Nat→Int→List Int→Option (List Int)
 | 0,_,_=>none
 | nL1+1,v17,r50000=>if (decide (v17<(List.length p0.Fields:Int)))=true then ((idx p0.Fields v17).bind fun x13=>((pE r50000 (lV x13.Name)).bind fun x18=>((hD x18 x13.N).bind fun x20=>(fV p0 nL1 (i64.wrap (v17+1)) x20)))) else (some r50000)
def mW (p0:M.aU):Option (List Int):=
 (qI p0).bind fun x1=>(if (!x1)=true then (some ([]:List Int)) else ((hD ([]:List Int) (List.length p0.Fields:Int)).bind fun x4=>(fV p0 fuel 0 x4)))
def iD (p0:M.aH):Nat→Int→Int→Option Int
 | 0,_,_=>none
 | nL1+1,v3,v9=>if (decide (v9<(List.length p0.Items:Int)))=true then ((idx p0.Items v9).bind fun x7=>((uG x7.Key).bind fun x12=>((mW x7.aU).bind fun x14=>(iD p0 nL1 (i64.wrap (v3+(i64.wrap ((List.length x12:Int)+(List.length x14:Int))))) (i64.wrap (v9+1)))))) else (some v3)
def nQ (p0:M.aH):Option Int:=
 iD p0 fuel 0 0
def fQ (p0:M.Database):Nat→Int→Int→Option Int
 | 0,_,_=>none
 | nL1+1,v3,v9=>if (decide (v9<(List.length p0.Stores:Int)))=true then ((idx p0.Stores v9).bind fun x7=>((nQ x7).bind fun x12=>(fQ p0 nL1 (i64.wrap (v3+x12)) (i64.wrap (v9+1))))) else (some v3)
def mU (p0:M.Database):Option Int:=
 fQ p0 fuel 0 0
def aAl (p0:M.bB):Option Int:=
 (mU p0.Base).bind fun x1=>(some (i64.wrap (x1+(List.length p0.Log:Int))))
def yY (p0:M.aA):Option Int:=
 (qY p0.Caches).bind fun x1=>((aAl p0.bB).bind fun x3=>((nQ p0.aE.Base).bind fun x5=>(some (i64.wrap ((i64.wrap ((i64.wrap (x1+x3))+x5))+(i64.wrap (40*(List.length p0.aE.Sync.aV.Writes:Int))))))))
def kF (p0:M.aA):Option Bool:=
 (bV p0.Site).bind fun x1=>(if x1=true then ((bV p0.Top).bind fun x4=>(if x4=true then ((kL p0.Registration).bind fun x7=>(if x7=true then (if (p0.Registration.Site.toList==p0.Site.toList)=true then ((qC p0.Caches).bind fun x11=>(if x11=true then ((qB p0.bB.Base).bind fun x14=>(if x14=true then ((uQ p0.aE).bind fun x17=>(if x17=true then ((bA p0.LastUsed 0 1000000000000).bind fun x20=>(if x20=true then ((yY p0).bind fun x23=>(some (decide (x23≤2500)))) else (some false))) else (some false))) else (some false))) else (some false))) else (some false)) else (some false))) else (some false))) else (some false))
def jY (p0:M.aA) (p1:M.aA):Option Bool:=
 if (Op.bytesLess p0.Site.toList p1.Site.toList)=true then (some true) else (if (p0.Site.toList==p1.Site.toList)=true then (some (Op.bytesLess p0.Top.toList p1.Top.toList)) else (some false))
def fE (p0:M.aC):Nat→Int→Option Bool
 | 0,_=>none
 | nL1+1,v8=>if (decide (v8<(List.length p0.Buckets:Int)))=true then ((idx p0.Buckets v8).bind fun x8=>((kF x8).bind fun x13=>(if (!x13)=true then (some false) else (if (decide (v8>0))=true then ((idx p0.Buckets (i64.wrap (v8-1))).bind fun x17=>((jY x17 x8).bind fun x22=>(if (!x22)=true then (some false) else (fE p0 nL1 (i64.wrap (v8+1)))))) else (fE p0 nL1 (i64.wrap (v8+1))))))) else (some (decide ((List.length p0.Buckets:Int)≤9)))
def bT (p0:M.aC):Option Bool:=
 fE p0 fuel 0
def qE (p0:ByteArray):Option Bool:=
 (xV p0 30 true).bind fun x1=>(some x1)
def bL (p0:M.aR) (v10:Int) (x8:M.cG) (k22:Int→Option Bool):Nat→Int→Option Bool
 | 0,_=>none
 | nL2+1,v30_L2=>if (decide (v30_L2<(List.length (List.take v10.toNat p0.Locks):Int)))=true then ((idx (List.take v10.toNat p0.Locks) v30_L2).bind fun x35=>(if (x35.Name.toList==x8.Name.toList)=true then (if x8.Held=true then (if (!x35.Held)=true then (some false) else (if (!x8.Shared)=true then (some false) else (if (!x35.Shared)=true then (some false) else (bL p0 v10 x8 k22 nL2 (i64.wrap (v30_L2+1)))))) else (bL p0 v10 x8 k22 nL2 (i64.wrap (v30_L2+1)))) else (bL p0 v10 x8 k22 nL2 (i64.wrap (v30_L2+1))))) else (k22 v30_L2)
def dN (p0:M.aR):Nat→Int→Option Bool
 | 0,_=>none
 | nL1+1,v10=>if (decide (v10<(List.length p0.Locks:Int)))=true then ((idx p0.Locks v10).bind fun x8=>((qE x8.Name).bind fun x13=>(if (!x13)=true then (some false) else ((bA x8.bI 1 1000000000000).bind fun x16=>(if (!x16)=true then (some false) else ((aEH p0.Locks v10).bind fun x19=>(bL p0 v10 x8 (fun (v30_L2:Int)=>dN p0 nL1 (i64.wrap (v10+1))) fuel 0))))))) else (some (decide ((List.length p0.Locks:Int)≤12)))
def oF (p0:M.aR):Option Bool:=
 dN p0 fuel 0
def lM (p0:M.bI):Nat→Int→Option Bool
 | 0,_=>none
 | nL1+1,v8=>if (decide (v8<(List.length p0.aN:Int)))=true then ((idx p0.aN v8).bind fun x8=>((bV x8.Path).bind fun x13=>(if (!x13)=true then (some false) else (if (x8.Version != p0.Version)=true then (some false) else (lM p0 nL1 (i64.wrap (v8+1))))))) else ((bA p0.Id 1 1000000000000).bind fun x17=>(if x17=true then ((bV p0.Site).bind fun x20=>(if x20=true then ((bV p0.Top).bind fun x23=>(if x23=true then ((bA p0.Version 1 1000000000000).bind fun x26=>(if x26=true then (some (decide ((List.length p0.aN:Int)≤8))) else (some false))) else (some false))) else (some false))) else (some false)))
def aBH (p0:M.bI):Option Bool:=
 lM p0 fuel 0
def iB (p0:M.Site):Nat→Int→Option Bool
 | 0,_=>none
 | nL1+1,v8=>if (decide (v8<(List.length p0.Files:Int)))=true then ((idx p0.Files v8).bind fun x8=>((bV x8).bind fun x13=>(if (!x13)=true then (some false) else (if (decide (v8>0))=true then ((idx p0.Files (i64.wrap (v8-1))).bind fun x17=>(if (Op.bytesLess x8.toList x17.toList||x8.toList==x17.toList)=true then (some false) else (iB p0 nL1 (i64.wrap (v8+1))))) else (iB p0 nL1 (i64.wrap (v8+1))))))) else ((bV p0.Name).bind fun x23=>(if x23=true then ((bA p0.Version 1 1000000000000).bind fun x26=>(if x26=true then ((bA (List.length p0.Files:Int) 1 6).bind fun x29=>(some x29)) else (some false))) else (some false)))
def aAo (p0:M.Site):Option Bool:=
 iB p0 fuel 0
def eT (p0:List ByteArray) (p1:ByteArray):Nat→Int→Option Int
 | 0,_=>none
 | nL1+1,v8=>if (decide (v8<(List.length p0:Int)))=true then ((idx p0 v8).bind fun x7=>(if (p1.toList==x7.toList)=true then (some v8) else (eT p0 p1 nL1 (i64.wrap (v8+1))))) else (some (-1))
def pC (p0:List ByteArray) (p1:ByteArray):Option Int:=
 eT p0 p1 fuel 0
def qK (p0:ByteArray):Option Int:=
 (pC ([(⟨#[98,97,110,107]⟩:ByteArray),(⟨#[110,101,119,115]⟩:ByteArray),(⟨#[115,104,111,112]⟩:ByteArray)]) p0).bind fun x1=>(some x1)
def hT (p0:M.Server):Nat→Int→Option Bool
 | 0,_=>none
 | nL2+1,v45=>if (decide (v45<(List.length p0.Changes:Int)))=true then ((idx p0.Changes v45).bind fun x33=>((jB x33).bind fun x38=>(if (!x38)=true then (some false) else (hT p0 nL2 (i64.wrap (v45+1)))))) else ((pN p0.aH).bind fun x41=>(if x41=true then (if (p0.aH.Name.toList==(⟨#[110,111,116,101,115]⟩:ByteArray).toList)=true then (some (decide ((List.length p0.aJ:Int)≤60))) else (some false)) else (some false)))
def fZ (p0:M.Server):Nat→Int→Option Bool
 | 0,_=>none
 | nL1+1,v10=>if (decide (v10<(List.length p0.aJ:Int)))=true then ((idx p0.aJ v10).bind fun x8=>((bA x8.Device 1 1000000).bind fun x13=>(if (!x13)=true then (some false) else ((bA x8.Seq 0 1000000).bind fun x16=>(if (!x16)=true then (some false) else (if (decide (v10>0))=true then ((idx p0.aJ (i64.wrap (v10-1))).bind fun x20=>(if (decide (x8.Device≤x20.Device))=true then (some false) else (fZ p0 nL1 (i64.wrap (v10+1))))) else (fZ p0 nL1 (i64.wrap (v10+1))))))))) else (hT p0 fuel 0)
def wX (p0:M.Server):Option Bool:=
 fZ p0 fuel 0
def gS (p0:M.World):Nat→Int→Option Bool
 | 0,_=>none
 | nL2+1,v101=>if (decide (v101<(List.length p0.Sites:Int)))=true then ((idx p0.Sites v101).bind fun x55=>((aAo x55).bind fun x60=>(if (!x60)=true then (some false) else ((qK x55.Name).bind fun x63=>(if (x63 != v101)=true then (some false) else ((idx p0.Servers v101).bind fun x66=>((wX x66).bind fun x71=>(if (!x71)=true then (some false) else (gS p0 nL2 (i64.wrap (v101+1))))))))))) else (some true)
def eS (p0:M.World):Nat→Int→Option Bool
 | 0,_=>none
 | nL1+1,v56=>if (decide (v56<(List.length p0.Pages:Int)))=true then ((idx p0.Pages v56).bind fun x26=>((aBH x26).bind fun x31=>(if (!x31)=true then (some false) else (if (decide (x26.Id≥p0.NextPage))=true then (some false) else (if (decide (v56>0))=true then ((idx p0.Pages (i64.wrap (v56-1))).bind fun x36=>(if (decide (x26.Id≤x36.Id))=true then (some false) else ((iK p0.aC x26.Site x26.Top).bind fun x42=>(if (decide (x42<0))=true then (some false) else (eS p0 nL1 (i64.wrap (v56+1))))))) else ((iK p0.aC x26.Site x26.Top).bind fun x45=>(if (decide (x45<0))=true then (some false) else (eS p0 nL1 (i64.wrap (v56+1)))))))))) else (gS p0 fuel 0)
def uY (p0:M.World):Option Bool:=
 (bA p0.Now 0 999999990000).bind fun x1=>(if (!x1)=true then (some false) else ((bA p0.Device 1 1000000).bind fun x4=>(if (!x4)=true then (some false) else ((bT p0.aC).bind fun x7=>(if (!x7)=true then (some false) else (if (decide ((List.length p0.Pages:Int)>6))=true then (some false) else ((bA p0.NextPage 1 1000000000000).bind fun x11=>(if (!x11)=true then (some false) else ((oF p0.Locks).bind fun x14=>(if (!x14)=true then (some false) else (if ((List.length p0.Sites:Int) != 3)=true then (some false) else (if ((List.length p0.Servers:Int) != 3)=true then (some false) else (eS p0 fuel 0)))))))))))))
def gR (p0:M.World) (p1:ByteArray) (p2:ByteArray):Nat→Int→List M.bI→Option (List M.bI)
 | 0,_,_=>none
 | nL1+1,v14,r10=>if (decide (v14<(List.length p0.Pages:Int)))=true then ((idx p0.Pages v14).bind fun x17=>(if (x17.Site.toList==p1.toList)=true then (if (x17.Top.toList==p2.toList)=true then ((rV x17).bind fun x24=>((app 144 r10 ([x24])).bind fun x26=>(gR p0 p1 p2 nL1 (i64.wrap (v14+1)) (r10++[x24])))) else (gR p0 p1 p2 nL1 (i64.wrap (v14+1)) r10)) else (gR p0 p1 p2 nL1 (i64.wrap (v14+1)) r10))) else (some r10)
def yR (p0:M.World) (p1:ByteArray) (p2:ByteArray):Option (List M.bI):=
 gR p0 p1 p2 fuel 0 ([]:List M.bI)
def eB (p0:List M.bI) (p1:ByteArray):Nat→Int→List Int→Option (List Int)
 | 0,_,_=>none
 | nL1+1,v11,r8=>if (decide (v11<(List.length p0:Int)))=true then ((idx p0 v11).bind fun x14=>(if (x14.Site.toList==p1.toList)=true then ((app 8 r8 ([x14.Version])).bind fun x20=>(eB p0 p1 nL1 (i64.wrap (v11+1)) (r8++[x14.Version]))) else (eB p0 p1 nL1 (i64.wrap (v11+1)) r8))) else (some r8)
def nJ (p0:List M.bI) (p1:ByteArray):Option (List Int):=
 eB p0 p1 fuel 0 ([]:List Int)
def gE (p0:List Int) (p1:Int):Nat→Int→Option Int
 | 0,_=>none
 | nL1+1,v8=>if (decide (v8<(List.length p0:Int)))=true then ((idx p0 v8).bind fun x7=>(if (p1==x7)=true then (some v8) else (gE p0 p1 nL1 (i64.wrap (v8+1))))) else (some (-1))
def vT (p0:List Int) (p1:Int):Option Int:=
 gE p0 p1 fuel 0
def kK (p0:List Int) (p1:Int):Option Bool:=
 (vT p0 p1).bind fun x1=>(some (decide (x1≥0)))
def oQ (p0:M.Registration) (p1:List Int):Option Bool:=
 (kL p0).bind fun x1=>(if x1=true then (if (p0.Waiting != 0)=true then ((kK p1 p0.Active).bind fun x5=>(some (!x5))) else (some false)) else (some false))
def xG (p0:M.Registration) (p1:List Int):Option (M.Registration×Int×Bool):=
 (oQ p0 p1).bind fun x1=>(if (!x1)=true then (some (p0,0,false)) else (some ((⟨p0.Site,p0.Installing,0,p0.Waiting⟩:M.Registration),p0.Active,true)))
def oV (p0:M.Cache) (c0:Int):Option Bool:=
 some (p0.Version==c0)
def bY (p0:List M.Cache) (p1:M.Cache→Option Bool):Nat→Int→Option Int
 | 0,_=>none
 | nL1+1,v8=>if (decide (v8<(List.length p0:Int)))=true then ((idx p0 v8).bind fun x7=>((p1 x7).bind fun x12=>(if x12=true then (some v8) else (bY p0 p1 nL1 (i64.wrap (v8+1)))))) else (some (-1))
def iM (p0:List M.Cache) (p1:M.Cache→Option Bool):Option Int:=
 bY p0 p1 fuel 0
def uS (p0:M.aM) (p1:Int):Option Int:=
 (iM p0.Caches (fun z0=>oV z0 p1)).bind fun x1=>(some x1)
def tN (p0:M.aM) (p1:Int):Option (M.aM×Bool):=
 (jR p0).bind fun x1=>((uS p0 p1).bind fun x3=>(if (decide (x3<0))=true then (some (x1,false)) else ((aMj x1.Caches x3 (i64.wrap (x3+1))).bind fun x6=>(some ((⟨(List.take x3.toNat x1.Caches++List.drop (i64.wrap (x3+1)).toNat x1.Caches)⟩:M.aM),true)))))
def lR (p0:M.aA) (p1:M.aA):Option (M.aA×Bool):=
 (kF p0).bind fun x1=>(if (!x1)=true then ((dI p0).bind fun x4=>(some (x4,false))) else ((kF p1).bind fun x6=>(if (!x6)=true then ((dI p0).bind fun x9=>(some (x9,false))) else ((dI p1).bind fun x11=>(some (x11,true))))))
def lS (p0:M.aA) (p1:M.aM) (p2:M.Registration):Option (M.aA×Bool):=
 (lR p0 (⟨p0.Site,p0.Top,p2,p1,p0.bB,p0.aE,p0.LastUsed,p0.Persistent⟩:M.aA)).bind fun x1=>(some (x1.1,x1.2))
def gF (p0:M.aC) (p1:M.aA) (x1:M.aC):Nat→Int→Option (M.aC×Bool)
 | 0,_=>none
 | nL1+1,v8=>if (decide (v8<(List.length x1.Buckets:Int)))=true then ((idx x1.Buckets v8).bind fun x43=>((jY x43 p1).bind fun x48=>(if x48=true then (gF p0 p1 x1 nL1 (i64.wrap (v8+1))) else ((dI p1).bind fun x51=>((aJ3 328 x1.Buckets v8 ([x51])).bind fun x53=>((bT p0).bind fun x63=>(if (!x63)=true then ((bP p0).bind fun x66=>(some (x66,false))) else ((bT (⟨(List.take v8.toNat x1.Buckets++([x51]++List.drop v8.toNat x1.Buckets))⟩:M.aC)).bind fun x68=>(if (!x68)=true then ((bP p0).bind fun x71=>(some (x71,false))) else (some ((⟨(List.take v8.toNat x1.Buckets++([x51]++List.drop v8.toNat x1.Buckets))⟩:M.aC),true))))))))))) else ((dI p1).bind fun x73=>((aJ3 328 x1.Buckets v8 ([x73])).bind fun x75=>((bT p0).bind fun x85=>(if (!x85)=true then ((bP p0).bind fun x88=>(some (x88,false))) else ((bT (⟨(List.take v8.toNat x1.Buckets++([x73]++List.drop v8.toNat x1.Buckets))⟩:M.aC)).bind fun x90=>(if (!x90)=true then ((bP p0).bind fun x93=>(some (x93,false))) else (some ((⟨(List.take v8.toNat x1.Buckets++([x73]++List.drop v8.toNat x1.Buckets))⟩:M.aC),true))))))))
def tC (p0:M.aC) (p1:M.aA):Option (M.aC×Bool):=
 (bP p0).bind fun x1=>((iK p0 p1.Site p1.Top).bind fun x3=>(if (decide (x3≥0))=true then ((dI p1).bind fun x6=>((idx x1.Buckets x3).bind fun x8=>((bT p0).bind fun x21=>(if (!x21)=true then ((bP p0).bind fun x24=>(some (x24,false))) else ((bT (⟨(List.set x1.Buckets x3.toNat x6)⟩:M.aC)).bind fun x26=>(if (!x26)=true then ((bP p0).bind fun x29=>(some (x29,false))) else (some ((⟨(List.set x1.Buckets x3.toNat x6)⟩:M.aC),true)))))))) else (gF p0 p1 x1 fuel 0)))
def qU (p0:M.World) (p1:M.aA) (p2:M.aM) (p3:M.Registration):Option (M.World×Bool):=
 (nS p0).bind fun x1=>((lS p1 p2 p3).bind fun x3=>((tC x1.aC x3.1).bind fun x5=>(if (!x3.2)=true then (some (x1,false)) else (if (!x5.2)=true then (some (x1,false)) else (some ((⟨x1.Now,x1.Online,x1.Device,x5.1,x1.Pages,x1.NextPage,x1.Locks,x1.Channel,x1.Sites,x1.Servers⟩:M.World),true))))))
def iT (p0:M.World) (p1:ByteArray) (p2:ByteArray):Option (M.World×Bool):=
 (nS p0).bind fun x1=>((aAk p0 p1 p2).bind fun x3=>((uY p0).bind fun x5=>(if (!x5)=true then (some (x1,false)) else (if (!x3.2)=true then (some (x1,false)) else ((yR p0 p1 p2).bind fun x9=>((nJ x9 p1).bind fun x11=>((xG x3.1.Registration x11).bind fun x13=>(if (!x13.2.2)=true then (some (x1,false)) else ((tN x3.1.Caches x13.2.1).bind fun x16=>((qU p0 x3.1 x16.1 x13.1).bind fun x18=>(some (x18.1,x18.2))))))))))))
def kN (p0:M.Registration) (p1:M.Registration):Option Bool:=
 if (!(p0.Site.toList==p1.Site.toList))=true then (some false) else (if (p0.Installing != p1.Installing)=true then (some false) else (if (p0.Waiting != p1.Waiting)=true then (some false) else (if (p0.Active != p1.Active)=true then (some false) else (some true))))
def mG (p0:List Int) (p1:List Int):Nat→Int→Option Bool
 | 0,_=>none
 | nL1+1,v5=>if (decide (v5<(List.length p0:Int)))=true then ((idx p0 v5).bind fun x7=>((idx p1 v5).bind fun x12=>(if (x7 != x12)=true then (some false) else (mG p0 p1 nL1 (i64.wrap (v5+1)))))) else (some true)
def vF (p0:List Int) (p1:List Int):Option Bool:=
 if ((List.length p0:Int) != (List.length p1:Int))=true then (some false) else (mG p0 p1 fuel 0)
def rD (p0:M.Response) (p1:M.Response):Option Bool:=
 if (p0.Type_ != p1.Type_)=true then (some false) else (if (p0.Status != p1.Status)=true then (some false) else (if (p0.Version != p1.Version)=true then (some false) else ((vF p0.Body p1.Body).bind fun x4=>(if (!x4)=true then (some false) else (if (!(p0.Shares==p1.Shares))=true then (some false) else (some true))))))
def wT (p0:M.Cached) (p1:M.Cached):Option Bool:=
 if (!(p0.Site.toList==p1.Site.toList))=true then (some false) else (if (!(p0.Path.toList==p1.Path.toList))=true then (some false) else ((rD p0.Response p1.Response).bind fun x3=>(if (!x3)=true then (some false) else (some true))))
def jS (p0:List M.Cached) (p1:List M.Cached):Nat→Int→Option Bool
 | 0,_=>none
 | nL1+1,v5=>if (decide (v5<(List.length p0:Int)))=true then ((idx p0 v5).bind fun x7=>((idx p1 v5).bind fun x12=>((wT x7 x12).bind fun x17=>(if (!x17)=true then (some false) else (jS p0 p1 nL1 (i64.wrap (v5+1))))))) else (some true)
def tT (p0:List M.Cached) (p1:List M.Cached):Option Bool:=
 if ((List.length p0:Int) != (List.length p1:Int))=true then (some false) else (jS p0 p1 fuel 0)
def zX (p0:M.Cache) (p1:M.Cache):Option Bool:=
 if (p0.Version != p1.Version)=true then (some false) else ((tT p0.Entries p1.Entries).bind fun x2=>(if (!x2)=true then (some false) else (some true)))
def kX (p0:List M.Cache) (p1:List M.Cache):Nat→Int→Option Bool
 | 0,_=>none
 | nL1+1,v5=>if (decide (v5<(List.length p0:Int)))=true then ((idx p0 v5).bind fun x7=>((idx p1 v5).bind fun x12=>((zX x7 x12).bind fun x17=>(if (!x17)=true then (some false) else (kX p0 p1 nL1 (i64.wrap (v5+1))))))) else (some true)
def xB (p0:List M.Cache) (p1:List M.Cache):Option Bool:=
 if ((List.length p0:Int) != (List.length p1:Int))=true then (some false) else (kX p0 p1 fuel 0)
def qQ (p0:M.aM) (p1:M.aM):Option Bool:=
 (xB p0.Caches p1.Caches).bind fun x1=>(if (!x1)=true then (some false) else (some true))
def aAQ (p0:M.Key) (p1:M.Key):Option Bool:=
 if (p0.Kind != p1.Kind)=true then (some false) else (if (p0.N != p1.N)=true then (some false) else (if (!(p0.Text.toList==p1.Text.toList))=true then (some false) else (some true)))
def yN (p0:M.Field) (p1:M.Field):Option Bool:=
 if (!(p0.Name.toList==p1.Name.toList))=true then (some false) else (if (p0.N != p1.N)=true then (some false) else (some true))
def kT (p0:List M.Field) (p1:List M.Field):Nat→Int→Option Bool
 | 0,_=>none
 | nL1+1,v5=>if (decide (v5<(List.length p0:Int)))=true then ((idx p0 v5).bind fun x7=>((idx p1 v5).bind fun x12=>((yN x7 x12).bind fun x17=>(if (!x17)=true then (some false) else (kT p0 p1 nL1 (i64.wrap (v5+1))))))) else (some true)
def xF (p0:List M.Field) (p1:List M.Field):Option Bool:=
 if ((List.length p0:Int) != (List.length p1:Int))=true then (some false) else (kT p0 p1 fuel 0)
def xK (p0:M.aU) (p1:M.aU):Option Bool:=
 (xF p0.Fields p1.Fields).bind fun x1=>(if (!x1)=true then (some false) else (some true))
def aAc (p0:M.Item) (p1:M.Item):Option Bool:=
 (aAQ p0.Key p1.Key).bind fun x1=>(if (!x1)=true then (some false) else ((xK p0.aU p1.aU).bind fun x4=>(if (!x4)=true then (some false) else (some true))))
def mD (p0:List M.Item) (p1:List M.Item):Nat→Int→Option Bool
 | 0,_=>none
 | nL1+1,v5=>if (decide (v5<(List.length p0:Int)))=true then ((idx p0 v5).bind fun x7=>((idx p1 v5).bind fun x12=>((aAc x7 x12).bind fun x17=>(if (!x17)=true then (some false) else (mD p0 p1 nL1 (i64.wrap (v5+1))))))) else (some true)
def aAA (p0:List M.Item) (p1:List M.Item):Option Bool:=
 if ((List.length p0:Int) != (List.length p1:Int))=true then (some false) else (mD p0 p1 fuel 0)
def pQ (p0:M.aH) (p1:M.aH):Option Bool:=
 if (!(p0.Name.toList==p1.Name.toList))=true then (some false) else ((aAA p0.Items p1.Items).bind fun x2=>(if (!x2)=true then (some false) else (if (p0.Auto != p1.Auto)=true then (some false) else (some true))))
def kR (p0:List M.aH) (p1:List M.aH):Nat→Int→Option Bool
 | 0,_=>none
 | nL1+1,v5=>if (decide (v5<(List.length p0:Int)))=true then ((idx p0 v5).bind fun x7=>((idx p1 v5).bind fun x12=>((pQ x7 x12).bind fun x17=>(if (!x17)=true then (some false) else (kR p0 p1 nL1 (i64.wrap (v5+1))))))) else (some true)
def wB (p0:List M.aH) (p1:List M.aH):Option Bool:=
 if ((List.length p0:Int) != (List.length p1:Int))=true then (some false) else (kR p0 p1 fuel 0)
def rG (p0:M.aD) (p1:M.aD):Option Bool:=
 if (!(p0.aH.toList==p1.aH.toList))=true then (some false) else (if (!(p0.Field.toList==p1.Field.toList))=true then (some false) else (some true))
def iL (p0:List M.aD) (p1:List M.aD):Nat→Int→Option Bool
 | 0,_=>none
 | nL1+1,v5=>if (decide (v5<(List.length p0:Int)))=true then ((idx p0 v5).bind fun x7=>((idx p1 v5).bind fun x12=>((rG x7 x12).bind fun x17=>(if (!x17)=true then (some false) else (iL p0 p1 nL1 (i64.wrap (v5+1))))))) else (some true)
def oP (p0:List M.aD) (p1:List M.aD):Option Bool:=
 if ((List.length p0:Int) != (List.length p1:Int))=true then (some false) else (iL p0 p1 fuel 0)
def rO (p0:M.Database) (p1:M.Database):Option Bool:=
 if (!(p0.Name.toList==p1.Name.toList))=true then (some false) else (if (p0.Version != p1.Version)=true then (some false) else ((wB p0.Stores p1.Stores).bind fun x3=>(if (!x3)=true then (some false) else ((oP p0.Unique p1.Unique).bind fun x6=>(if (!x6)=true then (some false) else (some true))))))
def aA0 (p0:M.bB) (p1:M.bB):Option Bool:=
 (rO p0.Base p1.Base).bind fun x1=>(if (!x1)=true then (some false) else ((vF p0.Log p1.Log).bind fun x4=>(if (!x4)=true then (some false) else (if (p0.Count != p1.Count)=true then (some false) else (some true)))))
def yP (p0:M.aY) (p1:M.aY):Option Bool:=
 if (p0.Device != p1.Device)=true then (some false) else (if (p0.Seq != p1.Seq)=true then (some false) else ((aAQ p0.Key p1.Key).bind fun x3=>(if (!x3)=true then (some false) else (if (!(p0.Field.toList==p1.Field.toList))=true then (some false) else (if (p0.N != p1.N)=true then (some false) else (some true))))))
def lB (p0:List M.aY) (p1:List M.aY):Nat→Int→Option Bool
 | 0,_=>none
 | nL1+1,v5=>if (decide (v5<(List.length p0:Int)))=true then ((idx p0 v5).bind fun x7=>((idx p1 v5).bind fun x12=>((yP x7 x12).bind fun x17=>(if (!x17)=true then (some false) else (lB p0 p1 nL1 (i64.wrap (v5+1))))))) else (some true)
def rQ (p0:List M.aY) (p1:List M.aY):Option Bool:=
 if ((List.length p0:Int) != (List.length p1:Int))=true then (some false) else (lB p0 p1 fuel 0)
def xN (p0:M.aV) (p1:M.aV):Option Bool:=
 if (p0.Device != p1.Device)=true then (some false) else (if (p0.Next != p1.Next)=true then (some false) else ((rQ p0.Writes p1.Writes).bind fun x3=>(if (!x3)=true then (some false) else (some true))))
def aAg (p0:M.Sync) (p1:M.Sync):Option Bool:=
 (xN p0.aV p1.aV).bind fun x1=>(if (!x1)=true then (some false) else (if (p0.Tries != p1.Tries)=true then (some false) else (if (p0.WaitUntil != p1.WaitUntil)=true then (some false) else (some true))))
def uA (p0:M.aE) (p1:M.aE):Option Bool:=
 (pQ p0.Base p1.Base).bind fun x1=>(if (!x1)=true then (some false) else (if (p0.Seen != p1.Seen)=true then (some false) else ((aAg p0.Sync p1.Sync).bind fun x5=>(if (!x5)=true then (some false) else (some true)))))
def wK (p0:M.aA) (p1:M.aA):Option Bool:=
 if (!(p0.Site.toList==p1.Site.toList))=true then (some false) else (if (!(p0.Top.toList==p1.Top.toList))=true then (some false) else ((kN p0.Registration p1.Registration).bind fun x3=>(if (!x3)=true then (some false) else ((qQ p0.Caches p1.Caches).bind fun x6=>(if (!x6)=true then (some false) else ((aA0 p0.bB p1.bB).bind fun x9=>(if (!x9)=true then (some false) else ((uA p0.aE p1.aE).bind fun x12=>(if (!x12)=true then (some false) else (if (p0.LastUsed != p1.LastUsed)=true then (some false) else (if (!(p0.Persistent==p1.Persistent))=true then (some false) else (some true))))))))))))
def jL (p0:List M.aA) (p1:List M.aA):Nat→Int→Option Bool
 | 0,_=>none
 | nL1+1,v5=>if (decide (v5<(List.length p0:Int)))=true then ((idx p0 v5).bind fun x7=>((idx p1 v5).bind fun x12=>((wK x7 x12).bind fun x17=>(if (!x17)=true then (some false) else (jL p0 p1 nL1 (i64.wrap (v5+1))))))) else (some true)
def uK (p0:List M.aA) (p1:List M.aA):Option Bool:=
 if ((List.length p0:Int) != (List.length p1:Int))=true then (some false) else (jL p0 p1 fuel 0)
def uJ (p0:M.aC) (p1:M.aC):Option Bool:=
 (uK p0.Buckets p1.Buckets).bind fun x1=>(if (!x1)=true then (some false) else (some true))
def vZ (p0:M.aN) (p1:M.aN):Option Bool:=
 if (!(p0.Path.toList==p1.Path.toList))=true then (some false) else (if (p0.Version != p1.Version)=true then (some false) else (some true))
def jV (p0:List M.aN) (p1:List M.aN):Nat→Int→Option Bool
 | 0,_=>none
 | nL1+1,v5=>if (decide (v5<(List.length p0:Int)))=true then ((idx p0 v5).bind fun x7=>((idx p1 v5).bind fun x12=>((vZ x7 x12).bind fun x17=>(if (!x17)=true then (some false) else (jV p0 p1 nL1 (i64.wrap (v5+1))))))) else (some true)
def uM (p0:List M.aN) (p1:List M.aN):Option Bool:=
 if ((List.length p0:Int) != (List.length p1:Int))=true then (some false) else (jV p0 p1 fuel 0)
def yL (p0:M.Instr) (p1:M.Instr):Option Bool:=
 if (p0.Kind != p1.Kind)=true then (some false) else (if (p0.R != p1.R)=true then (some false) else (if (p0.N != p1.N)=true then (some false) else (if (!(p0.Text.toList==p1.Text.toList))=true then (some false) else (some true))))
def kV (p0:List M.Instr) (p1:List M.Instr):Nat→Int→Option Bool
 | 0,_=>none
 | nL1+1,v5=>if (decide (v5<(List.length p0:Int)))=true then ((idx p0 v5).bind fun x7=>((idx p1 v5).bind fun x12=>((yL x7 x12).bind fun x17=>(if (!x17)=true then (some false) else (kV p0 p1 nL1 (i64.wrap (v5+1))))))) else (some true)
def xA (p0:List M.Instr) (p1:List M.Instr):Option Bool:=
 if ((List.length p0:Int) != (List.length p1:Int))=true then (some false) else (kV p0 p1 fuel 0)
def nP (p0:List Int) (p1:List Int):Nat→Int→Option Bool
 | 0,_=>none
 | nL1+1,v5=>if (decide (v5<(List.length p0:Int)))=true then ((idx p0 v5).bind fun x7=>((idx p1 v5).bind fun x12=>(if (x7 != x12)=true then (some false) else (nP p0 p1 nL1 (i64.wrap (v5+1)))))) else (some true)
def aA1 (p0:List Int) (p1:List Int):Option Bool:=
 if ((List.length p0:Int) != (List.length p1:Int))=true then (some false) else (nP p0 p1 fuel 0)
def sS (p0:M.Machine) (p1:M.Machine):Option Bool:=
 (xA p0.Script p1.Script).bind fun x1=>(if (!x1)=true then (some false) else (if (p0.Pc != p1.Pc)=true then (some false) else ((aA1 p0.Regs p1.Regs).bind fun x5=>(if (!x5)=true then (some false) else (if (p0.Steps != p1.Steps)=true then (some false) else (if (!(p0.Done==p1.Done))=true then (some false) else (if (!(p0.Wait==p1.Wait))=true then (some false) else (some true))))))))
def aAq (p0:M.bI) (p1:M.bI):Option Bool:=
 if (p0.Id != p1.Id)=true then (some false) else (if (!(p0.Site.toList==p1.Site.toList))=true then (some false) else (if (!(p0.Top.toList==p1.Top.toList))=true then (some false) else (if (p0.Version != p1.Version)=true then (some false) else ((uM p0.aN p1.aN).bind fun x5=>(if (!x5)=true then (some false) else ((sS p0.Machine p1.Machine).bind fun x8=>(if (!x8)=true then (some false) else (some true))))))))
def mL (p0:List M.bI) (p1:List M.bI):Nat→Int→Option Bool
 | 0,_=>none
 | nL1+1,v5=>if (decide (v5<(List.length p0:Int)))=true then ((idx p0 v5).bind fun x7=>((idx p1 v5).bind fun x12=>((aAq x7 x12).bind fun x17=>(if (!x17)=true then (some false) else (mL p0 p1 nL1 (i64.wrap (v5+1))))))) else (some true)
def zG (p0:List M.bI) (p1:List M.bI):Option Bool:=
 if ((List.length p0:Int) != (List.length p1:Int))=true then (some false) else (mL p0 p1 fuel 0)
def aA9 (p0:M.cG) (p1:M.cG):Option Bool:=
 if (!(p0.Name.toList==p1.Name.toList))=true then (some false) else (if (p0.bI != p1.bI)=true then (some false) else (if (!(p0.Shared==p1.Shared))=true then (some false) else (if (!(p0.Held==p1.Held))=true then (some false) else (some true))))
def mN (p0:List M.cG) (p1:List M.cG):Nat→Int→Option Bool
 | 0,_=>none
 | nL1+1,v5=>if (decide (v5<(List.length p0:Int)))=true then ((idx p0 v5).bind fun x7=>((idx p1 v5).bind fun x12=>((aA9 x7 x12).bind fun x17=>(if (!x17)=true then (some false) else (mN p0 p1 nL1 (i64.wrap (v5+1))))))) else (some true)
def yT (p0:List M.cG) (p1:List M.cG):Option Bool:=
 if ((List.length p0:Int) != (List.length p1:Int))=true then (some false) else (mN p0 p1 fuel 0)
def oY (p0:M.aR) (p1:M.aR):Option Bool:=
 (yT p0.Locks p1.Locks).bind fun x1=>(if (!x1)=true then (some false) else (some true))
def aBD (p0:M.fK) (p1:M.fK):Option Bool:=
 if (p0.To != p1.To)=true then (some false) else (if (p0.From != p1.From)=true then (some false) else (if (p0.N != p1.N)=true then (some false) else (some true)))
def mP (p0:List M.fK) (p1:List M.fK):Nat→Int→Option Bool
 | 0,_=>none
 | nL1+1,v5=>if (decide (v5<(List.length p0:Int)))=true then ((idx p0 v5).bind fun x7=>((idx p1 v5).bind fun x12=>((aBD x7 x12).bind fun x17=>(if (!x17)=true then (some false) else (mP p0 p1 nL1 (i64.wrap (v5+1))))))) else (some true)
def zR (p0:List M.fK) (p1:List M.fK):Option Bool:=
 if ((List.length p0:Int) != (List.length p1:Int))=true then (some false) else (mP p0 p1 fuel 0)
def tW (p0:M.Channel) (p1:M.Channel):Option Bool:=
 (zR p0.Mails p1.Mails).bind fun x1=>(if (!x1)=true then (some false) else (some true))
def jQ (p0:List ByteArray) (p1:List ByteArray):Nat→Int→Option Bool
 | 0,_=>none
 | nL1+1,v5=>if (decide (v5<(List.length p0:Int)))=true then ((idx p0 v5).bind fun x7=>((idx p1 v5).bind fun x12=>(if (!(x7.toList==x12.toList))=true then (some false) else (jQ p0 p1 nL1 (i64.wrap (v5+1)))))) else (some true)
def uH (p0:List ByteArray) (p1:List ByteArray):Option Bool:=
 if ((List.length p0:Int) != (List.length p1:Int))=true then (some false) else (jQ p0 p1 fuel 0)
def aAZ (p0:M.Site) (p1:M.Site):Option Bool:=
 if (!(p0.Name.toList==p1.Name.toList))=true then (some false) else (if (p0.Version != p1.Version)=true then (some false) else ((uH p0.Files p1.Files).bind fun x3=>(if (!x3)=true then (some false) else (if (!(p0.Shared==p1.Shared))=true then (some false) else (some true)))))
def mH (p0:List M.Site) (p1:List M.Site):Nat→Int→Option Bool
 | 0,_=>none
 | nL1+1,v5=>if (decide (v5<(List.length p0:Int)))=true then ((idx p0 v5).bind fun x7=>((idx p1 v5).bind fun x12=>((aAZ x7 x12).bind fun x17=>(if (!x17)=true then (some false) else (mH p0 p1 nL1 (i64.wrap (v5+1))))))) else (some true)
def aAG (p0:List M.Site) (p1:List M.Site):Option Bool:=
 if ((List.length p0:Int) != (List.length p1:Int))=true then (some false) else (mH p0 p1 fuel 0)
def tE (p0:M.aJ) (p1:M.aJ):Option Bool:=
 if (p0.Device != p1.Device)=true then (some false) else (if (p0.Seq != p1.Seq)=true then (some false) else (some true))
def jC (p0:List M.aJ) (p1:List M.aJ):Nat→Int→Option Bool
 | 0,_=>none
 | nL1+1,v5=>if (decide (v5<(List.length p0:Int)))=true then ((idx p0 v5).bind fun x7=>((idx p1 v5).bind fun x12=>((tE x7 x12).bind fun x17=>(if (!x17)=true then (some false) else (jC p0 p1 nL1 (i64.wrap (v5+1))))))) else (some true)
def qJ (p0:List M.aJ) (p1:List M.aJ):Option Bool:=
 if ((List.length p0:Int) != (List.length p1:Int))=true then (some false) else (jC p0 p1 fuel 0)
def wL (p0:M.Server) (p1:M.Server):Option Bool:=
 (pQ p0.aH p1.aH).bind fun x1=>(if (!x1)=true then (some false) else ((qJ p0.aJ p1.aJ).bind fun x4=>(if (!x4)=true then (some false) else ((rQ p0.Changes p1.Changes).bind fun x7=>(if (!x7)=true then (some false) else (some true))))))
def jP (p0:List M.Server) (p1:List M.Server):Nat→Int→Option Bool
 | 0,_=>none
 | nL1+1,v5=>if (decide (v5<(List.length p0:Int)))=true then ((idx p0 v5).bind fun x7=>((idx p1 v5).bind fun x12=>((wL x7 x12).bind fun x17=>(if (!x17)=true then (some false) else (jP p0 p1 nL1 (i64.wrap (v5+1))))))) else (some true)
def uF (p0:List M.Server) (p1:List M.Server):Option Bool:=
 if ((List.length p0:Int) != (List.length p1:Int))=true then (some false) else (jP p0 p1 fuel 0)
def lY (p0:M.World) (p1:M.World):Option Bool:=
 if (p0.Now != p1.Now)=true then (some false) else (if (!(p0.Online==p1.Online))=true then (some false) else (if (p0.Device != p1.Device)=true then (some false) else ((uJ p0.aC p1.aC).bind fun x4=>(if (!x4)=true then (some false) else ((zG p0.Pages p1.Pages).bind fun x7=>(if (!x7)=true then (some false) else (if (p0.NextPage != p1.NextPage)=true then (some false) else ((oY p0.Locks p1.Locks).bind fun x11=>(if (!x11)=true then (some false) else ((tW p0.Channel p1.Channel).bind fun x14=>(if (!x14)=true then (some false) else ((aAG p0.Sites p1.Sites).bind fun x17=>(if (!x17)=true then (some false) else ((uF p0.Servers p1.Servers).bind fun x20=>(if (!x20)=true then (some false) else (some true))))))))))))))))
def lA  : Nat→Int→ByteArray→Option ByteArray
 | 0,_,_=>none
 | nL1+1,v0,v3=>if (decide (v0>0))=true then ((toStr ([(IntKind.u8.wrap (i64.wrap (48+(Int.tmod v0 10))))])).bind fun x6=>((cat (aCH ([(IntKind.u8.wrap (i64.wrap (48+(Int.tmod v0 10))))])) v3).bind fun x8=>(lA nL1 (i64.wrap (Int.tdiv v0 10)) ((aCH ([(IntKind.u8.wrap (i64.wrap (48+(Int.tmod v0 10))))]))++v3)))) else ((cat (⟨#[109]⟩:ByteArray) v3).bind fun x13=>(some ((⟨#[109]⟩:ByteArray)++v3)))
def aG (p0:Int):Option ByteArray:=
 if (decide (p0≤0))=true then (some (⟨#[109,48]⟩:ByteArray)) else (lA fuel p0 (⟨#[]⟩:ByteArray))
def dZ  : Nat→Int→Int→List Int→Option (List Int×Int)
 | 0,_,_,_=>none
 | nL1+1,v1,v5,r99=>if (decide (v5<(List.length r99:Int)))=true then ((idx r99 v5).bind fun x8=>((some (List.set r99 v5.toNat (IntKind.u8.wrap v1))).bind fun y13=>(dZ nL1 (i64.wrap (v1+1)) (i64.wrap (v5+1)) y13))) else (some (r99,v1))
def nV (p0:List Int) (p1:Int):Option (List Int×Int):=
 dZ fuel p1 0 p0
def cN  : Nat→Int→Int→List M.Cached→Option (List M.Cached×Int)
 | 0,_,_,_=>none
 | nL1+1,v1,v5,r99=>if (decide (v5<(List.length r99:Int)))=true then ((aG v1).bind fun x8=>((idx r99 v5).bind fun x10=>((some (List.set r99 v5.toNat (⟨x8,x10.Path,x10.Response⟩:M.Cached))).bind fun y15=>((aG (i64.wrap (v1+1))).bind fun x23=>((idx y15 v5).bind fun x25=>((some (List.set y15 v5.toNat (⟨x25.Site,x23,x25.Response⟩:M.Cached))).bind fun y30=>((idx y30 v5).bind fun x38=>((some (List.set y30 v5.toNat (⟨x38.Site,x38.Path,(⟨(i64.wrap ((i64.wrap (v1+1))+1)),x38.Response.Status,x38.Response.Version,x38.Response.Body,x38.Response.Shares⟩:M.Response)⟩:M.Cached))).bind fun y43=>((idx y43 v5).bind fun x51=>((some (List.set y43 v5.toNat (⟨x51.Site,x51.Path,(⟨x51.Response.Type_,(i64.wrap ((i64.wrap ((i64.wrap (v1+1))+1))+1)),x51.Response.Version,x51.Response.Body,x51.Response.Shares⟩:M.Response)⟩:M.Cached))).bind fun y56=>((idx y56 v5).bind fun x64=>((some (List.set y56 v5.toNat (⟨x64.Site,x64.Path,(⟨x64.Response.Type_,x64.Response.Status,(i64.wrap ((i64.wrap ((i64.wrap ((i64.wrap (v1+1))+1))+1))+1)),x64.Response.Body,x64.Response.Shares⟩:M.Response)⟩:M.Cached))).bind fun y69=>((idx y69 v5).bind fun x77=>((nV x77.Response.Body (i64.wrap ((i64.wrap ((i64.wrap ((i64.wrap ((i64.wrap (v1+1))+1))+1))+1))+1))).bind fun x82=>((some (List.set y69 v5.toNat (⟨x77.Site,x77.Path,(⟨x77.Response.Type_,x77.Response.Status,x77.Response.Version,x82.1,x77.Response.Shares⟩:M.Response)⟩:M.Cached))).bind fun y84=>((idx y84 v5).bind fun x92=>((some (List.set y84 v5.toNat (⟨x92.Site,x92.Path,(⟨x92.Response.Type_,x92.Response.Status,x92.Response.Version,x92.Response.Body,((Int.tmod x82.2 3)==0)⟩:M.Response)⟩:M.Cached))).bind fun y97=>(cN nL1 (i64.wrap (x82.2+1)) (i64.wrap (v5+1)) y97)))))))))))))))))) else (some (r99,v1))
def oI (p0:List M.Cached) (p1:Int):Option (List M.Cached×Int):=
 cN fuel p1 0 p0
def dD  : Nat→Int→Int→List M.Cache→Option (List M.Cache×Int)
 | 0,_,_,_=>none
 | nL1+1,v1,v5,r99=>if (decide (v5<(List.length r99:Int)))=true then ((idx r99 v5).bind fun x8=>((some (List.set r99 v5.toNat (⟨v1,x8.Entries⟩:M.Cache))).bind fun y13=>((idx y13 v5).bind fun x21=>((oI x21.Entries (i64.wrap (v1+1))).bind fun x26=>((some (List.set y13 v5.toNat (⟨x21.Version,x26.1⟩:M.Cache))).bind fun y28=>(dD nL1 x26.2 (i64.wrap (v5+1)) y28)))))) else (some (r99,v1))
def rT (p0:List M.Cache) (p1:Int):Option (List M.Cache×Int):=
 dD fuel p1 0 p0
def cY  : Nat→Int→Int→List M.Field→Option (List M.Field×Int)
 | 0,_,_,_=>none
 | nL1+1,v1,v5,r99=>if (decide (v5<(List.length r99:Int)))=true then ((aG v1).bind fun x8=>((idx r99 v5).bind fun x10=>((some (List.set r99 v5.toNat (⟨x8,x10.N⟩:M.Field))).bind fun y15=>((idx y15 v5).bind fun x23=>((some (List.set y15 v5.toNat (⟨x23.Name,(i64.wrap (v1+1))⟩:M.Field))).bind fun y28=>(cY nL1 (i64.wrap ((i64.wrap (v1+1))+1)) (i64.wrap (v5+1)) y28)))))) else (some (r99,v1))
def rK (p0:List M.Field) (p1:Int):Option (List M.Field×Int):=
 cY fuel p1 0 p0
def dX  : Nat→Int→Int→List M.Item→Option (List M.Item×Int)
 | 0,_,_,_=>none
 | nL1+1,v1,v5,r99=>if (decide (v5<(List.length r99:Int)))=true then ((idx r99 v5).bind fun x8=>((some (List.set r99 v5.toNat (⟨(⟨v1,x8.Key.N,x8.Key.Text⟩:M.Key),x8.aU⟩:M.Item))).bind fun y13=>((idx y13 v5).bind fun x21=>((some (List.set y13 v5.toNat (⟨(⟨x21.Key.Kind,(i64.wrap (v1+1)),x21.Key.Text⟩:M.Key),x21.aU⟩:M.Item))).bind fun y26=>((aG (i64.wrap ((i64.wrap (v1+1))+1))).bind fun x34=>((idx y26 v5).bind fun x36=>((some (List.set y26 v5.toNat (⟨(⟨x36.Key.Kind,x36.Key.N,x34⟩:M.Key),x36.aU⟩:M.Item))).bind fun y41=>((idx y41 v5).bind fun x49=>((rK x49.aU.Fields (i64.wrap ((i64.wrap ((i64.wrap (v1+1))+1))+1))).bind fun x54=>((some (List.set y41 v5.toNat (⟨x49.Key,(⟨x54.1⟩:M.aU)⟩:M.Item))).bind fun y56=>(dX nL1 x54.2 (i64.wrap (v5+1)) y56))))))))))) else (some (r99,v1))
def lG (p0:List M.Item) (p1:Int):Option (List M.Item×Int):=
 dX fuel p1 0 p0
def dB  : Nat→Int→Int→List M.aH→Option (List M.aH×Int)
 | 0,_,_,_=>none
 | nL1+1,v1,v5,r99=>if (decide (v5<(List.length r99:Int)))=true then ((aG v1).bind fun x8=>((idx r99 v5).bind fun x10=>((some (List.set r99 v5.toNat (⟨x8,x10.Items,x10.Auto⟩:M.aH))).bind fun y15=>((idx y15 v5).bind fun x23=>((lG x23.Items (i64.wrap (v1+1))).bind fun x28=>((some (List.set y15 v5.toNat (⟨x23.Name,x28.1,x23.Auto⟩:M.aH))).bind fun y30=>((idx y30 v5).bind fun x38=>((some (List.set y30 v5.toNat (⟨x38.Name,x38.Items,x28.2⟩:M.aH))).bind fun y43=>(dB nL1 (i64.wrap (x28.2+1)) (i64.wrap (v5+1)) y43))))))))) else (some (r99,v1))
def qL (p0:List M.aH) (p1:Int):Option (List M.aH×Int):=
 dB fuel p1 0 p0
def bU  : Nat→Int→Int→List M.aD→Option (List M.aD×Int)
 | 0,_,_,_=>none
 | nL1+1,v1,v5,r99=>if (decide (v5<(List.length r99:Int)))=true then ((aG v1).bind fun x8=>((idx r99 v5).bind fun x10=>((some (List.set r99 v5.toNat (⟨x8,x10.Field⟩:M.aD))).bind fun y15=>((aG (i64.wrap (v1+1))).bind fun x23=>((idx y15 v5).bind fun x25=>((some (List.set y15 v5.toNat (⟨x25.aH,x23⟩:M.aD))).bind fun y30=>(bU nL1 (i64.wrap ((i64.wrap (v1+1))+1)) (i64.wrap (v5+1)) y30))))))) else (some (r99,v1))
def lQ (p0:List M.aD) (p1:Int):Option (List M.aD×Int):=
 bU fuel p1 0 p0
def dA  : Nat→Int→Int→List M.aY→Option (List M.aY×Int)
 | 0,_,_,_=>none
 | nL1+1,v1,v5,r99=>if (decide (v5<(List.length r99:Int)))=true then ((idx r99 v5).bind fun x8=>((some (List.set r99 v5.toNat (⟨v1,x8.Seq,x8.Key,x8.Field,x8.N⟩:M.aY))).bind fun y13=>((idx y13 v5).bind fun x21=>((some (List.set y13 v5.toNat (⟨x21.Device,(i64.wrap (v1+1)),x21.Key,x21.Field,x21.N⟩:M.aY))).bind fun y26=>((idx y26 v5).bind fun x34=>((some (List.set y26 v5.toNat (⟨x34.Device,x34.Seq,(⟨(i64.wrap ((i64.wrap (v1+1))+1)),x34.Key.N,x34.Key.Text⟩:M.Key),x34.Field,x34.N⟩:M.aY))).bind fun y39=>((idx y39 v5).bind fun x47=>((some (List.set y39 v5.toNat (⟨x47.Device,x47.Seq,(⟨x47.Key.Kind,(i64.wrap ((i64.wrap ((i64.wrap (v1+1))+1))+1)),x47.Key.Text⟩:M.Key),x47.Field,x47.N⟩:M.aY))).bind fun y52=>((aG (i64.wrap ((i64.wrap ((i64.wrap ((i64.wrap (v1+1))+1))+1))+1))).bind fun x60=>((idx y52 v5).bind fun x62=>((some (List.set y52 v5.toNat (⟨x62.Device,x62.Seq,(⟨x62.Key.Kind,x62.Key.N,x60⟩:M.Key),x62.Field,x62.N⟩:M.aY))).bind fun y67=>((aG (i64.wrap ((i64.wrap ((i64.wrap ((i64.wrap ((i64.wrap (v1+1))+1))+1))+1))+1))).bind fun x75=>((idx y67 v5).bind fun x77=>((some (List.set y67 v5.toNat (⟨x77.Device,x77.Seq,x77.Key,x75,x77.N⟩:M.aY))).bind fun y82=>((idx y82 v5).bind fun x90=>((some (List.set y82 v5.toNat (⟨x90.Device,x90.Seq,x90.Key,x90.Field,(i64.wrap ((i64.wrap ((i64.wrap ((i64.wrap ((i64.wrap ((i64.wrap (v1+1))+1))+1))+1))+1))+1))⟩:M.aY))).bind fun y95=>(dA nL1 (i64.wrap ((i64.wrap ((i64.wrap ((i64.wrap ((i64.wrap ((i64.wrap ((i64.wrap (v1+1))+1))+1))+1))+1))+1))+1)) (i64.wrap (v5+1)) y95))))))))))))))))) else (some (r99,v1))
def mF (p0:List M.aY) (p1:Int):Option (List M.aY×Int):=
 dA fuel p1 0 p0
def cR  : Nat→Int→Int→List M.aA→Option (List M.aA×Int)
 | 0,_,_,_=>none
 | nL1+1,v1,v5,r99=>if (decide (v5<(List.length r99:Int)))=true then ((aG v1).bind fun x8=>((idx r99 v5).bind fun x10=>((some (List.set r99 v5.toNat (⟨x8,x10.Top,x10.Registration,x10.Caches,x10.bB,x10.aE,x10.LastUsed,x10.Persistent⟩:M.aA))).bind fun y15=>((aG (i64.wrap (v1+1))).bind fun x23=>((idx y15 v5).bind fun x25=>((some (List.set y15 v5.toNat (⟨x25.Site,x23,x25.Registration,x25.Caches,x25.bB,x25.aE,x25.LastUsed,x25.Persistent⟩:M.aA))).bind fun y30=>((aG (i64.wrap ((i64.wrap (v1+1))+1))).bind fun x38=>((idx y30 v5).bind fun x40=>((some (List.set y30 v5.toNat (⟨x40.Site,x40.Top,(⟨x38,x40.Registration.Installing,x40.Registration.Waiting,x40.Registration.Active⟩:M.Registration),x40.Caches,x40.bB,x40.aE,x40.LastUsed,x40.Persistent⟩:M.aA))).bind fun y45=>((idx y45 v5).bind fun x53=>((some (List.set y45 v5.toNat (⟨x53.Site,x53.Top,(⟨x53.Registration.Site,(i64.wrap ((i64.wrap ((i64.wrap (v1+1))+1))+1)),x53.Registration.Waiting,x53.Registration.Active⟩:M.Registration),x53.Caches,x53.bB,x53.aE,x53.LastUsed,x53.Persistent⟩:M.aA))).bind fun y58=>((idx y58 v5).bind fun x66=>((some (List.set y58 v5.toNat (⟨x66.Site,x66.Top,(⟨x66.Registration.Site,x66.Registration.Installing,(i64.wrap ((i64.wrap ((i64.wrap ((i64.wrap (v1+1))+1))+1))+1)),x66.Registration.Active⟩:M.Registration),x66.Caches,x66.bB,x66.aE,x66.LastUsed,x66.Persistent⟩:M.aA))).bind fun y71=>((idx y71 v5).bind fun x79=>((some (List.set y71 v5.toNat (⟨x79.Site,x79.Top,(⟨x79.Registration.Site,x79.Registration.Installing,x79.Registration.Waiting,(i64.wrap ((i64.wrap ((i64.wrap ((i64.wrap ((i64.wrap (v1+1))+1))+1))+1))+1))⟩:M.Registration),x79.Caches,x79.bB,x79.aE,x79.LastUsed,x79.Persistent⟩:M.aA))).bind fun y84=>((idx y84 v5).bind fun x92=>((rT x92.Caches.Caches (i64.wrap ((i64.wrap ((i64.wrap ((i64.wrap ((i64.wrap ((i64.wrap (v1+1))+1))+1))+1))+1))+1))).bind fun x97=>((some (List.set y84 v5.toNat (⟨x92.Site,x92.Top,x92.Registration,(⟨x97.1⟩:M.aM),x92.bB,x92.aE,x92.LastUsed,x92.Persistent⟩:M.aA))).bind fun y99=>((aG x97.2).bind fun x107=>((idx y99 v5).bind fun x109=>((some (List.set y99 v5.toNat (⟨x109.Site,x109.Top,x109.Registration,x109.Caches,(⟨(⟨x107,x109.bB.Base.Version,x109.bB.Base.Stores,x109.bB.Base.Unique⟩:M.Database),x109.bB.Log,x109.bB.Count⟩:M.bB),x109.aE,x109.LastUsed,x109.Persistent⟩:M.aA))).bind fun y114=>((idx y114 v5).bind fun x122=>((some (List.set y114 v5.toNat (⟨x122.Site,x122.Top,x122.Registration,x122.Caches,(⟨(⟨x122.bB.Base.Name,(i64.wrap (x97.2+1)),x122.bB.Base.Stores,x122.bB.Base.Unique⟩:M.Database),x122.bB.Log,x122.bB.Count⟩:M.bB),x122.aE,x122.LastUsed,x122.Persistent⟩:M.aA))).bind fun y127=>((idx y127 v5).bind fun x135=>((qL x135.bB.Base.Stores (i64.wrap ((i64.wrap (x97.2+1))+1))).bind fun x140=>((some (List.set y127 v5.toNat (⟨x135.Site,x135.Top,x135.Registration,x135.Caches,(⟨(⟨x135.bB.Base.Name,x135.bB.Base.Version,x140.1,x135.bB.Base.Unique⟩:M.Database),x135.bB.Log,x135.bB.Count⟩:M.bB),x135.aE,x135.LastUsed,x135.Persistent⟩:M.aA))).bind fun y142=>((idx y142 v5).bind fun x150=>((lQ x150.bB.Base.Unique x140.2).bind fun x155=>((some (List.set y142 v5.toNat (⟨x150.Site,x150.Top,x150.Registration,x150.Caches,(⟨(⟨x150.bB.Base.Name,x150.bB.Base.Version,x150.bB.Base.Stores,x155.1⟩:M.Database),x150.bB.Log,x150.bB.Count⟩:M.bB),x150.aE,x150.LastUsed,x150.Persistent⟩:M.aA))).bind fun y157=>((idx y157 v5).bind fun x165=>((nV x165.bB.Log x155.2).bind fun x170=>((some (List.set y157 v5.toNat (⟨x165.Site,x165.Top,x165.Registration,x165.Caches,(⟨x165.bB.Base,x170.1,x165.bB.Count⟩:M.bB),x165.aE,x165.LastUsed,x165.Persistent⟩:M.aA))).bind fun y172=>((idx y172 v5).bind fun x180=>((some (List.set y172 v5.toNat (⟨x180.Site,x180.Top,x180.Registration,x180.Caches,(⟨x180.bB.Base,x180.bB.Log,x170.2⟩:M.bB),x180.aE,x180.LastUsed,x180.Persistent⟩:M.aA))).bind fun y185=>((aG (i64.wrap (x170.2+1))).bind fun x193=>((idx y185 v5).bind fun x195=>((some (List.set y185 v5.toNat (⟨x195.Site,x195.Top,x195.Registration,x195.Caches,x195.bB,(⟨(⟨x193,x195.aE.Base.Items,x195.aE.Base.Auto⟩:M.aH),x195.aE.Seen,x195.aE.Sync⟩:M.aE),x195.LastUsed,x195.Persistent⟩:M.aA))).bind fun y200=>((idx y200 v5).bind fun x208=>((lG x208.aE.Base.Items (i64.wrap ((i64.wrap (x170.2+1))+1))).bind fun x213=>((some (List.set y200 v5.toNat (⟨x208.Site,x208.Top,x208.Registration,x208.Caches,x208.bB,(⟨(⟨x208.aE.Base.Name,x213.1,x208.aE.Base.Auto⟩:M.aH),x208.aE.Seen,x208.aE.Sync⟩:M.aE),x208.LastUsed,x208.Persistent⟩:M.aA))).bind fun y215=>((idx y215 v5).bind fun x223=>((some (List.set y215 v5.toNat (⟨x223.Site,x223.Top,x223.Registration,x223.Caches,x223.bB,(⟨(⟨x223.aE.Base.Name,x223.aE.Base.Items,x213.2⟩:M.aH),x223.aE.Seen,x223.aE.Sync⟩:M.aE),x223.LastUsed,x223.Persistent⟩:M.aA))).bind fun y228=>((idx y228 v5).bind fun x236=>((some (List.set y228 v5.toNat (⟨x236.Site,x236.Top,x236.Registration,x236.Caches,x236.bB,(⟨x236.aE.Base,(i64.wrap (x213.2+1)),x236.aE.Sync⟩:M.aE),x236.LastUsed,x236.Persistent⟩:M.aA))).bind fun y241=>((idx y241 v5).bind fun x249=>((some (List.set y241 v5.toNat (⟨x249.Site,x249.Top,x249.Registration,x249.Caches,x249.bB,(⟨x249.aE.Base,x249.aE.Seen,(⟨(⟨(i64.wrap ((i64.wrap (x213.2+1))+1)),x249.aE.Sync.aV.Next,x249.aE.Sync.aV.Writes⟩:M.aV),x249.aE.Sync.Tries,x249.aE.Sync.WaitUntil⟩:M.Sync)⟩:M.aE),x249.LastUsed,x249.Persistent⟩:M.aA))).bind fun y254=>((idx y254 v5).bind fun x262=>((some (List.set y254 v5.toNat (⟨x262.Site,x262.Top,x262.Registration,x262.Caches,x262.bB,(⟨x262.aE.Base,x262.aE.Seen,(⟨(⟨x262.aE.Sync.aV.Device,(i64.wrap ((i64.wrap ((i64.wrap (x213.2+1))+1))+1)),x262.aE.Sync.aV.Writes⟩:M.aV),x262.aE.Sync.Tries,x262.aE.Sync.WaitUntil⟩:M.Sync)⟩:M.aE),x262.LastUsed,x262.Persistent⟩:M.aA))).bind fun y267=>((idx y267 v5).bind fun x275=>((mF x275.aE.Sync.aV.Writes (i64.wrap ((i64.wrap ((i64.wrap ((i64.wrap (x213.2+1))+1))+1))+1))).bind fun x280=>((some (List.set y267 v5.toNat (⟨x275.Site,x275.Top,x275.Registration,x275.Caches,x275.bB,(⟨x275.aE.Base,x275.aE.Seen,(⟨(⟨x275.aE.Sync.aV.Device,x275.aE.Sync.aV.Next,x280.1⟩:M.aV),x275.aE.Sync.Tries,x275.aE.Sync.WaitUntil⟩:M.Sync)⟩:M.aE),x275.LastUsed,x275.Persistent⟩:M.aA))).bind fun y282=>((idx y282 v5).bind fun x290=>((some (List.set y282 v5.toNat (⟨x290.Site,x290.Top,x290.Registration,x290.Caches,x290.bB,(⟨x290.aE.Base,x290.aE.Seen,(⟨x290.aE.Sync.aV,x280.2,x290.aE.Sync.WaitUntil⟩:M.Sync)⟩:M.aE),x290.LastUsed,x290.Persistent⟩:M.aA))).bind fun y295=>((idx y295 v5).bind fun x303=>((some (List.set y295 v5.toNat (⟨x303.Site,x303.Top,x303.Registration,x303.Caches,x303.bB,(⟨x303.aE.Base,x303.aE.Seen,(⟨x303.aE.Sync.aV,x303.aE.Sync.Tries,(i64.wrap (x280.2+1))⟩:M.Sync)⟩:M.aE),x303.LastUsed,x303.Persistent⟩:M.aA))).bind fun y308=>((idx y308 v5).bind fun x316=>((some (List.set y308 v5.toNat (⟨x316.Site,x316.Top,x316.Registration,x316.Caches,x316.bB,x316.aE,(i64.wrap ((i64.wrap (x280.2+1))+1)),x316.Persistent⟩:M.aA))).bind fun y321=>((idx y321 v5).bind fun x329=>((some (List.set y321 v5.toNat (⟨x329.Site,x329.Top,x329.Registration,x329.Caches,x329.bB,x329.aE,x329.LastUsed,((Int.tmod (i64.wrap ((i64.wrap ((i64.wrap (x280.2+1))+1))+1)) 3)==0)⟩:M.aA))).bind fun y334=>(cR nL1 (i64.wrap ((i64.wrap ((i64.wrap ((i64.wrap (x280.2+1))+1))+1))+1)) (i64.wrap (v5+1)) y334)))))))))))))))))))))))))))))))))))))))))))))))))))))))))))) else (some (r99,v1))
def pI (p0:List M.aA) (p1:Int):Option (List M.aA×Int):=
 cR fuel p1 0 p0
def vX (p0:M.aC) (p1:Int):Option (List M.aA×Int):=
 (pI p0.Buckets p1).bind fun x1=>(some (x1.1,x1.2))
def cM  : Nat→Int→Int→List M.aN→Option (List M.aN×Int)
 | 0,_,_,_=>none
 | nL1+1,v1,v5,r99=>if (decide (v5<(List.length r99:Int)))=true then ((aG v1).bind fun x8=>((idx r99 v5).bind fun x10=>((some (List.set r99 v5.toNat (⟨x8,x10.Version⟩:M.aN))).bind fun y15=>((idx y15 v5).bind fun x23=>((some (List.set y15 v5.toNat (⟨x23.Path,(i64.wrap (v1+1))⟩:M.aN))).bind fun y28=>(cM nL1 (i64.wrap ((i64.wrap (v1+1))+1)) (i64.wrap (v5+1)) y28)))))) else (some (r99,v1))
def pH (p0:List M.aN) (p1:Int):Option (List M.aN×Int):=
 cM fuel p1 0 p0
def cX  : Nat→Int→Int→List M.Instr→Option (List M.Instr×Int)
 | 0,_,_,_=>none
 | nL1+1,v1,v5,r99=>if (decide (v5<(List.length r99:Int)))=true then ((idx r99 v5).bind fun x8=>((some (List.set r99 v5.toNat (⟨v1,x8.R,x8.N,x8.Text⟩:M.Instr))).bind fun y13=>((idx y13 v5).bind fun x21=>((some (List.set y13 v5.toNat (⟨x21.Kind,(i64.wrap (v1+1)),x21.N,x21.Text⟩:M.Instr))).bind fun y26=>((idx y26 v5).bind fun x34=>((some (List.set y26 v5.toNat (⟨x34.Kind,x34.R,(i64.wrap ((i64.wrap (v1+1))+1)),x34.Text⟩:M.Instr))).bind fun y39=>((aG (i64.wrap ((i64.wrap ((i64.wrap (v1+1))+1))+1))).bind fun x47=>((idx y39 v5).bind fun x49=>((some (List.set y39 v5.toNat (⟨x49.Kind,x49.R,x49.N,x47⟩:M.Instr))).bind fun y54=>(cX nL1 (i64.wrap ((i64.wrap ((i64.wrap ((i64.wrap (v1+1))+1))+1))+1)) (i64.wrap (v5+1)) y54)))))))))) else (some (r99,v1))
def rJ (p0:List M.Instr) (p1:Int):Option (List M.Instr×Int):=
 cX fuel p1 0 p0
def eW  : Nat→Int→Int→List Int→Option (List Int×Int)
 | 0,_,_,_=>none
 | nL1+1,v1,v5,r99=>if (decide (v5<(List.length r99:Int)))=true then ((idx r99 v5).bind fun x8=>((some (List.set r99 v5.toNat v1)).bind fun y13=>(eW nL1 (i64.wrap (v1+1)) (i64.wrap (v5+1)) y13))) else (some (r99,v1))
def wV (p0:List Int) (p1:Int):Option (List Int×Int):=
 eW fuel p1 0 p0
def dU  : Nat→Int→Int→List M.bI→Option (List M.bI×Int)
 | 0,_,_,_=>none
 | nL1+1,v1,v5,r99=>if (decide (v5<(List.length r99:Int)))=true then ((idx r99 v5).bind fun x8=>((some (List.set r99 v5.toNat (⟨v1,x8.Site,x8.Top,x8.Version,x8.aN,x8.Machine⟩:M.bI))).bind fun y13=>((aG (i64.wrap (v1+1))).bind fun x21=>((idx y13 v5).bind fun x23=>((some (List.set y13 v5.toNat (⟨x23.Id,x21,x23.Top,x23.Version,x23.aN,x23.Machine⟩:M.bI))).bind fun y28=>((aG (i64.wrap ((i64.wrap (v1+1))+1))).bind fun x36=>((idx y28 v5).bind fun x38=>((some (List.set y28 v5.toNat (⟨x38.Id,x38.Site,x36,x38.Version,x38.aN,x38.Machine⟩:M.bI))).bind fun y43=>((idx y43 v5).bind fun x51=>((some (List.set y43 v5.toNat (⟨x51.Id,x51.Site,x51.Top,(i64.wrap ((i64.wrap ((i64.wrap (v1+1))+1))+1)),x51.aN,x51.Machine⟩:M.bI))).bind fun y56=>((idx y56 v5).bind fun x64=>((pH x64.aN (i64.wrap ((i64.wrap ((i64.wrap ((i64.wrap (v1+1))+1))+1))+1))).bind fun x69=>((some (List.set y56 v5.toNat (⟨x64.Id,x64.Site,x64.Top,x64.Version,x69.1,x64.Machine⟩:M.bI))).bind fun y71=>((idx y71 v5).bind fun x79=>((rJ x79.Machine.Script x69.2).bind fun x84=>((some (List.set y71 v5.toNat (⟨x79.Id,x79.Site,x79.Top,x79.Version,x79.aN,(⟨x84.1,x79.Machine.Pc,x79.Machine.Regs,x79.Machine.Steps,x79.Machine.Done,x79.Machine.Wait⟩:M.Machine)⟩:M.bI))).bind fun y86=>((idx y86 v5).bind fun x94=>((some (List.set y86 v5.toNat (⟨x94.Id,x94.Site,x94.Top,x94.Version,x94.aN,(⟨x94.Machine.Script,x84.2,x94.Machine.Regs,x94.Machine.Steps,x94.Machine.Done,x94.Machine.Wait⟩:M.Machine)⟩:M.bI))).bind fun y99=>((idx y99 v5).bind fun x107=>((wV x107.Machine.Regs (i64.wrap (x84.2+1))).bind fun x112=>((some (List.set y99 v5.toNat (⟨x107.Id,x107.Site,x107.Top,x107.Version,x107.aN,(⟨x107.Machine.Script,x107.Machine.Pc,x112.1,x107.Machine.Steps,x107.Machine.Done,x107.Machine.Wait⟩:M.Machine)⟩:M.bI))).bind fun y114=>((idx y114 v5).bind fun x122=>((some (List.set y114 v5.toNat (⟨x122.Id,x122.Site,x122.Top,x122.Version,x122.aN,(⟨x122.Machine.Script,x122.Machine.Pc,x122.Machine.Regs,x112.2,x122.Machine.Done,x122.Machine.Wait⟩:M.Machine)⟩:M.bI))).bind fun y127=>((idx y127 v5).bind fun x135=>((some (List.set y127 v5.toNat (⟨x135.Id,x135.Site,x135.Top,x135.Version,x135.aN,(⟨x135.Machine.Script,x135.Machine.Pc,x135.Machine.Regs,x135.Machine.Steps,((Int.tmod (i64.wrap (x112.2+1)) 3)==0),x135.Machine.Wait⟩:M.Machine)⟩:M.bI))).bind fun y140=>((idx y140 v5).bind fun x148=>((some (List.set y140 v5.toNat (⟨x148.Id,x148.Site,x148.Top,x148.Version,x148.aN,(⟨x148.Machine.Script,x148.Machine.Pc,x148.Machine.Regs,x148.Machine.Steps,x148.Machine.Done,((Int.tmod (i64.wrap ((i64.wrap (x112.2+1))+1)) 3)==0)⟩:M.Machine)⟩:M.bI))).bind fun y153=>(dU nL1 (i64.wrap ((i64.wrap ((i64.wrap (x112.2+1))+1))+1)) (i64.wrap (v5+1)) y153)))))))))))))))))))))))))))) else (some (r99,v1))
def sR (p0:List M.bI) (p1:Int):Option (List M.bI×Int):=
 dU fuel p1 0 p0
def dS  : Nat→Int→Int→List M.cG→Option (List M.cG×Int)
 | 0,_,_,_=>none
 | nL1+1,v1,v5,r99=>if (decide (v5<(List.length r99:Int)))=true then ((aG v1).bind fun x8=>((idx r99 v5).bind fun x10=>((some (List.set r99 v5.toNat (⟨x8,x10.bI,x10.Shared,x10.Held⟩:M.cG))).bind fun y15=>((idx y15 v5).bind fun x23=>((some (List.set y15 v5.toNat (⟨x23.Name,(i64.wrap (v1+1)),x23.Shared,x23.Held⟩:M.cG))).bind fun y28=>((idx y28 v5).bind fun x36=>((some (List.set y28 v5.toNat (⟨x36.Name,x36.bI,((Int.tmod (i64.wrap ((i64.wrap (v1+1))+1)) 3)==0),x36.Held⟩:M.cG))).bind fun y41=>((idx y41 v5).bind fun x49=>((some (List.set y41 v5.toNat (⟨x49.Name,x49.bI,x49.Shared,((Int.tmod (i64.wrap ((i64.wrap ((i64.wrap (v1+1))+1))+1)) 3)==0)⟩:M.cG))).bind fun y54=>(dS nL1 (i64.wrap ((i64.wrap ((i64.wrap ((i64.wrap (v1+1))+1))+1))+1)) (i64.wrap (v5+1)) y54)))))))))) else (some (r99,v1))
def tY (p0:List M.cG) (p1:Int):Option (List M.cG×Int):=
 dS fuel p1 0 p0
def pW (p0:M.aR) (p1:Int):Option (List M.cG×Int):=
 (tY p0.Locks p1).bind fun x1=>(some (x1.1,x1.2))
def dQ  : Nat→Int→Int→List M.fK→Option (List M.fK×Int)
 | 0,_,_,_=>none
 | nL1+1,v1,v5,r99=>if (decide (v5<(List.length r99:Int)))=true then ((idx r99 v5).bind fun x8=>((some (List.set r99 v5.toNat (⟨v1,x8.From,x8.N⟩:M.fK))).bind fun y13=>((idx y13 v5).bind fun x21=>((some (List.set y13 v5.toNat (⟨x21.To,(i64.wrap (v1+1)),x21.N⟩:M.fK))).bind fun y26=>((idx y26 v5).bind fun x34=>((some (List.set y26 v5.toNat (⟨x34.To,x34.From,(i64.wrap ((i64.wrap (v1+1))+1))⟩:M.fK))).bind fun y39=>(dQ nL1 (i64.wrap ((i64.wrap ((i64.wrap (v1+1))+1))+1)) (i64.wrap (v5+1)) y39))))))) else (some (r99,v1))
def uB (p0:List M.fK) (p1:Int):Option (List M.fK×Int):=
 dQ fuel p1 0 p0
def vN (p0:M.Channel) (p1:Int):Option (List M.fK×Int):=
 (uB p0.Mails p1).bind fun x1=>(some (x1.1,x1.2))
def cQ  : Nat→Int→Int→List ByteArray→Option (List ByteArray×Int)
 | 0,_,_,_=>none
 | nL1+1,v1,v5,r99=>if (decide (v5<(List.length r99:Int)))=true then ((aG v1).bind fun x8=>((idx r99 v5).bind fun x10=>((some (List.set r99 v5.toNat x8)).bind fun y15=>(cQ nL1 (i64.wrap (v1+1)) (i64.wrap (v5+1)) y15)))) else (some (r99,v1))
def nZ (p0:List ByteArray) (p1:Int):Option (List ByteArray×Int):=
 cQ fuel p1 0 p0
def dY  : Nat→Int→Int→List M.Site→Option (List M.Site×Int)
 | 0,_,_,_=>none
 | nL1+1,v1,v5,r99=>if (decide (v5<(List.length r99:Int)))=true then ((aG v1).bind fun x8=>((idx r99 v5).bind fun x10=>((some (List.set r99 v5.toNat (⟨x8,x10.Version,x10.Files,x10.Shared⟩:M.Site))).bind fun y15=>((idx y15 v5).bind fun x23=>((some (List.set y15 v5.toNat (⟨x23.Name,(i64.wrap (v1+1)),x23.Files,x23.Shared⟩:M.Site))).bind fun y28=>((idx y28 v5).bind fun x36=>((nZ x36.Files (i64.wrap ((i64.wrap (v1+1))+1))).bind fun x41=>((some (List.set y28 v5.toNat (⟨x36.Name,x36.Version,x41.1,x36.Shared⟩:M.Site))).bind fun y43=>((idx y43 v5).bind fun x51=>((some (List.set y43 v5.toNat (⟨x51.Name,x51.Version,x51.Files,((Int.tmod x41.2 3)==0)⟩:M.Site))).bind fun y56=>(dY nL1 (i64.wrap (x41.2+1)) (i64.wrap (v5+1)) y56))))))))))) else (some (r99,v1))
def tR (p0:List M.Site) (p1:Int):Option (List M.Site×Int):=
 dY fuel p1 0 p0
def cD  : Nat→Int→Int→List M.aJ→Option (List M.aJ×Int)
 | 0,_,_,_=>none
 | nL1+1,v1,v5,r99=>if (decide (v5<(List.length r99:Int)))=true then ((idx r99 v5).bind fun x8=>((some (List.set r99 v5.toNat (⟨v1,x8.Seq⟩:M.aJ))).bind fun y13=>((idx y13 v5).bind fun x21=>((some (List.set y13 v5.toNat (⟨x21.Device,(i64.wrap (v1+1))⟩:M.aJ))).bind fun y26=>(cD nL1 (i64.wrap ((i64.wrap (v1+1))+1)) (i64.wrap (v5+1)) y26))))) else (some (r99,v1))
def mY (p0:List M.aJ) (p1:Int):Option (List M.aJ×Int):=
 cD fuel p1 0 p0
def cK  : Nat→Int→Int→List M.Server→Option (List M.Server×Int)
 | 0,_,_,_=>none
 | nL1+1,v1,v5,r99=>if (decide (v5<(List.length r99:Int)))=true then ((aG v1).bind fun x8=>((idx r99 v5).bind fun x10=>((some (List.set r99 v5.toNat (⟨(⟨x8,x10.aH.Items,x10.aH.Auto⟩:M.aH),x10.aJ,x10.Changes⟩:M.Server))).bind fun y15=>((idx y15 v5).bind fun x23=>((lG x23.aH.Items (i64.wrap (v1+1))).bind fun x28=>((some (List.set y15 v5.toNat (⟨(⟨x23.aH.Name,x28.1,x23.aH.Auto⟩:M.aH),x23.aJ,x23.Changes⟩:M.Server))).bind fun y30=>((idx y30 v5).bind fun x38=>((some (List.set y30 v5.toNat (⟨(⟨x38.aH.Name,x38.aH.Items,x28.2⟩:M.aH),x38.aJ,x38.Changes⟩:M.Server))).bind fun y43=>((idx y43 v5).bind fun x51=>((mY x51.aJ (i64.wrap (x28.2+1))).bind fun x56=>((some (List.set y43 v5.toNat (⟨x51.aH,x56.1,x51.Changes⟩:M.Server))).bind fun y58=>((idx y58 v5).bind fun x66=>((mF x66.Changes x56.2).bind fun x71=>((some (List.set y58 v5.toNat (⟨x66.aH,x66.aJ,x71.1⟩:M.Server))).bind fun y73=>(cK nL1 x71.2 (i64.wrap (v5+1)) y73))))))))))))))) else (some (r99,v1))
def oU (p0:List M.Server) (p1:Int):Option (List M.Server×Int):=
 cK fuel p1 0 p0
def nR (p0:M.World) (p1:Int):Option (List M.aA×List M.bI×List M.cG×List M.fK×List M.Site×List M.Server×Int):=
 (vX p0.aC p1).bind fun x1=>((sR p0.Pages x1.2).bind fun x8=>((pW p0.Locks x8.2).bind fun x15=>((vN p0.Channel x15.2).bind fun x22=>((tR p0.Sites x22.2).bind fun x29=>((oU p0.Servers x29.2).bind fun x36=>(some (x1.1,x8.1,x15.1,x22.1,x29.1,x36.1,x36.2)))))))
def fF (p0:List Int):Nat→Int→Int→Option Int
 | 0,_,_=>none
 | nL1+1,v1,v5=>if (decide (v5<(List.length p0:Int)))=true then ((idx p0 v5).bind fun x6=>(if (x6 != (IntKind.u8.wrap v1))=true then (some (-1)) else (fF p0 nL1 (i64.wrap (v1+1)) (i64.wrap (v5+1))))) else (some v1)
def nO (p0:List Int) (p1:Int):Option Int:=
 fF p0 fuel p1 0
def dL (p0:List M.Cached):Nat→Int→Int→Option Int
 | 0,_,_=>none
 | nL1+1,v1,v5=>if (decide (v5<(List.length p0:Int)))=true then ((idx p0 v5).bind fun x6=>((aG v1).bind fun x11=>(if (!(x6.Site.toList==x11.toList))=true then (some (-1)) else ((aG (i64.wrap (v1+1))).bind fun x14=>(if (!(x6.Path.toList==x14.toList))=true then (some (-1)) else (if (x6.Response.Type_ != (i64.wrap ((i64.wrap (v1+1))+1)))=true then (some (-1)) else (if (x6.Response.Status != (i64.wrap ((i64.wrap ((i64.wrap (v1+1))+1))+1)))=true then (some (-1)) else (if (x6.Response.Version != (i64.wrap ((i64.wrap ((i64.wrap ((i64.wrap (v1+1))+1))+1))+1)))=true then (some (-1)) else ((nO x6.Response.Body (i64.wrap ((i64.wrap ((i64.wrap ((i64.wrap ((i64.wrap (v1+1))+1))+1))+1))+1))).bind fun x20=>(if (decide (x20<0))=true then (some (-1)) else (if (!(x6.Response.Shares==((Int.tmod x20 3)==0)))=true then (some (-1)) else (dL p0 nL1 (i64.wrap (x20+1)) (i64.wrap (v5+1)))))))))))))) else (some v1)
def nY (p0:List M.Cached) (p1:Int):Option Int:=
 dL p0 fuel p1 0
def eI (p0:List M.Cache):Nat→Int→Int→Option Int
 | 0,_,_=>none
 | nL1+1,v1,v5=>if (decide (v5<(List.length p0:Int)))=true then ((idx p0 v5).bind fun x6=>(if (x6.Version != v1)=true then (some (-1)) else ((nY x6.Entries (i64.wrap (v1+1))).bind fun x12=>(if (decide (x12<0))=true then (some (-1)) else (eI p0 nL1 x12 (i64.wrap (v5+1))))))) else (some v1)
def qF (p0:List M.Cache) (p1:Int):Option Int:=
 eI p0 fuel p1 0
def eL (p0:List M.Field):Nat→Int→Int→Option Int
 | 0,_,_=>none
 | nL1+1,v1,v5=>if (decide (v5<(List.length p0:Int)))=true then ((idx p0 v5).bind fun x6=>((aG v1).bind fun x11=>(if (!(x6.Name.toList==x11.toList))=true then (some (-1)) else (if (x6.N != (i64.wrap (v1+1)))=true then (some (-1)) else (eL p0 nL1 (i64.wrap ((i64.wrap (v1+1))+1)) (i64.wrap (v5+1))))))) else (some v1)
def qO (p0:List M.Field) (p1:Int):Option Int:=
 eL p0 fuel p1 0
def fH (p0:List M.Item):Nat→Int→Int→Option Int
 | 0,_,_=>none
 | nL1+1,v1,v5=>if (decide (v5<(List.length p0:Int)))=true then ((idx p0 v5).bind fun x6=>(if (x6.Key.Kind != v1)=true then (some (-1)) else (if (x6.Key.N != (i64.wrap (v1+1)))=true then (some (-1)) else ((aG (i64.wrap ((i64.wrap (v1+1))+1))).bind fun x13=>(if (!(x6.Key.Text.toList==x13.toList))=true then (some (-1)) else ((qO x6.aU.Fields (i64.wrap ((i64.wrap ((i64.wrap (v1+1))+1))+1))).bind fun x16=>(if (decide (x16<0))=true then (some (-1)) else (fH p0 nL1 x16 (i64.wrap (v5+1)))))))))) else (some v1)
def lH (p0:List M.Item) (p1:Int):Option Int:=
 fH p0 fuel p1 0
def eJ (p0:List M.aH):Nat→Int→Int→Option Int
 | 0,_,_=>none
 | nL1+1,v1,v5=>if (decide (v5<(List.length p0:Int)))=true then ((idx p0 v5).bind fun x6=>((aG v1).bind fun x11=>(if (!(x6.Name.toList==x11.toList))=true then (some (-1)) else ((lH x6.Items (i64.wrap (v1+1))).bind fun x14=>(if (decide (x14<0))=true then (some (-1)) else (if (x6.Auto != x14)=true then (some (-1)) else (eJ p0 nL1 (i64.wrap (x14+1)) (i64.wrap (v5+1))))))))) else (some v1)
def qA (p0:List M.aH) (p1:Int):Option Int:=
 eJ p0 fuel p1 0
def cH (p0:List M.aD):Nat→Int→Int→Option Int
 | 0,_,_=>none
 | nL1+1,v1,v5=>if (decide (v5<(List.length p0:Int)))=true then ((idx p0 v5).bind fun x6=>((aG v1).bind fun x11=>(if (!(x6.aH.toList==x11.toList))=true then (some (-1)) else ((aG (i64.wrap (v1+1))).bind fun x14=>(if (!(x6.Field.toList==x14.toList))=true then (some (-1)) else (cH p0 nL1 (i64.wrap ((i64.wrap (v1+1))+1)) (i64.wrap (v5+1)))))))) else (some v1)
def lP (p0:List M.aD) (p1:Int):Option Int:=
 cH p0 fuel p1 0
def eG (p0:List M.aY):Nat→Int→Int→Option Int
 | 0,_,_=>none
 | nL1+1,v1,v5=>if (decide (v5<(List.length p0:Int)))=true then ((idx p0 v5).bind fun x6=>(if (x6.Device != v1)=true then (some (-1)) else (if (x6.Seq != (i64.wrap (v1+1)))=true then (some (-1)) else (if (x6.Key.Kind != (i64.wrap ((i64.wrap (v1+1))+1)))=true then (some (-1)) else (if (x6.Key.N != (i64.wrap ((i64.wrap ((i64.wrap (v1+1))+1))+1)))=true then (some (-1)) else ((aG (i64.wrap ((i64.wrap ((i64.wrap ((i64.wrap (v1+1))+1))+1))+1))).bind fun x15=>(if (!(x6.Key.Text.toList==x15.toList))=true then (some (-1)) else ((aG (i64.wrap ((i64.wrap ((i64.wrap ((i64.wrap ((i64.wrap (v1+1))+1))+1))+1))+1))).bind fun x18=>(if (!(x6.Field.toList==x18.toList))=true then (some (-1)) else (if (x6.N != (i64.wrap ((i64.wrap ((i64.wrap ((i64.wrap ((i64.wrap ((i64.wrap (v1+1))+1))+1))+1))+1))+1)))=true then (some (-1)) else (eG p0 nL1 (i64.wrap ((i64.wrap ((i64.wrap ((i64.wrap ((i64.wrap ((i64.wrap ((i64.wrap (v1+1))+1))+1))+1))+1))+1))+1)) (i64.wrap (v5+1))))))))))))) else (some v1)
def mI (p0:List M.aY) (p1:Int):Option Int:=
 eG p0 fuel p1 0
def cP (p0:List M.aA):Nat→Int→Int→Option Int
 | 0,_,_=>none
 | nL1+1,v1,v5=>if (decide (v5<(List.length p0:Int)))=true then ((idx p0 v5).bind fun x6=>((aG v1).bind fun x11=>(if (!(x6.Site.toList==x11.toList))=true then (some (-1)) else ((aG (i64.wrap (v1+1))).bind fun x14=>(if (!(x6.Top.toList==x14.toList))=true then (some (-1)) else ((aG (i64.wrap ((i64.wrap (v1+1))+1))).bind fun x17=>(if (!(x6.Registration.Site.toList==x17.toList))=true then (some (-1)) else (if (x6.Registration.Installing != (i64.wrap ((i64.wrap ((i64.wrap (v1+1))+1))+1)))=true then (some (-1)) else (if (x6.Registration.Waiting != (i64.wrap ((i64.wrap ((i64.wrap ((i64.wrap (v1+1))+1))+1))+1)))=true then (some (-1)) else (if (x6.Registration.Active != (i64.wrap ((i64.wrap ((i64.wrap ((i64.wrap ((i64.wrap (v1+1))+1))+1))+1))+1)))=true then (some (-1)) else ((qF x6.Caches.Caches (i64.wrap ((i64.wrap ((i64.wrap ((i64.wrap ((i64.wrap ((i64.wrap (v1+1))+1))+1))+1))+1))+1))).bind fun x27=>(if (decide (x27<0))=true then (some (-1)) else ((aG x27).bind fun x30=>(if (!(x6.bB.Base.Name.toList==x30.toList))=true then (some (-1)) else (if (x6.bB.Base.Version != (i64.wrap (x27+1)))=true then (some (-1)) else ((qA x6.bB.Base.Stores (i64.wrap ((i64.wrap (x27+1))+1))).bind fun x34=>(if (decide (x34<0))=true then (some (-1)) else ((lP x6.bB.Base.Unique x34).bind fun x37=>(if (decide (x37<0))=true then (some (-1)) else ((nO x6.bB.Log x37).bind fun x40=>(if (decide (x40<0))=true then (some (-1)) else (if (x6.bB.Count != x40)=true then (some (-1)) else ((aG (i64.wrap (x40+1))).bind fun x48=>(if (!(x6.aE.Base.Name.toList==x48.toList))=true then (some (-1)) else ((lH x6.aE.Base.Items (i64.wrap ((i64.wrap (x40+1))+1))).bind fun x51=>(if (decide (x51<0))=true then (some (-1)) else (if (x6.aE.Base.Auto != x51)=true then (some (-1)) else (if (x6.aE.Seen != (i64.wrap (x51+1)))=true then (some (-1)) else (if (x6.aE.Sync.aV.Device != (i64.wrap ((i64.wrap (x51+1))+1)))=true then (some (-1)) else (if (x6.aE.Sync.aV.Next != (i64.wrap ((i64.wrap ((i64.wrap (x51+1))+1))+1)))=true then (some (-1)) else ((mI x6.aE.Sync.aV.Writes (i64.wrap ((i64.wrap ((i64.wrap ((i64.wrap (x51+1))+1))+1))+1))).bind fun x62=>(if (decide (x62<0))=true then (some (-1)) else (if (x6.aE.Sync.Tries != x62)=true then (some (-1)) else (if (x6.aE.Sync.WaitUntil != (i64.wrap (x62+1)))=true then (some (-1)) else (if (x6.LastUsed != (i64.wrap ((i64.wrap (x62+1))+1)))=true then (some (-1)) else (if (!(x6.Persistent==((Int.tmod (i64.wrap ((i64.wrap ((i64.wrap (x62+1))+1))+1)) 3)==0)))=true then (some (-1)) else (cP p0 nL1 (i64.wrap ((i64.wrap ((i64.wrap ((i64.wrap (x62+1))+1))+1))+1)) (i64.wrap (v5+1))))))))))))))))))))))))))))))))))))))) else (some v1)
def oR (p0:List M.aA) (p1:Int):Option Int:=
 cP p0 fuel p1 0
def vM (p0:M.aC) (p1:Int):Option Int:=
 (oR p0.Buckets p1).bind fun x1=>(if (decide (x1<0))=true then (some (-1)) else (some x1))
def dK (p0:List M.aN):Nat→Int→Int→Option Int
 | 0,_,_=>none
 | nL1+1,v1,v5=>if (decide (v5<(List.length p0:Int)))=true then ((idx p0 v5).bind fun x6=>((aG v1).bind fun x11=>(if (!(x6.Path.toList==x11.toList))=true then (some (-1)) else (if (x6.Version != (i64.wrap (v1+1)))=true then (some (-1)) else (dK p0 nL1 (i64.wrap ((i64.wrap (v1+1))+1)) (i64.wrap (v5+1))))))) else (some v1)
def pD (p0:List M.aN) (p1:Int):Option Int:=
 dK p0 fuel p1 0
def eF (p0:List M.Instr):Nat→Int→Int→Option Int
 | 0,_,_=>none
 | nL1+1,v1,v5=>if (decide (v5<(List.length p0:Int)))=true then ((idx p0 v5).bind fun x6=>(if (x6.Kind != v1)=true then (some (-1)) else (if (x6.R != (i64.wrap (v1+1)))=true then (some (-1)) else (if (x6.N != (i64.wrap ((i64.wrap (v1+1))+1)))=true then (some (-1)) else ((aG (i64.wrap ((i64.wrap ((i64.wrap (v1+1))+1))+1))).bind fun x14=>(if (!(x6.Text.toList==x14.toList))=true then (some (-1)) else (eF p0 nL1 (i64.wrap ((i64.wrap ((i64.wrap ((i64.wrap (v1+1))+1))+1))+1)) (i64.wrap (v5+1))))))))) else (some v1)
def qZ (p0:List M.Instr) (p1:Int):Option Int:=
 eF p0 fuel p1 0
def fX (p0:List Int):Nat→Int→Int→Option Int
 | 0,_,_=>none
 | nL1+1,v1,v5=>if (decide (v5<(List.length p0:Int)))=true then ((idx p0 v5).bind fun x6=>(if (x6 != v1)=true then (some (-1)) else (fX p0 nL1 (i64.wrap (v1+1)) (i64.wrap (v5+1))))) else (some v1)
def wR (p0:List Int) (p1:Int):Option Int:=
 fX p0 fuel p1 0
def dW (p0:List M.bI):Nat→Int→Int→Option Int
 | 0,_,_=>none
 | nL1+1,v1,v5=>if (decide (v5<(List.length p0:Int)))=true then ((idx p0 v5).bind fun x6=>(if (x6.Id != v1)=true then (some (-1)) else ((aG (i64.wrap (v1+1))).bind fun x12=>(if (!(x6.Site.toList==x12.toList))=true then (some (-1)) else ((aG (i64.wrap ((i64.wrap (v1+1))+1))).bind fun x15=>(if (!(x6.Top.toList==x15.toList))=true then (some (-1)) else (if (x6.Version != (i64.wrap ((i64.wrap ((i64.wrap (v1+1))+1))+1)))=true then (some (-1)) else ((pD x6.aN (i64.wrap ((i64.wrap ((i64.wrap ((i64.wrap (v1+1))+1))+1))+1))).bind fun x19=>(if (decide (x19<0))=true then (some (-1)) else ((qZ x6.Machine.Script x19).bind fun x22=>(if (decide (x22<0))=true then (some (-1)) else (if (x6.Machine.Pc != x22)=true then (some (-1)) else ((wR x6.Machine.Regs (i64.wrap (x22+1))).bind fun x30=>(if (decide (x30<0))=true then (some (-1)) else (if (x6.Machine.Steps != x30)=true then (some (-1)) else (if (!(x6.Machine.Done==((Int.tmod (i64.wrap (x30+1)) 3)==0)))=true then (some (-1)) else (if (!(x6.Machine.Wait==((Int.tmod (i64.wrap ((i64.wrap (x30+1))+1)) 3)==0)))=true then (some (-1)) else (dW p0 nL1 (i64.wrap ((i64.wrap ((i64.wrap (x30+1))+1))+1)) (i64.wrap (v5+1)))))))))))))))))))) else (some v1)
def sU (p0:List M.bI) (p1:Int):Option Int:=
 dW p0 fuel p1 0
def fG (p0:List M.cG):Nat→Int→Int→Option Int
 | 0,_,_=>none
 | nL1+1,v1,v5=>if (decide (v5<(List.length p0:Int)))=true then ((idx p0 v5).bind fun x6=>((aG v1).bind fun x11=>(if (!(x6.Name.toList==x11.toList))=true then (some (-1)) else (if (x6.bI != (i64.wrap (v1+1)))=true then (some (-1)) else (if (!(x6.Shared==((Int.tmod (i64.wrap ((i64.wrap (v1+1))+1)) 3)==0)))=true then (some (-1)) else (if (!(x6.Held==((Int.tmod (i64.wrap ((i64.wrap ((i64.wrap (v1+1))+1))+1)) 3)==0)))=true then (some (-1)) else (fG p0 nL1 (i64.wrap ((i64.wrap ((i64.wrap ((i64.wrap (v1+1))+1))+1))+1)) (i64.wrap (v5+1))))))))) else (some v1)
def tX (p0:List M.cG) (p1:Int):Option Int:=
 fG p0 fuel p1 0
def pX (p0:M.aR) (p1:Int):Option Int:=
 (tX p0.Locks p1).bind fun x1=>(if (decide (x1<0))=true then (some (-1)) else (some x1))
def fJ (p0:List M.fK):Nat→Int→Int→Option Int
 | 0,_,_=>none
 | nL1+1,v1,v5=>if (decide (v5<(List.length p0:Int)))=true then ((idx p0 v5).bind fun x6=>(if (x6.To != v1)=true then (some (-1)) else (if (x6.From != (i64.wrap (v1+1)))=true then (some (-1)) else (if (x6.N != (i64.wrap ((i64.wrap (v1+1))+1)))=true then (some (-1)) else (fJ p0 nL1 (i64.wrap ((i64.wrap ((i64.wrap (v1+1))+1))+1)) (i64.wrap (v5+1))))))) else (some v1)
def uE (p0:List M.fK) (p1:Int):Option Int:=
 fJ p0 fuel p1 0
def vV (p0:M.Channel) (p1:Int):Option Int:=
 (uE p0.Mails p1).bind fun x1=>(if (decide (x1<0))=true then (some (-1)) else (some x1))
def dJ (p0:List ByteArray):Nat→Int→Int→Option Int
 | 0,_,_=>none
 | nL1+1,v1,v5=>if (decide (v5<(List.length p0:Int)))=true then ((idx p0 v5).bind fun x6=>((aG v1).bind fun x11=>(if (!(x6.toList==x11.toList))=true then (some (-1)) else (dJ p0 nL1 (i64.wrap (v1+1)) (i64.wrap (v5+1)))))) else (some v1)
def oH (p0:List ByteArray) (p1:Int):Option Int:=
 dJ p0 fuel p1 0
def fB (p0:List M.Site):Nat→Int→Int→Option Int
 | 0,_,_=>none
 | nL1+1,v1,v5=>if (decide (v5<(List.length p0:Int)))=true then ((idx p0 v5).bind fun x6=>((aG v1).bind fun x11=>(if (!(x6.Name.toList==x11.toList))=true then (some (-1)) else (if (x6.Version != (i64.wrap (v1+1)))=true then (some (-1)) else ((oH x6.Files (i64.wrap ((i64.wrap (v1+1))+1))).bind fun x15=>(if (decide (x15<0))=true then (some (-1)) else (if (!(x6.Shared==((Int.tmod x15 3)==0)))=true then (some (-1)) else (fB p0 nL1 (i64.wrap (x15+1)) (i64.wrap (v5+1)))))))))) else (some v1)
def uW (p0:List M.Site) (p1:Int):Option Int:=
 fB p0 fuel p1 0
def cV (p0:List M.aJ):Nat→Int→Int→Option Int
 | 0,_,_=>none
 | nL1+1,v1,v5=>if (decide (v5<(List.length p0:Int)))=true then ((idx p0 v5).bind fun x6=>(if (x6.Device != v1)=true then (some (-1)) else (if (x6.Seq != (i64.wrap (v1+1)))=true then (some (-1)) else (cV p0 nL1 (i64.wrap ((i64.wrap (v1+1))+1)) (i64.wrap (v5+1)))))) else (some v1)
def mX (p0:List M.aJ) (p1:Int):Option Int:=
 cV p0 fuel p1 0
def cO (p0:List M.Server):Nat→Int→Int→Option Int
 | 0,_,_=>none
 | nL1+1,v1,v5=>if (decide (v5<(List.length p0:Int)))=true then ((idx p0 v5).bind fun x6=>((aG v1).bind fun x11=>(if (!(x6.aH.Name.toList==x11.toList))=true then (some (-1)) else ((lH x6.aH.Items (i64.wrap (v1+1))).bind fun x14=>(if (decide (x14<0))=true then (some (-1)) else (if (x6.aH.Auto != x14)=true then (some (-1)) else ((mX x6.aJ (i64.wrap (x14+1))).bind fun x18=>(if (decide (x18<0))=true then (some (-1)) else ((mI x6.Changes x18).bind fun x21=>(if (decide (x21<0))=true then (some (-1)) else (cO p0 nL1 x21 (i64.wrap (v5+1))))))))))))) else (some v1)
def pJ (p0:List M.Server) (p1:Int):Option Int:=
 cO p0 fuel p1 0
def nW (p0:M.World) (p1:Int):Option Int:=
 (vM p0.aC p1).bind fun x1=>(if (decide (x1<0))=true then (some (-1)) else ((sU p0.Pages x1).bind fun x4=>(if (decide (x4<0))=true then (some (-1)) else ((pX p0.Locks x4).bind fun x7=>(if (decide (x7<0))=true then (some (-1)) else ((vV p0.Channel x7).bind fun x10=>(if (decide (x10<0))=true then (some (-1)) else ((uW p0.Sites x10).bind fun x13=>(if (decide (x13<0))=true then (some (-1)) else ((pJ p0.Servers x13).bind fun x16=>(if (decide (x16<0))=true then (some (-1)) else (some x16))))))))))))
def iU (p0:M.World) (p1:ByteArray) (p2:ByteArray):Option Bool:=
 if (decide ((p1.size:Int)>1048576))=true then (some true) else (if (decide ((p2.size:Int)>1048576))=true then (some true) else ((zD p0 1048576).bind fun x3=>(if (decide (x3<0))=true then (some true) else ((lZ p0).bind fun x6=>((kJ x6 p1 p2).bind fun x8=>((lZ p0).bind fun x10=>((iT x10 p1 p2).bind fun x12=>((lY x12.1 x8.1).bind fun x14=>(if (!x14)=true then (some false) else (if (!(x12.2==x8.2))=true then (some false) else ((lZ p0).bind fun x18=>((lY x10 x18).bind fun x20=>(if (!x20)=true then (some false) else ((nR x10 1).bind fun x23=>(if (decide (x23.2.2.2.2.2.2<0))=true then (some false) else ((lY x12.1 x8.1).bind fun x50=>(if (!x50)=true then (some false) else ((nR x12.1 1).bind fun x53=>((nW (⟨x12.1.Now,x12.1.Online,x12.1.Device,(⟨x53.1⟩:M.aC),x53.2.1,x12.1.NextPage,(⟨x53.2.2.1⟩:M.aR),(⟨x53.2.2.2.1⟩:M.Channel),x53.2.2.2.2.1,x53.2.2.2.2.2.1⟩:M.World) 1).bind fun x78=>(if (decide (x78<0))=true then (some false) else (if (x78 != x53.2.2.2.2.2.2)=true then (some false) else ((lZ p0).bind fun x82=>((iT x82 p1 p2).bind fun x84=>((lY x84.1 x8.1).bind fun x86=>(if (!x86)=true then (some false) else (if (!(x84.2==x8.2))=true then (some false) else ((nW (⟨x12.1.Now,x12.1.Online,x12.1.Device,(⟨x53.1⟩:M.aC),x53.2.1,x12.1.NextPage,(⟨x53.2.2.1⟩:M.aR),(⟨x53.2.2.2.1⟩:M.Channel),x53.2.2.2.2.1,x53.2.2.2.2.2.1⟩:M.World) 1).bind fun x90=>(if (decide (x90<0))=true then (some false) else (if (x90 != x53.2.2.2.2.2.2)=true then (some false) else (some true))))))))))))))))))))))))))))))
end Go.Proofs.YtnhpbpnhmapeeaaGreat.gen
