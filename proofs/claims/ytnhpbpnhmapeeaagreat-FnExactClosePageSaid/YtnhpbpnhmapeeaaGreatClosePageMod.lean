/-
  Helper text. No conditions.
-/
import Derived.Test.YtnhpbpnhmapeeaaGreatShS
namespace Go.Proofs.YtnhpbpnhmapeeaaGreat.gen
open Go Go.Sh
open Go.IntKind (i64)
set_option linter.unusedVariables false
set_option linter.unusedSimpArgs false
structure M.Registration where
 Site:ByteArray
 Installing:Int
 Waiting:Int
 Active:Int
def M.Registration.en (x:M.Registration):List D:=[.str x.Site,.int .i64 x.Installing,.int .i64 x.Waiting,.int .i64 x.Active]
theorem M.Registration.en.fl (l:List M.Registration):(List.map M.Registration.en l).all (fun y=>y.all D.flat)=true:=aD0 (fun _=>rfl) l
structure M.Response where
 Type_:Int
 Status:Int
 Version:Int
 Body:List Int
 Shares:Bool
def M.Response.en (x:M.Response):List D:=[.int .i64 x.Type_,.int .i64 x.Status,.int .i64 x.Version,.sl (List.map enB x.Body),.bool x.Shares]
structure M.Cached where
 Site:ByteArray
 Path:ByteArray
 Response:M.Response
def M.Cached.en (x:M.Cached):List D:=[.str x.Site,.str x.Path,.int .i64 x.Response.Type_,.int .i64 x.Response.Status,.int .i64 x.Response.Version,.sl (List.map enB x.Response.Body),.bool x.Response.Shares]
structure M.Cache where
 Version:Int
 Entries:List M.Cached
def M.Cache.en (x:M.Cache):List D:=[.int .i64 x.Version,.sl (List.map M.Cached.en x.Entries)]
structure M.aT where
 Caches:List M.Cache
def M.aT.en (x:M.aT):List D:=[.sl (List.map M.Cache.en x.Caches)]
structure M.Key where
 Kind:Int
 N:Int
 Text:ByteArray
def M.Key.en (x:M.Key):List D:=[.int .i64 x.Kind,.int .i64 x.N,.str x.Text]
theorem M.Key.en.fl (l:List M.Key):(List.map M.Key.en l).all (fun y=>y.all D.flat)=true:=aD0 (fun _=>rfl) l
structure M.Field where
 Name:ByteArray
 N:Int
def M.Field.en (x:M.Field):List D:=[.str x.Name,.int .i64 x.N]
theorem M.Field.en.fl (l:List M.Field):(List.map M.Field.en l).all (fun y=>y.all D.flat)=true:=aD0 (fun _=>rfl) l
structure M.aU where
 Fields:List M.Field
def M.aU.en (x:M.aU):List D:=[.sl (List.map M.Field.en x.Fields)]
structure M.Item where
 Key:M.Key
 aU:M.aU
def M.Item.en (x:M.Item):List D:=[.int .i64 x.Key.Kind,.int .i64 x.Key.N,.str x.Key.Text,.sl (List.map M.Field.en x.aU.Fields)]
structure M.aH where
 Name:ByteArray
 Items:List M.Item
 Auto:Int
def M.aH.en (x:M.aH):List D:=[.str x.Name,.sl (List.map M.Item.en x.Items),.int .i64 x.Auto]
structure M.aA where
 aH:ByteArray
 Field:ByteArray
def M.aA.en (x:M.aA):List D:=[.str x.aH,.str x.Field]
theorem M.aA.en.fl (l:List M.aA):(List.map M.aA.en l).all (fun y=>y.all D.flat)=true:=aD0 (fun _=>rfl) l
structure M.Database where
 Name:ByteArray
 Version:Int
 Stores:List M.aH
 Unique:List M.aA
def M.Database.en (x:M.Database):List D:=[.str x.Name,.int .i64 x.Version,.sl (List.map M.aH.en x.Stores),.sl (List.map M.aA.en x.Unique)]
structure M.bE where
 Base:M.Database
 Log:List Int
 Count:Int
def M.bE.en (x:M.bE):List D:=[.str x.Base.Name,.int .i64 x.Base.Version,.sl (List.map M.aH.en x.Base.Stores),.sl (List.map M.aA.en x.Base.Unique),.sl (List.map enB x.Log),.int .i64 x.Count]
structure M.aY where
 Device:Int
 Seq:Int
 Key:M.Key
 Field:ByteArray
 N:Int
def M.aY.en (x:M.aY):List D:=[.int .i64 x.Device,.int .i64 x.Seq,.int .i64 x.Key.Kind,.int .i64 x.Key.N,.str x.Key.Text,.str x.Field,.int .i64 x.N]
theorem M.aY.en.fl (l:List M.aY):(List.map M.aY.en l).all (fun y=>y.all D.flat)=true:=aD0 (fun _=>rfl) l
structure M.aV where
 Device:Int
 Next:Int
 Writes:List M.aY
def M.aV.en (x:M.aV):List D:=[.int .i64 x.Device,.int .i64 x.Next,.sl (List.map M.aY.en x.Writes)]
structure M.Sync where
 aV:M.aV
 Tries:Int
 WaitUntil:Int
def M.Sync.en (x:M.Sync):List D:=[.int .i64 x.aV.Device,.int .i64 x.aV.Next,.sl (List.map M.aY.en x.aV.Writes),.int .i64 x.Tries,.int .i64 x.WaitUntil]
structure M.aD where
 Base:M.aH
 Seen:Int
 Sync:M.Sync
def M.aD.en (x:M.aD):List D:=[.str x.Base.Name,.sl (List.map M.Item.en x.Base.Items),.int .i64 x.Base.Auto,.int .i64 x.Seen,.int .i64 x.Sync.aV.Device,.int .i64 x.Sync.aV.Next,.sl (List.map M.aY.en x.Sync.aV.Writes),.int .i64 x.Sync.Tries,.int .i64 x.Sync.WaitUntil]
structure M.aF where
 Site:ByteArray
 Top:ByteArray
 Registration:M.Registration
 Caches:M.aT
 bE:M.bE
 aD:M.aD
 LastUsed:Int
 Persistent:Bool
def M.aF.en (x:M.aF):List D:=[.str x.Site,.str x.Top,.str x.Registration.Site,.int .i64 x.Registration.Installing,.int .i64 x.Registration.Waiting,.int .i64 x.Registration.Active,.sl (List.map M.Cache.en x.Caches.Caches),.str x.bE.Base.Name,.int .i64 x.bE.Base.Version,.sl (List.map M.aH.en x.bE.Base.Stores),.sl (List.map M.aA.en x.bE.Base.Unique),.sl (List.map enB x.bE.Log),.int .i64 x.bE.Count,.str x.aD.Base.Name,.sl (List.map M.Item.en x.aD.Base.Items),.int .i64 x.aD.Base.Auto,.int .i64 x.aD.Seen,.int .i64 x.aD.Sync.aV.Device,.int .i64 x.aD.Sync.aV.Next,.sl (List.map M.aY.en x.aD.Sync.aV.Writes),.int .i64 x.aD.Sync.Tries,.int .i64 x.aD.Sync.WaitUntil,.int .i64 x.LastUsed,.bool x.Persistent]
structure M.aM where
 Buckets:List M.aF
def M.aM.en (x:M.aM):List D:=[.sl (List.map M.aF.en x.Buckets)]
structure M.aN where
 Path:ByteArray
 Version:Int
def M.aN.en (x:M.aN):List D:=[.str x.Path,.int .i64 x.Version]
theorem M.aN.en.fl (l:List M.aN):(List.map M.aN.en l).all (fun y=>y.all D.flat)=true:=aD0 (fun _=>rfl) l
structure M.Instr where
 Kind:Int
 R:Int
 N:Int
 Text:ByteArray
def M.Instr.en (x:M.Instr):List D:=[.int .i64 x.Kind,.int .i64 x.R,.int .i64 x.N,.str x.Text]
theorem M.Instr.en.fl (l:List M.Instr):(List.map M.Instr.en l).all (fun y=>y.all D.flat)=true:=aD0 (fun _=>rfl) l
structure M.Machine where
 Script:List M.Instr
 Pc:Int
 Regs:List Int
 Steps:Int
 Done:Bool
 Wait:Bool
def M.Machine.en (x:M.Machine):List D:=[.sl (List.map M.Instr.en x.Script),.int .i64 x.Pc,.sl (List.map enI x.Regs),.int .i64 x.Steps,.bool x.Done,.bool x.Wait]
structure M.bG where
 Id:Int
 Site:ByteArray
 Top:ByteArray
 Version:Int
 aN:List M.aN
 Machine:M.Machine
def M.bG.en (x:M.bG):List D:=[.int .i64 x.Id,.str x.Site,.str x.Top,.int .i64 x.Version,.sl (List.map M.aN.en x.aN),.sl (List.map M.Instr.en x.Machine.Script),.int .i64 x.Machine.Pc,.sl (List.map enI x.Machine.Regs),.int .i64 x.Machine.Steps,.bool x.Machine.Done,.bool x.Machine.Wait]
structure M.bF where
 Name:ByteArray
 bG:Int
 Shared:Bool
 Held:Bool
def M.bF.en (x:M.bF):List D:=[.str x.Name,.int .i64 x.bG,.bool x.Shared,.bool x.Held]
theorem M.bF.en.fl (l:List M.bF):(List.map M.bF.en l).all (fun y=>y.all D.flat)=true:=aD0 (fun _=>rfl) l
structure M.aE where
 Locks:List M.bF
def M.aE.en (x:M.aE):List D:=[.sl (List.map M.bF.en x.Locks)]
structure M.bU where
 To:Int
 From:Int
 N:Int
def M.bU.en (x:M.bU):List D:=[.int .i64 x.To,.int .i64 x.From,.int .i64 x.N]
theorem M.bU.en.fl (l:List M.bU):(List.map M.bU.en l).all (fun y=>y.all D.flat)=true:=aD0 (fun _=>rfl) l
structure M.Channel where
 Mails:List M.bU
def M.Channel.en (x:M.Channel):List D:=[.sl (List.map M.bU.en x.Mails)]
structure M.Site where
 Name:ByteArray
 Version:Int
 Files:List ByteArray
 Shared:Bool
def M.Site.en (x:M.Site):List D:=[.str x.Name,.int .i64 x.Version,.sl (List.map enS x.Files),.bool x.Shared]
structure M.aJ where
 Device:Int
 Seq:Int
def M.aJ.en (x:M.aJ):List D:=[.int .i64 x.Device,.int .i64 x.Seq]
theorem M.aJ.en.fl (l:List M.aJ):(List.map M.aJ.en l).all (fun y=>y.all D.flat)=true:=aD0 (fun _=>rfl) l
structure M.Server where
 aH:M.aH
 aJ:List M.aJ
 Changes:List M.aY
def M.Server.en (x:M.Server):List D:=[.str x.aH.Name,.sl (List.map M.Item.en x.aH.Items),.int .i64 x.aH.Auto,.sl (List.map M.aJ.en x.aJ),.sl (List.map M.aY.en x.Changes)]
structure M.World where
 Now:Int
 Online:Bool
 Device:Int
 aM:M.aM
 Pages:List M.bG
 NextPage:Int
 Locks:M.aE
 Channel:M.Channel
 Sites:List M.Site
 Servers:List M.Server
def M.World.en (x:M.World):List D:=[.int .i64 x.Now,.bool x.Online,.int .i64 x.Device,.sl (List.map M.aF.en x.aM.Buckets),.sl (List.map M.bG.en x.Pages),.int .i64 x.NextPage,.sl (List.map M.bF.en x.Locks.Locks),.sl (List.map M.bU.en x.Channel.Mails),.sl (List.map M.Site.en x.Sites),.sl (List.map M.Server.en x.Servers)]
def jX (p0:M.Registration) (p1:Int):Option Int:=
 if (decide ((i64.wrap (p1-(p0.Site.size:Int)))<0))=true then (some (-1)) else (some (i64.wrap (p1-(p0.Site.size:Int))))
def uJ (p0:List Int) (p1:Int):Option Int:=
 if (decide ((i64.wrap (p1-(List.length p0:Int)))<0))=true then (some (-1)) else (some (i64.wrap (p1-(List.length p0:Int))))
def qK (p0:M.Response) (p1:Int):Option Int:=
 (uJ p0.Body p1).bind fun x1=>(if (decide (x1<0))=true then (some (-1)) else (some x1))
def vM (p0:M.Cached) (p1:Int):Option Int:=
 if (decide ((i64.wrap (p1-(p0.Site.size:Int)))<0))=true then (some (-1)) else (if (decide ((i64.wrap ((i64.wrap (p1-(p0.Site.size:Int)))-(p0.Path.size:Int)))<0))=true then (some (-1)) else ((qK p0.Response (i64.wrap ((i64.wrap (p1-(p0.Site.size:Int)))-(p0.Path.size:Int)))).bind fun x3=>(if (decide (x3<0))=true then (some (-1)) else (some x3))))
def rL (p0:List M.Cached):Nat→Int→Int→Option Int
 | 0,_,_=>none
 | nL1+1,v1,v5=>if (decide (v5<(List.length p0:Int)))=true then ((idx p0 v5).bind fun x7=>((vM x7 v1).bind fun x12=>(if (decide (x12<0))=true then (some (-1)) else (rL p0 nL1 x12 (i64.wrap (v5+1)))))) else (some v1)
def sQ (p0:List M.Cached) (p1:Int):Option Int:=
 if (decide ((i64.wrap (p1-(List.length p0:Int)))<0))=true then (some (-1)) else (rL p0 fuel (i64.wrap (p1-(List.length p0:Int))) 0)
def zB (p0:M.Cache) (p1:Int):Option Int:=
 (sQ p0.Entries p1).bind fun x1=>(if (decide (x1<0))=true then (some (-1)) else (some x1))
def uW (p0:List M.Cache):Nat→Int→Int→Option Int
 | 0,_,_=>none
 | nL1+1,v1,v5=>if (decide (v5<(List.length p0:Int)))=true then ((idx p0 v5).bind fun x7=>((zB x7 v1).bind fun x12=>(if (decide (x12<0))=true then (some (-1)) else (uW p0 nL1 x12 (i64.wrap (v5+1)))))) else (some v1)
def wX (p0:List M.Cache) (p1:Int):Option Int:=
 if (decide ((i64.wrap (p1-(List.length p0:Int)))<0))=true then (some (-1)) else (uW p0 fuel (i64.wrap (p1-(List.length p0:Int))) 0)
def rF (p0:M.aT) (p1:Int):Option Int:=
 (wX p0.Caches p1).bind fun x1=>(if (decide (x1<0))=true then (some (-1)) else (some x1))
def aAC (p0:M.Key) (p1:Int):Option Int:=
 if (decide ((i64.wrap (p1-(p0.Text.size:Int)))<0))=true then (some (-1)) else (some (i64.wrap (p1-(p0.Text.size:Int))))
def yS (p0:M.Field) (p1:Int):Option Int:=
 if (decide ((i64.wrap (p1-(p0.Name.size:Int)))<0))=true then (some (-1)) else (some (i64.wrap (p1-(p0.Name.size:Int))))
def uS (p0:List M.Field):Nat→Int→Int→Option Int
 | 0,_,_=>none
 | nL1+1,v1,v5=>if (decide (v5<(List.length p0:Int)))=true then ((idx p0 v5).bind fun x7=>((yS x7 v1).bind fun x12=>(if (decide (x12<0))=true then (some (-1)) else (uS p0 nL1 x12 (i64.wrap (v5+1)))))) else (some v1)
def vH (p0:List M.Field) (p1:Int):Option Int:=
 if (decide ((i64.wrap (p1-(List.length p0:Int)))<0))=true then (some (-1)) else (uS p0 fuel (i64.wrap (p1-(List.length p0:Int))) 0)
def wW (p0:M.aU) (p1:Int):Option Int:=
 (vH p0.Fields p1).bind fun x1=>(if (decide (x1<0))=true then (some (-1)) else (some x1))
def aAi (p0:M.Item) (p1:Int):Option Int:=
 (aAC p0.Key p1).bind fun x1=>(if (decide (x1<0))=true then (some (-1)) else ((wW p0.aU x1).bind fun x4=>(if (decide (x4<0))=true then (some (-1)) else (some x4))))
def xM (p0:List M.Item):Nat→Int→Int→Option Int
 | 0,_,_=>none
 | nL1+1,v1,v5=>if (decide (v5<(List.length p0:Int)))=true then ((idx p0 v5).bind fun x7=>((aAi x7 v1).bind fun x12=>(if (decide (x12<0))=true then (some (-1)) else (xM p0 nL1 x12 (i64.wrap (v5+1)))))) else (some v1)
def zL (p0:List M.Item) (p1:Int):Option Int:=
 if (decide ((i64.wrap (p1-(List.length p0:Int)))<0))=true then (some (-1)) else (xM p0 fuel (i64.wrap (p1-(List.length p0:Int))) 0)
def pC (p0:M.aH) (p1:Int):Option Int:=
 if (decide ((i64.wrap (p1-(p0.Name.size:Int)))<0))=true then (some (-1)) else ((zL p0.Items (i64.wrap (p1-(p0.Name.size:Int)))).bind fun x2=>(if (decide (x2<0))=true then (some (-1)) else (some x2)))
def uX (p0:List M.aH):Nat→Int→Int→Option Int
 | 0,_,_=>none
 | nL1+1,v1,v5=>if (decide (v5<(List.length p0:Int)))=true then ((idx p0 v5).bind fun x7=>((pC x7 v1).bind fun x12=>(if (decide (x12<0))=true then (some (-1)) else (uX p0 nL1 x12 (i64.wrap (v5+1)))))) else (some v1)
def wH (p0:List M.aH) (p1:Int):Option Int:=
 if (decide ((i64.wrap (p1-(List.length p0:Int)))<0))=true then (some (-1)) else (uX p0 fuel (i64.wrap (p1-(List.length p0:Int))) 0)
def pS (p0:M.aA) (p1:Int):Option Int:=
 if (decide ((i64.wrap (p1-(p0.aH.size:Int)))<0))=true then (some (-1)) else (if (decide ((i64.wrap ((i64.wrap (p1-(p0.aH.size:Int)))-(p0.Field.size:Int)))<0))=true then (some (-1)) else (some (i64.wrap ((i64.wrap (p1-(p0.aH.size:Int)))-(p0.Field.size:Int)))))
def nT (p0:List M.aA):Nat→Int→Int→Option Int
 | 0,_,_=>none
 | nL1+1,v1,v5=>if (decide (v5<(List.length p0:Int)))=true then ((idx p0 v5).bind fun x7=>((pS x7 v1).bind fun x12=>(if (decide (x12<0))=true then (some (-1)) else (nT p0 nL1 x12 (i64.wrap (v5+1)))))) else (some v1)
def oE (p0:List M.aA) (p1:Int):Option Int:=
 if (decide ((i64.wrap (p1-(List.length p0:Int)))<0))=true then (some (-1)) else (nT p0 fuel (i64.wrap (p1-(List.length p0:Int))) 0)
def qY (p0:M.Database) (p1:Int):Option Int:=
 if (decide ((i64.wrap (p1-(p0.Name.size:Int)))<0))=true then (some (-1)) else ((wH p0.Stores (i64.wrap (p1-(p0.Name.size:Int)))).bind fun x2=>(if (decide (x2<0))=true then (some (-1)) else ((oE p0.Unique x2).bind fun x5=>(if (decide (x5<0))=true then (some (-1)) else (some x5)))))
def aAF (p0:M.bE) (p1:Int):Option Int:=
 (qY p0.Base p1).bind fun x1=>(if (decide (x1<0))=true then (some (-1)) else ((uJ p0.Log x1).bind fun x4=>(if (decide (x4<0))=true then (some (-1)) else (some x4))))
def yZ (p0:M.aY) (p1:Int):Option Int:=
 (aAC p0.Key p1).bind fun x1=>(if (decide (x1<0))=true then (some (-1)) else (if (decide ((i64.wrap (x1-(p0.Field.size:Int)))<0))=true then (some (-1)) else (some (i64.wrap (x1-(p0.Field.size:Int))))))
def uT (p0:List M.aY):Nat→Int→Int→Option Int
 | 0,_,_=>none
 | nL1+1,v1,v5=>if (decide (v5<(List.length p0:Int)))=true then ((idx p0 v5).bind fun x7=>((yZ x7 v1).bind fun x12=>(if (decide (x12<0))=true then (some (-1)) else (uT p0 nL1 x12 (i64.wrap (v5+1)))))) else (some v1)
def qL (p0:List M.aY) (p1:Int):Option Int:=
 if (decide ((i64.wrap (p1-(List.length p0:Int)))<0))=true then (some (-1)) else (uT p0 fuel (i64.wrap (p1-(List.length p0:Int))) 0)
def vZ (p0:M.aV) (p1:Int):Option Int:=
 (qL p0.Writes p1).bind fun x1=>(if (decide (x1<0))=true then (some (-1)) else (some x1))
def aAy (p0:M.Sync) (p1:Int):Option Int:=
 (vZ p0.aV p1).bind fun x1=>(if (decide (x1<0))=true then (some (-1)) else (some x1))
def uA (p0:M.aD) (p1:Int):Option Int:=
 (pC p0.Base p1).bind fun x1=>(if (decide (x1<0))=true then (some (-1)) else ((aAy p0.Sync x1).bind fun x4=>(if (decide (x4<0))=true then (some (-1)) else (some x4))))
def wZ (p0:M.aF) (p1:Int):Option Int:=
 if (decide ((i64.wrap (p1-(p0.Site.size:Int)))<0))=true then (some (-1)) else (if (decide ((i64.wrap ((i64.wrap (p1-(p0.Site.size:Int)))-(p0.Top.size:Int)))<0))=true then (some (-1)) else ((jX p0.Registration (i64.wrap ((i64.wrap (p1-(p0.Site.size:Int)))-(p0.Top.size:Int)))).bind fun x3=>(if (decide (x3<0))=true then (some (-1)) else ((rF p0.Caches x3).bind fun x6=>(if (decide (x6<0))=true then (some (-1)) else ((aAF p0.bE x6).bind fun x9=>(if (decide (x9<0))=true then (some (-1)) else ((uA p0.aD x9).bind fun x12=>(if (decide (x12<0))=true then (some (-1)) else (some x12))))))))))
def rZ (p0:List M.aF):Nat→Int→Int→Option Int
 | 0,_,_=>none
 | nL1+1,v1,v5=>if (decide (v5<(List.length p0:Int)))=true then ((idx p0 v5).bind fun x7=>((wZ x7 v1).bind fun x12=>(if (decide (x12<0))=true then (some (-1)) else (rZ p0 nL1 x12 (i64.wrap (v5+1)))))) else (some v1)
def sV (p0:List M.aF) (p1:Int):Option Int:=
 if (decide ((i64.wrap (p1-(List.length p0:Int)))<0))=true then (some (-1)) else (rZ p0 fuel (i64.wrap (p1-(List.length p0:Int))) 0)
def sI (p0:M.aM) (p1:Int):Option Int:=
 (sV p0.Buckets p1).bind fun x1=>(if (decide (x1<0))=true then (some (-1)) else (some x1))
def vN (p0:M.aN) (p1:Int):Option Int:=
 if (decide ((i64.wrap (p1-(p0.Path.size:Int)))<0))=true then (some (-1)) else (some (i64.wrap (p1-(p0.Path.size:Int))))
def rY (p0:List M.aN):Nat→Int→Int→Option Int
 | 0,_,_=>none
 | nL1+1,v1,v5=>if (decide (v5<(List.length p0:Int)))=true then ((idx p0 v5).bind fun x7=>((vN x7 v1).bind fun x12=>(if (decide (x12<0))=true then (some (-1)) else (rY p0 nL1 x12 (i64.wrap (v5+1)))))) else (some v1)
def sW (p0:List M.aN) (p1:Int):Option Int:=
 if (decide ((i64.wrap (p1-(List.length p0:Int)))<0))=true then (some (-1)) else (rY p0 fuel (i64.wrap (p1-(List.length p0:Int))) 0)
def xT (p0:M.Instr) (p1:Int):Option Int:=
 if (decide ((i64.wrap (p1-(p0.Text.size:Int)))<0))=true then (some (-1)) else (some (i64.wrap (p1-(p0.Text.size:Int))))
def vA (p0:List M.Instr):Nat→Int→Int→Option Int
 | 0,_,_=>none
 | nL1+1,v1,v5=>if (decide (v5<(List.length p0:Int)))=true then ((idx p0 v5).bind fun x7=>((xT x7 v1).bind fun x12=>(if (decide (x12<0))=true then (some (-1)) else (vA p0 nL1 x12 (i64.wrap (v5+1)))))) else (some v1)
def wO (p0:List M.Instr) (p1:Int):Option Int:=
 if (decide ((i64.wrap (p1-(List.length p0:Int)))<0))=true then (some (-1)) else (vA p0 fuel (i64.wrap (p1-(List.length p0:Int))) 0)
def aAq (p0:List Int) (p1:Int):Option Int:=
 if (decide ((i64.wrap (p1-(List.length p0:Int)))<0))=true then (some (-1)) else (some (i64.wrap (p1-(List.length p0:Int))))
def uC (p0:M.Machine) (p1:Int):Option Int:=
 (wO p0.Script p1).bind fun x1=>(if (decide (x1<0))=true then (some (-1)) else ((aAq p0.Regs x1).bind fun x4=>(if (decide (x4<0))=true then (some (-1)) else (some x4))))
def aAm (p0:M.bG) (p1:Int):Option Int:=
 if (decide ((i64.wrap (p1-(p0.Site.size:Int)))<0))=true then (some (-1)) else (if (decide ((i64.wrap ((i64.wrap (p1-(p0.Site.size:Int)))-(p0.Top.size:Int)))<0))=true then (some (-1)) else ((sW p0.aN (i64.wrap ((i64.wrap (p1-(p0.Site.size:Int)))-(p0.Top.size:Int)))).bind fun x3=>(if (decide (x3<0))=true then (some (-1)) else ((uC p0.Machine x3).bind fun x6=>(if (decide (x6<0))=true then (some (-1)) else (some x6))))))
def xN (p0:List M.bG):Nat→Int→Int→Option Int
 | 0,_,_=>none
 | nL1+1,v1,v5=>if (decide (v5<(List.length p0:Int)))=true then ((idx p0 v5).bind fun x7=>((aAm x7 v1).bind fun x12=>(if (decide (x12<0))=true then (some (-1)) else (xN p0 nL1 x12 (i64.wrap (v5+1)))))) else (some v1)
def yL (p0:List M.bG) (p1:Int):Option Int:=
 if (decide ((i64.wrap (p1-(List.length p0:Int)))<0))=true then (some (-1)) else (xN p0 fuel (i64.wrap (p1-(List.length p0:Int))) 0)
def aA1 (p0:M.bF) (p1:Int):Option Int:=
 if (decide ((i64.wrap (p1-(p0.Name.size:Int)))<0))=true then (some (-1)) else (some (i64.wrap (p1-(p0.Name.size:Int))))
def xL (p0:List M.bF):Nat→Int→Int→Option Int
 | 0,_,_=>none
 | nL1+1,v1,v5=>if (decide (v5<(List.length p0:Int)))=true then ((idx p0 v5).bind fun x7=>((aA1 x7 v1).bind fun x12=>(if (decide (x12<0))=true then (some (-1)) else (xL p0 nL1 x12 (i64.wrap (v5+1)))))) else (some v1)
def yF (p0:List M.bF) (p1:Int):Option Int:=
 if (decide ((i64.wrap (p1-(List.length p0:Int)))<0))=true then (some (-1)) else (xL p0 fuel (i64.wrap (p1-(List.length p0:Int))) 0)
def oG (p0:M.aE) (p1:Int):Option Int:=
 (yF p0.Locks p1).bind fun x1=>(if (decide (x1<0))=true then (some (-1)) else (some x1))
def yT (p0:List M.bU) (p1:Int):Option Int:=
 if (decide ((i64.wrap (p1-(List.length p0:Int)))<0))=true then (some (-1)) else (some (i64.wrap (p1-(List.length p0:Int))))
def tY (p0:M.Channel) (p1:Int):Option Int:=
 (yT p0.Mails p1).bind fun x1=>(if (decide (x1<0))=true then (some (-1)) else (some x1))
def rX (p0:List ByteArray):Nat→Int→Int→Option Int
 | 0,_,_=>none
 | nL1+1,v1,v5=>if (decide (v5<(List.length p0:Int)))=true then ((idx p0 v5).bind fun x7=>(if (decide ((i64.wrap (v1-(x7.size:Int)))<0))=true then (some (-1)) else (rX p0 nL1 (i64.wrap (v1-(x7.size:Int))) (i64.wrap (v5+1))))) else (some v1)
def sB (p0:List ByteArray) (p1:Int):Option Int:=
 if (decide ((i64.wrap (p1-(List.length p0:Int)))<0))=true then (some (-1)) else (rX p0 fuel (i64.wrap (p1-(List.length p0:Int))) 0)
def aAO (p0:M.Site) (p1:Int):Option Int:=
 if (decide ((i64.wrap (p1-(p0.Name.size:Int)))<0))=true then (some (-1)) else ((sB p0.Files (i64.wrap (p1-(p0.Name.size:Int)))).bind fun x2=>(if (decide (x2<0))=true then (some (-1)) else (some x2)))
def xK (p0:List M.Site):Nat→Int→Int→Option Int
 | 0,_,_=>none
 | nL1+1,v1,v5=>if (decide (v5<(List.length p0:Int)))=true then ((idx p0 v5).bind fun x7=>((aAO x7 v1).bind fun x12=>(if (decide (x12<0))=true then (some (-1)) else (xK p0 nL1 x12 (i64.wrap (v5+1)))))) else (some v1)
def zP (p0:List M.Site) (p1:Int):Option Int:=
 if (decide ((i64.wrap (p1-(List.length p0:Int)))<0))=true then (some (-1)) else (xK p0 fuel (i64.wrap (p1-(List.length p0:Int))) 0)
def qJ (p0:List M.aJ) (p1:Int):Option Int:=
 if (decide ((i64.wrap (p1-(List.length p0:Int)))<0))=true then (some (-1)) else (some (i64.wrap (p1-(List.length p0:Int))))
def vF (p0:M.Server) (p1:Int):Option Int:=
 (pC p0.aH p1).bind fun x1=>(if (decide (x1<0))=true then (some (-1)) else ((qJ p0.aJ x1).bind fun x4=>(if (decide (x4<0))=true then (some (-1)) else ((qL p0.Changes x4).bind fun x7=>(if (decide (x7<0))=true then (some (-1)) else (some x7))))))
def rO (p0:List M.Server):Nat→Int→Int→Option Int
 | 0,_,_=>none
 | nL1+1,v1,v5=>if (decide (v5<(List.length p0:Int)))=true then ((idx p0 v5).bind fun x7=>((vF x7 v1).bind fun x12=>(if (decide (x12<0))=true then (some (-1)) else (rO p0 nL1 x12 (i64.wrap (v5+1)))))) else (some v1)
def uH (p0:List M.Server) (p1:Int):Option Int:=
 if (decide ((i64.wrap (p1-(List.length p0:Int)))<0))=true then (some (-1)) else (rO p0 fuel (i64.wrap (p1-(List.length p0:Int))) 0)
def yN (p0:M.World) (p1:Int):Option Int:=
 (sI p0.aM p1).bind fun x1=>(if (decide (x1<0))=true then (some (-1)) else ((yL p0.Pages x1).bind fun x4=>(if (decide (x4<0))=true then (some (-1)) else ((oG p0.Locks x4).bind fun x7=>(if (decide (x7<0))=true then (some (-1)) else ((tY p0.Channel x7).bind fun x10=>(if (decide (x10<0))=true then (some (-1)) else ((zP p0.Sites x10).bind fun x13=>(if (decide (x13<0))=true then (some (-1)) else ((uH p0.Servers x13).bind fun x16=>(if (decide (x16<0))=true then (some (-1)) else (some x16))))))))))))
def kC (p0:M.Registration):Option M.Registration:=
 some p0
def mD (p0:List Int):Nat→Int→List Int→Option (List Int)
 | 0,_,_=>none
 | nL1+1,v4,r7=>if (decide (v4<(List.length p0:Int)))=true then ((idx p0 v4).bind fun x13=>((idx r7 v4).bind fun x18=>(mD p0 nL1 (i64.wrap (v4+1)) (List.set r7 v4.toNat x13)))) else (some r7)
def uM (p0:List Int):Option (List Int):=
 (mkL 1 (List.length p0:Int) 0).bind fun x1=>(mD p0 fuel 0 (List.replicate (List.length p0:Int).toNat 0))
def qB (p0:M.Response):Option M.Response:=
 (uM p0.Body).bind fun x1=>(some (⟨p0.Type_,p0.Status,p0.Version,x1,p0.Shares⟩:M.Response))
def wC (p0:M.Cached):Option M.Cached:=
 (qB p0.Response).bind fun x1=>(some (⟨p0.Site,p0.Path,x1⟩:M.Cached))
def jI (p0:List M.Cached):Nat→Int→List M.Cached→Option (List M.Cached)
 | 0,_,_=>none
 | nL1+1,v4,r7=>if (decide (v4<(List.length p0:Int)))=true then ((idx p0 v4).bind fun x13=>((wC x13).bind fun x18=>((idx r7 v4).bind fun x20=>(jI p0 nL1 (i64.wrap (v4+1)) (List.set r7 v4.toNat x18))))) else (some r7)
def tL (p0:List M.Cached):Option (List M.Cached):=
 (mkL 88 (List.length p0:Int) (⟨(⟨#[]⟩:ByteArray),(⟨#[]⟩:ByteArray),(⟨0,0,0,([]:List Int),false⟩:M.Response)⟩:M.Cached)).bind fun x1=>(jI p0 fuel 0 (List.replicate (List.length p0:Int).toNat (⟨(⟨#[]⟩:ByteArray),(⟨#[]⟩:ByteArray),(⟨0,0,0,([]:List Int),false⟩:M.Response)⟩:M.Cached)))
def yD (p0:M.Cache):Option M.Cache:=
 (tL p0.Entries).bind fun x1=>(some (⟨p0.Version,x1⟩:M.Cache))
def kS (p0:List M.Cache):Nat→Int→List M.Cache→Option (List M.Cache)
 | 0,_,_=>none
 | nL1+1,v4,r7=>if (decide (v4<(List.length p0:Int)))=true then ((idx p0 v4).bind fun x13=>((yD x13).bind fun x18=>((idx r7 v4).bind fun x20=>(kS p0 nL1 (i64.wrap (v4+1)) (List.set r7 v4.toNat x18))))) else (some r7)
def wN (p0:List M.Cache):Option (List M.Cache):=
 (mkL 32 (List.length p0:Int) (⟨0,([]:List M.Cached)⟩:M.Cache)).bind fun x1=>(kS p0 fuel 0 (List.replicate (List.length p0:Int).toNat (⟨0,([]:List M.Cached)⟩:M.Cache)))
def qH (p0:M.aT):Option M.aT:=
 (wN p0.Caches).bind fun x1=>(some (⟨x1⟩:M.aT))
def zZ (p0:M.Key):Option M.Key:=
 some p0
def zD (p0:M.Field):Option M.Field:=
 some p0
def kG (p0:List M.Field):Nat→Int→List M.Field→Option (List M.Field)
 | 0,_,_=>none
 | nL1+1,v4,r7=>if (decide (v4<(List.length p0:Int)))=true then ((idx p0 v4).bind fun x13=>((zD x13).bind fun x18=>((idx r7 v4).bind fun x20=>(kG p0 nL1 (i64.wrap (v4+1)) (List.set r7 v4.toNat x18))))) else (some r7)
def xA (p0:List M.Field):Option (List M.Field):=
 (mkL 24 (List.length p0:Int) (⟨(⟨#[]⟩:ByteArray),0⟩:M.Field)).bind fun x1=>(kG p0 fuel 0 (List.replicate (List.length p0:Int).toNat (⟨(⟨#[]⟩:ByteArray),0⟩:M.Field)))
def wA (p0:M.aU):Option M.aU:=
 (xA p0.Fields).bind fun x1=>(some (⟨x1⟩:M.aU))
def aAG (p0:M.Item):Option M.Item:=
 (zZ p0.Key).bind fun x1=>((wA p0.aU).bind fun x3=>(some (⟨x1,x3⟩:M.Item)))
def mI (p0:List M.Item):Nat→Int→List M.Item→Option (List M.Item)
 | 0,_,_=>none
 | nL1+1,v4,r7=>if (decide (v4<(List.length p0:Int)))=true then ((idx p0 v4).bind fun x13=>((aAG x13).bind fun x18=>((idx r7 v4).bind fun x20=>(mI p0 nL1 (i64.wrap (v4+1)) (List.set r7 v4.toNat x18))))) else (some r7)
def yC (p0:List M.Item):Option (List M.Item):=
 (mkL 56 (List.length p0:Int) (⟨(⟨0,0,(⟨#[]⟩:ByteArray)⟩:M.Key),(⟨([]:List M.Field)⟩:M.aU)⟩:M.Item)).bind fun x1=>(mI p0 fuel 0 (List.replicate (List.length p0:Int).toNat (⟨(⟨0,0,(⟨#[]⟩:ByteArray)⟩:M.Key),(⟨([]:List M.Field)⟩:M.aU)⟩:M.Item)))
def pI (p0:M.aH):Option M.aH:=
 (yC p0.Items).bind fun x1=>(some (⟨p0.Name,x1,p0.Auto⟩:M.aH))
def kO (p0:List M.aH):Nat→Int→List M.aH→Option (List M.aH)
 | 0,_,_=>none
 | nL1+1,v4,r7=>if (decide (v4<(List.length p0:Int)))=true then ((idx p0 v4).bind fun x13=>((pI x13).bind fun x18=>((idx r7 v4).bind fun x20=>(kO p0 nL1 (i64.wrap (v4+1)) (List.set r7 v4.toNat x18))))) else (some r7)
def vT (p0:List M.aH):Option (List M.aH):=
 (mkL 48 (List.length p0:Int) (⟨(⟨#[]⟩:ByteArray),([]:List M.Item),0⟩:M.aH)).bind fun x1=>(kO p0 fuel 0 (List.replicate (List.length p0:Int).toNat (⟨(⟨#[]⟩:ByteArray),([]:List M.Item),0⟩:M.aH)))
def rA (p0:M.aA):Option M.aA:=
 some p0
def iC (p0:List M.aA):Nat→Int→List M.aA→Option (List M.aA)
 | 0,_,_=>none
 | nL1+1,v4,r7=>if (decide (v4<(List.length p0:Int)))=true then ((idx p0 v4).bind fun x13=>((rA x13).bind fun x18=>((idx r7 v4).bind fun x20=>(iC p0 nL1 (i64.wrap (v4+1)) (List.set r7 v4.toNat x18))))) else (some r7)
def oM (p0:List M.aA):Option (List M.aA):=
 (mkL 32 (List.length p0:Int) (⟨(⟨#[]⟩:ByteArray),(⟨#[]⟩:ByteArray)⟩:M.aA)).bind fun x1=>(iC p0 fuel 0 (List.replicate (List.length p0:Int).toNat (⟨(⟨#[]⟩:ByteArray),(⟨#[]⟩:ByteArray)⟩:M.aA)))
def pO (p0:M.Database):Option M.Database:=
 (vT p0.Stores).bind fun x1=>((oM p0.Unique).bind fun x3=>(some (⟨p0.Name,p0.Version,x1,x3⟩:M.Database)))
def aAw (p0:M.bE):Option M.bE:=
 (pO p0.Base).bind fun x1=>((uM p0.Log).bind fun x3=>(some (⟨x1,x3,p0.Count⟩:M.bE)))
def yP (p0:M.aY):Option M.aY:=
 (zZ p0.Key).bind fun x1=>(some (⟨p0.Device,p0.Seq,x1,p0.Field,p0.N⟩:M.aY))
def kU (p0:List M.aY):Nat→Int→List M.aY→Option (List M.aY)
 | 0,_,_=>none
 | nL1+1,v4,r7=>if (decide (v4<(List.length p0:Int)))=true then ((idx p0 v4).bind fun x13=>((yP x13).bind fun x18=>((idx r7 v4).bind fun x20=>(kU p0 nL1 (i64.wrap (v4+1)) (List.set r7 v4.toNat x18))))) else (some r7)
def qP (p0:List M.aY):Option (List M.aY):=
 (mkL 72 (List.length p0:Int) (⟨0,0,(⟨0,0,(⟨#[]⟩:ByteArray)⟩:M.Key),(⟨#[]⟩:ByteArray),0⟩:M.aY)).bind fun x1=>(kU p0 fuel 0 (List.replicate (List.length p0:Int).toNat (⟨0,0,(⟨0,0,(⟨#[]⟩:ByteArray)⟩:M.Key),(⟨#[]⟩:ByteArray),0⟩:M.aY)))
def vJ (p0:M.aV):Option M.aV:=
 (qP p0.Writes).bind fun x1=>(some (⟨p0.Device,p0.Next,x1⟩:M.aV))
def aAo (p0:M.Sync):Option M.Sync:=
 (vJ p0.aV).bind fun x1=>(some (⟨x1,p0.Tries,p0.WaitUntil⟩:M.Sync))
def tM (p0:M.aD):Option M.aD:=
 (pI p0.Base).bind fun x1=>((aAo p0.Sync).bind fun x3=>(some (⟨x1,p0.Seen,x3⟩:M.aD)))
def wP (p0:M.aF):Option M.aF:=
 (kC p0.Registration).bind fun x1=>((qH p0.Caches).bind fun x3=>((aAw p0.bE).bind fun x5=>((tM p0.aD).bind fun x7=>(some (⟨p0.Site,p0.Top,x1,x3,x5,x7,p0.LastUsed,p0.Persistent⟩:M.aF)))))
def jT (p0:List M.aF):Nat→Int→List M.aF→Option (List M.aF)
 | 0,_,_=>none
 | nL1+1,v4,r7=>if (decide (v4<(List.length p0:Int)))=true then ((idx p0 v4).bind fun x13=>((wP x13).bind fun x18=>((idx r7 v4).bind fun x20=>(jT p0 nL1 (i64.wrap (v4+1)) (List.set r7 v4.toNat x18))))) else (some r7)
def uF (p0:List M.aF):Option (List M.aF):=
 (mkL 328 (List.length p0:Int) (⟨(⟨#[]⟩:ByteArray),(⟨#[]⟩:ByteArray),(⟨(⟨#[]⟩:ByteArray),0,0,0⟩:M.Registration),(⟨([]:List M.Cache)⟩:M.aT),(⟨(⟨(⟨#[]⟩:ByteArray),0,([]:List M.aH),([]:List M.aA)⟩:M.Database),([]:List Int),0⟩:M.bE),(⟨(⟨(⟨#[]⟩:ByteArray),([]:List M.Item),0⟩:M.aH),0,(⟨(⟨0,0,([]:List M.aY)⟩:M.aV),0,0⟩:M.Sync)⟩:M.aD),0,false⟩:M.aF)).bind fun x1=>(jT p0 fuel 0 (List.replicate (List.length p0:Int).toNat (⟨(⟨#[]⟩:ByteArray),(⟨#[]⟩:ByteArray),(⟨(⟨#[]⟩:ByteArray),0,0,0⟩:M.Registration),(⟨([]:List M.Cache)⟩:M.aT),(⟨(⟨(⟨#[]⟩:ByteArray),0,([]:List M.aH),([]:List M.aA)⟩:M.Database),([]:List Int),0⟩:M.bE),(⟨(⟨(⟨#[]⟩:ByteArray),([]:List M.Item),0⟩:M.aH),0,(⟨(⟨0,0,([]:List M.aY)⟩:M.aV),0,0⟩:M.Sync)⟩:M.aD),0,false⟩:M.aF)))
def tB (p0:M.aM):Option M.aM:=
 (uF p0.Buckets).bind fun x1=>(some (⟨x1⟩:M.aM))
def vD (p0:M.aN):Option M.aN:=
 some p0
def jS (p0:List M.aN):Nat→Int→List M.aN→Option (List M.aN)
 | 0,_,_=>none
 | nL1+1,v4,r7=>if (decide (v4<(List.length p0:Int)))=true then ((idx p0 v4).bind fun x13=>((vD x13).bind fun x18=>((idx r7 v4).bind fun x20=>(jS p0 nL1 (i64.wrap (v4+1)) (List.set r7 v4.toNat x18))))) else (some r7)
def sX (p0:List M.aN):Option (List M.aN):=
 (mkL 24 (List.length p0:Int) (⟨(⟨#[]⟩:ByteArray),0⟩:M.aN)).bind fun x1=>(jS p0 fuel 0 (List.replicate (List.length p0:Int).toNat (⟨(⟨#[]⟩:ByteArray),0⟩:M.aN)))
def zE (p0:M.Instr):Option M.Instr:=
 some p0
def kF (p0:List M.Instr):Nat→Int→List M.Instr→Option (List M.Instr)
 | 0,_,_=>none
 | nL1+1,v4,r7=>if (decide (v4<(List.length p0:Int)))=true then ((idx p0 v4).bind fun x13=>((zE x13).bind fun x18=>((idx r7 v4).bind fun x20=>(kF p0 nL1 (i64.wrap (v4+1)) (List.set r7 v4.toNat x18))))) else (some r7)
def xB (p0:List M.Instr):Option (List M.Instr):=
 (mkL 40 (List.length p0:Int) (⟨0,0,0,(⟨#[]⟩:ByteArray)⟩:M.Instr)).bind fun x1=>(kF p0 fuel 0 (List.replicate (List.length p0:Int).toNat (⟨0,0,0,(⟨#[]⟩:ByteArray)⟩:M.Instr)))
def nM (p0:List Int):Nat→Int→List Int→Option (List Int)
 | 0,_,_=>none
 | nL1+1,v4,r7=>if (decide (v4<(List.length p0:Int)))=true then ((idx p0 v4).bind fun x13=>((idx r7 v4).bind fun x18=>(nM p0 nL1 (i64.wrap (v4+1)) (List.set r7 v4.toNat x13)))) else (some r7)
def aAT (p0:List Int):Option (List Int):=
 (mkL 8 (List.length p0:Int) 0).bind fun x1=>(nM p0 fuel 0 (List.replicate (List.length p0:Int).toNat 0))
def sR (p0:M.Machine):Option M.Machine:=
 (xB p0.Script).bind fun x1=>((aAT p0.Regs).bind fun x3=>(some (⟨x1,p0.Pc,x3,p0.Steps,p0.Done,p0.Wait⟩:M.Machine)))
def aAJ (p0:M.bG):Option M.bG:=
 (sX p0.aN).bind fun x1=>((sR p0.Machine).bind fun x3=>(some (⟨p0.Id,p0.Site,p0.Top,p0.Version,x1,x3⟩:M.bG)))
def mA (p0:List M.bG):Nat→Int→List M.bG→Option (List M.bG)
 | 0,_,_=>none
 | nL1+1,v4,r7=>if (decide (v4<(List.length p0:Int)))=true then ((idx p0 v4).bind fun x13=>((aAJ x13).bind fun x18=>((idx r7 v4).bind fun x20=>(mA p0 nL1 (i64.wrap (v4+1)) (List.set r7 v4.toNat x18))))) else (some r7)
def yM (p0:List M.bG):Option (List M.bG):=
 (mkL 144 (List.length p0:Int) (⟨0,(⟨#[]⟩:ByteArray),(⟨#[]⟩:ByteArray),0,([]:List M.aN),(⟨([]:List M.Instr),0,([]:List Int),0,false,false⟩:M.Machine)⟩:M.bG)).bind fun x1=>(mA p0 fuel 0 (List.replicate (List.length p0:Int).toNat (⟨0,(⟨#[]⟩:ByteArray),(⟨#[]⟩:ByteArray),0,([]:List M.aN),(⟨([]:List M.Instr),0,([]:List Int),0,false,false⟩:M.Machine)⟩:M.bG)))
def aAW (p0:M.bF):Option M.bF:=
 some p0
def lQ (p0:List M.bF):Nat→Int→List M.bF→Option (List M.bF)
 | 0,_,_=>none
 | nL1+1,v4,r7=>if (decide (v4<(List.length p0:Int)))=true then ((idx p0 v4).bind fun x13=>((aAW x13).bind fun x18=>((idx r7 v4).bind fun x20=>(lQ p0 nL1 (i64.wrap (v4+1)) (List.set r7 v4.toNat x18))))) else (some r7)
def yE (p0:List M.bF):Option (List M.bF):=
 (mkL 32 (List.length p0:Int) (⟨(⟨#[]⟩:ByteArray),0,false,false⟩:M.bF)).bind fun x1=>(lQ p0 fuel 0 (List.replicate (List.length p0:Int).toNat (⟨(⟨#[]⟩:ByteArray),0,false,false⟩:M.bF)))
def oH (p0:M.aE):Option M.aE:=
 (yE p0.Locks).bind fun x1=>(some (⟨x1⟩:M.aE))
def aAh (p0:M.bU):Option M.bU:=
 some p0
def lT (p0:List M.bU):Nat→Int→List M.bU→Option (List M.bU)
 | 0,_,_=>none
 | nL1+1,v4,r7=>if (decide (v4<(List.length p0:Int)))=true then ((idx p0 v4).bind fun x13=>((aAh x13).bind fun x18=>((idx r7 v4).bind fun x20=>(lT p0 nL1 (i64.wrap (v4+1)) (List.set r7 v4.toNat x18))))) else (some r7)
def xV (p0:List M.bU):Option (List M.bU):=
 (mkL 24 (List.length p0:Int) (⟨0,0,0⟩:M.bU)).bind fun x1=>(lT p0 fuel 0 (List.replicate (List.length p0:Int).toNat (⟨0,0,0⟩:M.bU)))
def sL (p0:M.Channel):Option M.Channel:=
 (xV p0.Mails).bind fun x1=>(some (⟨x1⟩:M.Channel))
def jK (p0:List ByteArray):Nat→Int→List ByteArray→Option (List ByteArray)
 | 0,_,_=>none
 | nL1+1,v4,r7=>if (decide (v4<(List.length p0:Int)))=true then ((idx p0 v4).bind fun x13=>((idx r7 v4).bind fun x18=>(jK p0 nL1 (i64.wrap (v4+1)) (List.set r7 v4.toNat x13)))) else (some r7)
def uB (p0:List ByteArray):Option (List ByteArray):=
 (mkL 16 (List.length p0:Int) (⟨#[]⟩:ByteArray)).bind fun x1=>(jK p0 fuel 0 (List.replicate (List.length p0:Int).toNat (⟨#[]⟩:ByteArray)))
def aAd (p0:M.Site):Option M.Site:=
 (uB p0.Files).bind fun x1=>(some (⟨p0.Name,p0.Version,x1,p0.Shared⟩:M.Site))
def mB (p0:List M.Site):Nat→Int→List M.Site→Option (List M.Site)
 | 0,_,_=>none
 | nL1+1,v4,r7=>if (decide (v4<(List.length p0:Int)))=true then ((idx p0 v4).bind fun x13=>((aAd x13).bind fun x18=>((idx r7 v4).bind fun x20=>(mB p0 nL1 (i64.wrap (v4+1)) (List.set r7 v4.toNat x18))))) else (some r7)
def yU (p0:List M.Site):Option (List M.Site):=
 (mkL 56 (List.length p0:Int) (⟨(⟨#[]⟩:ByteArray),0,([]:List ByteArray),false⟩:M.Site)).bind fun x1=>(mB p0 fuel 0 (List.replicate (List.length p0:Int).toNat (⟨(⟨#[]⟩:ByteArray),0,([]:List ByteArray),false⟩:M.Site)))
def tV (p0:M.aJ):Option M.aJ:=
 some p0
def iX (p0:List M.aJ):Nat→Int→List M.aJ→Option (List M.aJ)
 | 0,_,_=>none
 | nL1+1,v4,r7=>if (decide (v4<(List.length p0:Int)))=true then ((idx p0 v4).bind fun x13=>((tV x13).bind fun x18=>((idx r7 v4).bind fun x20=>(iX p0 nL1 (i64.wrap (v4+1)) (List.set r7 v4.toNat x18))))) else (some r7)
def qS (p0:List M.aJ):Option (List M.aJ):=
 (mkL 16 (List.length p0:Int) (⟨0,0⟩:M.aJ)).bind fun x1=>(iX p0 fuel 0 (List.replicate (List.length p0:Int).toNat (⟨0,0⟩:M.aJ)))
def wY (p0:M.Server):Option M.Server:=
 (pI p0.aH).bind fun x1=>((qS p0.aJ).bind fun x3=>((qP p0.Changes).bind fun x5=>(some (⟨x1,x3,x5⟩:M.Server))))
def jP (p0:List M.Server):Nat→Int→List M.Server→Option (List M.Server)
 | 0,_,_=>none
 | nL1+1,v4,r7=>if (decide (v4<(List.length p0:Int)))=true then ((idx p0 v4).bind fun x13=>((wY x13).bind fun x18=>((idx r7 v4).bind fun x20=>(jP p0 nL1 (i64.wrap (v4+1)) (List.set r7 v4.toNat x18))))) else (some r7)
def sY (p0:List M.Server):Option (List M.Server):=
 (mkL 96 (List.length p0:Int) (⟨(⟨(⟨#[]⟩:ByteArray),([]:List M.Item),0⟩:M.aH),([]:List M.aJ),([]:List M.aY)⟩:M.Server)).bind fun x1=>(jP p0 fuel 0 (List.replicate (List.length p0:Int).toNat (⟨(⟨(⟨#[]⟩:ByteArray),([]:List M.Item),0⟩:M.aH),([]:List M.aJ),([]:List M.aY)⟩:M.Server)))
def lP (p0:M.World):Option M.World:=
 (tB p0.aM).bind fun x1=>((yM p0.Pages).bind fun x3=>((oH p0.Locks).bind fun x5=>((sL p0.Channel).bind fun x7=>((yU p0.Sites).bind fun x9=>((sY p0.Servers).bind fun x11=>(some (⟨p0.Now,p0.Online,p0.Device,x1,x3,p0.NextPage,x5,x7,x9,x11⟩:M.World)))))))
def yX (p0:M.Response):Option M.Response:=
 (app 1 ([]:List Int) p0.Body).bind fun x1=>(some p0)
def iM (p0:M.Cache):Nat→Int→List M.Cached→Option M.Cache
 | 0,_,_=>none
 | nL1+1,v4,r50000=>if (decide (v4<(List.length p0.Entries:Int)))=true then ((idx p0.Entries v4).bind fun x11=>((yX x11.Response).bind fun x16=>((app 88 r50000 ([(⟨x11.Site,x11.Path,x16⟩:M.Cached)])).bind fun x18=>(iM p0 nL1 (i64.wrap (v4+1)) (r50000++[(⟨x11.Site,x11.Path,x16⟩:M.Cached)]))))) else (some (⟨p0.Version,r50000⟩:M.Cache))
def wE (p0:M.Cache):Option M.Cache:=
 iM p0 fuel 0 ([]:List M.Cached)
def jU (p0:M.aT):Nat→Int→List M.Cache→Option M.aT
 | 0,_,_=>none
 | nL1+1,v4,r50000=>if (decide (v4<(List.length p0.Caches:Int)))=true then ((idx p0.Caches v4).bind fun x11=>((wE x11).bind fun x16=>((app 32 r50000 ([x16])).bind fun x18=>(jU p0 nL1 (i64.wrap (v4+1)) (r50000++[x16]))))) else (some (⟨r50000⟩:M.aT))
def zQ (p0:M.aT):Option M.aT:=
 jU p0 fuel 0 ([]:List M.Cache)
def aAb (p0:M.aU):Option M.aU:=
 (app 24 ([]:List M.Field) p0.Fields).bind fun x1=>(some p0)
def xI (p0:M.Item):Option M.Item:=
 (aAb p0.aU).bind fun x1=>(some (⟨p0.Key,x1⟩:M.Item))
def lA (p0:M.aH):Nat→Int→List M.Item→Option M.aH
 | 0,_,_=>none
 | nL1+1,v4,r50000=>if (decide (v4<(List.length p0.Items:Int)))=true then ((idx p0.Items v4).bind fun x11=>((xI x11).bind fun x16=>((app 56 r50000 ([x16])).bind fun x18=>(lA p0 nL1 (i64.wrap (v4+1)) (r50000++[x16]))))) else (some (⟨p0.Name,r50000,p0.Auto⟩:M.aH))
def rP (p0:M.aH):Option M.aH:=
 lA p0 fuel 0 ([]:List M.Item)
def lC (p0:M.Database):Nat→Int→List M.aH→Option M.Database
 | 0,_,_=>none
 | nL1+1,v4,r50000=>if (decide (v4<(List.length p0.Stores:Int)))=true then ((idx p0.Stores v4).bind fun x22=>((rP x22).bind fun x27=>((app 48 r50000 ([x27])).bind fun x29=>(lC p0 nL1 (i64.wrap (v4+1)) (r50000++[x27]))))) else (some (⟨p0.Name,p0.Version,r50000,p0.Unique⟩:M.Database))
def aAS (p0:M.Database):Option M.Database:=
 (app 32 ([]:List M.aA) p0.Unique).bind fun x1=>(lC p0 fuel 0 ([]:List M.aH))
def yA (p0:M.bE):Option M.bE:=
 (aAS p0.Base).bind fun x1=>((app 1 ([]:List Int) p0.Log).bind fun x3=>(some (⟨x1,p0.Log,p0.Count⟩:M.bE)))
def zG (p0:M.aV):Option M.aV:=
 (app 72 ([]:List M.aY) p0.Writes).bind fun x1=>(some p0)
def yJ (p0:M.Sync):Option M.Sync:=
 (zG p0.aV).bind fun x1=>(some (⟨x1,p0.Tries,p0.WaitUntil⟩:M.Sync))
def zO (p0:M.aD):Option M.aD:=
 (rP p0.Base).bind fun x1=>((yJ p0.Sync).bind fun x3=>(some (⟨x1,p0.Seen,x3⟩:M.aD)))
def xW (p0:M.aF):Option M.aF:=
 (zQ p0.Caches).bind fun x1=>((yA p0.bE).bind fun x3=>((zO p0.aD).bind fun x5=>(some (⟨p0.Site,p0.Top,p0.Registration,x1,x3,x5,p0.LastUsed,p0.Persistent⟩:M.aF))))
def jJ (p0:M.aM):Nat→Int→List M.aF→Option M.aM
 | 0,_,_=>none
 | nL1+1,v4,r50000=>if (decide (v4<(List.length p0.Buckets:Int)))=true then ((idx p0.Buckets v4).bind fun x11=>((xW x11).bind fun x16=>((app 328 r50000 ([x16])).bind fun x18=>(jJ p0 nL1 (i64.wrap (v4+1)) (r50000++[x16]))))) else (some (⟨r50000⟩:M.aM))
def yI (p0:M.aM):Option M.aM:=
 jJ p0 fuel 0 ([]:List M.aF)
def tC (p0:List M.Instr):Option (List M.Instr):=
 (app 40 ([]:List M.Instr) p0).bind fun x1=>(some p0)
def yV (p0:M.Machine):Option M.Machine:=
 (tC p0.Script).bind fun x1=>((app 8 ([]:List Int) p0.Regs).bind fun x3=>(some (⟨x1,p0.Pc,p0.Regs,p0.Steps,p0.Done,p0.Wait⟩:M.Machine)))
def yK (p0:M.bG):Option M.bG:=
 (app 24 ([]:List M.aN) p0.aN).bind fun x1=>((yV p0.Machine).bind fun x11=>(some (⟨p0.Id,p0.Site,p0.Top,p0.Version,p0.aN,x11⟩:M.bG)))
def pG (p0:M.aE):Option M.aE:=
 (app 32 ([]:List M.bF) p0.Locks).bind fun x1=>(some p0)
def uP (p0:M.Channel):Option M.Channel:=
 (app 24 ([]:List M.bU) p0.Mails).bind fun x1=>(some p0)
def yY (p0:M.Site):Option M.Site:=
 (app 16 ([]:List ByteArray) p0.Files).bind fun x1=>(some p0)
def yO (p0:M.Server):Option M.Server:=
 (rP p0.aH).bind fun x1=>((app 16 ([]:List M.aJ) p0.aJ).bind fun x3=>((app 72 ([]:List M.aY) p0.Changes).bind fun x5=>(some (⟨x1,p0.aJ,p0.Changes⟩:M.Server))))
def gM (p0:M.World) (x1:M.aM) (r12:List M.bG) (x42:M.aE) (x44:M.Channel) (r40:List M.Site):Nat→Int→List M.Server→Option M.World
 | 0,_,_=>none
 | nL3+1,v6,r60=>if (decide (v6<(List.length p0.Servers:Int)))=true then ((idx p0.Servers v6).bind fun x122=>((yO x122).bind fun x127=>((app 96 r60 ([x127])).bind fun x129=>(gM p0 x1 r12 x42 x44 r40 nL3 (i64.wrap (v6+1)) (r60++[x127]))))) else (some (⟨p0.Now,p0.Online,p0.Device,x1,r12,p0.NextPage,x42,x44,r40,r60⟩:M.World))
def gP (p0:M.World) (x1:M.aM) (r12:List M.bG) (x42:M.aE) (x44:M.Channel):Nat→Int→List M.Site→Option M.World
 | 0,_,_=>none
 | nL2+1,v5,r40=>if (decide (v5<(List.length p0.Sites:Int)))=true then ((idx p0.Sites v5).bind fun x72=>((yY x72).bind fun x77=>((app 56 r40 ([x77])).bind fun x79=>(gP p0 x1 r12 x42 x44 nL2 (i64.wrap (v5+1)) (r40++[x77]))))) else (gM p0 x1 r12 x42 x44 r40 fuel 0 ([]:List M.Server))
def iG (p0:M.World) (x1:M.aM):Nat→Int→List M.bG→Option M.World
 | 0,_,_=>none
 | nL1+1,v4,r12=>if (decide (v4<(List.length p0.Pages:Int)))=true then ((idx p0.Pages v4).bind fun x23=>((yK x23).bind fun x28=>((app 144 r12 ([x28])).bind fun x30=>(iG p0 x1 nL1 (i64.wrap (v4+1)) (r12++[x28]))))) else ((pG p0.Locks).bind fun x42=>((uP p0.Channel).bind fun x44=>(gP p0 x1 r12 x42 x44 fuel 0 ([]:List M.Site))))
def zR (p0:M.World):Option M.World:=
 (yI p0.aM).bind fun x1=>(iG p0 x1 fuel 0 ([]:List M.bG))
def jM (p0:List M.bG) (p1:Int):Nat→Int→Option Int
 | 0,_=>none
 | nL1+1,v5=>if (decide (v5<(List.length p0:Int)))=true then ((idx p0 v5).bind fun x6=>(if (x6.Id==p1)=true then (some v5) else (jM p0 p1 nL1 (i64.wrap (v5+1))))) else (some (-1))
def zI (p0:List M.bG) (p1:Int):Option Int:=
 jM p0 p1 fuel 0
def tO (p0:M.World) (p1:Int):Option Int:=
 (zI p0.Pages p1).bind fun x1=>(some x1)
def bK (p0:Int) (p1:Int) (p2:Int):Option Bool:=
 if (decide (p0≥p1))=true then (some (decide (p0≤p2))) else (some false)
def jC (p0:ByteArray):Nat→Int→Option Bool
 | 0,_=>none
 | nL1+1,v3=>if (decide (v3<(p0.size:Int)))=true then ((aNR p0 v3).bind fun x5=>(if (decide ((x5.toNat:Int)<97))=true then (some false) else (if (decide ((x5.toNat:Int)>122))=true then (some false) else (jC p0 nL1 (i64.wrap (v3+1)))))) else ((bK (p0.size:Int) 1 8).bind fun x11=>(some x11))
def cJ (p0:ByteArray):Option Bool:=
 jC p0 fuel 0
def hT (p0:M.Site):Nat→Int→Option Bool
 | 0,_=>none
 | nL1+1,v3=>if (decide (v3<(List.length p0.Files:Int)))=true then ((idx p0.Files v3).bind fun x6=>((cJ x6).bind fun x11=>(if (!x11)=true then (some false) else (if (decide (v3>0))=true then ((idx p0.Files (i64.wrap (v3-1))).bind fun x15=>(if (!(Op.bytesLess x15.toList x6.toList))=true then (some false) else (hT p0 nL1 (i64.wrap (v3+1))))) else (hT p0 nL1 (i64.wrap (v3+1))))))) else ((cJ p0.Name).bind fun x21=>(if x21=true then ((bK p0.Version 1 1000000000000).bind fun x24=>(if x24=true then ((bK (List.length p0.Files:Int) 1 6).bind fun x27=>(some x27)) else (some false))) else (some false)))
def aAp (p0:M.Site):Option Bool:=
 hT p0 fuel 0
def aAV  : Option (List ByteArray):=
 some ([(⟨#[98,97,110,107]⟩:ByteArray),(⟨#[110,101,119,115]⟩:ByteArray),(⟨#[115,104,111,112]⟩:ByteArray)])
def gF (p0:ByteArray):Nat→Int→Option Bool
 | 0,_=>none
 | nL1+1,v3=>if (decide (v3<(p0.size:Int)))=true then ((aNR p0 v3).bind fun x5=>(if (decide ((x5.toNat:Int)<97))=true then (if (decide ((x5.toNat:Int)<48))=true then (some false) else (if (decide ((x5.toNat:Int)>57))=true then (some false) else (gF p0 nL1 (i64.wrap (v3+1))))) else (if (decide ((x5.toNat:Int)>122))=true then (if (decide ((x5.toNat:Int)<48))=true then (some false) else (if (decide ((x5.toNat:Int)>57))=true then (some false) else (gF p0 nL1 (i64.wrap (v3+1))))) else (gF p0 nL1 (i64.wrap (v3+1)))))) else (some (decide ((p0.size:Int)≤12)))
def xD (p0:ByteArray):Option Bool:=
 gF p0 fuel 0
def nP (p0:M.Key):Option Bool:=
 (bK p0.Kind 1 3).bind fun x1=>(if x1=true then ((bK p0.N (-1000000000000) 1000000000000).bind fun x4=>(if x4=true then (if (p0.Kind != 2)=true then ((xD p0.Text).bind fun x8=>(if x8=true then (if (p0.Kind != 1)=true then (some true) else (some (p0.Text.toList==(⟨#[]⟩:ByteArray).toList))) else (some false))) else (if (p0.N==0)=true then ((xD p0.Text).bind fun x13=>(if x13=true then (if (p0.Kind != 1)=true then (some true) else (some (p0.Text.toList==(⟨#[]⟩:ByteArray).toList))) else (some false))) else (some false))) else (some false))) else (some false))
def iY (p0:M.aY):Option Bool:=
 (bK p0.Device 1 1000000).bind fun x1=>(if x1=true then ((bK p0.Seq 1 1000000).bind fun x4=>(if x4=true then ((nP p0.Key).bind fun x7=>(if x7=true then ((cJ p0.Field).bind fun x10=>(if x10=true then ((bK p0.N 0 1000000000).bind fun x13=>(some x13)) else (some false))) else (some false))) else (some false))) else (some false))
def fU (p0:M.aU):Nat→Int→Option Bool
 | 0,_=>none
 | nL1+1,v3=>if (decide (v3<(List.length p0.Fields:Int)))=true then ((idx p0.Fields v3).bind fun x6=>((cJ x6.Name).bind fun x11=>(if (!x11)=true then (some false) else ((bK x6.N 0 1000000000).bind fun x14=>(if (!x14)=true then (some false) else (if (decide (v3>0))=true then ((idx p0.Fields (i64.wrap (v3-1))).bind fun x18=>(if (!(Op.bytesLess x18.Name.toList x6.Name.toList))=true then (some false) else (fU p0 nL1 (i64.wrap (v3+1))))) else (fU p0 nL1 (i64.wrap (v3+1))))))))) else (some (decide ((List.length p0.Fields:Int)≤6)))
def rD (p0:M.aU):Option Bool:=
 fU p0 fuel 0
def xF (p0:Bool) (p1:Bool):Option Int:=
 if p0=true then (some (-1)) else (if p1=true then (some 1) else (some 0))
def kP (p0:M.Key) (p1:M.Key):Option Int:=
 (nP p0).bind fun x1=>(if (!x1)=true then (some 0) else ((nP p1).bind fun x4=>(if (!x4)=true then (some 0) else (if (p0.Kind != p1.Kind)=true then ((xF (decide (p0.Kind<p1.Kind)) true).bind fun x8=>(some x8)) else (if (p0.N != p1.N)=true then ((xF (decide (p0.N<p1.N)) true).bind fun x11=>(some x11)) else ((xF (Op.bytesLess p0.Text.toList p1.Text.toList) (!(Op.bytesLess p0.Text.toList p1.Text.toList||p0.Text.toList==p1.Text.toList))).bind fun x13=>(some x13)))))))
def gQ (p0:M.aH):Nat→Int→Option Bool
 | 0,_=>none
 | nL1+1,v3=>if (decide (v3<(List.length p0.Items:Int)))=true then ((idx p0.Items v3).bind fun x6=>((nP x6.Key).bind fun x11=>(if (!x11)=true then (some false) else ((rD x6.aU).bind fun x14=>(if (!x14)=true then (some false) else (if (decide (v3>0))=true then ((idx p0.Items (i64.wrap (v3-1))).bind fun x18=>((kP x18.Key x6.Key).bind fun x23=>(if (decide (x23≥0))=true then (some false) else (gQ p0 nL1 (i64.wrap (v3+1)))))) else (gQ p0 nL1 (i64.wrap (v3+1))))))))) else ((cJ p0.Name).bind fun x26=>(if x26=true then (if (decide ((List.length p0.Items:Int)≤16))=true then ((bK p0.Auto 0 1000000).bind fun x30=>(some x30)) else (some false)) else (some false)))
def pE (p0:M.aH):Option Bool:=
 gQ p0 fuel 0
def gZ (p0:M.Server):Nat→Int→Option Bool
 | 0,_=>none
 | nL2+1,v4=>if (decide (v4<(List.length p0.Changes:Int)))=true then ((idx p0.Changes v4).bind fun x29=>((iY x29).bind fun x34=>(if (!x34)=true then (some false) else (gZ p0 nL2 (i64.wrap (v4+1)))))) else ((pE p0.aH).bind fun x37=>(if x37=true then (if (p0.aH.Name.toList==(⟨#[110,111,116,101,115]⟩:ByteArray).toList)=true then (some (decide ((List.length p0.aJ:Int)≤60))) else (some false)) else (some false)))
def fW (p0:M.Server):Nat→Int→Option Bool
 | 0,_=>none
 | nL1+1,v3=>if (decide (v3<(List.length p0.aJ:Int)))=true then ((idx p0.aJ v3).bind fun x6=>((bK x6.Device 1 1000000).bind fun x11=>(if (!x11)=true then (some false) else ((bK x6.Seq 0 1000000).bind fun x14=>(if (!x14)=true then (some false) else (if (decide (v3>0))=true then ((idx p0.aJ (i64.wrap (v3-1))).bind fun x18=>(if (decide (x18.Device≥x6.Device))=true then (some false) else (fW p0 nL1 (i64.wrap (v3+1))))) else (fW p0 nL1 (i64.wrap (v3+1))))))))) else (gZ p0 fuel 0)
def wU (p0:M.Server):Option Bool:=
 fW p0 fuel 0
def kX (p0:M.bG):Nat→Int→Option Bool
 | 0,_=>none
 | nL1+1,v3=>if (decide (v3<(List.length p0.aN:Int)))=true then ((idx p0.aN v3).bind fun x6=>((cJ x6.Path).bind fun x11=>(if (!x11)=true then (some false) else (if (x6.Version != p0.Version)=true then (some false) else (kX p0 nL1 (i64.wrap (v3+1))))))) else ((bK p0.Id 1 1000000000000).bind fun x15=>(if x15=true then ((cJ p0.Site).bind fun x18=>(if x18=true then ((cJ p0.Top).bind fun x21=>(if x21=true then ((bK p0.Version 1 1000000000000).bind fun x24=>(if x24=true then (some (decide ((List.length p0.aN:Int)≤8))) else (some false))) else (some false))) else (some false))) else (some false)))
def aA3 (p0:M.bG):Option Bool:=
 kX p0 fuel 0
def fL (p0:M.aM) (p1:ByteArray) (p2:ByteArray):Nat→Int→Option Int
 | 0,_=>none
 | nL1+1,v7=>if (decide (v7<(List.length p0.Buckets:Int)))=true then ((idx p0.Buckets v7).bind fun x8=>(if (x8.Site.toList==p1.toList)=true then (if (x8.Top.toList==p2.toList)=true then (some v7) else (fL p0 p1 p2 nL1 (i64.wrap (v7+1)))) else (fL p0 p1 p2 nL1 (i64.wrap (v7+1))))) else (some (-1))
def mG (p0:M.aM) (p1:ByteArray) (p2:ByteArray):Option Int:=
 fL p0 p1 p2 fuel 0
def bR (p0:M.Registration):Nat→Int→Int→Option Bool
 | 0,_,_=>none
 | nL1+1,v3,v5=>if (decide (v5<((3:Nat):Int)))=true then ((idx ([p0.Active,p0.Waiting,p0.Installing]) v5).bind fun x15=>((bK x15 0 1000000000000).bind fun x20=>(if (!x20)=true then (some false) else (if (x15 != 0)=true then (if (decide (x15≤v3))=true then (some false) else (bR p0 nL1 x15 (i64.wrap (v5+1)))) else (bR p0 nL1 v3 (i64.wrap (v5+1))))))) else ((cJ p0.Site).bind fun x25=>(some x25))
def iK (p0:M.Registration):Option Bool:=
 bR p0 fuel 0 0
def qM (p0:M.Response):Option Bool:=
 (bK p0.Type_ 1 4).bind fun x1=>(if x1=true then ((bK p0.Status 0 999).bind fun x4=>(if x4=true then ((bK p0.Version 0 1000000000000).bind fun x7=>(if x7=true then (some (decide ((List.length p0.Body:Int)≤60))) else (some false))) else (some false))) else (some false))
def fK (p0:List M.Cached) (v3:Int) (x5:M.Cached) (k20:Int→Option Bool):Nat→Int→Option Bool
 | 0,_=>none
 | nL2+1,v4_L2=>if (decide (v4_L2<v3))=true then ((idx p0 v4_L2).bind fun x26=>(if (x26.Site.toList==x5.Site.toList)=true then (if (x26.Path.toList==x5.Path.toList)=true then (some false) else (fK p0 v3 x5 k20 nL2 (i64.wrap (v4_L2+1)))) else (fK p0 v3 x5 k20 nL2 (i64.wrap (v4_L2+1))))) else (k20 v4_L2)
def eJ (p0:List M.Cached):Nat→Int→Option Bool
 | 0,_=>none
 | nL1+1,v3=>if (decide (v3<(List.length p0:Int)))=true then ((idx p0 v3).bind fun x5=>((cJ x5.Site).bind fun x10=>(if (!x10)=true then (some false) else ((cJ x5.Path).bind fun x13=>(if (!x13)=true then (some false) else ((qM x5.Response).bind fun x16=>(if (!x16)=true then (some false) else (fK p0 v3 x5 (fun (v4_L2:Int)=>eJ p0 nL1 (i64.wrap (v3+1))) fuel 0)))))))) else (some (decide ((List.length p0:Int)≤12)))
def lV (p0:List M.Cached):Option Bool:=
 eJ p0 fuel 0
def eG (p0:M.aT):Nat→Int→Option Bool
 | 0,_=>none
 | nL1+1,v3=>if (decide (v3<(List.length p0.Caches:Int)))=true then ((idx p0.Caches v3).bind fun x6=>((bK x6.Version 1 1000000000000).bind fun x11=>(if (!x11)=true then (some false) else (if (decide (v3>0))=true then ((idx p0.Caches (i64.wrap (v3-1))).bind fun x15=>(if (decide (x15.Version≥x6.Version))=true then (some false) else ((lV x6.Entries).bind fun x21=>(if (!x21)=true then (some false) else (eG p0 nL1 (i64.wrap (v3+1))))))) else ((lV x6.Entries).bind fun x24=>(if (!x24)=true then (some false) else (eG p0 nL1 (i64.wrap (v3+1))))))))) else (some (decide ((List.length p0.Caches:Int)≤4)))
def qQ (p0:M.aT):Option Bool:=
 eG p0 fuel 0
def iB (p0:M.Database) (p1:ByteArray):Nat→Int→Option Int
 | 0,_=>none
 | nL1+1,v5=>if (decide (v5<(List.length p0.Stores:Int)))=true then ((idx p0.Stores v5).bind fun x7=>(if (x7.Name.toList==p1.toList)=true then (some v5) else (iB p0 p1 nL1 (i64.wrap (v5+1))))) else (some (-1))
def sJ (p0:M.Database) (p1:ByteArray):Option Int:=
 iB p0 p1 fuel 0
def kM (p0:M.aU) (p1:ByteArray):Nat→Int→Option (Int×Bool)
 | 0,_=>none
 | nL1+1,v6=>if (decide (v6<(List.length p0.Fields:Int)))=true then ((idx p0.Fields v6).bind fun x7=>(if (x7.Name.toList==p1.toList)=true then (some (x7.N,true)) else (kM p0 p1 nL1 (i64.wrap (v6+1))))) else (some (0,false))
def kA (p0:M.aU) (p1:ByteArray):Option (Int×Bool):=
 kM p0 p1 fuel 0
def aA2 (p0:M.Item) (p1:M.Item) (p2:ByteArray):Option Bool:=
 (kA p0.aU p2).bind fun x1=>((kA p1.aU p2).bind fun x3=>(if (decide (x1.1<x3.1))=true then (some true) else (if (x1.1==x3.1)=true then ((kP p0.Key p1.Key).bind fun x7=>(some (decide (x7<0)))) else (some false))))
def gH (p1:ByteArray) (r50000:List M.Item) (x15:M.Item) (k24:Int→Option (List M.Item)):Nat→Int→Option (List M.Item)
 | 0,_=>none
 | nL2+1,v9_L2=>if (decide (v9_L2>0))=true then ((idx r50000 (i64.wrap (v9_L2-1))).bind fun x34=>((aA2 x15 x34 p1).bind fun x39=>(if x39=true then (gH p1 r50000 x15 k24 nL2 (i64.wrap (v9_L2-1))) else (k24 v9_L2)))) else (k24 v9_L2)
def gK (p0:M.aH) (p1:ByteArray):Nat→Int→List M.Item→Option (List M.Item)
 | 0,_,_=>none
 | nL1+1,v6,r50000=>if (decide (v6<(List.length p0.Items:Int)))=true then ((idx p0.Items v6).bind fun x15=>((kA x15.aU p1).bind fun x20=>(if (!x20.2)=true then (gK p0 p1 nL1 (i64.wrap (v6+1)) r50000) else (gH p1 r50000 x15 (fun (v9_L2:Int)=>(aEY r50000 v9_L2).bind fun x79=>((app 56 ([]:List M.Item) (List.take v9_L2.toNat r50000)).bind fun x81=>((xI x15).bind fun x93=>((app 56 (List.take v9_L2.toNat r50000) ([x93])).bind fun x95=>((app 56 ((List.take v9_L2.toNat r50000)++[x93]) (List.drop v9_L2.toNat r50000)).bind fun x107=>(gK p0 p1 nL1 (i64.wrap (v6+1)) (((List.take v9_L2.toNat r50000)++[x93])++(List.drop v9_L2.toNat r50000)))))))) fuel (List.length r50000:Int))))) else (some r50000)
def yW (p0:M.aH) (p1:ByteArray):Option (List M.Item):=
 gK p0 p1 fuel 0 ([]:List M.Item)
def iH (p1:ByteArray) (x1:(List M.Item)):Nat→Int→Option (M.Key×M.Key×Bool)
 | 0,_=>none
 | nL1+1,v8=>if (decide (v8<(List.length x1:Int)))=true then ((idx x1 (i64.wrap (v8-1))).bind fun x13=>((kA x13.aU p1).bind fun x18=>((idx x1 v8).bind fun x20=>((kA x20.aU p1).bind fun x25=>(if (x18.1==x25.1)=true then (some (x13.Key,x20.Key,true)) else (iH p1 x1 nL1 (i64.wrap (v8+1)))))))) else (some ((⟨0,0,(⟨#[]⟩:ByteArray)⟩:M.Key),(⟨0,0,(⟨#[]⟩:ByteArray)⟩:M.Key),false))
def nW (p0:M.aH) (p1:ByteArray):Option (M.Key×M.Key×Bool):=
 (yW p0 p1).bind fun x1=>(iH p1 x1 fuel 1)
def fJ (p0:M.Database) (v4:Int) (x26:M.aA) (k46:Int→Option Bool):Nat→Int→Option Bool
 | 0,_=>none
 | nL3+1,v9_L3=>if (decide (v9_L3<v4))=true then ((idx p0.Unique v9_L3).bind fun x53=>(if ((x53.aH.toList==x26.aH.toList)&&(x53.Field.toList==x26.Field.toList))=true then (some false) else (fJ p0 v4 x26 k46 nL3 (i64.wrap (v9_L3+1))))) else (k46 v9_L3)
def eN (p0:M.Database):Nat→Int→Option Bool
 | 0,_=>none
 | nL2+1,v4=>if (decide (v4<(List.length p0.Unique:Int)))=true then ((idx p0.Unique v4).bind fun x26=>((sJ p0 x26.aH).bind fun x31=>(if (decide (x31<0))=true then (some false) else ((cJ x26.Field).bind fun x34=>(if (!x34)=true then (some false) else ((idx p0.Stores x31).bind fun x37=>((nW x37 x26.Field).bind fun x42=>(if x42.2.2=true then (some false) else (fJ p0 v4 x26 (fun (v9_L3:Int)=>eN p0 nL2 (i64.wrap (v4+1))) fuel 0))))))))) else ((cJ p0.Name).bind fun x59=>(if x59=true then ((bK p0.Version 0 1000).bind fun x62=>(if x62=true then (if (decide ((List.length p0.Stores:Int)≤4))=true then (some (decide ((List.length p0.Unique:Int)≤4))) else (some false)) else (some false))) else (some false)))
def eM (p0:M.Database):Nat→Int→Option Bool
 | 0,_=>none
 | nL1+1,v3=>if (decide (v3<(List.length p0.Stores:Int)))=true then ((idx p0.Stores v3).bind fun x6=>((pE x6).bind fun x11=>(if (!x11)=true then (some false) else (if (decide (v3>0))=true then ((idx p0.Stores (i64.wrap (v3-1))).bind fun x15=>(if (!(Op.bytesLess x15.Name.toList x6.Name.toList))=true then (some false) else (eM p0 nL1 (i64.wrap (v3+1))))) else (eM p0 nL1 (i64.wrap (v3+1))))))) else (eN p0 fuel 0)
def pW (p0:M.Database):Option Bool:=
 eM p0 fuel 0
def iN (p0:M.aV):Nat→Int→Option Bool
 | 0,_=>none
 | nL1+1,v4=>if (decide (v4<(List.length p0.Writes:Int)))=true then ((idx p0.Writes v4).bind fun x14=>((iY x14).bind fun x19=>(if (!x19)=true then (some false) else (if (x14.Device != p0.Device)=true then (some false) else (if (x14.Seq != (i64.wrap ((i64.wrap (p0.Next-(List.length p0.Writes:Int)))+v4)))=true then (some false) else (iN p0 nL1 (i64.wrap (v4+1)))))))) else (some true)
def wR (p0:M.aV):Option Bool:=
 (bK p0.Device 1 1000000).bind fun x1=>(if (!x1)=true then (some false) else ((bK p0.Next 1 1000000).bind fun x4=>(if (!x4)=true then (some false) else (if (decide ((List.length p0.Writes:Int)>20))=true then (some false) else (iN p0 fuel 0)))))
def sS (p0:M.aD):Option Bool:=
 (pE p0.Base).bind fun x1=>(if x1=true then (if (p0.Base.Name.toList==(⟨#[110,111,116,101,115]⟩:ByteArray).toList)=true then ((bK p0.Seen 0 1000000000000).bind fun x5=>(if x5=true then ((wR p0.Sync.aV).bind fun x8=>(some x8)) else (some false))) else (some false)) else (some false))
def qC (p0:M.Response) (p1:Bool):Option Int:=
 if p1=true then (some 76) else (some (i64.wrap (16+(List.length p0.Body:Int))))
def gW (p0:M.aT) (v4:Int) (k8:Int→Int→Option Int):Nat→Int→Int→Option Int
 | 0,_,_=>none
 | nL2+1,v3_L2,v5_L2=>(idx p0.Caches v4).bind fun x15=>(if (decide (v5_L2<(List.length x15.Entries:Int)))=true then ((idx x15.Entries v5_L2).bind fun x21=>((qC x21.Response (x21.Response.Type_==3)).bind fun x26=>(gW p0 v4 k8 nL2 (i64.wrap (v3_L2+x26)) (i64.wrap (v5_L2+1))))) else (k8 v3_L2 v5_L2))
def eC (p0:M.aT):Nat→Int→Int→Option Int
 | 0,_,_=>none
 | nL1+1,v3,v4=>if (decide (v4<(List.length p0.Caches:Int)))=true then (gW p0 v4 (fun (v3_L2:Int) (v5_L2:Int)=>eC p0 nL1 v3_L2 (i64.wrap (v4+1))) fuel v3 0) else (some v3)
def pV (p0:M.aT):Option Int:=
 eC p0 fuel 0 0
def cD (p0:M.Key):Nat→Int→List Int→Option (List Int)
 | 0,_,_=>none
 | nL1+1,v4,r12=>if (decide (v4≥0))=true then (if (p0.Kind != 2)=true then (if (decide (0≤(i64.wrap (8*v4))))=true then ((app 1 r12 ([(IntKind.u8.wrap (i64.wrap (BitVec.ofInt (IntKind.i64.bits) (Int.fdiv (i64.wrap (p0.N+1000000000000)) (2^(min (i64.wrap (8*v4)).toNat IntKind.i64.bits)))&&&BitVec.ofInt (IntKind.i64.bits) 255).toNat))])).bind fun x18=>(cD p0 nL1 (i64.wrap (v4-1)) (r12++[(IntKind.u8.wrap (i64.wrap (BitVec.ofInt (IntKind.i64.bits) (Int.fdiv (i64.wrap (p0.N+1000000000000)) (2^(min (i64.wrap (8*v4)).toNat IntKind.i64.bits)))&&&BitVec.ofInt (IntKind.i64.bits) 255).toNat))]))) else none) else ((app 1 r12 (lL p0.Text)).bind fun x26=>(some (r12++(lL p0.Text))))) else ((app 1 r12 (lL p0.Text)).bind fun x28=>(some (r12++(lL p0.Text))))
def sP (p0:M.Key):Option (List Int):=
 (nP p0).bind fun x1=>(if (!x1)=true then (some ([]:List Int)) else (cD p0 fuel 5 ([(IntKind.u8.wrap p0.Kind)])))
def dP  : Nat→Int→List Int→Option (List Int)
 | 0,_,_=>none
 | nL1+1,v1,r6=>if (decide (v1>127))=true then ((app 1 r6 ([(IntKind.u8.wrap (i64.wrap (BitVec.ofInt (IntKind.i64.bits) (i64.wrap (BitVec.ofInt (IntKind.i64.bits) v1&&&BitVec.ofInt (IntKind.i64.bits) 127).toNat)|||BitVec.ofInt (IntKind.i64.bits) 128).toNat))])).bind fun x15=>(dP nL1 (Int.fdiv v1 (2^(min (7:Int).toNat IntKind.i64.bits))) (r6++[(IntKind.u8.wrap (i64.wrap (BitVec.ofInt (IntKind.i64.bits) (i64.wrap (BitVec.ofInt (IntKind.i64.bits) v1&&&BitVec.ofInt (IntKind.i64.bits) 127).toNat)|||BitVec.ofInt (IntKind.i64.bits) 128).toNat))]))) else ((app 1 r6 ([(IntKind.u8.wrap v1)])).bind fun x21=>(some (r6++[(IntKind.u8.wrap v1)])))
def gX (p0:List Int) (p1:Int):Option (List Int):=
 (app 1 ([]:List Int) p0).bind fun x1=>((bK p1 0 1000000000000).bind fun x7=>(if (!x7)=true then (some p0) else (dP fuel p1 p0)))
def nV (p0:List Int) (p1:List Int):Option (List Int):=
 (gX p0 (List.length p1:Int)).bind fun x1=>((app 1 x1 p1).bind fun x3=>(some (x1++p1)))
def fR (p0:M.aU):Nat→Int→List Int→Option (List Int)
 | 0,_,_=>none
 | nL1+1,v4,r50000=>if (decide (v4<(List.length p0.Fields:Int)))=true then ((idx p0.Fields v4).bind fun x18=>((nV r50000 (lL x18.Name)).bind fun x23=>((gX x23 x18.N).bind fun x25=>(fR p0 nL1 (i64.wrap (v4+1)) x25)))) else (some r50000)
def mX (p0:M.aU):Option (List Int):=
 (rD p0).bind fun x1=>(if (!x1)=true then (some ([]:List Int)) else ((gX ([]:List Int) (List.length p0.Fields:Int)).bind fun x4=>(fR p0 fuel 0 x4)))
def hZ (p0:M.aH):Nat→Int→Int→Option Int
 | 0,_,_=>none
 | nL1+1,v3,v4=>if (decide (v4<(List.length p0.Items:Int)))=true then ((idx p0.Items v4).bind fun x7=>((sP x7.Key).bind fun x12=>((mX x7.aU).bind fun x14=>(hZ p0 nL1 (i64.wrap ((i64.wrap (v3+(List.length x12:Int)))+(List.length x14:Int))) (i64.wrap (v4+1)))))) else (some v3)
def nL (p0:M.aH):Option Int:=
 hZ p0 fuel 0 0
def fQ (p0:M.Database):Nat→Int→Int→Option Int
 | 0,_,_=>none
 | nL1+1,v3,v4=>if (decide (v4<(List.length p0.Stores:Int)))=true then ((idx p0.Stores v4).bind fun x7=>((nL x7).bind fun x12=>(fQ p0 nL1 (i64.wrap (v3+x12)) (i64.wrap (v4+1))))) else (some v3)
def mV (p0:M.Database):Option Int:=
 fQ p0 fuel 0 0
def aAr (p0:M.bE):Option Int:=
 (mV p0.Base).bind fun x1=>(some (i64.wrap (x1+(List.length p0.Log:Int))))
def zM (p0:M.aF):Option Int:=
 (pV p0.Caches).bind fun x1=>((aAr p0.bE).bind fun x3=>((nL p0.aD.Base).bind fun x5=>(some (i64.wrap ((i64.wrap ((i64.wrap (x1+x3))+x5))+(i64.wrap (40*(List.length p0.aD.Sync.aV.Writes:Int))))))))
def wK (p0:M.aF):Option Bool:=
 (cJ p0.Site).bind fun x1=>(if x1=true then ((cJ p0.Top).bind fun x4=>(if x4=true then ((iK p0.Registration).bind fun x7=>(if x7=true then (if (p0.Registration.Site.toList==p0.Site.toList)=true then ((qQ p0.Caches).bind fun x11=>(if x11=true then ((pW p0.bE.Base).bind fun x14=>(if x14=true then ((sS p0.aD).bind fun x17=>(if x17=true then ((bK p0.LastUsed 0 1000000000000).bind fun x20=>(if x20=true then ((zM p0).bind fun x23=>(some (decide (x23≤2500)))) else (some false))) else (some false))) else (some false))) else (some false))) else (some false)) else (some false))) else (some false))) else (some false))
def xZ (p0:M.aF) (p1:ByteArray) (p2:ByteArray):Option Bool:=
 if (Op.bytesLess p0.Site.toList p1.toList)=true then (some true) else (if (p0.Site.toList==p1.toList)=true then (some (Op.bytesLess p0.Top.toList p2.toList)) else (some false))
def fG (p0:M.aM):Nat→Int→Option Bool
 | 0,_=>none
 | nL1+1,v3=>if (decide (v3<(List.length p0.Buckets:Int)))=true then ((idx p0.Buckets v3).bind fun x6=>((wK x6).bind fun x11=>(if (!x11)=true then (some false) else (if (decide (v3>0))=true then ((idx p0.Buckets (i64.wrap (v3-1))).bind fun x15=>((xZ x15 x6.Site x6.Top).bind fun x20=>(if (!x20)=true then (some false) else (fG p0 nL1 (i64.wrap (v3+1)))))) else (fG p0 nL1 (i64.wrap (v3+1))))))) else (some (decide ((List.length p0.Buckets:Int)≤9)))
def tF (p0:M.aM):Option Bool:=
 fG p0 fuel 0
def cZ (p0:ByteArray):Nat→Int→Option Bool
 | 0,_=>none
 | nL1+1,v3=>if (decide (v3<(p0.size:Int)))=true then ((aNR p0 v3).bind fun x5=>(if (decide ((x5.toNat:Int)<97))=true then (if ((x5.toNat:Int) != 47)=true then (some false) else (cZ p0 nL1 (i64.wrap (v3+1)))) else (if (decide ((x5.toNat:Int)>122))=true then (if ((x5.toNat:Int) != 47)=true then (some false) else (cZ p0 nL1 (i64.wrap (v3+1)))) else (cZ p0 nL1 (i64.wrap (v3+1)))))) else ((bK (p0.size:Int) 1 30).bind fun x13=>(some x13))
def pN (p0:ByteArray):Option Bool:=
 cZ p0 fuel 0
def bX (p0:M.aE) (v3:Int) (x6:M.bF) (k18:Int→Option Bool):Nat→Int→Option Bool
 | 0,_=>none
 | nL2+1,v5_L2=>if (decide (v5_L2<v3))=true then ((idx p0.Locks v5_L2).bind fun x27=>(if x6.Held=true then (if (x27.Name.toList==x6.Name.toList)=true then (if (!x27.Held)=true then (some false) else (if (!x6.Shared)=true then (some false) else (if (!x27.Shared)=true then (some false) else (bX p0 v3 x6 k18 nL2 (i64.wrap (v5_L2+1)))))) else (bX p0 v3 x6 k18 nL2 (i64.wrap (v5_L2+1)))) else (bX p0 v3 x6 k18 nL2 (i64.wrap (v5_L2+1))))) else (k18 v5_L2)
def eY (p0:M.aE):Nat→Int→Option Bool
 | 0,_=>none
 | nL1+1,v3=>if (decide (v3<(List.length p0.Locks:Int)))=true then ((idx p0.Locks v3).bind fun x6=>((pN x6.Name).bind fun x11=>(if (!x11)=true then (some false) else ((bK x6.bG 1 1000000000000).bind fun x14=>(if (!x14)=true then (some false) else (bX p0 v3 x6 (fun (v5_L2:Int)=>eY p0 nL1 (i64.wrap (v3+1))) fuel 0)))))) else (some (decide ((List.length p0.Locks:Int)≤12)))
def pB (p0:M.aE):Option Bool:=
 eY p0 fuel 0
def dH (p0:M.World):Nat→Int→Option Bool
 | 0,_=>none
 | nL2+1,v4=>if (decide (v4<(List.length p0.Pages:Int)))=true then ((idx p0.Pages v4).bind fun x38=>((aA3 x38).bind fun x43=>(if (!x43)=true then (some false) else (if (decide (x38.Id≥p0.NextPage))=true then (some false) else (if (decide (v4>0))=true then ((idx p0.Pages (i64.wrap (v4-1))).bind fun x48=>(if (decide (x48.Id≥x38.Id))=true then (some false) else ((mG p0.aM x38.Site x38.Top).bind fun x54=>(if (decide (x54<0))=true then (some false) else (dH p0 nL2 (i64.wrap (v4+1))))))) else ((mG p0.aM x38.Site x38.Top).bind fun x57=>(if (decide (x57<0))=true then (some false) else (dH p0 nL2 (i64.wrap (v4+1)))))))))) else ((bK p0.Now 0 999999990000).bind fun x60=>(if x60=true then ((bK p0.Device 1 1000000).bind fun x63=>(if x63=true then ((tF p0.aM).bind fun x66=>(if x66=true then ((bK p0.NextPage 1 1000000000000).bind fun x69=>(if x69=true then ((pB p0.Locks).bind fun x72=>(some x72)) else (some false))) else (some false))) else (some false))) else (some false)))
def iE (p0:M.World):Nat→Int→Option Bool
 | 0,_=>none
 | nL1+1,v3=>if (decide (v3<3))=true then ((idx p0.Sites v3).bind fun x9=>((aAp x9).bind fun x14=>(if (!x14)=true then (some false) else ((aAV).bind fun x17=>((idx x17 v3).bind fun x19=>(if (!(x9.Name.toList==x19.toList))=true then (some false) else ((idx p0.Servers v3).bind fun x25=>((wU x25).bind fun x30=>(if (!x30)=true then (some false) else (iE p0 nL1 (i64.wrap (v3+1)))))))))))) else (dH p0 fuel 0)
def uN (p0:M.World):Option Bool:=
 if ((List.length p0.Sites:Int) != 3)=true then (some false) else (if ((List.length p0.Servers:Int) != 3)=true then (some false) else (if (decide ((List.length p0.Pages:Int)>6))=true then (some false) else (iE p0 fuel 0)))
def iZ (p0:List M.bF) (p1:Int) (p2:M.bF):Nat→Int→Option Bool
 | 0,_=>none
 | nL1+1,v7=>if (decide (v7<p1))=true then ((idx p0 v7).bind fun x8=>(if (x8.Name.toList==p2.Name.toList)=true then (if (!x8.Held)=true then (some false) else (if (!x8.Shared)=true then (some false) else (if (!p2.Shared)=true then (some false) else (iZ p0 p1 p2 nL1 (i64.wrap (v7+1)))))) else (iZ p0 p1 p2 nL1 (i64.wrap (v7+1))))) else (some true)
def aAN (p0:List M.bF) (p1:Int) (p2:M.bF):Option Bool:=
 iZ p0 p1 p2 fuel 0
def eK  : Nat→Int→List M.bF→Option M.aE
 | 0,_,_=>none
 | nL1+1,v4,r6=>if (decide (v4<(List.length r6:Int)))=true then ((idx r6 v4).bind fun x11=>(if (!x11.Held)=true then ((aAN r6 v4 x11).bind fun x17=>(if x17=true then (eK nL1 (i64.wrap (v4+1)) (List.set r6 v4.toNat (⟨x11.Name,x11.bG,x11.Shared,true⟩:M.bF))) else (eK nL1 (i64.wrap (v4+1)) r6))) else (eK nL1 (i64.wrap (v4+1)) r6))) else (some (⟨r6⟩:M.aE))
def mH (p0:M.aE):Option M.aE:=
 (pG p0).bind fun x1=>(eK fuel 0 x1.Locks)
def eA (p0:M.aE) (p1:Int):Nat→Int→List M.bF→Option M.aE
 | 0,_,_=>none
 | nL1+1,v6,r50000=>if (decide (v6<(List.length p0.Locks:Int)))=true then ((idx p0.Locks v6).bind fun x12=>(if (x12.bG != p1)=true then ((app 32 r50000 ([x12])).bind fun x18=>(eA p0 p1 nL1 (i64.wrap (v6+1)) (r50000++[x12]))) else (eA p0 p1 nL1 (i64.wrap (v6+1)) r50000))) else ((mH (⟨r50000⟩:M.aE)).bind fun x30=>(some x30))
def mU (p0:M.aE) (p1:Int):Option M.aE:=
 eA p0 p1 fuel 0 ([]:List M.bF)
def gB (p0:M.Channel) (p1:Int):Nat→Int→List M.bU→Option M.Channel
 | 0,_,_=>none
 | nL1+1,v6,r50000=>if (decide (v6<(List.length p0.Mails:Int)))=true then ((idx p0.Mails v6).bind fun x12=>(if (x12.To != p1)=true then ((app 24 r50000 ([x12])).bind fun x18=>(gB p0 p1 nL1 (i64.wrap (v6+1)) (r50000++[x12]))) else (gB p0 p1 nL1 (i64.wrap (v6+1)) r50000))) else (some (⟨r50000⟩:M.Channel))
def tS (p0:M.Channel) (p1:Int):Option M.Channel:=
 gB p0 p1 fuel 0 ([]:List M.bU)
def sK (p0:M.World) (p1:Int):Option (M.World×Bool):=
 (zR p0).bind fun x1=>((tO p0 p1).bind fun x3=>((uN p0).bind fun x5=>(if (!x5)=true then (some (x1,false)) else (if (decide (x3<0))=true then (some (x1,false)) else ((aEY x1.Pages x3).bind fun x9=>((aDo x1.Pages (i64.wrap (x3+1))).bind fun x11=>((app 144 (List.take x3.toNat x1.Pages) (List.drop (i64.wrap (x3+1)).toNat x1.Pages)).bind fun x13=>((mU p0.Locks p1).bind fun x29=>((tS p0.Channel p1).bind fun x31=>(some ((⟨x1.Now,x1.Online,x1.Device,x1.aM,((List.take x3.toNat x1.Pages)++(List.drop (i64.wrap (x3+1)).toNat x1.Pages)),x1.NextPage,x29,x31,x1.Sites,x1.Servers⟩:M.World),true)))))))))))
def jB (p0:List Int):Option (List Int):=
 (app 1 ([]:List Int) p0).bind fun x1=>(some p0)
def mT (p0:M.Response):Option M.Response:=
 (jB p0.Body).bind fun x1=>(some (⟨p0.Type_,p0.Status,p0.Version,x1,p0.Shares⟩:M.Response))
def fN (x11:M.Cache) (k17:Int→List M.Cached→Option M.aT):Nat→Int→List M.Cached→Option M.aT
 | 0,_,_=>none
 | nL2+1,v23_L2,r50000_L2=>if (decide (v23_L2<(List.length x11.Entries:Int)))=true then ((idx x11.Entries v23_L2).bind fun x34=>((mT x34.Response).bind fun x39=>((app 88 r50000_L2 ([(⟨x34.Site,x34.Path,x39⟩:M.Cached)])).bind fun x41=>(fN x11 k17 nL2 (i64.wrap (v23_L2+1)) (r50000_L2++[(⟨x34.Site,x34.Path,x39⟩:M.Cached)]))))) else (k17 v23_L2 r50000_L2)
def eB (p0:M.aT):Nat→Int→List M.Cache→Option M.aT
 | 0,_,_=>none
 | nL1+1,v13,r50100=>if (decide (v13<(List.length p0.Caches:Int)))=true then ((idx p0.Caches v13).bind fun x11=>(fN x11 (fun (v23_L2:Int) (r50000_L2:List M.Cached)=>(app 32 r50100 ([(⟨x11.Version,r50000_L2⟩:M.Cache)])).bind fun x58=>(eB p0 nL1 (i64.wrap (v13+1)) (r50100++[(⟨x11.Version,r50000_L2⟩:M.Cache)]))) fuel 0 ([]:List M.Cached))) else (some (⟨r50100⟩:M.aT))
def mQ (p0:M.aT):Option M.aT:=
 eB p0 fuel 0 ([]:List M.Cache)
def qI (p0:M.aU):Option M.aU:=
 (app 24 ([]:List M.Field) p0.Fields).bind fun x1=>(some p0)
def qT (p0:M.Item):Option M.Item:=
 (qI p0.aU).bind fun x1=>(some (⟨p0.Key,x1⟩:M.Item))
def hY (p0:M.aH):Nat→Int→List M.Item→Option M.aH
 | 0,_,_=>none
 | nL1+1,v14,r50000=>if (decide (v14<(List.length p0.Items:Int)))=true then ((idx p0.Items v14).bind fun x11=>((qT x11).bind fun x16=>((app 56 r50000 ([x16])).bind fun x18=>(hY p0 nL1 (i64.wrap (v14+1)) (r50000++[x16]))))) else (some (⟨p0.Name,r50000,p0.Auto⟩:M.aH))
def lB (p0:M.aH):Option M.aH:=
 hY p0 fuel 0 ([]:List M.Item)
def fP (p0:M.Database):Nat→Int→List M.aH→Option M.Database
 | 0,_,_=>none
 | nL1+1,v18,r50000=>if (decide (v18<(List.length p0.Stores:Int)))=true then ((idx p0.Stores v18).bind fun x22=>((lB x22).bind fun x27=>((app 48 r50000 ([x27])).bind fun x29=>(fP p0 nL1 (i64.wrap (v18+1)) (r50000++[x27]))))) else (some (⟨p0.Name,p0.Version,r50000,p0.Unique⟩:M.Database))
def mZ (p0:M.Database):Option M.Database:=
 (app 32 ([]:List M.aA) p0.Unique).bind fun x1=>(fP p0 fuel 0 ([]:List M.aH))
def vW (p0:M.bE):Option M.bE:=
 (mZ p0.Base).bind fun x1=>((jB p0.Log).bind fun x3=>(some (⟨x1,x3,p0.Count⟩:M.bE)))
def qV (p0:M.aV):Option M.aV:=
 (app 72 ([]:List M.aY) p0.Writes).bind fun x1=>(some p0)
def wT (p0:M.Sync):Option M.Sync:=
 (qV p0.aV).bind fun x1=>(some (⟨x1,p0.Tries,p0.WaitUntil⟩:M.Sync))
def oS (p0:M.aD):Option M.aD:=
 (lB p0.Base).bind fun x1=>((wT p0.Sync).bind fun x3=>(some (⟨x1,p0.Seen,x3⟩:M.aD)))
def qD (p0:M.aF):Option M.aF:=
 (mQ p0.Caches).bind fun x1=>((vW p0.bE).bind fun x3=>((oS p0.aD).bind fun x5=>(some (⟨p0.Site,p0.Top,p0.Registration,x1,x3,x5,p0.LastUsed,p0.Persistent⟩:M.aF))))
def gA (p0:M.aM):Nat→Int→List M.aF→Option M.aM
 | 0,_,_=>none
 | nL1+1,v10,r50000=>if (decide (v10<(List.length p0.Buckets:Int)))=true then ((idx p0.Buckets v10).bind fun x11=>((qD x11).bind fun x16=>((app 328 r50000 ([x16])).bind fun x18=>(gA p0 nL1 (i64.wrap (v10+1)) (r50000++[x16]))))) else (some (⟨r50000⟩:M.aM))
def nU (p0:M.aM):Option M.aM:=
 gA p0 fuel 0 ([]:List M.aF)
def oO (p0:M.Machine):Option M.Machine:=
 (app 40 ([]:List M.Instr) p0.Script).bind fun x1=>((app 8 ([]:List Int) p0.Regs).bind fun x11=>(some p0))
def xC (p0:M.bG):Option M.bG:=
 (app 24 ([]:List M.aN) p0.aN).bind fun x1=>((oO p0.Machine).bind fun x9=>(some (⟨p0.Id,p0.Site,p0.Top,p0.Version,p0.aN,x9⟩:M.bG)))
def iA (p0:List M.bG):Nat→Int→List M.bG→Option (List M.bG)
 | 0,_,_=>none
 | nL1+1,v9,r6=>if (decide (v9<(List.length p0:Int)))=true then ((idx p0 v9).bind fun x12=>((xC x12).bind fun x17=>((app 144 r6 ([x17])).bind fun x19=>(iA p0 nL1 (i64.wrap (v9+1)) (r6++[x17]))))) else (some r6)
def sG (p0:List M.bG):Option (List M.bG):=
 iA p0 fuel 0 ([]:List M.bG)
def kW (p0:M.aE):Option M.aE:=
 (app 32 ([]:List M.bF) p0.Locks).bind fun x1=>(some p0)
def kT (p0:M.Channel):Option M.Channel:=
 (app 24 ([]:List M.bU) p0.Mails).bind fun x1=>(some p0)
def wJ (p0:M.Site):Option M.Site:=
 (app 16 ([]:List ByteArray) p0.Files).bind fun x1=>(some p0)
def qF (p0:M.Server):Option M.Server:=
 (lB p0.aH).bind fun x1=>((app 16 ([]:List M.aJ) p0.aJ).bind fun x3=>((app 72 ([]:List M.aY) p0.Changes).bind fun x5=>(some (⟨x1,p0.aJ,p0.Changes⟩:M.Server))))
def fA (p0:M.World) (x1:M.aM) (x3:(List M.bG)) (x5:M.aE) (x7:M.Channel) (r50000:List M.Site):Nat→Int→List M.Server→Option M.World
 | 0,_,_=>none
 | nL2+1,v45,r50100=>if (decide (v45<(List.length p0.Servers:Int)))=true then ((idx p0.Servers v45).bind fun x64=>((qF x64).bind fun x69=>((app 96 r50100 ([x69])).bind fun x71=>(fA p0 x1 x3 x5 x7 r50000 nL2 (i64.wrap (v45+1)) (r50100++[x69]))))) else (some (⟨p0.Now,p0.Online,p0.Device,x1,x3,p0.NextPage,x5,x7,r50000,r50100⟩:M.World))
def gD (p0:M.World) (x1:M.aM) (x3:(List M.bG)) (x5:M.aE) (x7:M.Channel):Nat→Int→List M.Site→Option M.World
 | 0,_,_=>none
 | nL1+1,v29,r50000=>if (decide (v29<(List.length p0.Sites:Int)))=true then ((idx p0.Sites v29).bind fun x25=>((wJ x25).bind fun x30=>((app 56 r50000 ([x30])).bind fun x32=>(gD p0 x1 x3 x5 x7 nL1 (i64.wrap (v29+1)) (r50000++[x30]))))) else (fA p0 x1 x3 x5 x7 r50000 fuel 0 ([]:List M.Server))
def tH (p0:M.World):Option M.World:=
 (nU p0.aM).bind fun x1=>((sG p0.Pages).bind fun x3=>((kW p0.Locks).bind fun x5=>((kT p0.Channel).bind fun x7=>(gD p0 x1 x3 x5 x7 fuel 0 ([]:List M.Site)))))
def oU (p0:M.bG) (c0:Int):Option Bool:=
 some (p0.Id==c0)
def cG (p0:List M.bG) (p1:M.bG→Option Bool):Nat→Int→Option Int
 | 0,_=>none
 | nL1+1,v8=>if (decide (v8<(List.length p0:Int)))=true then ((idx p0 v8).bind fun x7=>((p1 x7).bind fun x12=>(if x12=true then (some v8) else (cG p0 p1 nL1 (i64.wrap (v8+1)))))) else (some (-1))
def iS (p0:List M.bG) (p1:M.bG→Option Bool):Option Int:=
 cG p0 p1 fuel 0
def uG (p0:M.World) (p1:Int):Option Int:=
 (iS p0.Pages (fun z0=>oU z0 p1)).bind fun x1=>(some x1)
def bA (p0:Int) (p1:Int) (p2:Int):Option Bool:=
 if (decide (p1≤p0))=true then (some (decide (p0≤p2))) else (some false)
def gG (p0:ByteArray) (p1:Int) (p2:Bool):Nat→Int→Option Bool
 | 0,_=>none
 | nL1+1,v7=>if (decide (v7<(p0.size:Int)))=true then ((aNR p0 v7).bind fun x7=>(if (decide ((x7.toNat:Int)≥97))=true then (if (decide ((x7.toNat:Int)≤122))=true then (gG p0 p1 p2 nL1 (i64.wrap (v7+1))) else (if p2=true then (if (!((x7.toNat:Int)==47))=true then (some false) else (gG p0 p1 p2 nL1 (i64.wrap (v7+1)))) else (some false))) else (if p2=true then (if (!((x7.toNat:Int)==47))=true then (some false) else (gG p0 p1 p2 nL1 (i64.wrap (v7+1)))) else (some false)))) else ((bA (p0.size:Int) 1 p1).bind fun x17=>(some x17))
def xE (p0:ByteArray) (p1:Int) (p2:Bool):Option Bool:=
 gG p0 p1 p2 fuel 0
def bW (p0:ByteArray):Option Bool:=
 (xE p0 8 false).bind fun x1=>(some x1)
def cW (p0:M.Registration):Nat→Int→Int→Option Bool
 | 0,_,_=>none
 | nL1+1,v3,v14=>if (decide (v14<((3:Nat):Int)))=true then ((idx ([p0.Active,p0.Waiting,p0.Installing]) v14).bind fun x18=>((bA x18 0 1000000000000).bind fun x23=>(if (!x23)=true then (some false) else (if (x18 != 0)=true then (if (decide (x18≤v3))=true then (some false) else (cW p0 nL1 (if x18>v3 then x18 else v3) (i64.wrap (v14+1)))) else (cW p0 nL1 (if x18>v3 then x18 else v3) (i64.wrap (v14+1))))))) else ((bW p0.Site).bind fun x28=>(some x28))
def pA (p0:M.Registration):Option Bool:=
 cW p0 fuel 0 0
def sU (p0:M.Cached) (c0:ByteArray) (c1:ByteArray):Option Bool:=
 if (p0.Site.toList==c0.toList)=true then (some (p0.Path.toList==c1.toList)) else (some false)
def bT (p0:List M.Cached) (p1:M.Cached→Option Bool):Nat→Int→Option Int
 | 0,_=>none
 | nL1+1,v8=>if (decide (v8<(List.length p0:Int)))=true then ((idx p0 v8).bind fun x7=>((p1 x7).bind fun x12=>(if x12=true then (some v8) else (bT p0 p1 nL1 (i64.wrap (v8+1)))))) else (some (-1))
def hM (p0:List M.Cached) (p1:M.Cached→Option Bool):Option Int:=
 bT p0 p1 fuel 0
def uL (p0:M.Cache) (p1:ByteArray) (p2:ByteArray):Option Int:=
 (hM p0.Entries (fun z0=>sU z0 p1 p2)).bind fun x1=>(some x1)
def lS (p0:M.Response):Option Bool:=
 (bA p0.Type_ 1 4).bind fun x1=>(if x1=true then ((bA p0.Status 0 999).bind fun x4=>(if x4=true then ((bA p0.Version 0 1000000000000).bind fun x7=>(if x7=true then (some (decide ((List.length p0.Body:Int)≤60))) else (some false))) else (some false))) else (some false))
def eR (x8:M.Cache) (k25:Int→Option Bool):Nat→Int→Option Bool
 | 0,_=>none
 | nL2+1,v44_L2=>if (decide (v44_L2<(List.length x8.Entries:Int)))=true then ((idx x8.Entries v44_L2).bind fun x38=>((bW x38.Site).bind fun x43=>(if (!x43)=true then (some false) else ((bW x38.Path).bind fun x46=>(if (!x46)=true then (some false) else ((uL x8 x38.Site x38.Path).bind fun x49=>(if (x49 != v44_L2)=true then (some false) else ((lS x38.Response).bind fun x52=>(if (!x52)=true then (some false) else (eR x8 k25 nL2 (i64.wrap (v44_L2+1)))))))))))) else (k25 v44_L2)
def eD (x8:M.Cache) (k57:Int→Option Bool):Nat→Int→Option Bool
 | 0,_=>none
 | nL3+1,v44_L3=>if (decide (v44_L3<(List.length x8.Entries:Int)))=true then ((idx x8.Entries v44_L3).bind fun x70=>((bW x70.Site).bind fun x75=>(if (!x75)=true then (some false) else ((bW x70.Path).bind fun x78=>(if (!x78)=true then (some false) else ((uL x8 x70.Site x70.Path).bind fun x81=>(if (x81 != v44_L3)=true then (some false) else ((lS x70.Response).bind fun x84=>(if (!x84)=true then (some false) else (eD x8 k57 nL3 (i64.wrap (v44_L3+1)))))))))))) else (k57 v44_L3)
def eQ (p0:M.aT):Nat→Int→Option Bool
 | 0,_=>none
 | nL1+1,v10=>if (decide (v10<(List.length p0.Caches:Int)))=true then ((idx p0.Caches v10).bind fun x8=>((bA x8.Version 1 1000000000000).bind fun x13=>(if (!x13)=true then (some false) else (if (decide (v10>0))=true then ((idx p0.Caches (i64.wrap (v10-1))).bind fun x17=>(if (decide (x8.Version≤x17.Version))=true then (some false) else (if (decide ((List.length x8.Entries:Int)>12))=true then (some false) else (eR x8 (fun (v44_L2:Int)=>eQ p0 nL1 (i64.wrap (v10+1))) fuel 0)))) else (if (decide ((List.length x8.Entries:Int)>12))=true then (some false) else (eD x8 (fun (v44_L3:Int)=>eQ p0 nL1 (i64.wrap (v10+1))) fuel 0)))))) else (some (decide ((List.length p0.Caches:Int)≤4)))
def pR (p0:M.aT):Option Bool:=
 eQ p0 fuel 0
def dR (p0:ByteArray):Nat→Int→Option Bool
 | 0,_=>none
 | nL1+1,v3=>if (decide (v3<(p0.size:Int)))=true then ((aNR p0 v3).bind fun x5=>(if (decide ((x5.toNat:Int)≥97))=true then (if (decide ((x5.toNat:Int)≤122))=true then (dR p0 nL1 (i64.wrap (v3+1))) else (if (decide ((x5.toNat:Int)≥48))=true then (if (!(decide ((x5.toNat:Int)≤57)))=true then (some false) else (dR p0 nL1 (i64.wrap (v3+1)))) else (some false))) else (if (decide ((x5.toNat:Int)≥48))=true then (if (!(decide ((x5.toNat:Int)≤57)))=true then (some false) else (dR p0 nL1 (i64.wrap (v3+1)))) else (some false)))) else (some (decide ((p0.size:Int)≤12)))
def sH (p0:ByteArray):Option Bool:=
 dR p0 fuel 0
def oC (p0:M.Key):Option Bool:=
 (bA p0.Kind 1 3).bind fun x1=>(if (!x1)=true then (some false) else ((bA p0.N (-1000000000000) 1000000000000).bind fun x4=>(if (!x4)=true then (some false) else ((sH p0.Text).bind fun x7=>(if (!x7)=true then (some false) else (if (p0.Kind==2)=true then (if (!(p0.N != 0))=true then (if (p0.Kind==1)=true then (some (!(!(p0.Text.toList==(⟨#[]⟩:ByteArray).toList)))) else (some true)) else (some false)) else (if (p0.Kind==1)=true then (some (!(!(p0.Text.toList==(⟨#[]⟩:ByteArray).toList)))) else (some true))))))))
def fY (p0:M.aU):Nat→Int→Option Bool
 | 0,_=>none
 | nL1+1,v8=>if (decide (v8<(List.length p0.Fields:Int)))=true then ((idx p0.Fields v8).bind fun x8=>((bW x8.Name).bind fun x13=>(if (!x13)=true then (some false) else ((bA x8.N 0 1000000000).bind fun x16=>(if (!x16)=true then (some false) else (if (decide (v8>0))=true then ((idx p0.Fields (i64.wrap (v8-1))).bind fun x20=>(if (Op.bytesLess x8.Name.toList x20.Name.toList||x8.Name.toList==x20.Name.toList)=true then (some false) else (fY p0 nL1 (i64.wrap (v8+1))))) else (fY p0 nL1 (i64.wrap (v8+1))))))))) else (some (decide ((List.length p0.Fields:Int)≤6)))
def pX (p0:M.aU):Option Bool:=
 fY p0 fuel 0
def nY (p0:Int) (p1:Int):Option Int:=
 if (decide (p0<p1))=true then (some (-1)) else (if (decide (p0>p1))=true then (some 1) else (some 0))
def jE (p0:ByteArray) (p1:ByteArray):Option Int:=some (Lib.compareBytes p0.data.toList p1.data.toList)
def xG (p0:ByteArray) (p1:ByteArray):Option Int:=
 (jE p0 p1).bind fun x1=>(some x1)
def kK (p0:M.Key) (p1:M.Key):Option Int:=
 (oC p0).bind fun x1=>(if (!x1)=true then (some 0) else ((oC p1).bind fun x4=>(if (!x4)=true then (some 0) else ((nY p0.Kind p1.Kind).bind fun x7=>(if (x7 != 0)=true then (some x7) else ((nY p0.N p1.N).bind fun x10=>(if (x10 != 0)=true then (some x10) else ((xG p0.Text p1.Text).bind fun x13=>(some x13)))))))))
def gR (p0:M.aH):Nat→Int→Option Bool
 | 0,_=>none
 | nL1+1,v8=>if (decide (v8<(List.length p0.Items:Int)))=true then ((idx p0.Items v8).bind fun x8=>((oC x8.Key).bind fun x13=>(if (!x13)=true then (some false) else ((pX x8.aU).bind fun x16=>(if (!x16)=true then (some false) else (if (decide (v8>0))=true then ((idx p0.Items (i64.wrap (v8-1))).bind fun x20=>((kK x20.Key x8.Key).bind fun x25=>(if (decide (x25≥0))=true then (some false) else (gR p0 nL1 (i64.wrap (v8+1)))))) else (gR p0 nL1 (i64.wrap (v8+1))))))))) else ((bW p0.Name).bind fun x28=>(if x28=true then (if (decide ((List.length p0.Items:Int)≤16))=true then ((bA p0.Auto 0 1000000).bind fun x32=>(some x32)) else (some false)) else (some false)))
def pD (p0:M.aH):Option Bool:=
 gR p0 fuel 0
def oF (p0:M.aH) (c0:ByteArray):Option Bool:=
 some (p0.Name.toList==c0.toList)
def bZ (p0:List M.aH) (p1:M.aH→Option Bool):Nat→Int→Option Int
 | 0,_=>none
 | nL1+1,v8=>if (decide (v8<(List.length p0:Int)))=true then ((idx p0 v8).bind fun x7=>((p1 x7).bind fun x12=>(if x12=true then (some v8) else (bZ p0 p1 nL1 (i64.wrap (v8+1)))))) else (some (-1))
def iF (p0:List M.aH) (p1:M.aH→Option Bool):Option Int:=
 bZ p0 p1 fuel 0
def sO (p0:M.Database) (p1:ByteArray):Option Int:=
 (iF p0.Stores (fun z0=>oF z0 p1)).bind fun x1=>(some x1)
def dF (p0:List M.aA) (p1:M.aA):Nat→Int→Option Int
 | 0,_=>none
 | nL1+1,v8=>if (decide (v8<(List.length p0:Int)))=true then ((idx p0 v8).bind fun x8=>(if ((p1.aH.toList==x8.aH.toList)&&(p1.Field.toList==x8.Field.toList))=true then (some v8) else (dF p0 p1 nL1 (i64.wrap (v8+1))))) else (some (-1))
def iP (p0:List M.aA) (p1:M.aA):Option Int:=
 dF p0 p1 fuel 0
def gT (p0:List M.aA) (p1:M.aA):Option Bool:=
 (iP p0 p1).bind fun x1=>(some (decide (x1≥0)))
def sA (p0:M.Field) (c0:ByteArray):Option Bool:=
 some (p0.Name.toList==c0.toList)
def bY (p0:List M.Field) (p1:M.Field→Option Bool):Nat→Int→Option Int
 | 0,_=>none
 | nL1+1,v8=>if (decide (v8<(List.length p0:Int)))=true then ((idx p0 v8).bind fun x7=>((p1 x7).bind fun x12=>(if x12=true then (some v8) else (bY p0 p1 nL1 (i64.wrap (v8+1)))))) else (some (-1))
def iJ (p0:List M.Field) (p1:M.Field→Option Bool):Option Int:=
 bY p0 p1 fuel 0
def aBA (p0:M.aU) (p1:ByteArray):Option Int:=
 (iJ p0.Fields (fun z0=>sA z0 p1)).bind fun x1=>(some x1)
def iQ (p0:M.aU) (p1:ByteArray):Option (Int×Bool):=
 (aBA p0 p1).bind fun x1=>(if (decide (x1<0))=true then (some (0,false)) else ((idx p0.Fields x1).bind fun x4=>(some (x4.N,true))))
def oN (p0:M.Item) (p1:M.Item) (p2:ByteArray):Option Bool:=
 (iQ p0.aU p2).bind fun x1=>((iQ p1.aU p2).bind fun x3=>(if (decide (x1.1<x3.1))=true then (some true) else (if (x1.1==x3.1)=true then ((kK p0.Key p1.Key).bind fun x7=>(some (decide (x7<0)))) else (some false))))
def gN (p1:ByteArray) (r11:List M.Item) (x15:M.Item) (k24:Int→Option (List M.Item)):Nat→Int→Option (List M.Item)
 | 0,_=>none
 | nL2+1,v10_L2=>if (decide (v10_L2>0))=true then ((idx r11 (i64.wrap (v10_L2-1))).bind fun x36=>((oN x15 x36 p1).bind fun x41=>(if x41=true then (gN p1 r11 x15 k24 nL2 (i64.wrap (v10_L2-1))) else (k24 v10_L2)))) else (k24 v10_L2)
def gJ (p0:M.aH) (p1:ByteArray):Nat→Int→List M.Item→Option (List M.Item)
 | 0,_,_=>none
 | nL1+1,v15,r11=>if (decide (v15<(List.length p0.Items:Int)))=true then ((idx p0.Items v15).bind fun x15=>((iQ x15.aU p1).bind fun x20=>(if (!x20.2)=true then (gJ p0 p1 nL1 (i64.wrap (v15+1)) r11) else (gN p1 r11 x15 (fun (v10_L2:Int)=>(qT x15).bind fun x55=>((aMX 56 r11 v10_L2 ([x55])).bind fun x57=>(gJ p0 p1 nL1 (i64.wrap (v15+1)) (List.take v10_L2.toNat r11++([x55]++List.drop v10_L2.toNat r11))))) fuel (List.length r11:Int))))) else (some r11)
def yH (p0:M.aH) (p1:ByteArray):Option (List M.Item):=
 gJ p0 p1 fuel 0 ([]:List M.Item)
def eX (p1:ByteArray) (x1:(List M.Item)):Nat→Int→Option (M.Key×M.Key×Bool)
 | 0,_=>none
 | nL1+1,v8=>if (decide (v8<(List.length x1:Int)))=true then ((idx x1 (i64.wrap (v8-1))).bind fun x13=>((iQ x13.aU p1).bind fun x18=>((idx x1 v8).bind fun x20=>((iQ x20.aU p1).bind fun x25=>(if (x18.1==x25.1)=true then (some (x13.Key,x20.Key,true)) else (eX p1 x1 nL1 (i64.wrap (v8+1)))))))) else (some ((⟨0,0,(⟨#[]⟩:ByteArray)⟩:M.Key),(⟨0,0,(⟨#[]⟩:ByteArray)⟩:M.Key),false))
def hH (p0:M.aH) (p1:ByteArray):Option (M.Key×M.Key×Bool):=
 (yH p0 p1).bind fun x1=>(eX p1 x1 fuel 1)
def dE (p0:M.Database):Nat→Int→Option Bool
 | 0,_=>none
 | nL2+1,v64=>if (decide (v64<(List.length p0.Unique:Int)))=true then ((idx p0.Unique v64).bind fun x38=>((sO p0 x38.aH).bind fun x43=>(if (decide (x43<0))=true then (some false) else ((bW x38.Field).bind fun x46=>(if (!x46)=true then (some false) else ((aEY p0.Unique v64).bind fun x49=>((gT (List.take v64.toNat p0.Unique) x38).bind fun x51=>(if x51=true then (some false) else ((idx p0.Stores x43).bind fun x54=>((hH x54 x38.Field).bind fun x59=>(if x59.2.2=true then (some false) else (dE p0 nL2 (i64.wrap (v64+1)))))))))))))) else (some true)
def dC (p0:M.Database):Nat→Int→Option Bool
 | 0,_=>none
 | nL1+1,v36=>if (decide (v36<(List.length p0.Stores:Int)))=true then ((idx p0.Stores v36).bind fun x16=>((pD x16).bind fun x21=>(if (!x21)=true then (some false) else (if (decide (v36>0))=true then ((idx p0.Stores (i64.wrap (v36-1))).bind fun x25=>(if (Op.bytesLess x16.Name.toList x25.Name.toList||x16.Name.toList==x25.Name.toList)=true then (some false) else (dC p0 nL1 (i64.wrap (v36+1))))) else (dC p0 nL1 (i64.wrap (v36+1))))))) else (dE p0 fuel 0)
def pQ (p0:M.Database):Option Bool:=
 (bW p0.Name).bind fun x1=>(if (!x1)=true then (some false) else ((bA p0.Version 0 1000).bind fun x4=>(if (!x4)=true then (some false) else (if (decide ((List.length p0.Stores:Int)>4))=true then (some false) else (if (decide ((List.length p0.Unique:Int)>4))=true then (some false) else (dC p0 fuel 0))))))
def iV (p0:M.aY):Option Bool:=
 (bA p0.Device 1 1000000).bind fun x1=>(if x1=true then ((bA p0.Seq 1 1000000).bind fun x4=>(if x4=true then ((oC p0.Key).bind fun x7=>(if x7=true then ((bW p0.Field).bind fun x10=>(if x10=true then ((bA p0.N 0 1000000000).bind fun x13=>(some x13)) else (some false))) else (some false))) else (some false))) else (some false))
def iO (p0:M.aV):Nat→Int→Option Bool
 | 0,_=>none
 | nL1+1,v12=>if (decide (v12<(List.length p0.Writes:Int)))=true then ((idx p0.Writes v12).bind fun x9=>((iV x9).bind fun x14=>(if (!x14)=true then (some false) else (if (x9.Device != p0.Device)=true then (some false) else (if (x9.Seq != (i64.wrap ((i64.wrap (p0.Next-(List.length p0.Writes:Int)))+v12)))=true then (some false) else (iO p0 nL1 (i64.wrap (v12+1)))))))) else ((bA p0.Device 1 1000000).bind fun x19=>(if x19=true then ((bA p0.Next 1 1000000).bind fun x22=>(if x22=true then (some (decide ((List.length p0.Writes:Int)≤20))) else (some false))) else (some false)))
def vX (p0:M.aV):Option Bool:=
 iO p0 fuel 0
def uD (p0:M.aD):Option Bool:=
 (pD p0.Base).bind fun x1=>(if x1=true then (if (p0.Base.Name.toList==(⟨#[110,111,116,101,115]⟩:ByteArray).toList)=true then ((bA p0.Seen 0 1000000000000).bind fun x5=>(if x5=true then ((vX p0.Sync.aV).bind fun x8=>(some x8)) else (some false))) else (some false)) else (some false))
def qZ (p0:M.Response) (p1:Bool):Option Int:=
 if p1=true then (some 76) else (some (i64.wrap (16+(List.length p0.Body:Int))))
def gV (x7:M.Cache) (k13:Int→Int→Option Int):Nat→Int→Int→Option Int
 | 0,_,_=>none
 | nL2+1,v3_L2,v18_L2=>if (decide (v18_L2<(List.length x7.Entries:Int)))=true then ((idx x7.Entries v18_L2).bind fun x23=>((qZ x23.Response (x23.Response.Type_==3)).bind fun x28=>(gV x7 k13 nL2 (i64.wrap (v3_L2+x28)) (i64.wrap (v18_L2+1))))) else (k13 v3_L2 v18_L2)
def eP (p0:M.aT):Nat→Int→Int→Option Int
 | 0,_,_=>none
 | nL1+1,v3,v11=>if (decide (v11<(List.length p0.Caches:Int)))=true then ((idx p0.Caches v11).bind fun x7=>(gV x7 (fun (v3_L2:Int) (v18_L2:Int)=>eP p0 nL1 v3_L2 (i64.wrap (v11+1))) fuel v3 0)) else (some v3)
def qN (p0:M.aT):Option Int:=
 eP p0 fuel 0 0
def dV (p0:M.Key):Nat→Int→List Int→Option (List Int)
 | 0,_,_=>none
 | nL1+1,v4,r12=>if (decide (v4≥0))=true then (if (decide (0≤(i64.wrap (8*v4))))=true then ((app 1 r12 ([(IntKind.u8.wrap (Int.fdiv (i64.wrap (p0.N+1000000000000)) (2^(min (i64.wrap (8*v4)).toNat IntKind.i64.bits))))])).bind fun x18=>(dV p0 nL1 (i64.wrap (v4-1)) (r12++[(IntKind.u8.wrap (Int.fdiv (i64.wrap (p0.N+1000000000000)) (2^(min (i64.wrap (8*v4)).toNat IntKind.i64.bits))))]))) else none) else ((app 1 r12 (lL p0.Text)).bind fun x26=>(some (r12++lL p0.Text)))
def tR (p0:M.Key):Option (List Int):=
 (oC p0).bind fun x1=>(if (!x1)=true then (some ([]:List Int)) else (if (p0.Kind != 2)=true then (dV p0 fuel 5 ([(IntKind.u8.wrap p0.Kind)])) else ((app 1 ([(IntKind.u8.wrap p0.Kind)]) (lL p0.Text)).bind fun x28=>(some ([(IntKind.u8.wrap p0.Kind)]++lL p0.Text)))))
def fB  : Nat→Int→List Int→Option (List Int)
 | 0,_,_=>none
 | nL1+1,v1,r7=>if (decide (v1≥128))=true then ((app 1 r7 ([(IntKind.u8.wrap (i64.wrap ((Int.tmod v1 128)+128)))])).bind fun x11=>(fB nL1 (i64.wrap (Int.tdiv v1 128)) (r7++[(IntKind.u8.wrap (i64.wrap ((Int.tmod v1 128)+128)))]))) else ((app 1 r7 ([(IntKind.u8.wrap v1)])).bind fun x17=>(some (r7++[(IntKind.u8.wrap v1)])))
def gU (p0:List Int) (p1:Int):Option (List Int):=
 (jB p0).bind fun x1=>((bA p1 0 1000000000000).bind fun x3=>(if (!x3)=true then (some x1) else (fB fuel p1 x1)))
def oR (p0:List Int) (p1:List Int):Option (List Int):=
 (gU p0 (List.length p1:Int)).bind fun x1=>((app 1 x1 p1).bind fun x3=>(some (x1++p1)))
def fT (p0:M.aU):Nat→Int→List Int→Option (List Int)
 | 0,_,_=>none
 | nL1+1,v17,r50000=>if (decide (v17<(List.length p0.Fields:Int)))=true then ((idx p0.Fields v17).bind fun x13=>((oR r50000 (lL x13.Name)).bind fun x18=>((gU x18 x13.N).bind fun x20=>(fT p0 nL1 (i64.wrap (v17+1)) x20)))) else (some r50000)
def mP (p0:M.aU):Option (List Int):=
 (pX p0).bind fun x1=>(if (!x1)=true then (some ([]:List Int)) else ((gU ([]:List Int) (List.length p0.Fields:Int)).bind fun x4=>(fT p0 fuel 0 x4)))
def hU (p0:M.aH):Nat→Int→Int→Option Int
 | 0,_,_=>none
 | nL1+1,v3,v9=>if (decide (v9<(List.length p0.Items:Int)))=true then ((idx p0.Items v9).bind fun x7=>((tR x7.Key).bind fun x12=>((mP x7.aU).bind fun x14=>(hU p0 nL1 (i64.wrap (v3+(i64.wrap ((List.length x12:Int)+(List.length x14:Int))))) (i64.wrap (v9+1)))))) else (some v3)
def nJ (p0:M.aH):Option Int:=
 hU p0 fuel 0 0
def fO (p0:M.Database):Nat→Int→Int→Option Int
 | 0,_,_=>none
 | nL1+1,v3,v9=>if (decide (v9<(List.length p0.Stores:Int)))=true then ((idx p0.Stores v9).bind fun x7=>((nJ x7).bind fun x12=>(fO p0 nL1 (i64.wrap (v3+x12)) (i64.wrap (v9+1))))) else (some v3)
def mM (p0:M.Database):Option Int:=
 fO p0 fuel 0 0
def aAU (p0:M.bE):Option Int:=
 (mM p0.Base).bind fun x1=>(some (i64.wrap (x1+(List.length p0.Log:Int))))
def yG (p0:M.aF):Option Int:=
 (qN p0.Caches).bind fun x1=>((aAU p0.bE).bind fun x3=>((nJ p0.aD.Base).bind fun x5=>(some (i64.wrap ((i64.wrap ((i64.wrap (x1+x3))+x5))+(i64.wrap (40*(List.length p0.aD.Sync.aV.Writes:Int))))))))
def wG (p0:M.aF):Option Bool:=
 (bW p0.Site).bind fun x1=>(if x1=true then ((bW p0.Top).bind fun x4=>(if x4=true then ((pA p0.Registration).bind fun x7=>(if x7=true then (if (p0.Registration.Site.toList==p0.Site.toList)=true then ((pR p0.Caches).bind fun x11=>(if x11=true then ((pQ p0.bE.Base).bind fun x14=>(if x14=true then ((uD p0.aD).bind fun x17=>(if x17=true then ((bA p0.LastUsed 0 1000000000000).bind fun x20=>(if x20=true then ((yG p0).bind fun x23=>(some (decide (x23≤2500)))) else (some false))) else (some false))) else (some false))) else (some false))) else (some false)) else (some false))) else (some false))) else (some false))
def mY (p0:M.aF) (p1:M.aF):Option Bool:=
 if (Op.bytesLess p0.Site.toList p1.Site.toList)=true then (some true) else (if (p0.Site.toList==p1.Site.toList)=true then (some (Op.bytesLess p0.Top.toList p1.Top.toList)) else (some false))
def fC (p0:M.aM):Nat→Int→Option Bool
 | 0,_=>none
 | nL1+1,v8=>if (decide (v8<(List.length p0.Buckets:Int)))=true then ((idx p0.Buckets v8).bind fun x8=>((wG x8).bind fun x13=>(if (!x13)=true then (some false) else (if (decide (v8>0))=true then ((idx p0.Buckets (i64.wrap (v8-1))).bind fun x17=>((mY x17 x8).bind fun x22=>(if (!x22)=true then (some false) else (fC p0 nL1 (i64.wrap (v8+1)))))) else (fC p0 nL1 (i64.wrap (v8+1))))))) else (some (decide ((List.length p0.Buckets:Int)≤9)))
def tN (p0:M.aM):Option Bool:=
 fC p0 fuel 0
def pT (p0:ByteArray):Option Bool:=
 (xE p0 30 true).bind fun x1=>(some x1)
def bM (p0:M.aE) (v10:Int) (x8:M.bF) (k22:Int→Option Bool):Nat→Int→Option Bool
 | 0,_=>none
 | nL2+1,v30_L2=>if (decide (v30_L2<(List.length (List.take v10.toNat p0.Locks):Int)))=true then ((idx (List.take v10.toNat p0.Locks) v30_L2).bind fun x35=>(if (x35.Name.toList==x8.Name.toList)=true then (if x8.Held=true then (if (!x35.Held)=true then (some false) else (if (!x8.Shared)=true then (some false) else (if (!x35.Shared)=true then (some false) else (bM p0 v10 x8 k22 nL2 (i64.wrap (v30_L2+1)))))) else (bM p0 v10 x8 k22 nL2 (i64.wrap (v30_L2+1)))) else (bM p0 v10 x8 k22 nL2 (i64.wrap (v30_L2+1))))) else (k22 v30_L2)
def dN (p0:M.aE):Nat→Int→Option Bool
 | 0,_=>none
 | nL1+1,v10=>if (decide (v10<(List.length p0.Locks:Int)))=true then ((idx p0.Locks v10).bind fun x8=>((pT x8.Name).bind fun x13=>(if (!x13)=true then (some false) else ((bA x8.bG 1 1000000000000).bind fun x16=>(if (!x16)=true then (some false) else ((aEY p0.Locks v10).bind fun x19=>(bM p0 v10 x8 (fun (v30_L2:Int)=>dN p0 nL1 (i64.wrap (v10+1))) fuel 0))))))) else (some (decide ((List.length p0.Locks:Int)≤12)))
def nX (p0:M.aE):Option Bool:=
 dN p0 fuel 0
def lD (p0:M.bG):Nat→Int→Option Bool
 | 0,_=>none
 | nL1+1,v8=>if (decide (v8<(List.length p0.aN:Int)))=true then ((idx p0.aN v8).bind fun x8=>((bW x8.Path).bind fun x13=>(if (!x13)=true then (some false) else (if (x8.Version != p0.Version)=true then (some false) else (lD p0 nL1 (i64.wrap (v8+1))))))) else ((bA p0.Id 1 1000000000000).bind fun x17=>(if x17=true then ((bW p0.Site).bind fun x20=>(if x20=true then ((bW p0.Top).bind fun x23=>(if x23=true then ((bA p0.Version 1 1000000000000).bind fun x26=>(if x26=true then (some (decide ((List.length p0.aN:Int)≤8))) else (some false))) else (some false))) else (some false))) else (some false)))
def aA0 (p0:M.bG):Option Bool:=
 lD p0 fuel 0
def mK (p0:M.aF) (c0:ByteArray) (c1:ByteArray):Option Bool:=
 if (p0.Site.toList==c0.toList)=true then (some (p0.Top.toList==c1.toList)) else (some false)
def bS (p0:List M.aF) (p1:M.aF→Option Bool):Nat→Int→Option Int
 | 0,_=>none
 | nL1+1,v8=>if (decide (v8<(List.length p0:Int)))=true then ((idx p0 v8).bind fun x7=>((p1 x7).bind fun x12=>(if x12=true then (some v8) else (bS p0 p1 nL1 (i64.wrap (v8+1)))))) else (some (-1))
def hJ (p0:List M.aF) (p1:M.aF→Option Bool):Option Int:=
 bS p0 p1 fuel 0
def lR (p0:M.aM) (p1:ByteArray) (p2:ByteArray):Option Int:=
 (hJ p0.Buckets (fun z0=>mK z0 p1 p2)).bind fun x1=>(some x1)
def hP (p0:M.Site):Nat→Int→Option Bool
 | 0,_=>none
 | nL1+1,v8=>if (decide (v8<(List.length p0.Files:Int)))=true then ((idx p0.Files v8).bind fun x8=>((bW x8).bind fun x13=>(if (!x13)=true then (some false) else (if (decide (v8>0))=true then ((idx p0.Files (i64.wrap (v8-1))).bind fun x17=>(if (Op.bytesLess x8.toList x17.toList||x8.toList==x17.toList)=true then (some false) else (hP p0 nL1 (i64.wrap (v8+1))))) else (hP p0 nL1 (i64.wrap (v8+1))))))) else ((bW p0.Name).bind fun x23=>(if x23=true then ((bA p0.Version 1 1000000000000).bind fun x26=>(if x26=true then ((bA (List.length p0.Files:Int) 1 6).bind fun x29=>(some x29)) else (some false))) else (some false)))
def aAX (p0:M.Site):Option Bool:=
 hP p0 fuel 0
def eT (p0:List ByteArray) (p1:ByteArray):Nat→Int→Option Int
 | 0,_=>none
 | nL1+1,v8=>if (decide (v8<(List.length p0:Int)))=true then ((idx p0 v8).bind fun x7=>(if (p1.toList==x7.toList)=true then (some v8) else (eT p0 p1 nL1 (i64.wrap (v8+1))))) else (some (-1))
def oP (p0:List ByteArray) (p1:ByteArray):Option Int:=
 eT p0 p1 fuel 0
def pZ (p0:ByteArray):Option Int:=
 (oP ([(⟨#[98,97,110,107]⟩:ByteArray),(⟨#[110,101,119,115]⟩:ByteArray),(⟨#[115,104,111,112]⟩:ByteArray)]) p0).bind fun x1=>(some x1)
def hD (p0:M.Server):Nat→Int→Option Bool
 | 0,_=>none
 | nL2+1,v45=>if (decide (v45<(List.length p0.Changes:Int)))=true then ((idx p0.Changes v45).bind fun x33=>((iV x33).bind fun x38=>(if (!x38)=true then (some false) else (hD p0 nL2 (i64.wrap (v45+1)))))) else ((pD p0.aH).bind fun x41=>(if x41=true then (if (p0.aH.Name.toList==(⟨#[110,111,116,101,115]⟩:ByteArray).toList)=true then (some (decide ((List.length p0.aJ:Int)≤60))) else (some false)) else (some false)))
def fX (p0:M.Server):Nat→Int→Option Bool
 | 0,_=>none
 | nL1+1,v10=>if (decide (v10<(List.length p0.aJ:Int)))=true then ((idx p0.aJ v10).bind fun x8=>((bA x8.Device 1 1000000).bind fun x13=>(if (!x13)=true then (some false) else ((bA x8.Seq 0 1000000).bind fun x16=>(if (!x16)=true then (some false) else (if (decide (v10>0))=true then ((idx p0.aJ (i64.wrap (v10-1))).bind fun x20=>(if (decide (x8.Device≤x20.Device))=true then (some false) else (fX p0 nL1 (i64.wrap (v10+1))))) else (fX p0 nL1 (i64.wrap (v10+1))))))))) else (hD p0 fuel 0)
def wI (p0:M.Server):Option Bool:=
 fX p0 fuel 0
def gL (p0:M.World):Nat→Int→Option Bool
 | 0,_=>none
 | nL2+1,v101=>if (decide (v101<(List.length p0.Sites:Int)))=true then ((idx p0.Sites v101).bind fun x55=>((aAX x55).bind fun x60=>(if (!x60)=true then (some false) else ((pZ x55.Name).bind fun x63=>(if (x63 != v101)=true then (some false) else ((idx p0.Servers v101).bind fun x66=>((wI x66).bind fun x71=>(if (!x71)=true then (some false) else (gL p0 nL2 (i64.wrap (v101+1))))))))))) else (some true)
def eS (p0:M.World):Nat→Int→Option Bool
 | 0,_=>none
 | nL1+1,v56=>if (decide (v56<(List.length p0.Pages:Int)))=true then ((idx p0.Pages v56).bind fun x26=>((aA0 x26).bind fun x31=>(if (!x31)=true then (some false) else (if (decide (x26.Id≥p0.NextPage))=true then (some false) else (if (decide (v56>0))=true then ((idx p0.Pages (i64.wrap (v56-1))).bind fun x36=>(if (decide (x26.Id≤x36.Id))=true then (some false) else ((lR p0.aM x26.Site x26.Top).bind fun x42=>(if (decide (x42<0))=true then (some false) else (eS p0 nL1 (i64.wrap (v56+1))))))) else ((lR p0.aM x26.Site x26.Top).bind fun x45=>(if (decide (x45<0))=true then (some false) else (eS p0 nL1 (i64.wrap (v56+1)))))))))) else (gL p0 fuel 0)
def uK (p0:M.World):Option Bool:=
 (bA p0.Now 0 999999990000).bind fun x1=>(if (!x1)=true then (some false) else ((bA p0.Device 1 1000000).bind fun x4=>(if (!x4)=true then (some false) else ((tN p0.aM).bind fun x7=>(if (!x7)=true then (some false) else (if (decide ((List.length p0.Pages:Int)>6))=true then (some false) else ((bA p0.NextPage 1 1000000000000).bind fun x11=>(if (!x11)=true then (some false) else ((nX p0.Locks).bind fun x14=>(if (!x14)=true then (some false) else (if ((List.length p0.Sites:Int) != 3)=true then (some false) else (if ((List.length p0.Servers:Int) != 3)=true then (some false) else (eS p0 fuel 0)))))))))))))
def jZ (p0:M.bF) (c0:Int):Option Bool:=
 some (p0.bG==c0)
def cF (p0:List M.bF) (p1:M.bF→Option Bool):Nat→Int→Option Int
 | 0,_=>none
 | nL1+1,v8=>if (decide (v8<(List.length p0:Int)))=true then ((idx p0 v8).bind fun x7=>((p1 x7).bind fun x12=>(if x12=true then (some v8) else (cF p0 p1 nL1 (i64.wrap (v8+1)))))) else (some (-1))
def iU (p0:List M.bF) (p1:M.bF→Option Bool):Option Int:=
 cF p0 p1 fuel 0
def bN (p1:M.bF→Option Bool):Nat→Int→Int→List M.bF→Option (List M.bF)
 | 0,_,_,_=>none
 | nL1+1,v5,v6,r59000=>if (decide (v6<(List.length r59000:Int)))=true then ((idx r59000 v6).bind fun x11=>((p1 x11).bind fun x16=>(if (!x16)=true then ((idx r59000 v5).bind fun x19=>(bN p1 nL1 (i64.wrap (v5+1)) (i64.wrap (v6+1)) (List.set r59000 v5.toNat x11))) else (bN p1 nL1 v5 (i64.wrap (v6+1)) r59000)))) else ((aDo r59000 v5).bind fun x30=>(some (List.take v5.toNat r59000)))
def iL (p0:List M.bF) (p1:M.bF→Option Bool):Option (List M.bF):=
 (iU p0 p1).bind fun x1=>(if (x1==(-1))=true then (some p0) else (bN p1 fuel x1 (i64.wrap (x1+1)) p0))
def gO (p0:M.aE) (p1:Int):Nat→Int→Option Bool
 | 0,_=>none
 | nL1+1,v12=>if (decide (v12<(List.length (List.take p1.toNat p0.Locks):Int)))=true then ((idx (List.take p1.toNat p0.Locks) v12).bind fun x11=>((idx p0.Locks p1).bind fun x16=>(if (x11.Name.toList==x16.Name.toList)=true then (if (!x11.Held)=true then (some false) else (if (!x11.Shared)=true then (some false) else (if (!x16.Shared)=true then (some false) else (gO p0 p1 nL1 (i64.wrap (v12+1)))))) else (gO p0 p1 nL1 (i64.wrap (v12+1)))))) else (some true)
def zH (p0:M.aE) (p1:Int):Option Bool:=
 (aEY p0.Locks p1).bind fun x1=>(gO p0 p1 fuel 0)
def fM (x1:M.aE):Nat→Int→List M.bF→Option M.aE
 | 0,_,_=>none
 | nL1+1,v10,r6=>if (decide (v10<(List.length x1.Locks:Int)))=true then ((idx r6 v10).bind fun x12=>(if (!x12.Held)=true then ((zH (⟨r6⟩:M.aE) v10).bind fun x18=>(fM x1 nL1 (i64.wrap (v10+1)) (List.set r6 v10.toNat (⟨x12.Name,x12.bG,x12.Shared,x18⟩:M.bF)))) else (fM x1 nL1 (i64.wrap (v10+1)) r6))) else (some (⟨r6⟩:M.aE))
def mF (p0:M.aE):Option M.aE:=
 (kW p0).bind fun x1=>(fM x1 fuel 0 x1.Locks)
def mN (p0:M.aE) (p1:Int):Option M.aE:=
 (kW p0).bind fun x1=>((iL x1.Locks (fun z0=>jZ z0 p1)).bind fun x3=>((mF (⟨x3⟩:M.aE)).bind fun x11=>(some x11)))
def nS (p0:M.bU) (c0:Int):Option Bool:=
 some (p0.To==c0)
def cE (p0:List M.bU) (p1:M.bU→Option Bool):Nat→Int→Option Int
 | 0,_=>none
 | nL1+1,v8=>if (decide (v8<(List.length p0:Int)))=true then ((idx p0 v8).bind fun x7=>((p1 x7).bind fun x12=>(if x12=true then (some v8) else (cE p0 p1 nL1 (i64.wrap (v8+1)))))) else (some (-1))
def iR (p0:List M.bU) (p1:M.bU→Option Bool):Option Int:=
 cE p0 p1 fuel 0
def bO (p1:M.bU→Option Bool):Nat→Int→Int→List M.bU→Option (List M.bU)
 | 0,_,_,_=>none
 | nL1+1,v5,v6,r59000=>if (decide (v6<(List.length r59000:Int)))=true then ((idx r59000 v6).bind fun x11=>((p1 x11).bind fun x16=>(if (!x16)=true then ((idx r59000 v5).bind fun x19=>(bO p1 nL1 (i64.wrap (v5+1)) (i64.wrap (v6+1)) (List.set r59000 v5.toNat x11))) else (bO p1 nL1 v5 (i64.wrap (v6+1)) r59000)))) else ((aDo r59000 v5).bind fun x30=>(some (List.take v5.toNat r59000)))
def iI (p0:List M.bU) (p1:M.bU→Option Bool):Option (List M.bU):=
 (iR p0 p1).bind fun x1=>(if (x1==(-1))=true then (some p0) else (bO p1 fuel x1 (i64.wrap (x1+1)) p0))
def tI (p0:M.Channel) (p1:Int):Option M.Channel:=
 (kT p0).bind fun x1=>((iI x1.Mails (fun z0=>nS z0 p1)).bind fun x3=>(some (⟨x3⟩:M.Channel)))
def nH (p0:M.World) (p1:Int):Option (M.World×Bool):=
 (tH p0).bind fun x1=>((uG p0 p1).bind fun x3=>((uK p0).bind fun x5=>(if (!x5)=true then (some (x1,false)) else (if (decide (x3<0))=true then (some (x1,false)) else ((aEY x1.Pages x3).bind fun x9=>((aDo x1.Pages (i64.wrap (x3+1))).bind fun x11=>((app 144 (List.take x3.toNat x1.Pages) (List.drop (i64.wrap (x3+1)).toNat x1.Pages)).bind fun x13=>((mN x1.Locks p1).bind fun x27=>((tI x1.Channel p1).bind fun x29=>(some ((⟨x1.Now,x1.Online,x1.Device,x1.aM,((List.take x3.toNat x1.Pages)++(List.drop (i64.wrap (x3+1)).toNat x1.Pages)),x1.NextPage,x27,x29,x1.Sites,x1.Servers⟩:M.World),true)))))))))))
def kD (p0:M.Registration) (p1:M.Registration):Option Bool:=
 if (!(p0.Site.toList==p1.Site.toList))=true then (some false) else (if (p0.Installing != p1.Installing)=true then (some false) else (if (p0.Waiting != p1.Waiting)=true then (some false) else (if (p0.Active != p1.Active)=true then (some false) else (some true))))
def lX (p0:List Int) (p1:List Int):Nat→Int→Option Bool
 | 0,_=>none
 | nL1+1,v5=>if (decide (v5<(List.length p0:Int)))=true then ((idx p0 v5).bind fun x7=>((idx p1 v5).bind fun x12=>(if (x7 != x12)=true then (some false) else (lX p0 p1 nL1 (i64.wrap (v5+1)))))) else (some true)
def uO (p0:List Int) (p1:List Int):Option Bool:=
 if ((List.length p0:Int) != (List.length p1:Int))=true then (some false) else (lX p0 p1 fuel 0)
def qR (p0:M.Response) (p1:M.Response):Option Bool:=
 if (p0.Type_ != p1.Type_)=true then (some false) else (if (p0.Status != p1.Status)=true then (some false) else (if (p0.Version != p1.Version)=true then (some false) else ((uO p0.Body p1.Body).bind fun x4=>(if (!x4)=true then (some false) else (if (!(p0.Shares==p1.Shares))=true then (some false) else (some true))))))
def wD (p0:M.Cached) (p1:M.Cached):Option Bool:=
 if (!(p0.Site.toList==p1.Site.toList))=true then (some false) else (if (!(p0.Path.toList==p1.Path.toList))=true then (some false) else ((qR p0.Response p1.Response).bind fun x3=>(if (!x3)=true then (some false) else (some true))))
def jO (p0:List M.Cached) (p1:List M.Cached):Nat→Int→Option Bool
 | 0,_=>none
 | nL1+1,v5=>if (decide (v5<(List.length p0:Int)))=true then ((idx p0 v5).bind fun x7=>((idx p1 v5).bind fun x12=>((wD x7 x12).bind fun x17=>(if (!x17)=true then (some false) else (jO p0 p1 nL1 (i64.wrap (v5+1))))))) else (some true)
def tA (p0:List M.Cached) (p1:List M.Cached):Option Bool:=
 if ((List.length p0:Int) != (List.length p1:Int))=true then (some false) else (jO p0 p1 fuel 0)
def zF (p0:M.Cache) (p1:M.Cache):Option Bool:=
 if (p0.Version != p1.Version)=true then (some false) else ((tA p0.Entries p1.Entries).bind fun x2=>(if (!x2)=true then (some false) else (some true)))
def kN (p0:List M.Cache) (p1:List M.Cache):Nat→Int→Option Bool
 | 0,_=>none
 | nL1+1,v5=>if (decide (v5<(List.length p0:Int)))=true then ((idx p0 v5).bind fun x7=>((idx p1 v5).bind fun x12=>((zF x7 x12).bind fun x17=>(if (!x17)=true then (some false) else (kN p0 p1 nL1 (i64.wrap (v5+1))))))) else (some true)
def wM (p0:List M.Cache) (p1:List M.Cache):Option Bool:=
 if ((List.length p0:Int) != (List.length p1:Int))=true then (some false) else (kN p0 p1 fuel 0)
def qG (p0:M.aT) (p1:M.aT):Option Bool:=
 (wM p0.Caches p1.Caches).bind fun x1=>(if (!x1)=true then (some false) else (some true))
def aAA (p0:M.Key) (p1:M.Key):Option Bool:=
 if (p0.Kind != p1.Kind)=true then (some false) else (if (p0.N != p1.N)=true then (some false) else (if (!(p0.Text.toList==p1.Text.toList))=true then (some false) else (some true)))
def xU (p0:M.Field) (p1:M.Field):Option Bool:=
 if (!(p0.Name.toList==p1.Name.toList))=true then (some false) else (if (p0.N != p1.N)=true then (some false) else (some true))
def kJ (p0:List M.Field) (p1:List M.Field):Nat→Int→Option Bool
 | 0,_=>none
 | nL1+1,v5=>if (decide (v5<(List.length p0:Int)))=true then ((idx p0 v5).bind fun x7=>((idx p1 v5).bind fun x12=>((xU x7 x12).bind fun x17=>(if (!x17)=true then (some false) else (kJ p0 p1 nL1 (i64.wrap (v5+1))))))) else (some true)
def wQ (p0:List M.Field) (p1:List M.Field):Option Bool:=
 if ((List.length p0:Int) != (List.length p1:Int))=true then (some false) else (kJ p0 p1 fuel 0)
def wS (p0:M.aU) (p1:M.aU):Option Bool:=
 (wQ p0.Fields p1.Fields).bind fun x1=>(if (!x1)=true then (some false) else (some true))
def aAL (p0:M.Item) (p1:M.Item):Option Bool:=
 (aAA p0.Key p1.Key).bind fun x1=>(if (!x1)=true then (some false) else ((wS p0.aU p1.aU).bind fun x4=>(if (!x4)=true then (some false) else (some true))))
def lU (p0:List M.Item) (p1:List M.Item):Nat→Int→Option Bool
 | 0,_=>none
 | nL1+1,v5=>if (decide (v5<(List.length p0:Int)))=true then ((idx p0 v5).bind fun x7=>((idx p1 v5).bind fun x12=>((aAL x7 x12).bind fun x17=>(if (!x17)=true then (some false) else (lU p0 p1 nL1 (i64.wrap (v5+1))))))) else (some true)
def zK (p0:List M.Item) (p1:List M.Item):Option Bool:=
 if ((List.length p0:Int) != (List.length p1:Int))=true then (some false) else (lU p0 p1 fuel 0)
def pH (p0:M.aH) (p1:M.aH):Option Bool:=
 if (!(p0.Name.toList==p1.Name.toList))=true then (some false) else ((zK p0.Items p1.Items).bind fun x2=>(if (!x2)=true then (some false) else (if (p0.Auto != p1.Auto)=true then (some false) else (some true))))
def kH (p0:List M.aH) (p1:List M.aH):Nat→Int→Option Bool
 | 0,_=>none
 | nL1+1,v5=>if (decide (v5<(List.length p0:Int)))=true then ((idx p0 v5).bind fun x7=>((idx p1 v5).bind fun x12=>((pH x7 x12).bind fun x17=>(if (!x17)=true then (some false) else (kH p0 p1 nL1 (i64.wrap (v5+1))))))) else (some true)
def vG (p0:List M.aH) (p1:List M.aH):Option Bool:=
 if ((List.length p0:Int) != (List.length p1:Int))=true then (some false) else (kH p0 p1 fuel 0)
def qU (p0:M.aA) (p1:M.aA):Option Bool:=
 if (!(p0.aH.toList==p1.aH.toList))=true then (some false) else (if (!(p0.Field.toList==p1.Field.toList))=true then (some false) else (some true))
def iD (p0:List M.aA) (p1:List M.aA):Nat→Int→Option Bool
 | 0,_=>none
 | nL1+1,v5=>if (decide (v5<(List.length p0:Int)))=true then ((idx p0 v5).bind fun x7=>((idx p1 v5).bind fun x12=>((qU x7 x12).bind fun x17=>(if (!x17)=true then (some false) else (iD p0 p1 nL1 (i64.wrap (v5+1))))))) else (some true)
def oI (p0:List M.aA) (p1:List M.aA):Option Bool:=
 if ((List.length p0:Int) != (List.length p1:Int))=true then (some false) else (iD p0 p1 fuel 0)
def rC (p0:M.Database) (p1:M.Database):Option Bool:=
 if (!(p0.Name.toList==p1.Name.toList))=true then (some false) else (if (p0.Version != p1.Version)=true then (some false) else ((vG p0.Stores p1.Stores).bind fun x3=>(if (!x3)=true then (some false) else ((oI p0.Unique p1.Unique).bind fun x6=>(if (!x6)=true then (some false) else (some true))))))
def aAj (p0:M.bE) (p1:M.bE):Option Bool:=
 (rC p0.Base p1.Base).bind fun x1=>(if (!x1)=true then (some false) else ((uO p0.Log p1.Log).bind fun x4=>(if (!x4)=true then (some false) else (if (p0.Count != p1.Count)=true then (some false) else (some true)))))
def xX (p0:M.aY) (p1:M.aY):Option Bool:=
 if (p0.Device != p1.Device)=true then (some false) else (if (p0.Seq != p1.Seq)=true then (some false) else ((aAA p0.Key p1.Key).bind fun x3=>(if (!x3)=true then (some false) else (if (!(p0.Field.toList==p1.Field.toList))=true then (some false) else (if (p0.N != p1.N)=true then (some false) else (some true))))))
def kR (p0:List M.aY) (p1:List M.aY):Nat→Int→Option Bool
 | 0,_=>none
 | nL1+1,v5=>if (decide (v5<(List.length p0:Int)))=true then ((idx p0 v5).bind fun x7=>((idx p1 v5).bind fun x12=>((xX x7 x12).bind fun x17=>(if (!x17)=true then (some false) else (kR p0 p1 nL1 (i64.wrap (v5+1))))))) else (some true)
def rE (p0:List M.aY) (p1:List M.aY):Option Bool:=
 if ((List.length p0:Int) != (List.length p1:Int))=true then (some false) else (kR p0 p1 fuel 0)
def wV (p0:M.aV) (p1:M.aV):Option Bool:=
 if (p0.Device != p1.Device)=true then (some false) else (if (p0.Next != p1.Next)=true then (some false) else ((rE p0.Writes p1.Writes).bind fun x3=>(if (!x3)=true then (some false) else (some true))))
def aAQ (p0:M.Sync) (p1:M.Sync):Option Bool:=
 (wV p0.aV p1.aV).bind fun x1=>(if (!x1)=true then (some false) else (if (p0.Tries != p1.Tries)=true then (some false) else (if (p0.WaitUntil != p1.WaitUntil)=true then (some false) else (some true))))
def tJ (p0:M.aD) (p1:M.aD):Option Bool:=
 (pH p0.Base p1.Base).bind fun x1=>(if (!x1)=true then (some false) else (if (p0.Seen != p1.Seen)=true then (some false) else ((aAQ p0.Sync p1.Sync).bind fun x5=>(if (!x5)=true then (some false) else (some true)))))
def vU (p0:M.aF) (p1:M.aF):Option Bool:=
 if (!(p0.Site.toList==p1.Site.toList))=true then (some false) else (if (!(p0.Top.toList==p1.Top.toList))=true then (some false) else ((kD p0.Registration p1.Registration).bind fun x3=>(if (!x3)=true then (some false) else ((qG p0.Caches p1.Caches).bind fun x6=>(if (!x6)=true then (some false) else ((aAj p0.bE p1.bE).bind fun x9=>(if (!x9)=true then (some false) else ((tJ p0.aD p1.aD).bind fun x12=>(if (!x12)=true then (some false) else (if (p0.LastUsed != p1.LastUsed)=true then (some false) else (if (!(p0.Persistent==p1.Persistent))=true then (some false) else (some true))))))))))))
def jH (p0:List M.aF) (p1:List M.aF):Nat→Int→Option Bool
 | 0,_=>none
 | nL1+1,v5=>if (decide (v5<(List.length p0:Int)))=true then ((idx p0 v5).bind fun x7=>((idx p1 v5).bind fun x12=>((vU x7 x12).bind fun x17=>(if (!x17)=true then (some false) else (jH p0 p1 nL1 (i64.wrap (v5+1))))))) else (some true)
def tX (p0:List M.aF) (p1:List M.aF):Option Bool:=
 if ((List.length p0:Int) != (List.length p1:Int))=true then (some false) else (jH p0 p1 fuel 0)
def tW (p0:M.aM) (p1:M.aM):Option Bool:=
 (tX p0.Buckets p1.Buckets).bind fun x1=>(if (!x1)=true then (some false) else (some true))
def vE (p0:M.aN) (p1:M.aN):Option Bool:=
 if (!(p0.Path.toList==p1.Path.toList))=true then (some false) else (if (p0.Version != p1.Version)=true then (some false) else (some true))
def jR (p0:List M.aN) (p1:List M.aN):Nat→Int→Option Bool
 | 0,_=>none
 | nL1+1,v5=>if (decide (v5<(List.length p0:Int)))=true then ((idx p0 v5).bind fun x7=>((idx p1 v5).bind fun x12=>((vE x7 x12).bind fun x17=>(if (!x17)=true then (some false) else (jR p0 p1 nL1 (i64.wrap (v5+1))))))) else (some true)
def tZ (p0:List M.aN) (p1:List M.aN):Option Bool:=
 if ((List.length p0:Int) != (List.length p1:Int))=true then (some false) else (jR p0 p1 fuel 0)
def xS (p0:M.Instr) (p1:M.Instr):Option Bool:=
 if (p0.Kind != p1.Kind)=true then (some false) else (if (p0.R != p1.R)=true then (some false) else (if (p0.N != p1.N)=true then (some false) else (if (!(p0.Text.toList==p1.Text.toList))=true then (some false) else (some true))))
def kL (p0:List M.Instr) (p1:List M.Instr):Nat→Int→Option Bool
 | 0,_=>none
 | nL1+1,v5=>if (decide (v5<(List.length p0:Int)))=true then ((idx p0 v5).bind fun x7=>((idx p1 v5).bind fun x12=>((xS x7 x12).bind fun x17=>(if (!x17)=true then (some false) else (kL p0 p1 nL1 (i64.wrap (v5+1))))))) else (some true)
def wL (p0:List M.Instr) (p1:List M.Instr):Option Bool:=
 if ((List.length p0:Int) != (List.length p1:Int))=true then (some false) else (kL p0 p1 fuel 0)
def nI (p0:List Int) (p1:List Int):Nat→Int→Option Bool
 | 0,_=>none
 | nL1+1,v5=>if (decide (v5<(List.length p0:Int)))=true then ((idx p0 v5).bind fun x7=>((idx p1 v5).bind fun x12=>(if (x7 != x12)=true then (some false) else (nI p0 p1 nL1 (i64.wrap (v5+1)))))) else (some true)
def aAk (p0:List Int) (p1:List Int):Option Bool:=
 if ((List.length p0:Int) != (List.length p1:Int))=true then (some false) else (nI p0 p1 fuel 0)
def sD (p0:M.Machine) (p1:M.Machine):Option Bool:=
 (wL p0.Script p1.Script).bind fun x1=>(if (!x1)=true then (some false) else (if (p0.Pc != p1.Pc)=true then (some false) else ((aAk p0.Regs p1.Regs).bind fun x5=>(if (!x5)=true then (some false) else (if (p0.Steps != p1.Steps)=true then (some false) else (if (!(p0.Done==p1.Done))=true then (some false) else (if (!(p0.Wait==p1.Wait))=true then (some false) else (some true))))))))
def aAZ (p0:M.bG) (p1:M.bG):Option Bool:=
 if (p0.Id != p1.Id)=true then (some false) else (if (!(p0.Site.toList==p1.Site.toList))=true then (some false) else (if (!(p0.Top.toList==p1.Top.toList))=true then (some false) else (if (p0.Version != p1.Version)=true then (some false) else ((tZ p0.aN p1.aN).bind fun x5=>(if (!x5)=true then (some false) else ((sD p0.Machine p1.Machine).bind fun x8=>(if (!x8)=true then (some false) else (some true))))))))
def mC (p0:List M.bG) (p1:List M.bG):Nat→Int→Option Bool
 | 0,_=>none
 | nL1+1,v5=>if (decide (v5<(List.length p0:Int)))=true then ((idx p0 v5).bind fun x7=>((idx p1 v5).bind fun x12=>((aAZ x7 x12).bind fun x17=>(if (!x17)=true then (some false) else (mC p0 p1 nL1 (i64.wrap (v5+1))))))) else (some true)
def yQ (p0:List M.bG) (p1:List M.bG):Option Bool:=
 if ((List.length p0:Int) != (List.length p1:Int))=true then (some false) else (mC p0 p1 fuel 0)
def aAt (p0:M.bF) (p1:M.bF):Option Bool:=
 if (!(p0.Name.toList==p1.Name.toList))=true then (some false) else (if (p0.bG != p1.bG)=true then (some false) else (if (!(p0.Shared==p1.Shared))=true then (some false) else (if (!(p0.Held==p1.Held))=true then (some false) else (some true))))
def mE (p0:List M.bF) (p1:List M.bF):Nat→Int→Option Bool
 | 0,_=>none
 | nL1+1,v5=>if (decide (v5<(List.length p0:Int)))=true then ((idx p0 v5).bind fun x7=>((idx p1 v5).bind fun x12=>((aAt x7 x12).bind fun x17=>(if (!x17)=true then (some false) else (mE p0 p1 nL1 (i64.wrap (v5+1))))))) else (some true)
def yB (p0:List M.bF) (p1:List M.bF):Option Bool:=
 if ((List.length p0:Int) != (List.length p1:Int))=true then (some false) else (mE p0 p1 fuel 0)
def oL (p0:M.aE) (p1:M.aE):Option Bool:=
 (yB p0.Locks p1.Locks).bind fun x1=>(if (!x1)=true then (some false) else (some true))
def aAx (p0:M.bU) (p1:M.bU):Option Bool:=
 if (p0.To != p1.To)=true then (some false) else (if (p0.From != p1.From)=true then (some false) else (if (p0.N != p1.N)=true then (some false) else (some true)))
def mJ (p0:List M.bU) (p1:List M.bU):Nat→Int→Option Bool
 | 0,_=>none
 | nL1+1,v5=>if (decide (v5<(List.length p0:Int)))=true then ((idx p0 v5).bind fun x7=>((idx p1 v5).bind fun x12=>((aAx x7 x12).bind fun x17=>(if (!x17)=true then (some false) else (mJ p0 p1 nL1 (i64.wrap (v5+1))))))) else (some true)
def zA (p0:List M.bU) (p1:List M.bU):Option Bool:=
 if ((List.length p0:Int) != (List.length p1:Int))=true then (some false) else (mJ p0 p1 fuel 0)
def tD (p0:M.Channel) (p1:M.Channel):Option Bool:=
 (zA p0.Mails p1.Mails).bind fun x1=>(if (!x1)=true then (some false) else (some true))
def jN (p0:List ByteArray) (p1:List ByteArray):Nat→Int→Option Bool
 | 0,_=>none
 | nL1+1,v5=>if (decide (v5<(List.length p0:Int)))=true then ((idx p0 v5).bind fun x7=>((idx p1 v5).bind fun x12=>(if (!(x7.toList==x12.toList))=true then (some false) else (jN p0 p1 nL1 (i64.wrap (v5+1)))))) else (some true)
def tU (p0:List ByteArray) (p1:List ByteArray):Option Bool:=
 if ((List.length p0:Int) != (List.length p1:Int))=true then (some false) else (jN p0 p1 fuel 0)
def aAI (p0:M.Site) (p1:M.Site):Option Bool:=
 if (!(p0.Name.toList==p1.Name.toList))=true then (some false) else (if (p0.Version != p1.Version)=true then (some false) else ((tU p0.Files p1.Files).bind fun x3=>(if (!x3)=true then (some false) else (if (!(p0.Shared==p1.Shared))=true then (some false) else (some true)))))
def lY (p0:List M.Site) (p1:List M.Site):Nat→Int→Option Bool
 | 0,_=>none
 | nL1+1,v5=>if (decide (v5<(List.length p0:Int)))=true then ((idx p0 v5).bind fun x7=>((idx p1 v5).bind fun x12=>((aAI x7 x12).bind fun x17=>(if (!x17)=true then (some false) else (lY p0 p1 nL1 (i64.wrap (v5+1))))))) else (some true)
def zS (p0:List M.Site) (p1:List M.Site):Option Bool:=
 if ((List.length p0:Int) != (List.length p1:Int))=true then (some false) else (lY p0 p1 fuel 0)
def sN (p0:M.aJ) (p1:M.aJ):Option Bool:=
 if (p0.Device != p1.Device)=true then (some false) else (if (p0.Seq != p1.Seq)=true then (some false) else (some true))
def iW (p0:List M.aJ) (p1:List M.aJ):Nat→Int→Option Bool
 | 0,_=>none
 | nL1+1,v5=>if (decide (v5<(List.length p0:Int)))=true then ((idx p0 v5).bind fun x7=>((idx p1 v5).bind fun x12=>((sN x7 x12).bind fun x17=>(if (!x17)=true then (some false) else (iW p0 p1 nL1 (i64.wrap (v5+1))))))) else (some true)
def pY (p0:List M.aJ) (p1:List M.aJ):Option Bool:=
 if ((List.length p0:Int) != (List.length p1:Int))=true then (some false) else (iW p0 p1 fuel 0)
def vV (p0:M.Server) (p1:M.Server):Option Bool:=
 (pH p0.aH p1.aH).bind fun x1=>(if (!x1)=true then (some false) else ((pY p0.aJ p1.aJ).bind fun x4=>(if (!x4)=true then (some false) else ((rE p0.Changes p1.Changes).bind fun x7=>(if (!x7)=true then (some false) else (some true))))))
def jL (p0:List M.Server) (p1:List M.Server):Nat→Int→Option Bool
 | 0,_=>none
 | nL1+1,v5=>if (decide (v5<(List.length p0:Int)))=true then ((idx p0 v5).bind fun x7=>((idx p1 v5).bind fun x12=>((vV x7 x12).bind fun x17=>(if (!x17)=true then (some false) else (jL p0 p1 nL1 (i64.wrap (v5+1))))))) else (some true)
def tQ (p0:List M.Server) (p1:List M.Server):Option Bool:=
 if ((List.length p0:Int) != (List.length p1:Int))=true then (some false) else (jL p0 p1 fuel 0)
def lN (p0:M.World) (p1:M.World):Option Bool:=
 if (p0.Now != p1.Now)=true then (some false) else (if (!(p0.Online==p1.Online))=true then (some false) else (if (p0.Device != p1.Device)=true then (some false) else ((tW p0.aM p1.aM).bind fun x4=>(if (!x4)=true then (some false) else ((yQ p0.Pages p1.Pages).bind fun x7=>(if (!x7)=true then (some false) else (if (p0.NextPage != p1.NextPage)=true then (some false) else ((oL p0.Locks p1.Locks).bind fun x11=>(if (!x11)=true then (some false) else ((tD p0.Channel p1.Channel).bind fun x14=>(if (!x14)=true then (some false) else ((zS p0.Sites p1.Sites).bind fun x17=>(if (!x17)=true then (some false) else ((tQ p0.Servers p1.Servers).bind fun x20=>(if (!x20)=true then (some false) else (some true))))))))))))))))
def kQ  : Nat→Int→ByteArray→Option ByteArray
 | 0,_,_=>none
 | nL1+1,v0,v3=>if (decide (v0>0))=true then ((toStr ([(IntKind.u8.wrap (i64.wrap (48+(Int.tmod v0 10))))])).bind fun x6=>((cat (aBr ([(IntKind.u8.wrap (i64.wrap (48+(Int.tmod v0 10))))])) v3).bind fun x8=>(kQ nL1 (i64.wrap (Int.tdiv v0 10)) ((aBr ([(IntKind.u8.wrap (i64.wrap (48+(Int.tmod v0 10))))]))++v3)))) else ((cat (⟨#[109]⟩:ByteArray) v3).bind fun x13=>(some ((⟨#[109]⟩:ByteArray)++v3)))
def aG (p0:Int):Option ByteArray:=
 if (decide (p0≤0))=true then (some (⟨#[109,48]⟩:ByteArray)) else (kQ fuel p0 (⟨#[]⟩:ByteArray))
def dZ  : Nat→Int→Int→List Int→Option (List Int×Int)
 | 0,_,_,_=>none
 | nL1+1,v1,v5,r99=>if (decide (v5<(List.length r99:Int)))=true then ((idx r99 v5).bind fun x8=>((some (List.set r99 v5.toNat (IntKind.u8.wrap v1))).bind fun y13=>(dZ nL1 (i64.wrap (v1+1)) (i64.wrap (v5+1)) y13))) else (some (r99,v1))
def nN (p0:List Int) (p1:Int):Option (List Int×Int):=
 dZ fuel p1 0 p0
def cN  : Nat→Int→Int→List M.Cached→Option (List M.Cached×Int)
 | 0,_,_,_=>none
 | nL1+1,v1,v5,r99=>if (decide (v5<(List.length r99:Int)))=true then ((aG v1).bind fun x8=>((idx r99 v5).bind fun x10=>((some (List.set r99 v5.toNat (⟨x8,x10.Path,x10.Response⟩:M.Cached))).bind fun y15=>((aG (i64.wrap (v1+1))).bind fun x23=>((idx y15 v5).bind fun x25=>((some (List.set y15 v5.toNat (⟨x25.Site,x23,x25.Response⟩:M.Cached))).bind fun y30=>((idx y30 v5).bind fun x38=>((some (List.set y30 v5.toNat (⟨x38.Site,x38.Path,(⟨(i64.wrap ((i64.wrap (v1+1))+1)),x38.Response.Status,x38.Response.Version,x38.Response.Body,x38.Response.Shares⟩:M.Response)⟩:M.Cached))).bind fun y43=>((idx y43 v5).bind fun x51=>((some (List.set y43 v5.toNat (⟨x51.Site,x51.Path,(⟨x51.Response.Type_,(i64.wrap ((i64.wrap ((i64.wrap (v1+1))+1))+1)),x51.Response.Version,x51.Response.Body,x51.Response.Shares⟩:M.Response)⟩:M.Cached))).bind fun y56=>((idx y56 v5).bind fun x64=>((some (List.set y56 v5.toNat (⟨x64.Site,x64.Path,(⟨x64.Response.Type_,x64.Response.Status,(i64.wrap ((i64.wrap ((i64.wrap ((i64.wrap (v1+1))+1))+1))+1)),x64.Response.Body,x64.Response.Shares⟩:M.Response)⟩:M.Cached))).bind fun y69=>((idx y69 v5).bind fun x77=>((nN x77.Response.Body (i64.wrap ((i64.wrap ((i64.wrap ((i64.wrap ((i64.wrap (v1+1))+1))+1))+1))+1))).bind fun x82=>((some (List.set y69 v5.toNat (⟨x77.Site,x77.Path,(⟨x77.Response.Type_,x77.Response.Status,x77.Response.Version,x82.1,x77.Response.Shares⟩:M.Response)⟩:M.Cached))).bind fun y84=>((idx y84 v5).bind fun x92=>((some (List.set y84 v5.toNat (⟨x92.Site,x92.Path,(⟨x92.Response.Type_,x92.Response.Status,x92.Response.Version,x92.Response.Body,((Int.tmod x82.2 3)==0)⟩:M.Response)⟩:M.Cached))).bind fun y97=>(cN nL1 (i64.wrap (x82.2+1)) (i64.wrap (v5+1)) y97)))))))))))))))))) else (some (r99,v1))
def oA (p0:List M.Cached) (p1:Int):Option (List M.Cached×Int):=
 cN fuel p1 0 p0
def dD  : Nat→Int→Int→List M.Cache→Option (List M.Cache×Int)
 | 0,_,_,_=>none
 | nL1+1,v1,v5,r99=>if (decide (v5<(List.length r99:Int)))=true then ((idx r99 v5).bind fun x8=>((some (List.set r99 v5.toNat (⟨v1,x8.Entries⟩:M.Cache))).bind fun y13=>((idx y13 v5).bind fun x21=>((oA x21.Entries (i64.wrap (v1+1))).bind fun x26=>((some (List.set y13 v5.toNat (⟨x21.Version,x26.1⟩:M.Cache))).bind fun y28=>(dD nL1 x26.2 (i64.wrap (v5+1)) y28)))))) else (some (r99,v1))
def rG (p0:List M.Cache) (p1:Int):Option (List M.Cache×Int):=
 dD fuel p1 0 p0
def cY  : Nat→Int→Int→List M.Field→Option (List M.Field×Int)
 | 0,_,_,_=>none
 | nL1+1,v1,v5,r99=>if (decide (v5<(List.length r99:Int)))=true then ((aG v1).bind fun x8=>((idx r99 v5).bind fun x10=>((some (List.set r99 v5.toNat (⟨x8,x10.N⟩:M.Field))).bind fun y15=>((idx y15 v5).bind fun x23=>((some (List.set y15 v5.toNat (⟨x23.Name,(i64.wrap (v1+1))⟩:M.Field))).bind fun y28=>(cY nL1 (i64.wrap ((i64.wrap (v1+1))+1)) (i64.wrap (v5+1)) y28)))))) else (some (r99,v1))
def qX (p0:List M.Field) (p1:Int):Option (List M.Field×Int):=
 cY fuel p1 0 p0
def dX  : Nat→Int→Int→List M.Item→Option (List M.Item×Int)
 | 0,_,_,_=>none
 | nL1+1,v1,v5,r99=>if (decide (v5<(List.length r99:Int)))=true then ((idx r99 v5).bind fun x8=>((some (List.set r99 v5.toNat (⟨(⟨v1,x8.Key.N,x8.Key.Text⟩:M.Key),x8.aU⟩:M.Item))).bind fun y13=>((idx y13 v5).bind fun x21=>((some (List.set y13 v5.toNat (⟨(⟨x21.Key.Kind,(i64.wrap (v1+1)),x21.Key.Text⟩:M.Key),x21.aU⟩:M.Item))).bind fun y26=>((aG (i64.wrap ((i64.wrap (v1+1))+1))).bind fun x34=>((idx y26 v5).bind fun x36=>((some (List.set y26 v5.toNat (⟨(⟨x36.Key.Kind,x36.Key.N,x34⟩:M.Key),x36.aU⟩:M.Item))).bind fun y41=>((idx y41 v5).bind fun x49=>((qX x49.aU.Fields (i64.wrap ((i64.wrap ((i64.wrap (v1+1))+1))+1))).bind fun x54=>((some (List.set y41 v5.toNat (⟨x49.Key,(⟨x54.1⟩:M.aU)⟩:M.Item))).bind fun y56=>(dX nL1 x54.2 (i64.wrap (v5+1)) y56))))))))))) else (some (r99,v1))
def kY (p0:List M.Item) (p1:Int):Option (List M.Item×Int):=
 dX fuel p1 0 p0
def dB  : Nat→Int→Int→List M.aH→Option (List M.aH×Int)
 | 0,_,_,_=>none
 | nL1+1,v1,v5,r99=>if (decide (v5<(List.length r99:Int)))=true then ((aG v1).bind fun x8=>((idx r99 v5).bind fun x10=>((some (List.set r99 v5.toNat (⟨x8,x10.Items,x10.Auto⟩:M.aH))).bind fun y15=>((idx y15 v5).bind fun x23=>((kY x23.Items (i64.wrap (v1+1))).bind fun x28=>((some (List.set y15 v5.toNat (⟨x23.Name,x28.1,x23.Auto⟩:M.aH))).bind fun y30=>((idx y30 v5).bind fun x38=>((some (List.set y30 v5.toNat (⟨x38.Name,x38.Items,x28.2⟩:M.aH))).bind fun y43=>(dB nL1 (i64.wrap (x28.2+1)) (i64.wrap (v5+1)) y43))))))))) else (some (r99,v1))
def qA (p0:List M.aH) (p1:Int):Option (List M.aH×Int):=
 dB fuel p1 0 p0
def bV  : Nat→Int→Int→List M.aA→Option (List M.aA×Int)
 | 0,_,_,_=>none
 | nL1+1,v1,v5,r99=>if (decide (v5<(List.length r99:Int)))=true then ((aG v1).bind fun x8=>((idx r99 v5).bind fun x10=>((some (List.set r99 v5.toNat (⟨x8,x10.Field⟩:M.aA))).bind fun y15=>((aG (i64.wrap (v1+1))).bind fun x23=>((idx y15 v5).bind fun x25=>((some (List.set y15 v5.toNat (⟨x25.aH,x23⟩:M.aA))).bind fun y30=>(bV nL1 (i64.wrap ((i64.wrap (v1+1))+1)) (i64.wrap (v5+1)) y30))))))) else (some (r99,v1))
def lG (p0:List M.aA) (p1:Int):Option (List M.aA×Int):=
 bV fuel p1 0 p0
def dA  : Nat→Int→Int→List M.aY→Option (List M.aY×Int)
 | 0,_,_,_=>none
 | nL1+1,v1,v5,r99=>if (decide (v5<(List.length r99:Int)))=true then ((idx r99 v5).bind fun x8=>((some (List.set r99 v5.toNat (⟨v1,x8.Seq,x8.Key,x8.Field,x8.N⟩:M.aY))).bind fun y13=>((idx y13 v5).bind fun x21=>((some (List.set y13 v5.toNat (⟨x21.Device,(i64.wrap (v1+1)),x21.Key,x21.Field,x21.N⟩:M.aY))).bind fun y26=>((idx y26 v5).bind fun x34=>((some (List.set y26 v5.toNat (⟨x34.Device,x34.Seq,(⟨(i64.wrap ((i64.wrap (v1+1))+1)),x34.Key.N,x34.Key.Text⟩:M.Key),x34.Field,x34.N⟩:M.aY))).bind fun y39=>((idx y39 v5).bind fun x47=>((some (List.set y39 v5.toNat (⟨x47.Device,x47.Seq,(⟨x47.Key.Kind,(i64.wrap ((i64.wrap ((i64.wrap (v1+1))+1))+1)),x47.Key.Text⟩:M.Key),x47.Field,x47.N⟩:M.aY))).bind fun y52=>((aG (i64.wrap ((i64.wrap ((i64.wrap ((i64.wrap (v1+1))+1))+1))+1))).bind fun x60=>((idx y52 v5).bind fun x62=>((some (List.set y52 v5.toNat (⟨x62.Device,x62.Seq,(⟨x62.Key.Kind,x62.Key.N,x60⟩:M.Key),x62.Field,x62.N⟩:M.aY))).bind fun y67=>((aG (i64.wrap ((i64.wrap ((i64.wrap ((i64.wrap ((i64.wrap (v1+1))+1))+1))+1))+1))).bind fun x75=>((idx y67 v5).bind fun x77=>((some (List.set y67 v5.toNat (⟨x77.Device,x77.Seq,x77.Key,x75,x77.N⟩:M.aY))).bind fun y82=>((idx y82 v5).bind fun x90=>((some (List.set y82 v5.toNat (⟨x90.Device,x90.Seq,x90.Key,x90.Field,(i64.wrap ((i64.wrap ((i64.wrap ((i64.wrap ((i64.wrap ((i64.wrap (v1+1))+1))+1))+1))+1))+1))⟩:M.aY))).bind fun y95=>(dA nL1 (i64.wrap ((i64.wrap ((i64.wrap ((i64.wrap ((i64.wrap ((i64.wrap ((i64.wrap (v1+1))+1))+1))+1))+1))+1))+1)) (i64.wrap (v5+1)) y95))))))))))))))))) else (some (r99,v1))
def lW (p0:List M.aY) (p1:Int):Option (List M.aY×Int):=
 dA fuel p1 0 p0
def cR  : Nat→Int→Int→List M.aF→Option (List M.aF×Int)
 | 0,_,_,_=>none
 | nL1+1,v1,v5,r99=>if (decide (v5<(List.length r99:Int)))=true then ((aG v1).bind fun x8=>((idx r99 v5).bind fun x10=>((some (List.set r99 v5.toNat (⟨x8,x10.Top,x10.Registration,x10.Caches,x10.bE,x10.aD,x10.LastUsed,x10.Persistent⟩:M.aF))).bind fun y15=>((aG (i64.wrap (v1+1))).bind fun x23=>((idx y15 v5).bind fun x25=>((some (List.set y15 v5.toNat (⟨x25.Site,x23,x25.Registration,x25.Caches,x25.bE,x25.aD,x25.LastUsed,x25.Persistent⟩:M.aF))).bind fun y30=>((aG (i64.wrap ((i64.wrap (v1+1))+1))).bind fun x38=>((idx y30 v5).bind fun x40=>((some (List.set y30 v5.toNat (⟨x40.Site,x40.Top,(⟨x38,x40.Registration.Installing,x40.Registration.Waiting,x40.Registration.Active⟩:M.Registration),x40.Caches,x40.bE,x40.aD,x40.LastUsed,x40.Persistent⟩:M.aF))).bind fun y45=>((idx y45 v5).bind fun x53=>((some (List.set y45 v5.toNat (⟨x53.Site,x53.Top,(⟨x53.Registration.Site,(i64.wrap ((i64.wrap ((i64.wrap (v1+1))+1))+1)),x53.Registration.Waiting,x53.Registration.Active⟩:M.Registration),x53.Caches,x53.bE,x53.aD,x53.LastUsed,x53.Persistent⟩:M.aF))).bind fun y58=>((idx y58 v5).bind fun x66=>((some (List.set y58 v5.toNat (⟨x66.Site,x66.Top,(⟨x66.Registration.Site,x66.Registration.Installing,(i64.wrap ((i64.wrap ((i64.wrap ((i64.wrap (v1+1))+1))+1))+1)),x66.Registration.Active⟩:M.Registration),x66.Caches,x66.bE,x66.aD,x66.LastUsed,x66.Persistent⟩:M.aF))).bind fun y71=>((idx y71 v5).bind fun x79=>((some (List.set y71 v5.toNat (⟨x79.Site,x79.Top,(⟨x79.Registration.Site,x79.Registration.Installing,x79.Registration.Waiting,(i64.wrap ((i64.wrap ((i64.wrap ((i64.wrap ((i64.wrap (v1+1))+1))+1))+1))+1))⟩:M.Registration),x79.Caches,x79.bE,x79.aD,x79.LastUsed,x79.Persistent⟩:M.aF))).bind fun y84=>((idx y84 v5).bind fun x92=>((rG x92.Caches.Caches (i64.wrap ((i64.wrap ((i64.wrap ((i64.wrap ((i64.wrap ((i64.wrap (v1+1))+1))+1))+1))+1))+1))).bind fun x97=>((some (List.set y84 v5.toNat (⟨x92.Site,x92.Top,x92.Registration,(⟨x97.1⟩:M.aT),x92.bE,x92.aD,x92.LastUsed,x92.Persistent⟩:M.aF))).bind fun y99=>((aG x97.2).bind fun x107=>((idx y99 v5).bind fun x109=>((some (List.set y99 v5.toNat (⟨x109.Site,x109.Top,x109.Registration,x109.Caches,(⟨(⟨x107,x109.bE.Base.Version,x109.bE.Base.Stores,x109.bE.Base.Unique⟩:M.Database),x109.bE.Log,x109.bE.Count⟩:M.bE),x109.aD,x109.LastUsed,x109.Persistent⟩:M.aF))).bind fun y114=>((idx y114 v5).bind fun x122=>((some (List.set y114 v5.toNat (⟨x122.Site,x122.Top,x122.Registration,x122.Caches,(⟨(⟨x122.bE.Base.Name,(i64.wrap (x97.2+1)),x122.bE.Base.Stores,x122.bE.Base.Unique⟩:M.Database),x122.bE.Log,x122.bE.Count⟩:M.bE),x122.aD,x122.LastUsed,x122.Persistent⟩:M.aF))).bind fun y127=>((idx y127 v5).bind fun x135=>((qA x135.bE.Base.Stores (i64.wrap ((i64.wrap (x97.2+1))+1))).bind fun x140=>((some (List.set y127 v5.toNat (⟨x135.Site,x135.Top,x135.Registration,x135.Caches,(⟨(⟨x135.bE.Base.Name,x135.bE.Base.Version,x140.1,x135.bE.Base.Unique⟩:M.Database),x135.bE.Log,x135.bE.Count⟩:M.bE),x135.aD,x135.LastUsed,x135.Persistent⟩:M.aF))).bind fun y142=>((idx y142 v5).bind fun x150=>((lG x150.bE.Base.Unique x140.2).bind fun x155=>((some (List.set y142 v5.toNat (⟨x150.Site,x150.Top,x150.Registration,x150.Caches,(⟨(⟨x150.bE.Base.Name,x150.bE.Base.Version,x150.bE.Base.Stores,x155.1⟩:M.Database),x150.bE.Log,x150.bE.Count⟩:M.bE),x150.aD,x150.LastUsed,x150.Persistent⟩:M.aF))).bind fun y157=>((idx y157 v5).bind fun x165=>((nN x165.bE.Log x155.2).bind fun x170=>((some (List.set y157 v5.toNat (⟨x165.Site,x165.Top,x165.Registration,x165.Caches,(⟨x165.bE.Base,x170.1,x165.bE.Count⟩:M.bE),x165.aD,x165.LastUsed,x165.Persistent⟩:M.aF))).bind fun y172=>((idx y172 v5).bind fun x180=>((some (List.set y172 v5.toNat (⟨x180.Site,x180.Top,x180.Registration,x180.Caches,(⟨x180.bE.Base,x180.bE.Log,x170.2⟩:M.bE),x180.aD,x180.LastUsed,x180.Persistent⟩:M.aF))).bind fun y185=>((aG (i64.wrap (x170.2+1))).bind fun x193=>((idx y185 v5).bind fun x195=>((some (List.set y185 v5.toNat (⟨x195.Site,x195.Top,x195.Registration,x195.Caches,x195.bE,(⟨(⟨x193,x195.aD.Base.Items,x195.aD.Base.Auto⟩:M.aH),x195.aD.Seen,x195.aD.Sync⟩:M.aD),x195.LastUsed,x195.Persistent⟩:M.aF))).bind fun y200=>((idx y200 v5).bind fun x208=>((kY x208.aD.Base.Items (i64.wrap ((i64.wrap (x170.2+1))+1))).bind fun x213=>((some (List.set y200 v5.toNat (⟨x208.Site,x208.Top,x208.Registration,x208.Caches,x208.bE,(⟨(⟨x208.aD.Base.Name,x213.1,x208.aD.Base.Auto⟩:M.aH),x208.aD.Seen,x208.aD.Sync⟩:M.aD),x208.LastUsed,x208.Persistent⟩:M.aF))).bind fun y215=>((idx y215 v5).bind fun x223=>((some (List.set y215 v5.toNat (⟨x223.Site,x223.Top,x223.Registration,x223.Caches,x223.bE,(⟨(⟨x223.aD.Base.Name,x223.aD.Base.Items,x213.2⟩:M.aH),x223.aD.Seen,x223.aD.Sync⟩:M.aD),x223.LastUsed,x223.Persistent⟩:M.aF))).bind fun y228=>((idx y228 v5).bind fun x236=>((some (List.set y228 v5.toNat (⟨x236.Site,x236.Top,x236.Registration,x236.Caches,x236.bE,(⟨x236.aD.Base,(i64.wrap (x213.2+1)),x236.aD.Sync⟩:M.aD),x236.LastUsed,x236.Persistent⟩:M.aF))).bind fun y241=>((idx y241 v5).bind fun x249=>((some (List.set y241 v5.toNat (⟨x249.Site,x249.Top,x249.Registration,x249.Caches,x249.bE,(⟨x249.aD.Base,x249.aD.Seen,(⟨(⟨(i64.wrap ((i64.wrap (x213.2+1))+1)),x249.aD.Sync.aV.Next,x249.aD.Sync.aV.Writes⟩:M.aV),x249.aD.Sync.Tries,x249.aD.Sync.WaitUntil⟩:M.Sync)⟩:M.aD),x249.LastUsed,x249.Persistent⟩:M.aF))).bind fun y254=>((idx y254 v5).bind fun x262=>((some (List.set y254 v5.toNat (⟨x262.Site,x262.Top,x262.Registration,x262.Caches,x262.bE,(⟨x262.aD.Base,x262.aD.Seen,(⟨(⟨x262.aD.Sync.aV.Device,(i64.wrap ((i64.wrap ((i64.wrap (x213.2+1))+1))+1)),x262.aD.Sync.aV.Writes⟩:M.aV),x262.aD.Sync.Tries,x262.aD.Sync.WaitUntil⟩:M.Sync)⟩:M.aD),x262.LastUsed,x262.Persistent⟩:M.aF))).bind fun y267=>((idx y267 v5).bind fun x275=>((lW x275.aD.Sync.aV.Writes (i64.wrap ((i64.wrap ((i64.wrap ((i64.wrap (x213.2+1))+1))+1))+1))).bind fun x280=>((some (List.set y267 v5.toNat (⟨x275.Site,x275.Top,x275.Registration,x275.Caches,x275.bE,(⟨x275.aD.Base,x275.aD.Seen,(⟨(⟨x275.aD.Sync.aV.Device,x275.aD.Sync.aV.Next,x280.1⟩:M.aV),x275.aD.Sync.Tries,x275.aD.Sync.WaitUntil⟩:M.Sync)⟩:M.aD),x275.LastUsed,x275.Persistent⟩:M.aF))).bind fun y282=>((idx y282 v5).bind fun x290=>((some (List.set y282 v5.toNat (⟨x290.Site,x290.Top,x290.Registration,x290.Caches,x290.bE,(⟨x290.aD.Base,x290.aD.Seen,(⟨x290.aD.Sync.aV,x280.2,x290.aD.Sync.WaitUntil⟩:M.Sync)⟩:M.aD),x290.LastUsed,x290.Persistent⟩:M.aF))).bind fun y295=>((idx y295 v5).bind fun x303=>((some (List.set y295 v5.toNat (⟨x303.Site,x303.Top,x303.Registration,x303.Caches,x303.bE,(⟨x303.aD.Base,x303.aD.Seen,(⟨x303.aD.Sync.aV,x303.aD.Sync.Tries,(i64.wrap (x280.2+1))⟩:M.Sync)⟩:M.aD),x303.LastUsed,x303.Persistent⟩:M.aF))).bind fun y308=>((idx y308 v5).bind fun x316=>((some (List.set y308 v5.toNat (⟨x316.Site,x316.Top,x316.Registration,x316.Caches,x316.bE,x316.aD,(i64.wrap ((i64.wrap (x280.2+1))+1)),x316.Persistent⟩:M.aF))).bind fun y321=>((idx y321 v5).bind fun x329=>((some (List.set y321 v5.toNat (⟨x329.Site,x329.Top,x329.Registration,x329.Caches,x329.bE,x329.aD,x329.LastUsed,((Int.tmod (i64.wrap ((i64.wrap ((i64.wrap (x280.2+1))+1))+1)) 3)==0)⟩:M.aF))).bind fun y334=>(cR nL1 (i64.wrap ((i64.wrap ((i64.wrap ((i64.wrap (x280.2+1))+1))+1))+1)) (i64.wrap (v5+1)) y334)))))))))))))))))))))))))))))))))))))))))))))))))))))))))))) else (some (r99,v1))
def oV (p0:List M.aF) (p1:Int):Option (List M.aF×Int):=
 cR fuel p1 0 p0
def vC (p0:M.aM) (p1:Int):Option (List M.aF×Int):=
 (oV p0.Buckets p1).bind fun x1=>(some (x1.1,x1.2))
def cM  : Nat→Int→Int→List M.aN→Option (List M.aN×Int)
 | 0,_,_,_=>none
 | nL1+1,v1,v5,r99=>if (decide (v5<(List.length r99:Int)))=true then ((aG v1).bind fun x8=>((idx r99 v5).bind fun x10=>((some (List.set r99 v5.toNat (⟨x8,x10.Version⟩:M.aN))).bind fun y15=>((idx y15 v5).bind fun x23=>((some (List.set y15 v5.toNat (⟨x23.Path,(i64.wrap (v1+1))⟩:M.aN))).bind fun y28=>(cM nL1 (i64.wrap ((i64.wrap (v1+1))+1)) (i64.wrap (v5+1)) y28)))))) else (some (r99,v1))
def oT (p0:List M.aN) (p1:Int):Option (List M.aN×Int):=
 cM fuel p1 0 p0
def cX  : Nat→Int→Int→List M.Instr→Option (List M.Instr×Int)
 | 0,_,_,_=>none
 | nL1+1,v1,v5,r99=>if (decide (v5<(List.length r99:Int)))=true then ((idx r99 v5).bind fun x8=>((some (List.set r99 v5.toNat (⟨v1,x8.R,x8.N,x8.Text⟩:M.Instr))).bind fun y13=>((idx y13 v5).bind fun x21=>((some (List.set y13 v5.toNat (⟨x21.Kind,(i64.wrap (v1+1)),x21.N,x21.Text⟩:M.Instr))).bind fun y26=>((idx y26 v5).bind fun x34=>((some (List.set y26 v5.toNat (⟨x34.Kind,x34.R,(i64.wrap ((i64.wrap (v1+1))+1)),x34.Text⟩:M.Instr))).bind fun y39=>((aG (i64.wrap ((i64.wrap ((i64.wrap (v1+1))+1))+1))).bind fun x47=>((idx y39 v5).bind fun x49=>((some (List.set y39 v5.toNat (⟨x49.Kind,x49.R,x49.N,x47⟩:M.Instr))).bind fun y54=>(cX nL1 (i64.wrap ((i64.wrap ((i64.wrap ((i64.wrap (v1+1))+1))+1))+1)) (i64.wrap (v5+1)) y54)))))))))) else (some (r99,v1))
def qW (p0:List M.Instr) (p1:Int):Option (List M.Instr×Int):=
 cX fuel p1 0 p0
def eW  : Nat→Int→Int→List Int→Option (List Int×Int)
 | 0,_,_,_=>none
 | nL1+1,v1,v5,r99=>if (decide (v5<(List.length r99:Int)))=true then ((idx r99 v5).bind fun x8=>((some (List.set r99 v5.toNat v1)).bind fun y13=>(eW nL1 (i64.wrap (v1+1)) (i64.wrap (v5+1)) y13))) else (some (r99,v1))
def wF (p0:List Int) (p1:Int):Option (List Int×Int):=
 eW fuel p1 0 p0
def dU  : Nat→Int→Int→List M.bG→Option (List M.bG×Int)
 | 0,_,_,_=>none
 | nL1+1,v1,v5,r99=>if (decide (v5<(List.length r99:Int)))=true then ((idx r99 v5).bind fun x8=>((some (List.set r99 v5.toNat (⟨v1,x8.Site,x8.Top,x8.Version,x8.aN,x8.Machine⟩:M.bG))).bind fun y13=>((aG (i64.wrap (v1+1))).bind fun x21=>((idx y13 v5).bind fun x23=>((some (List.set y13 v5.toNat (⟨x23.Id,x21,x23.Top,x23.Version,x23.aN,x23.Machine⟩:M.bG))).bind fun y28=>((aG (i64.wrap ((i64.wrap (v1+1))+1))).bind fun x36=>((idx y28 v5).bind fun x38=>((some (List.set y28 v5.toNat (⟨x38.Id,x38.Site,x36,x38.Version,x38.aN,x38.Machine⟩:M.bG))).bind fun y43=>((idx y43 v5).bind fun x51=>((some (List.set y43 v5.toNat (⟨x51.Id,x51.Site,x51.Top,(i64.wrap ((i64.wrap ((i64.wrap (v1+1))+1))+1)),x51.aN,x51.Machine⟩:M.bG))).bind fun y56=>((idx y56 v5).bind fun x64=>((oT x64.aN (i64.wrap ((i64.wrap ((i64.wrap ((i64.wrap (v1+1))+1))+1))+1))).bind fun x69=>((some (List.set y56 v5.toNat (⟨x64.Id,x64.Site,x64.Top,x64.Version,x69.1,x64.Machine⟩:M.bG))).bind fun y71=>((idx y71 v5).bind fun x79=>((qW x79.Machine.Script x69.2).bind fun x84=>((some (List.set y71 v5.toNat (⟨x79.Id,x79.Site,x79.Top,x79.Version,x79.aN,(⟨x84.1,x79.Machine.Pc,x79.Machine.Regs,x79.Machine.Steps,x79.Machine.Done,x79.Machine.Wait⟩:M.Machine)⟩:M.bG))).bind fun y86=>((idx y86 v5).bind fun x94=>((some (List.set y86 v5.toNat (⟨x94.Id,x94.Site,x94.Top,x94.Version,x94.aN,(⟨x94.Machine.Script,x84.2,x94.Machine.Regs,x94.Machine.Steps,x94.Machine.Done,x94.Machine.Wait⟩:M.Machine)⟩:M.bG))).bind fun y99=>((idx y99 v5).bind fun x107=>((wF x107.Machine.Regs (i64.wrap (x84.2+1))).bind fun x112=>((some (List.set y99 v5.toNat (⟨x107.Id,x107.Site,x107.Top,x107.Version,x107.aN,(⟨x107.Machine.Script,x107.Machine.Pc,x112.1,x107.Machine.Steps,x107.Machine.Done,x107.Machine.Wait⟩:M.Machine)⟩:M.bG))).bind fun y114=>((idx y114 v5).bind fun x122=>((some (List.set y114 v5.toNat (⟨x122.Id,x122.Site,x122.Top,x122.Version,x122.aN,(⟨x122.Machine.Script,x122.Machine.Pc,x122.Machine.Regs,x112.2,x122.Machine.Done,x122.Machine.Wait⟩:M.Machine)⟩:M.bG))).bind fun y127=>((idx y127 v5).bind fun x135=>((some (List.set y127 v5.toNat (⟨x135.Id,x135.Site,x135.Top,x135.Version,x135.aN,(⟨x135.Machine.Script,x135.Machine.Pc,x135.Machine.Regs,x135.Machine.Steps,((Int.tmod (i64.wrap (x112.2+1)) 3)==0),x135.Machine.Wait⟩:M.Machine)⟩:M.bG))).bind fun y140=>((idx y140 v5).bind fun x148=>((some (List.set y140 v5.toNat (⟨x148.Id,x148.Site,x148.Top,x148.Version,x148.aN,(⟨x148.Machine.Script,x148.Machine.Pc,x148.Machine.Regs,x148.Machine.Steps,x148.Machine.Done,((Int.tmod (i64.wrap ((i64.wrap (x112.2+1))+1)) 3)==0)⟩:M.Machine)⟩:M.bG))).bind fun y153=>(dU nL1 (i64.wrap ((i64.wrap ((i64.wrap (x112.2+1))+1))+1)) (i64.wrap (v5+1)) y153)))))))))))))))))))))))))))) else (some (r99,v1))
def sC (p0:List M.bG) (p1:Int):Option (List M.bG×Int):=
 dU fuel p1 0 p0
def dS  : Nat→Int→Int→List M.bF→Option (List M.bF×Int)
 | 0,_,_,_=>none
 | nL1+1,v1,v5,r99=>if (decide (v5<(List.length r99:Int)))=true then ((aG v1).bind fun x8=>((idx r99 v5).bind fun x10=>((some (List.set r99 v5.toNat (⟨x8,x10.bG,x10.Shared,x10.Held⟩:M.bF))).bind fun y15=>((idx y15 v5).bind fun x23=>((some (List.set y15 v5.toNat (⟨x23.Name,(i64.wrap (v1+1)),x23.Shared,x23.Held⟩:M.bF))).bind fun y28=>((idx y28 v5).bind fun x36=>((some (List.set y28 v5.toNat (⟨x36.Name,x36.bG,((Int.tmod (i64.wrap ((i64.wrap (v1+1))+1)) 3)==0),x36.Held⟩:M.bF))).bind fun y41=>((idx y41 v5).bind fun x49=>((some (List.set y41 v5.toNat (⟨x49.Name,x49.bG,x49.Shared,((Int.tmod (i64.wrap ((i64.wrap ((i64.wrap (v1+1))+1))+1)) 3)==0)⟩:M.bF))).bind fun y54=>(dS nL1 (i64.wrap ((i64.wrap ((i64.wrap ((i64.wrap (v1+1))+1))+1))+1)) (i64.wrap (v5+1)) y54)))))))))) else (some (r99,v1))
def tG (p0:List M.bF) (p1:Int):Option (List M.bF×Int):=
 dS fuel p1 0 p0
def pL (p0:M.aE) (p1:Int):Option (List M.bF×Int):=
 (tG p0.Locks p1).bind fun x1=>(some (x1.1,x1.2))
def dQ  : Nat→Int→Int→List M.bU→Option (List M.bU×Int)
 | 0,_,_,_=>none
 | nL1+1,v1,v5,r99=>if (decide (v5<(List.length r99:Int)))=true then ((idx r99 v5).bind fun x8=>((some (List.set r99 v5.toNat (⟨v1,x8.From,x8.N⟩:M.bU))).bind fun y13=>((idx y13 v5).bind fun x21=>((some (List.set y13 v5.toNat (⟨x21.To,(i64.wrap (v1+1)),x21.N⟩:M.bU))).bind fun y26=>((idx y26 v5).bind fun x34=>((some (List.set y26 v5.toNat (⟨x34.To,x34.From,(i64.wrap ((i64.wrap (v1+1))+1))⟩:M.bU))).bind fun y39=>(dQ nL1 (i64.wrap ((i64.wrap ((i64.wrap (v1+1))+1))+1)) (i64.wrap (v5+1)) y39))))))) else (some (r99,v1))
def tK (p0:List M.bU) (p1:Int):Option (List M.bU×Int):=
 dQ fuel p1 0 p0
def uV (p0:M.Channel) (p1:Int):Option (List M.bU×Int):=
 (tK p0.Mails p1).bind fun x1=>(some (x1.1,x1.2))
def cQ  : Nat→Int→Int→List ByteArray→Option (List ByteArray×Int)
 | 0,_,_,_=>none
 | nL1+1,v1,v5,r99=>if (decide (v5<(List.length r99:Int)))=true then ((aG v1).bind fun x8=>((idx r99 v5).bind fun x10=>((some (List.set r99 v5.toNat x8)).bind fun y15=>(cQ nL1 (i64.wrap (v1+1)) (i64.wrap (v5+1)) y15)))) else (some (r99,v1))
def nR (p0:List ByteArray) (p1:Int):Option (List ByteArray×Int):=
 cQ fuel p1 0 p0
def dY  : Nat→Int→Int→List M.Site→Option (List M.Site×Int)
 | 0,_,_,_=>none
 | nL1+1,v1,v5,r99=>if (decide (v5<(List.length r99:Int)))=true then ((aG v1).bind fun x8=>((idx r99 v5).bind fun x10=>((some (List.set r99 v5.toNat (⟨x8,x10.Version,x10.Files,x10.Shared⟩:M.Site))).bind fun y15=>((idx y15 v5).bind fun x23=>((some (List.set y15 v5.toNat (⟨x23.Name,(i64.wrap (v1+1)),x23.Files,x23.Shared⟩:M.Site))).bind fun y28=>((idx y28 v5).bind fun x36=>((nR x36.Files (i64.wrap ((i64.wrap (v1+1))+1))).bind fun x41=>((some (List.set y28 v5.toNat (⟨x36.Name,x36.Version,x41.1,x36.Shared⟩:M.Site))).bind fun y43=>((idx y43 v5).bind fun x51=>((some (List.set y43 v5.toNat (⟨x51.Name,x51.Version,x51.Files,((Int.tmod x41.2 3)==0)⟩:M.Site))).bind fun y56=>(dY nL1 (i64.wrap (x41.2+1)) (i64.wrap (v5+1)) y56))))))))))) else (some (r99,v1))
def sZ (p0:List M.Site) (p1:Int):Option (List M.Site×Int):=
 dY fuel p1 0 p0
def cC  : Nat→Int→Int→List M.aJ→Option (List M.aJ×Int)
 | 0,_,_,_=>none
 | nL1+1,v1,v5,r99=>if (decide (v5<(List.length r99:Int)))=true then ((idx r99 v5).bind fun x8=>((some (List.set r99 v5.toNat (⟨v1,x8.Seq⟩:M.aJ))).bind fun y13=>((idx y13 v5).bind fun x21=>((some (List.set y13 v5.toNat (⟨x21.Device,(i64.wrap (v1+1))⟩:M.aJ))).bind fun y26=>(cC nL1 (i64.wrap ((i64.wrap (v1+1))+1)) (i64.wrap (v5+1)) y26))))) else (some (r99,v1))
def mS (p0:List M.aJ) (p1:Int):Option (List M.aJ×Int):=
 cC fuel p1 0 p0
def cK  : Nat→Int→Int→List M.Server→Option (List M.Server×Int)
 | 0,_,_,_=>none
 | nL1+1,v1,v5,r99=>if (decide (v5<(List.length r99:Int)))=true then ((aG v1).bind fun x8=>((idx r99 v5).bind fun x10=>((some (List.set r99 v5.toNat (⟨(⟨x8,x10.aH.Items,x10.aH.Auto⟩:M.aH),x10.aJ,x10.Changes⟩:M.Server))).bind fun y15=>((idx y15 v5).bind fun x23=>((kY x23.aH.Items (i64.wrap (v1+1))).bind fun x28=>((some (List.set y15 v5.toNat (⟨(⟨x23.aH.Name,x28.1,x23.aH.Auto⟩:M.aH),x23.aJ,x23.Changes⟩:M.Server))).bind fun y30=>((idx y30 v5).bind fun x38=>((some (List.set y30 v5.toNat (⟨(⟨x38.aH.Name,x38.aH.Items,x28.2⟩:M.aH),x38.aJ,x38.Changes⟩:M.Server))).bind fun y43=>((idx y43 v5).bind fun x51=>((mS x51.aJ (i64.wrap (x28.2+1))).bind fun x56=>((some (List.set y43 v5.toNat (⟨x51.aH,x56.1,x51.Changes⟩:M.Server))).bind fun y58=>((idx y58 v5).bind fun x66=>((lW x66.Changes x56.2).bind fun x71=>((some (List.set y58 v5.toNat (⟨x66.aH,x66.aJ,x71.1⟩:M.Server))).bind fun y73=>(cK nL1 x71.2 (i64.wrap (v5+1)) y73))))))))))))))) else (some (r99,v1))
def oK (p0:List M.Server) (p1:Int):Option (List M.Server×Int):=
 cK fuel p1 0 p0
def nK (p0:M.World) (p1:Int):Option (List M.aF×List M.bG×List M.bF×List M.bU×List M.Site×List M.Server×Int):=
 (vC p0.aM p1).bind fun x1=>((sC p0.Pages x1.2).bind fun x8=>((pL p0.Locks x8.2).bind fun x15=>((uV p0.Channel x15.2).bind fun x22=>((sZ p0.Sites x22.2).bind fun x29=>((oK p0.Servers x29.2).bind fun x36=>(some (x1.1,x8.1,x15.1,x22.1,x29.1,x36.1,x36.2)))))))
def fD (p0:List Int):Nat→Int→Int→Option Int
 | 0,_,_=>none
 | nL1+1,v1,v5=>if (decide (v5<(List.length p0:Int)))=true then ((idx p0 v5).bind fun x6=>(if (x6 != (IntKind.u8.wrap v1))=true then (some (-1)) else (fD p0 nL1 (i64.wrap (v1+1)) (i64.wrap (v5+1))))) else (some v1)
def nG (p0:List Int) (p1:Int):Option Int:=
 fD p0 fuel p1 0
def dM (p0:List M.Cached):Nat→Int→Int→Option Int
 | 0,_,_=>none
 | nL1+1,v1,v5=>if (decide (v5<(List.length p0:Int)))=true then ((idx p0 v5).bind fun x6=>((aG v1).bind fun x11=>(if (!(x6.Site.toList==x11.toList))=true then (some (-1)) else ((aG (i64.wrap (v1+1))).bind fun x14=>(if (!(x6.Path.toList==x14.toList))=true then (some (-1)) else (if (x6.Response.Type_ != (i64.wrap ((i64.wrap (v1+1))+1)))=true then (some (-1)) else (if (x6.Response.Status != (i64.wrap ((i64.wrap ((i64.wrap (v1+1))+1))+1)))=true then (some (-1)) else (if (x6.Response.Version != (i64.wrap ((i64.wrap ((i64.wrap ((i64.wrap (v1+1))+1))+1))+1)))=true then (some (-1)) else ((nG x6.Response.Body (i64.wrap ((i64.wrap ((i64.wrap ((i64.wrap ((i64.wrap (v1+1))+1))+1))+1))+1))).bind fun x20=>(if (decide (x20<0))=true then (some (-1)) else (if (!(x6.Response.Shares==((Int.tmod x20 3)==0)))=true then (some (-1)) else (dM p0 nL1 (i64.wrap (x20+1)) (i64.wrap (v5+1)))))))))))))) else (some v1)
def nQ (p0:List M.Cached) (p1:Int):Option Int:=
 dM p0 fuel p1 0
def eH (p0:List M.Cache):Nat→Int→Int→Option Int
 | 0,_,_=>none
 | nL1+1,v1,v5=>if (decide (v5<(List.length p0:Int)))=true then ((idx p0 v5).bind fun x6=>(if (x6.Version != v1)=true then (some (-1)) else ((nQ x6.Entries (i64.wrap (v1+1))).bind fun x12=>(if (decide (x12<0))=true then (some (-1)) else (eH p0 nL1 x12 (i64.wrap (v5+1))))))) else (some v1)
def pU (p0:List M.Cache) (p1:Int):Option Int:=
 eH p0 fuel p1 0
def eL (p0:List M.Field):Nat→Int→Int→Option Int
 | 0,_,_=>none
 | nL1+1,v1,v5=>if (decide (v5<(List.length p0:Int)))=true then ((idx p0 v5).bind fun x6=>((aG v1).bind fun x11=>(if (!(x6.Name.toList==x11.toList))=true then (some (-1)) else (if (x6.N != (i64.wrap (v1+1)))=true then (some (-1)) else (eL p0 nL1 (i64.wrap ((i64.wrap (v1+1))+1)) (i64.wrap (v5+1))))))) else (some v1)
def qE (p0:List M.Field) (p1:Int):Option Int:=
 eL p0 fuel p1 0
def fF (p0:List M.Item):Nat→Int→Int→Option Int
 | 0,_,_=>none
 | nL1+1,v1,v5=>if (decide (v5<(List.length p0:Int)))=true then ((idx p0 v5).bind fun x6=>(if (x6.Key.Kind != v1)=true then (some (-1)) else (if (x6.Key.N != (i64.wrap (v1+1)))=true then (some (-1)) else ((aG (i64.wrap ((i64.wrap (v1+1))+1))).bind fun x13=>(if (!(x6.Key.Text.toList==x13.toList))=true then (some (-1)) else ((qE x6.aU.Fields (i64.wrap ((i64.wrap ((i64.wrap (v1+1))+1))+1))).bind fun x16=>(if (decide (x16<0))=true then (some (-1)) else (fF p0 nL1 x16 (i64.wrap (v5+1)))))))))) else (some v1)
def kZ (p0:List M.Item) (p1:Int):Option Int:=
 fF p0 fuel p1 0
def eI (p0:List M.aH):Nat→Int→Int→Option Int
 | 0,_,_=>none
 | nL1+1,v1,v5=>if (decide (v5<(List.length p0:Int)))=true then ((idx p0 v5).bind fun x6=>((aG v1).bind fun x11=>(if (!(x6.Name.toList==x11.toList))=true then (some (-1)) else ((kZ x6.Items (i64.wrap (v1+1))).bind fun x14=>(if (decide (x14<0))=true then (some (-1)) else (if (x6.Auto != x14)=true then (some (-1)) else (eI p0 nL1 (i64.wrap (x14+1)) (i64.wrap (v5+1))))))))) else (some v1)
def pP (p0:List M.aH) (p1:Int):Option Int:=
 eI p0 fuel p1 0
def cH (p0:List M.aA):Nat→Int→Int→Option Int
 | 0,_,_=>none
 | nL1+1,v1,v5=>if (decide (v5<(List.length p0:Int)))=true then ((idx p0 v5).bind fun x6=>((aG v1).bind fun x11=>(if (!(x6.aH.toList==x11.toList))=true then (some (-1)) else ((aG (i64.wrap (v1+1))).bind fun x14=>(if (!(x6.Field.toList==x14.toList))=true then (some (-1)) else (cH p0 nL1 (i64.wrap ((i64.wrap (v1+1))+1)) (i64.wrap (v5+1)))))))) else (some v1)
def lF (p0:List M.aA) (p1:Int):Option Int:=
 cH p0 fuel p1 0
def eF (p0:List M.aY):Nat→Int→Int→Option Int
 | 0,_,_=>none
 | nL1+1,v1,v5=>if (decide (v5<(List.length p0:Int)))=true then ((idx p0 v5).bind fun x6=>(if (x6.Device != v1)=true then (some (-1)) else (if (x6.Seq != (i64.wrap (v1+1)))=true then (some (-1)) else (if (x6.Key.Kind != (i64.wrap ((i64.wrap (v1+1))+1)))=true then (some (-1)) else (if (x6.Key.N != (i64.wrap ((i64.wrap ((i64.wrap (v1+1))+1))+1)))=true then (some (-1)) else ((aG (i64.wrap ((i64.wrap ((i64.wrap ((i64.wrap (v1+1))+1))+1))+1))).bind fun x15=>(if (!(x6.Key.Text.toList==x15.toList))=true then (some (-1)) else ((aG (i64.wrap ((i64.wrap ((i64.wrap ((i64.wrap ((i64.wrap (v1+1))+1))+1))+1))+1))).bind fun x18=>(if (!(x6.Field.toList==x18.toList))=true then (some (-1)) else (if (x6.N != (i64.wrap ((i64.wrap ((i64.wrap ((i64.wrap ((i64.wrap ((i64.wrap (v1+1))+1))+1))+1))+1))+1)))=true then (some (-1)) else (eF p0 nL1 (i64.wrap ((i64.wrap ((i64.wrap ((i64.wrap ((i64.wrap ((i64.wrap ((i64.wrap (v1+1))+1))+1))+1))+1))+1))+1)) (i64.wrap (v5+1))))))))))))) else (some v1)
def lZ (p0:List M.aY) (p1:Int):Option Int:=
 eF p0 fuel p1 0
def cP (p0:List M.aF):Nat→Int→Int→Option Int
 | 0,_,_=>none
 | nL1+1,v1,v5=>if (decide (v5<(List.length p0:Int)))=true then ((idx p0 v5).bind fun x6=>((aG v1).bind fun x11=>(if (!(x6.Site.toList==x11.toList))=true then (some (-1)) else ((aG (i64.wrap (v1+1))).bind fun x14=>(if (!(x6.Top.toList==x14.toList))=true then (some (-1)) else ((aG (i64.wrap ((i64.wrap (v1+1))+1))).bind fun x17=>(if (!(x6.Registration.Site.toList==x17.toList))=true then (some (-1)) else (if (x6.Registration.Installing != (i64.wrap ((i64.wrap ((i64.wrap (v1+1))+1))+1)))=true then (some (-1)) else (if (x6.Registration.Waiting != (i64.wrap ((i64.wrap ((i64.wrap ((i64.wrap (v1+1))+1))+1))+1)))=true then (some (-1)) else (if (x6.Registration.Active != (i64.wrap ((i64.wrap ((i64.wrap ((i64.wrap ((i64.wrap (v1+1))+1))+1))+1))+1)))=true then (some (-1)) else ((pU x6.Caches.Caches (i64.wrap ((i64.wrap ((i64.wrap ((i64.wrap ((i64.wrap ((i64.wrap (v1+1))+1))+1))+1))+1))+1))).bind fun x27=>(if (decide (x27<0))=true then (some (-1)) else ((aG x27).bind fun x30=>(if (!(x6.bE.Base.Name.toList==x30.toList))=true then (some (-1)) else (if (x6.bE.Base.Version != (i64.wrap (x27+1)))=true then (some (-1)) else ((pP x6.bE.Base.Stores (i64.wrap ((i64.wrap (x27+1))+1))).bind fun x34=>(if (decide (x34<0))=true then (some (-1)) else ((lF x6.bE.Base.Unique x34).bind fun x37=>(if (decide (x37<0))=true then (some (-1)) else ((nG x6.bE.Log x37).bind fun x40=>(if (decide (x40<0))=true then (some (-1)) else (if (x6.bE.Count != x40)=true then (some (-1)) else ((aG (i64.wrap (x40+1))).bind fun x48=>(if (!(x6.aD.Base.Name.toList==x48.toList))=true then (some (-1)) else ((kZ x6.aD.Base.Items (i64.wrap ((i64.wrap (x40+1))+1))).bind fun x51=>(if (decide (x51<0))=true then (some (-1)) else (if (x6.aD.Base.Auto != x51)=true then (some (-1)) else (if (x6.aD.Seen != (i64.wrap (x51+1)))=true then (some (-1)) else (if (x6.aD.Sync.aV.Device != (i64.wrap ((i64.wrap (x51+1))+1)))=true then (some (-1)) else (if (x6.aD.Sync.aV.Next != (i64.wrap ((i64.wrap ((i64.wrap (x51+1))+1))+1)))=true then (some (-1)) else ((lZ x6.aD.Sync.aV.Writes (i64.wrap ((i64.wrap ((i64.wrap ((i64.wrap (x51+1))+1))+1))+1))).bind fun x62=>(if (decide (x62<0))=true then (some (-1)) else (if (x6.aD.Sync.Tries != x62)=true then (some (-1)) else (if (x6.aD.Sync.WaitUntil != (i64.wrap (x62+1)))=true then (some (-1)) else (if (x6.LastUsed != (i64.wrap ((i64.wrap (x62+1))+1)))=true then (some (-1)) else (if (!(x6.Persistent==((Int.tmod (i64.wrap ((i64.wrap ((i64.wrap (x62+1))+1))+1)) 3)==0)))=true then (some (-1)) else (cP p0 nL1 (i64.wrap ((i64.wrap ((i64.wrap ((i64.wrap (x62+1))+1))+1))+1)) (i64.wrap (v5+1))))))))))))))))))))))))))))))))))))))) else (some v1)
def oJ (p0:List M.aF) (p1:Int):Option Int:=
 cP p0 fuel p1 0
def uU (p0:M.aM) (p1:Int):Option Int:=
 (oJ p0.Buckets p1).bind fun x1=>(if (decide (x1<0))=true then (some (-1)) else (some x1))
def dL (p0:List M.aN):Nat→Int→Int→Option Int
 | 0,_,_=>none
 | nL1+1,v1,v5=>if (decide (v5<(List.length p0:Int)))=true then ((idx p0 v5).bind fun x6=>((aG v1).bind fun x11=>(if (!(x6.Path.toList==x11.toList))=true then (some (-1)) else (if (x6.Version != (i64.wrap (v1+1)))=true then (some (-1)) else (dL p0 nL1 (i64.wrap ((i64.wrap (v1+1))+1)) (i64.wrap (v5+1))))))) else (some v1)
def oQ (p0:List M.aN) (p1:Int):Option Int:=
 dL p0 fuel p1 0
def eE (p0:List M.Instr):Nat→Int→Int→Option Int
 | 0,_,_=>none
 | nL1+1,v1,v5=>if (decide (v5<(List.length p0:Int)))=true then ((idx p0 v5).bind fun x6=>(if (x6.Kind != v1)=true then (some (-1)) else (if (x6.R != (i64.wrap (v1+1)))=true then (some (-1)) else (if (x6.N != (i64.wrap ((i64.wrap (v1+1))+1)))=true then (some (-1)) else ((aG (i64.wrap ((i64.wrap ((i64.wrap (v1+1))+1))+1))).bind fun x14=>(if (!(x6.Text.toList==x14.toList))=true then (some (-1)) else (eE p0 nL1 (i64.wrap ((i64.wrap ((i64.wrap ((i64.wrap (v1+1))+1))+1))+1)) (i64.wrap (v5+1))))))))) else (some v1)
def qO (p0:List M.Instr) (p1:Int):Option Int:=
 eE p0 fuel p1 0
def fV (p0:List Int):Nat→Int→Int→Option Int
 | 0,_,_=>none
 | nL1+1,v1,v5=>if (decide (v5<(List.length p0:Int)))=true then ((idx p0 v5).bind fun x6=>(if (x6 != v1)=true then (some (-1)) else (fV p0 nL1 (i64.wrap (v1+1)) (i64.wrap (v5+1))))) else (some v1)
def wB (p0:List Int) (p1:Int):Option Int:=
 fV p0 fuel p1 0
def dW (p0:List M.bG):Nat→Int→Int→Option Int
 | 0,_,_=>none
 | nL1+1,v1,v5=>if (decide (v5<(List.length p0:Int)))=true then ((idx p0 v5).bind fun x6=>(if (x6.Id != v1)=true then (some (-1)) else ((aG (i64.wrap (v1+1))).bind fun x12=>(if (!(x6.Site.toList==x12.toList))=true then (some (-1)) else ((aG (i64.wrap ((i64.wrap (v1+1))+1))).bind fun x15=>(if (!(x6.Top.toList==x15.toList))=true then (some (-1)) else (if (x6.Version != (i64.wrap ((i64.wrap ((i64.wrap (v1+1))+1))+1)))=true then (some (-1)) else ((oQ x6.aN (i64.wrap ((i64.wrap ((i64.wrap ((i64.wrap (v1+1))+1))+1))+1))).bind fun x19=>(if (decide (x19<0))=true then (some (-1)) else ((qO x6.Machine.Script x19).bind fun x22=>(if (decide (x22<0))=true then (some (-1)) else (if (x6.Machine.Pc != x22)=true then (some (-1)) else ((wB x6.Machine.Regs (i64.wrap (x22+1))).bind fun x30=>(if (decide (x30<0))=true then (some (-1)) else (if (x6.Machine.Steps != x30)=true then (some (-1)) else (if (!(x6.Machine.Done==((Int.tmod (i64.wrap (x30+1)) 3)==0)))=true then (some (-1)) else (if (!(x6.Machine.Wait==((Int.tmod (i64.wrap ((i64.wrap (x30+1))+1)) 3)==0)))=true then (some (-1)) else (dW p0 nL1 (i64.wrap ((i64.wrap ((i64.wrap (x30+1))+1))+1)) (i64.wrap (v5+1)))))))))))))))))))) else (some v1)
def sE (p0:List M.bG) (p1:Int):Option Int:=
 dW p0 fuel p1 0
def fE (p0:List M.bF):Nat→Int→Int→Option Int
 | 0,_,_=>none
 | nL1+1,v1,v5=>if (decide (v5<(List.length p0:Int)))=true then ((idx p0 v5).bind fun x6=>((aG v1).bind fun x11=>(if (!(x6.Name.toList==x11.toList))=true then (some (-1)) else (if (x6.bG != (i64.wrap (v1+1)))=true then (some (-1)) else (if (!(x6.Shared==((Int.tmod (i64.wrap ((i64.wrap (v1+1))+1)) 3)==0)))=true then (some (-1)) else (if (!(x6.Held==((Int.tmod (i64.wrap ((i64.wrap ((i64.wrap (v1+1))+1))+1)) 3)==0)))=true then (some (-1)) else (fE p0 nL1 (i64.wrap ((i64.wrap ((i64.wrap ((i64.wrap (v1+1))+1))+1))+1)) (i64.wrap (v5+1))))))))) else (some v1)
def tE (p0:List M.bF) (p1:Int):Option Int:=
 fE p0 fuel p1 0
def pM (p0:M.aE) (p1:Int):Option Int:=
 (tE p0.Locks p1).bind fun x1=>(if (decide (x1<0))=true then (some (-1)) else (some x1))
def fH (p0:List M.bU):Nat→Int→Int→Option Int
 | 0,_,_=>none
 | nL1+1,v1,v5=>if (decide (v5<(List.length p0:Int)))=true then ((idx p0 v5).bind fun x6=>(if (x6.To != v1)=true then (some (-1)) else (if (x6.From != (i64.wrap (v1+1)))=true then (some (-1)) else (if (x6.N != (i64.wrap ((i64.wrap (v1+1))+1)))=true then (some (-1)) else (fH p0 nL1 (i64.wrap ((i64.wrap ((i64.wrap (v1+1))+1))+1)) (i64.wrap (v5+1))))))) else (some v1)
def tP (p0:List M.bU) (p1:Int):Option Int:=
 fH p0 fuel p1 0
def uZ (p0:M.Channel) (p1:Int):Option Int:=
 (tP p0.Mails p1).bind fun x1=>(if (decide (x1<0))=true then (some (-1)) else (some x1))
def dK (p0:List ByteArray):Nat→Int→Int→Option Int
 | 0,_,_=>none
 | nL1+1,v1,v5=>if (decide (v5<(List.length p0:Int)))=true then ((idx p0 v5).bind fun x6=>((aG v1).bind fun x11=>(if (!(x6.toList==x11.toList))=true then (some (-1)) else (dK p0 nL1 (i64.wrap (v1+1)) (i64.wrap (v5+1)))))) else (some v1)
def nZ (p0:List ByteArray) (p1:Int):Option Int:=
 dK p0 fuel p1 0
def eZ (p0:List M.Site):Nat→Int→Int→Option Int
 | 0,_,_=>none
 | nL1+1,v1,v5=>if (decide (v5<(List.length p0:Int)))=true then ((idx p0 v5).bind fun x6=>((aG v1).bind fun x11=>(if (!(x6.Name.toList==x11.toList))=true then (some (-1)) else (if (x6.Version != (i64.wrap (v1+1)))=true then (some (-1)) else ((nZ x6.Files (i64.wrap ((i64.wrap (v1+1))+1))).bind fun x15=>(if (decide (x15<0))=true then (some (-1)) else (if (!(x6.Shared==((Int.tmod x15 3)==0)))=true then (some (-1)) else (eZ p0 nL1 (i64.wrap (x15+1)) (i64.wrap (v5+1)))))))))) else (some v1)
def uI (p0:List M.Site) (p1:Int):Option Int:=
 eZ p0 fuel p1 0
def cV (p0:List M.aJ):Nat→Int→Int→Option Int
 | 0,_,_=>none
 | nL1+1,v1,v5=>if (decide (v5<(List.length p0:Int)))=true then ((idx p0 v5).bind fun x6=>(if (x6.Device != v1)=true then (some (-1)) else (if (x6.Seq != (i64.wrap (v1+1)))=true then (some (-1)) else (cV p0 nL1 (i64.wrap ((i64.wrap (v1+1))+1)) (i64.wrap (v5+1)))))) else (some v1)
def mR (p0:List M.aJ) (p1:Int):Option Int:=
 cV p0 fuel p1 0
def cO (p0:List M.Server):Nat→Int→Int→Option Int
 | 0,_,_=>none
 | nL1+1,v1,v5=>if (decide (v5<(List.length p0:Int)))=true then ((idx p0 v5).bind fun x6=>((aG v1).bind fun x11=>(if (!(x6.aH.Name.toList==x11.toList))=true then (some (-1)) else ((kZ x6.aH.Items (i64.wrap (v1+1))).bind fun x14=>(if (decide (x14<0))=true then (some (-1)) else (if (x6.aH.Auto != x14)=true then (some (-1)) else ((mR x6.aJ (i64.wrap (x14+1))).bind fun x18=>(if (decide (x18<0))=true then (some (-1)) else ((lZ x6.Changes x18).bind fun x21=>(if (decide (x21<0))=true then (some (-1)) else (cO p0 nL1 x21 (i64.wrap (v5+1))))))))))))) else (some v1)
def oZ (p0:List M.Server) (p1:Int):Option Int:=
 cO p0 fuel p1 0
def nO (p0:M.World) (p1:Int):Option Int:=
 (uU p0.aM p1).bind fun x1=>(if (decide (x1<0))=true then (some (-1)) else ((sE p0.Pages x1).bind fun x4=>(if (decide (x4<0))=true then (some (-1)) else ((pM p0.Locks x4).bind fun x7=>(if (decide (x7<0))=true then (some (-1)) else ((uZ p0.Channel x7).bind fun x10=>(if (decide (x10<0))=true then (some (-1)) else ((uI p0.Sites x10).bind fun x13=>(if (decide (x13<0))=true then (some (-1)) else ((oZ p0.Servers x13).bind fun x16=>(if (decide (x16<0))=true then (some (-1)) else (some x16))))))))))))
def lK (p0:M.World) (p1:Int):Option Bool:=
 (yN p0 1048576).bind fun x1=>(if (decide (x1<0))=true then (some true) else ((lP p0).bind fun x4=>((sK x4 p1).bind fun x6=>((lP p0).bind fun x8=>((nH x8 p1).bind fun x10=>((lN x10.1 x6.1).bind fun x12=>(if (!x12)=true then (some false) else (if (!(x10.2==x6.2))=true then (some false) else ((lP p0).bind fun x16=>((lN x8 x16).bind fun x18=>(if (!x18)=true then (some false) else ((nK x8 1).bind fun x21=>(if (decide (x21.2.2.2.2.2.2<0))=true then (some false) else ((lN x10.1 x6.1).bind fun x47=>(if (!x47)=true then (some false) else ((nK x10.1 1).bind fun x50=>((nO (⟨x10.1.Now,x10.1.Online,x10.1.Device,(⟨x50.1⟩:M.aM),x50.2.1,x10.1.NextPage,(⟨x50.2.2.1⟩:M.aE),(⟨x50.2.2.2.1⟩:M.Channel),x50.2.2.2.2.1,x50.2.2.2.2.2.1⟩:M.World) 1).bind fun x74=>(if (decide (x74<0))=true then (some false) else (if (x74 != x50.2.2.2.2.2.2)=true then (some false) else ((lP p0).bind fun x78=>((nH x78 p1).bind fun x80=>((lN x80.1 x6.1).bind fun x82=>(if (!x82)=true then (some false) else (if (!(x80.2==x6.2))=true then (some false) else ((nO (⟨x10.1.Now,x10.1.Online,x10.1.Device,(⟨x50.1⟩:M.aM),x50.2.1,x10.1.NextPage,(⟨x50.2.2.1⟩:M.aE),(⟨x50.2.2.2.1⟩:M.Channel),x50.2.2.2.2.1,x50.2.2.2.2.2.1⟩:M.World) 1).bind fun x86=>(if (decide (x86<0))=true then (some false) else (if (x86 != x50.2.2.2.2.2.2)=true then (some false) else (some true))))))))))))))))))))))))))))
end Go.Proofs.YtnhpbpnhmapeeaaGreat.gen
