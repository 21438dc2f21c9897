/-
  Helper text. No conditions.
-/
import Derived.Test.YtnhpbpnhmapeeaaGreatShS
namespace Go.Proofs.YtnhpbpnhmapeeaaGreat.gen
open Go Go.Sh
open Go.IntKind (i64)
set_option linter.unusedVariables false
set_option linter.unusedSimpArgs false
structure M.Registration where
 Site:ByteArray
 Installing:Int
 Waiting:Int
 Active:Int
def M.Registration.en (x:M.Registration):List D:=[.str x.Site,.int .i64 x.Installing,.int .i64 x.Waiting,.int .i64 x.Active]
theorem M.Registration.en.fl (l:List M.Registration):(List.map M.Registration.en l).all (fun y=>y.all D.flat)=true:=aEO (fun _=>rfl) l
structure M.Response where
 Type_:Int
 Status:Int
 Version:Int
 Body:List Int
 Shares:Bool
def M.Response.en (x:M.Response):List D:=[.int .i64 x.Type_,.int .i64 x.Status,.int .i64 x.Version,.sl (List.map enB x.Body),.bool x.Shares]
structure M.Cached where
 Site:ByteArray
 Path:ByteArray
 Response:M.Response
def M.Cached.en (x:M.Cached):List D:=[.str x.Site,.str x.Path,.int .i64 x.Response.Type_,.int .i64 x.Response.Status,.int .i64 x.Response.Version,.sl (List.map enB x.Response.Body),.bool x.Response.Shares]
structure M.Cache where
 Version:Int
 Entries:List M.Cached
def M.Cache.en (x:M.Cache):List D:=[.int .i64 x.Version,.sl (List.map M.Cached.en x.Entries)]
structure M.aU where
 Caches:List M.Cache
def M.aU.en (x:M.aU):List D:=[.sl (List.map M.Cache.en x.Caches)]
structure M.Key where
 Kind:Int
 N:Int
 Text:ByteArray
def M.Key.en (x:M.Key):List D:=[.int .i64 x.Kind,.int .i64 x.N,.str x.Text]
theorem M.Key.en.fl (l:List M.Key):(List.map M.Key.en l).all (fun y=>y.all D.flat)=true:=aEO (fun _=>rfl) l
structure M.Field where
 Name:ByteArray
 N:Int
def M.Field.en (x:M.Field):List D:=[.str x.Name,.int .i64 x.N]
theorem M.Field.en.fl (l:List M.Field):(List.map M.Field.en l).all (fun y=>y.all D.flat)=true:=aEO (fun _=>rfl) l
structure M.aH where
 Fields:List M.Field
def M.aH.en (x:M.aH):List D:=[.sl (List.map M.Field.en x.Fields)]
structure M.Item where
 Key:M.Key
 aH:M.aH
def M.Item.en (x:M.Item):List D:=[.int .i64 x.Key.Kind,.int .i64 x.Key.N,.str x.Key.Text,.sl (List.map M.Field.en x.aH.Fields)]
structure M.aE where
 Name:ByteArray
 Items:List M.Item
 Auto:Int
def M.aE.en (x:M.aE):List D:=[.str x.Name,.sl (List.map M.Item.en x.Items),.int .i64 x.Auto]
structure M.aD where
 aE:ByteArray
 Field:ByteArray
def M.aD.en (x:M.aD):List D:=[.str x.aE,.str x.Field]
theorem M.aD.en.fl (l:List M.aD):(List.map M.aD.en l).all (fun y=>y.all D.flat)=true:=aEO (fun _=>rfl) l
structure M.Database where
 Name:ByteArray
 Version:Int
 Stores:List M.aE
 Unique:List M.aD
def M.Database.en (x:M.Database):List D:=[.str x.Name,.int .i64 x.Version,.sl (List.map M.aE.en x.Stores),.sl (List.map M.aD.en x.Unique)]
structure M.bD where
 Base:M.Database
 Log:List Int
 Count:Int
def M.bD.en (x:M.bD):List D:=[.str x.Base.Name,.int .i64 x.Base.Version,.sl (List.map M.aE.en x.Base.Stores),.sl (List.map M.aD.en x.Base.Unique),.sl (List.map enB x.Log),.int .i64 x.Count]
structure M.aV where
 Device:Int
 Seq:Int
 Key:M.Key
 Field:ByteArray
 N:Int
def M.aV.en (x:M.aV):List D:=[.int .i64 x.Device,.int .i64 x.Seq,.int .i64 x.Key.Kind,.int .i64 x.Key.N,.str x.Key.Text,.str x.Field,.int .i64 x.N]
theorem M.aV.en.fl (l:List M.aV):(List.map M.aV.en l).all (fun y=>y.all D.flat)=true:=aEO (fun _=>rfl) l
structure M.aN where
 Device:Int
 Next:Int
 Writes:List M.aV
def M.aN.en (x:M.aN):List D:=[.int .i64 x.Device,.int .i64 x.Next,.sl (List.map M.aV.en x.Writes)]
structure M.Sync where
 aN:M.aN
 Tries:Int
 WaitUntil:Int
def M.Sync.en (x:M.Sync):List D:=[.int .i64 x.aN.Device,.int .i64 x.aN.Next,.sl (List.map M.aV.en x.aN.Writes),.int .i64 x.Tries,.int .i64 x.WaitUntil]
structure M.aC where
 Base:M.aE
 Seen:Int
 Sync:M.Sync
def M.aC.en (x:M.aC):List D:=[.str x.Base.Name,.sl (List.map M.Item.en x.Base.Items),.int .i64 x.Base.Auto,.int .i64 x.Seen,.int .i64 x.Sync.aN.Device,.int .i64 x.Sync.aN.Next,.sl (List.map M.aV.en x.Sync.aN.Writes),.int .i64 x.Sync.Tries,.int .i64 x.Sync.WaitUntil]
structure M.aA where
 Site:ByteArray
 Top:ByteArray
 Registration:M.Registration
 Caches:M.aU
 bD:M.bD
 aC:M.aC
 LastUsed:Int
 Persistent:Bool
def M.aA.en (x:M.aA):List D:=[.str x.Site,.str x.Top,.str x.Registration.Site,.int .i64 x.Registration.Installing,.int .i64 x.Registration.Waiting,.int .i64 x.Registration.Active,.sl (List.map M.Cache.en x.Caches.Caches),.str x.bD.Base.Name,.int .i64 x.bD.Base.Version,.sl (List.map M.aE.en x.bD.Base.Stores),.sl (List.map M.aD.en x.bD.Base.Unique),.sl (List.map enB x.bD.Log),.int .i64 x.bD.Count,.str x.aC.Base.Name,.sl (List.map M.Item.en x.aC.Base.Items),.int .i64 x.aC.Base.Auto,.int .i64 x.aC.Seen,.int .i64 x.aC.Sync.aN.Device,.int .i64 x.aC.Sync.aN.Next,.sl (List.map M.aV.en x.aC.Sync.aN.Writes),.int .i64 x.aC.Sync.Tries,.int .i64 x.aC.Sync.WaitUntil,.int .i64 x.LastUsed,.bool x.Persistent]
structure M.aF where
 Buckets:List M.aA
def M.aF.en (x:M.aF):List D:=[.sl (List.map M.aA.en x.Buckets)]
structure M.aM where
 Path:ByteArray
 Version:Int
def M.aM.en (x:M.aM):List D:=[.str x.Path,.int .i64 x.Version]
theorem M.aM.en.fl (l:List M.aM):(List.map M.aM.en l).all (fun y=>y.all D.flat)=true:=aEO (fun _=>rfl) l
structure M.Instr where
 Kind:Int
 R:Int
 N:Int
 Text:ByteArray
def M.Instr.en (x:M.Instr):List D:=[.int .i64 x.Kind,.int .i64 x.R,.int .i64 x.N,.str x.Text]
theorem M.Instr.en.fl (l:List M.Instr):(List.map M.Instr.en l).all (fun y=>y.all D.flat)=true:=aEO (fun _=>rfl) l
structure M.Machine where
 Script:List M.Instr
 Pc:Int
 Regs:List Int
 Steps:Int
 Done:Bool
 Wait:Bool
def M.Machine.en (x:M.Machine):List D:=[.sl (List.map M.Instr.en x.Script),.int .i64 x.Pc,.sl (List.map enI x.Regs),.int .i64 x.Steps,.bool x.Done,.bool x.Wait]
structure M.bJ where
 Id:Int
 Site:ByteArray
 Top:ByteArray
 Version:Int
 aM:List M.aM
 Machine:M.Machine
def M.bJ.en (x:M.bJ):List D:=[.int .i64 x.Id,.str x.Site,.str x.Top,.int .i64 x.Version,.sl (List.map M.aM.en x.aM),.sl (List.map M.Instr.en x.Machine.Script),.int .i64 x.Machine.Pc,.sl (List.map enI x.Machine.Regs),.int .i64 x.Machine.Steps,.bool x.Machine.Done,.bool x.Machine.Wait]
structure M.cT where
 Name:ByteArray
 bJ:Int
 Shared:Bool
 Held:Bool
def M.cT.en (x:M.cT):List D:=[.str x.Name,.int .i64 x.bJ,.bool x.Shared,.bool x.Held]
theorem M.cT.en.fl (l:List M.cT):(List.map M.cT.en l).all (fun y=>y.all D.flat)=true:=aEO (fun _=>rfl) l
structure M.aW where
 Locks:List M.cT
def M.aW.en (x:M.aW):List D:=[.sl (List.map M.cT.en x.Locks)]
structure M.eO where
 To:Int
 From:Int
 N:Int
def M.eO.en (x:M.eO):List D:=[.int .i64 x.To,.int .i64 x.From,.int .i64 x.N]
theorem M.eO.en.fl (l:List M.eO):(List.map M.eO.en l).all (fun y=>y.all D.flat)=true:=aEO (fun _=>rfl) l
structure M.Channel where
 Mails:List M.eO
def M.Channel.en (x:M.Channel):List D:=[.sl (List.map M.eO.en x.Mails)]
structure M.Site where
 Name:ByteArray
 Version:Int
 Files:List ByteArray
 Shared:Bool
def M.Site.en (x:M.Site):List D:=[.str x.Name,.int .i64 x.Version,.sl (List.map enS x.Files),.bool x.Shared]
structure M.aO where
 Device:Int
 Seq:Int
def M.aO.en (x:M.aO):List D:=[.int .i64 x.Device,.int .i64 x.Seq]
theorem M.aO.en.fl (l:List M.aO):(List.map M.aO.en l).all (fun y=>y.all D.flat)=true:=aEO (fun _=>rfl) l
structure M.Server where
 aE:M.aE
 aO:List M.aO
 Changes:List M.aV
def M.Server.en (x:M.Server):List D:=[.str x.aE.Name,.sl (List.map M.Item.en x.aE.Items),.int .i64 x.aE.Auto,.sl (List.map M.aO.en x.aO),.sl (List.map M.aV.en x.Changes)]
structure M.World where
 Now:Int
 Online:Bool
 Device:Int
 aF:M.aF
 Pages:List M.bJ
 NextPage:Int
 Locks:M.aW
 Channel:M.Channel
 Sites:List M.Site
 Servers:List M.Server
def M.World.en (x:M.World):List D:=[.int .i64 x.Now,.bool x.Online,.int .i64 x.Device,.sl (List.map M.aA.en x.aF.Buckets),.sl (List.map M.bJ.en x.Pages),.int .i64 x.NextPage,.sl (List.map M.cT.en x.Locks.Locks),.sl (List.map M.eO.en x.Channel.Mails),.sl (List.map M.Site.en x.Sites),.sl (List.map M.Server.en x.Servers)]
def jW (p0:M.Registration) (p1:Int):Option Int:=
 if (decide ((i64.wrap (p1-(p0.Site.size:Int)))<0))=true then (some (-1)) else (some (i64.wrap (p1-(p0.Site.size:Int))))
def uM (p0:List Int) (p1:Int):Option Int:=
 if (decide ((i64.wrap (p1-(List.length p0:Int)))<0))=true then (some (-1)) else (some (i64.wrap (p1-(List.length p0:Int))))
def qS (p0:M.Response) (p1:Int):Option Int:=
 (uM p0.Body p1).bind fun x1=>(if (decide (x1<0))=true then (some (-1)) else (some x1))
def vX (p0:M.Cached) (p1:Int):Option Int:=
 if (decide ((i64.wrap (p1-(p0.Site.size:Int)))<0))=true then (some (-1)) else (if (decide ((i64.wrap ((i64.wrap (p1-(p0.Site.size:Int)))-(p0.Path.size:Int)))<0))=true then (some (-1)) else ((qS p0.Response (i64.wrap ((i64.wrap (p1-(p0.Site.size:Int)))-(p0.Path.size:Int)))).bind fun x3=>(if (decide (x3<0))=true then (some (-1)) else (some x3))))
def rY (p0:List M.Cached):Nat→Int→Int→Option Int
 | 0,_,_=>none
 | nL1+1,v1,v5=>if (decide (v5<(List.length p0:Int)))=true then ((idx p0 v5).bind fun x7=>((vX x7 v1).bind fun x12=>(if (decide (x12<0))=true then (some (-1)) else (rY p0 nL1 x12 (i64.wrap (v5+1)))))) else (some v1)
def tB (p0:List M.Cached) (p1:Int):Option Int:=
 if (decide ((i64.wrap (p1-(List.length p0:Int)))<0))=true then (some (-1)) else (rY p0 fuel (i64.wrap (p1-(List.length p0:Int))) 0)
def zG (p0:M.Cache) (p1:Int):Option Int:=
 (tB p0.Entries p1).bind fun x1=>(if (decide (x1<0))=true then (some (-1)) else (some x1))
def vE (p0:List M.Cache):Nat→Int→Int→Option Int
 | 0,_,_=>none
 | nL1+1,v1,v5=>if (decide (v5<(List.length p0:Int)))=true then ((idx p0 v5).bind fun x7=>((zG x7 v1).bind fun x12=>(if (decide (x12<0))=true then (some (-1)) else (vE p0 nL1 x12 (i64.wrap (v5+1)))))) else (some v1)
def xA (p0:List M.Cache) (p1:Int):Option Int:=
 if (decide ((i64.wrap (p1-(List.length p0:Int)))<0))=true then (some (-1)) else (vE p0 fuel (i64.wrap (p1-(List.length p0:Int))) 0)
def rN (p0:M.aU) (p1:Int):Option Int:=
 (xA p0.Caches p1).bind fun x1=>(if (decide (x1<0))=true then (some (-1)) else (some x1))
def aAJ (p0:M.Key) (p1:Int):Option Int:=
 if (decide ((i64.wrap (p1-(p0.Text.size:Int)))<0))=true then (some (-1)) else (some (i64.wrap (p1-(p0.Text.size:Int))))
def yX (p0:M.Field) (p1:Int):Option Int:=
 if (decide ((i64.wrap (p1-(p0.Name.size:Int)))<0))=true then (some (-1)) else (some (i64.wrap (p1-(p0.Name.size:Int))))
def uY (p0:List M.Field):Nat→Int→Int→Option Int
 | 0,_,_=>none
 | nL1+1,v1,v5=>if (decide (v5<(List.length p0:Int)))=true then ((idx p0 v5).bind fun x7=>((yX x7 v1).bind fun x12=>(if (decide (x12<0))=true then (some (-1)) else (uY p0 nL1 x12 (i64.wrap (v5+1)))))) else (some v1)
def vU (p0:List M.Field) (p1:Int):Option Int:=
 if (decide ((i64.wrap (p1-(List.length p0:Int)))<0))=true then (some (-1)) else (uY p0 fuel (i64.wrap (p1-(List.length p0:Int))) 0)
def wZ (p0:M.aH) (p1:Int):Option Int:=
 (vU p0.Fields p1).bind fun x1=>(if (decide (x1<0))=true then (some (-1)) else (some x1))
def aAq (p0:M.Item) (p1:Int):Option Int:=
 (aAJ p0.Key p1).bind fun x1=>(if (decide (x1<0))=true then (some (-1)) else ((wZ p0.aH x1).bind fun x4=>(if (decide (x4<0))=true then (some (-1)) else (some x4))))
def xR (p0:List M.Item):Nat→Int→Int→Option Int
 | 0,_,_=>none
 | nL1+1,v1,v5=>if (decide (v5<(List.length p0:Int)))=true then ((idx p0 v5).bind fun x7=>((aAq x7 v1).bind fun x12=>(if (decide (x12<0))=true then (some (-1)) else (xR p0 nL1 x12 (i64.wrap (v5+1)))))) else (some v1)
def zP (p0:List M.Item) (p1:Int):Option Int:=
 if (decide ((i64.wrap (p1-(List.length p0:Int)))<0))=true then (some (-1)) else (xR p0 fuel (i64.wrap (p1-(List.length p0:Int))) 0)
def pJ (p0:M.aE) (p1:Int):Option Int:=
 if (decide ((i64.wrap (p1-(p0.Name.size:Int)))<0))=true then (some (-1)) else ((zP p0.Items (i64.wrap (p1-(p0.Name.size:Int)))).bind fun x2=>(if (decide (x2<0))=true then (some (-1)) else (some x2)))
def vF (p0:List M.aE):Nat→Int→Int→Option Int
 | 0,_,_=>none
 | nL1+1,v1,v5=>if (decide (v5<(List.length p0:Int)))=true then ((idx p0 v5).bind fun x7=>((pJ x7 v1).bind fun x12=>(if (decide (x12<0))=true then (some (-1)) else (vF p0 nL1 x12 (i64.wrap (v5+1)))))) else (some v1)
def wN (p0:List M.aE) (p1:Int):Option Int:=
 if (decide ((i64.wrap (p1-(List.length p0:Int)))<0))=true then (some (-1)) else (vF p0 fuel (i64.wrap (p1-(List.length p0:Int))) 0)
def qA (p0:M.aD) (p1:Int):Option Int:=
 if (decide ((i64.wrap (p1-(p0.aE.size:Int)))<0))=true then (some (-1)) else (if (decide ((i64.wrap ((i64.wrap (p1-(p0.aE.size:Int)))-(p0.Field.size:Int)))<0))=true then (some (-1)) else (some (i64.wrap ((i64.wrap (p1-(p0.aE.size:Int)))-(p0.Field.size:Int)))))
def oI (p0:List M.aD):Nat→Int→Int→Option Int
 | 0,_,_=>none
 | nL1+1,v1,v5=>if (decide (v5<(List.length p0:Int)))=true then ((idx p0 v5).bind fun x7=>((qA x7 v1).bind fun x12=>(if (decide (x12<0))=true then (some (-1)) else (oI p0 nL1 x12 (i64.wrap (v5+1)))))) else (some v1)
def oP (p0:List M.aD) (p1:Int):Option Int:=
 if (decide ((i64.wrap (p1-(List.length p0:Int)))<0))=true then (some (-1)) else (oI p0 fuel (i64.wrap (p1-(List.length p0:Int))) 0)
def rF (p0:M.Database) (p1:Int):Option Int:=
 if (decide ((i64.wrap (p1-(p0.Name.size:Int)))<0))=true then (some (-1)) else ((wN p0.Stores (i64.wrap (p1-(p0.Name.size:Int)))).bind fun x2=>(if (decide (x2<0))=true then (some (-1)) else ((oP p0.Unique x2).bind fun x5=>(if (decide (x5<0))=true then (some (-1)) else (some x5)))))
def aAP (p0:M.bD) (p1:Int):Option Int:=
 (rF p0.Base p1).bind fun x1=>(if (decide (x1<0))=true then (some (-1)) else ((uM p0.Log x1).bind fun x4=>(if (decide (x4<0))=true then (some (-1)) else (some x4))))
def zE (p0:M.aV) (p1:Int):Option Int:=
 (aAJ p0.Key p1).bind fun x1=>(if (decide (x1<0))=true then (some (-1)) else (if (decide ((i64.wrap (x1-(p0.Field.size:Int)))<0))=true then (some (-1)) else (some (i64.wrap (x1-(p0.Field.size:Int))))))
def uZ (p0:List M.aV):Nat→Int→Int→Option Int
 | 0,_,_=>none
 | nL1+1,v1,v5=>if (decide (v5<(List.length p0:Int)))=true then ((idx p0 v5).bind fun x7=>((zE x7 v1).bind fun x12=>(if (decide (x12<0))=true then (some (-1)) else (uZ p0 nL1 x12 (i64.wrap (v5+1)))))) else (some v1)
def qT (p0:List M.aV) (p1:Int):Option Int:=
 if (decide ((i64.wrap (p1-(List.length p0:Int)))<0))=true then (some (-1)) else (uZ p0 fuel (i64.wrap (p1-(List.length p0:Int))) 0)
def wG (p0:M.aN) (p1:Int):Option Int:=
 (qT p0.Writes p1).bind fun x1=>(if (decide (x1<0))=true then (some (-1)) else (some x1))
def aA4 (p0:M.Sync) (p1:Int):Option Int:=
 (wG p0.aN p1).bind fun x1=>(if (decide (x1<0))=true then (some (-1)) else (some x1))
def uF (p0:M.aC) (p1:Int):Option Int:=
 (pJ p0.Base p1).bind fun x1=>(if (decide (x1<0))=true then (some (-1)) else ((aA4 p0.Sync x1).bind fun x4=>(if (decide (x4<0))=true then (some (-1)) else (some x4))))
def xC (p0:M.aA) (p1:Int):Option Int:=
 if (decide ((i64.wrap (p1-(p0.Site.size:Int)))<0))=true then (some (-1)) else (if (decide ((i64.wrap ((i64.wrap (p1-(p0.Site.size:Int)))-(p0.Top.size:Int)))<0))=true then (some (-1)) else ((jW p0.Registration (i64.wrap ((i64.wrap (p1-(p0.Site.size:Int)))-(p0.Top.size:Int)))).bind fun x3=>(if (decide (x3<0))=true then (some (-1)) else ((rN p0.Caches x3).bind fun x6=>(if (decide (x6<0))=true then (some (-1)) else ((aAP p0.bD x6).bind fun x9=>(if (decide (x9<0))=true then (some (-1)) else ((uF p0.aC x9).bind fun x12=>(if (decide (x12<0))=true then (some (-1)) else (some x12))))))))))
def sK (p0:List M.aA):Nat→Int→Int→Option Int
 | 0,_,_=>none
 | nL1+1,v1,v5=>if (decide (v5<(List.length p0:Int)))=true then ((idx p0 v5).bind fun x7=>((xC x7 v1).bind fun x12=>(if (decide (x12<0))=true then (some (-1)) else (sK p0 nL1 x12 (i64.wrap (v5+1)))))) else (some v1)
def tE (p0:List M.aA) (p1:Int):Option Int:=
 if (decide ((i64.wrap (p1-(List.length p0:Int)))<0))=true then (some (-1)) else (sK p0 fuel (i64.wrap (p1-(List.length p0:Int))) 0)
def sU (p0:M.aF) (p1:Int):Option Int:=
 (tE p0.Buckets p1).bind fun x1=>(if (decide (x1<0))=true then (some (-1)) else (some x1))
def vY (p0:M.aM) (p1:Int):Option Int:=
 if (decide ((i64.wrap (p1-(p0.Path.size:Int)))<0))=true then (some (-1)) else (some (i64.wrap (p1-(p0.Path.size:Int))))
def sJ (p0:List M.aM):Nat→Int→Int→Option Int
 | 0,_,_=>none
 | nL1+1,v1,v5=>if (decide (v5<(List.length p0:Int)))=true then ((idx p0 v5).bind fun x7=>((vY x7 v1).bind fun x12=>(if (decide (x12<0))=true then (some (-1)) else (sJ p0 nL1 x12 (i64.wrap (v5+1)))))) else (some v1)
def tF (p0:List M.aM) (p1:Int):Option Int:=
 if (decide ((i64.wrap (p1-(List.length p0:Int)))<0))=true then (some (-1)) else (sJ p0 fuel (i64.wrap (p1-(List.length p0:Int))) 0)
def yD (p0:M.Instr) (p1:Int):Option Int:=
 if (decide ((i64.wrap (p1-(p0.Text.size:Int)))<0))=true then (some (-1)) else (some (i64.wrap (p1-(p0.Text.size:Int))))
def vJ (p0:List M.Instr):Nat→Int→Int→Option Int
 | 0,_,_=>none
 | nL1+1,v1,v5=>if (decide (v5<(List.length p0:Int)))=true then ((idx p0 v5).bind fun x7=>((yD x7 v1).bind fun x12=>(if (decide (x12<0))=true then (some (-1)) else (vJ p0 nL1 x12 (i64.wrap (v5+1)))))) else (some v1)
def wT (p0:List M.Instr) (p1:Int):Option Int:=
 if (decide ((i64.wrap (p1-(List.length p0:Int)))<0))=true then (some (-1)) else (vJ p0 fuel (i64.wrap (p1-(List.length p0:Int))) 0)
def aAv (p0:List Int) (p1:Int):Option Int:=
 if (decide ((i64.wrap (p1-(List.length p0:Int)))<0))=true then (some (-1)) else (some (i64.wrap (p1-(List.length p0:Int))))
def uH (p0:M.Machine) (p1:Int):Option Int:=
 (wT p0.Script p1).bind fun x1=>(if (decide (x1<0))=true then (some (-1)) else ((aAv p0.Regs x1).bind fun x4=>(if (decide (x4<0))=true then (some (-1)) else (some x4))))
def xS (p0:M.bJ) (p1:Int):Option Int:=
 if (decide ((i64.wrap (p1-(p0.Site.size:Int)))<0))=true then (some (-1)) else (if (decide ((i64.wrap ((i64.wrap (p1-(p0.Site.size:Int)))-(p0.Top.size:Int)))<0))=true then (some (-1)) else ((tF p0.aM (i64.wrap ((i64.wrap (p1-(p0.Site.size:Int)))-(p0.Top.size:Int)))).bind fun x3=>(if (decide (x3<0))=true then (some (-1)) else ((uH p0.Machine x3).bind fun x6=>(if (decide (x6<0))=true then (some (-1)) else (some x6))))))
def xT (p0:List M.bJ):Nat→Int→Int→Option Int
 | 0,_,_=>none
 | nL1+1,v1,v5=>if (decide (v5<(List.length p0:Int)))=true then ((idx p0 v5).bind fun x7=>((xS x7 v1).bind fun x12=>(if (decide (x12<0))=true then (some (-1)) else (xT p0 nL1 x12 (i64.wrap (v5+1)))))) else (some v1)
def yR (p0:List M.bJ) (p1:Int):Option Int:=
 if (decide ((i64.wrap (p1-(List.length p0:Int)))<0))=true then (some (-1)) else (xT p0 fuel (i64.wrap (p1-(List.length p0:Int))) 0)
def aA7 (p0:M.cT) (p1:Int):Option Int:=
 if (decide ((i64.wrap (p1-(p0.Name.size:Int)))<0))=true then (some (-1)) else (some (i64.wrap (p1-(p0.Name.size:Int))))
def xQ (p0:List M.cT):Nat→Int→Int→Option Int
 | 0,_,_=>none
 | nL1+1,v1,v5=>if (decide (v5<(List.length p0:Int)))=true then ((idx p0 v5).bind fun x7=>((aA7 x7 v1).bind fun x12=>(if (decide (x12<0))=true then (some (-1)) else (xQ p0 nL1 x12 (i64.wrap (v5+1)))))) else (some v1)
def yM (p0:List M.cT) (p1:Int):Option Int:=
 if (decide ((i64.wrap (p1-(List.length p0:Int)))<0))=true then (some (-1)) else (xQ p0 fuel (i64.wrap (p1-(List.length p0:Int))) 0)
def oR (p0:M.aW) (p1:Int):Option Int:=
 (yM p0.Locks p1).bind fun x1=>(if (decide (x1<0))=true then (some (-1)) else (some x1))
def yY (p0:List M.eO) (p1:Int):Option Int:=
 if (decide ((i64.wrap (p1-(List.length p0:Int)))<0))=true then (some (-1)) else (some (i64.wrap (p1-(List.length p0:Int))))
def uD (p0:M.Channel) (p1:Int):Option Int:=
 (yY p0.Mails p1).bind fun x1=>(if (decide (x1<0))=true then (some (-1)) else (some x1))
def sI (p0:List ByteArray):Nat→Int→Int→Option Int
 | 0,_,_=>none
 | nL1+1,v1,v5=>if (decide (v5<(List.length p0:Int)))=true then ((idx p0 v5).bind fun x7=>(if (decide ((i64.wrap (v1-(x7.size:Int)))<0))=true then (some (-1)) else (sI p0 nL1 (i64.wrap (v1-(x7.size:Int))) (i64.wrap (v5+1))))) else (some v1)
def sL (p0:List ByteArray) (p1:Int):Option Int:=
 if (decide ((i64.wrap (p1-(List.length p0:Int)))<0))=true then (some (-1)) else (sI p0 fuel (i64.wrap (p1-(List.length p0:Int))) 0)
def aAW (p0:M.Site) (p1:Int):Option Int:=
 if (decide ((i64.wrap (p1-(p0.Name.size:Int)))<0))=true then (some (-1)) else ((sL p0.Files (i64.wrap (p1-(p0.Name.size:Int)))).bind fun x2=>(if (decide (x2<0))=true then (some (-1)) else (some x2)))
def xN (p0:List M.Site):Nat→Int→Int→Option Int
 | 0,_,_=>none
 | nL1+1,v1,v5=>if (decide (v5<(List.length p0:Int)))=true then ((idx p0 v5).bind fun x7=>((aAW x7 v1).bind fun x12=>(if (decide (x12<0))=true then (some (-1)) else (xN p0 nL1 x12 (i64.wrap (v5+1)))))) else (some v1)
def zS (p0:List M.Site) (p1:Int):Option Int:=
 if (decide ((i64.wrap (p1-(List.length p0:Int)))<0))=true then (some (-1)) else (xN p0 fuel (i64.wrap (p1-(List.length p0:Int))) 0)
def qQ (p0:List M.aO) (p1:Int):Option Int:=
 if (decide ((i64.wrap (p1-(List.length p0:Int)))<0))=true then (some (-1)) else (some (i64.wrap (p1-(List.length p0:Int))))
def vQ (p0:M.Server) (p1:Int):Option Int:=
 (pJ p0.aE p1).bind fun x1=>(if (decide (x1<0))=true then (some (-1)) else ((qQ p0.aO x1).bind fun x4=>(if (decide (x4<0))=true then (some (-1)) else ((qT p0.Changes x4).bind fun x7=>(if (decide (x7<0))=true then (some (-1)) else (some x7))))))
def sB (p0:List M.Server):Nat→Int→Int→Option Int
 | 0,_,_=>none
 | nL1+1,v1,v5=>if (decide (v5<(List.length p0:Int)))=true then ((idx p0 v5).bind fun x7=>((vQ x7 v1).bind fun x12=>(if (decide (x12<0))=true then (some (-1)) else (sB p0 nL1 x12 (i64.wrap (v5+1)))))) else (some v1)
def uK (p0:List M.Server) (p1:Int):Option Int:=
 if (decide ((i64.wrap (p1-(List.length p0:Int)))<0))=true then (some (-1)) else (sB p0 fuel (i64.wrap (p1-(List.length p0:Int))) 0)
def yT (p0:M.World) (p1:Int):Option Int:=
 (sU p0.aF p1).bind fun x1=>(if (decide (x1<0))=true then (some (-1)) else ((yR p0.Pages x1).bind fun x4=>(if (decide (x4<0))=true then (some (-1)) else ((oR p0.Locks x4).bind fun x7=>(if (decide (x7<0))=true then (some (-1)) else ((uD p0.Channel x7).bind fun x10=>(if (decide (x10<0))=true then (some (-1)) else ((zS p0.Sites x10).bind fun x13=>(if (decide (x13<0))=true then (some (-1)) else ((uK p0.Servers x13).bind fun x16=>(if (decide (x16<0))=true then (some (-1)) else (some x16))))))))))))
def kE (p0:M.Registration):Option M.Registration:=
 some p0
def mJ (p0:List Int):Nat→Int→List Int→Option (List Int)
 | 0,_,_=>none
 | nL1+1,v4,r7=>if (decide (v4<(List.length p0:Int)))=true then ((idx p0 v4).bind fun x13=>((idx r7 v4).bind fun x18=>(mJ p0 nL1 (i64.wrap (v4+1)) (List.set r7 v4.toNat x13)))) else (some r7)
def uR (p0:List Int):Option (List Int):=
 (mkL 1 (List.length p0:Int) 0).bind fun x1=>(mJ p0 fuel 0 (List.replicate (List.length p0:Int).toNat 0))
def qJ (p0:M.Response):Option M.Response:=
 (uR p0.Body).bind fun x1=>(some (⟨p0.Type_,p0.Status,p0.Version,x1,p0.Shares⟩:M.Response))
def wK (p0:M.Cached):Option M.Cached:=
 (qJ p0.Response).bind fun x1=>(some (⟨p0.Site,p0.Path,x1⟩:M.Cached))
def jG (p0:List M.Cached):Nat→Int→List M.Cached→Option (List M.Cached)
 | 0,_,_=>none
 | nL1+1,v4,r7=>if (decide (v4<(List.length p0:Int)))=true then ((idx p0 v4).bind fun x13=>((wK x13).bind fun x18=>((idx r7 v4).bind fun x20=>(jG p0 nL1 (i64.wrap (v4+1)) (List.set r7 v4.toNat x18))))) else (some r7)
def tU (p0:List M.Cached):Option (List M.Cached):=
 (mkL 88 (List.length p0:Int) (⟨(⟨#[]⟩:ByteArray),(⟨#[]⟩:ByteArray),(⟨0,0,0,([]:List Int),false⟩:M.Response)⟩:M.Cached)).bind fun x1=>(jG p0 fuel 0 (List.replicate (List.length p0:Int).toNat (⟨(⟨#[]⟩:ByteArray),(⟨#[]⟩:ByteArray),(⟨0,0,0,([]:List Int),false⟩:M.Response)⟩:M.Cached)))
def yK (p0:M.Cache):Option M.Cache:=
 (tU p0.Entries).bind fun x1=>(some (⟨p0.Version,x1⟩:M.Cache))
def kS (p0:List M.Cache):Nat→Int→List M.Cache→Option (List M.Cache)
 | 0,_,_=>none
 | nL1+1,v4,r7=>if (decide (v4<(List.length p0:Int)))=true then ((idx p0 v4).bind fun x13=>((yK x13).bind fun x18=>((idx r7 v4).bind fun x20=>(kS p0 nL1 (i64.wrap (v4+1)) (List.set r7 v4.toNat x18))))) else (some r7)
def wS (p0:List M.Cache):Option (List M.Cache):=
 (mkL 32 (List.length p0:Int) (⟨0,([]:List M.Cached)⟩:M.Cache)).bind fun x1=>(kS p0 fuel 0 (List.replicate (List.length p0:Int).toNat (⟨0,([]:List M.Cached)⟩:M.Cache)))
def qO (p0:M.aU):Option M.aU:=
 (wS p0.Caches).bind fun x1=>(some (⟨x1⟩:M.aU))
def aAG (p0:M.Key):Option M.Key:=
 some p0
def zJ (p0:M.Field):Option M.Field:=
 some p0
def kJ (p0:List M.Field):Nat→Int→List M.Field→Option (List M.Field)
 | 0,_,_=>none
 | nL1+1,v4,r7=>if (decide (v4<(List.length p0:Int)))=true then ((idx p0 v4).bind fun x13=>((zJ x13).bind fun x18=>((idx r7 v4).bind fun x20=>(kJ p0 nL1 (i64.wrap (v4+1)) (List.set r7 v4.toNat x18))))) else (some r7)
def xD (p0:List M.Field):Option (List M.Field):=
 (mkL 24 (List.length p0:Int) (⟨(⟨#[]⟩:ByteArray),0⟩:M.Field)).bind fun x1=>(kJ p0 fuel 0 (List.replicate (List.length p0:Int).toNat (⟨(⟨#[]⟩:ByteArray),0⟩:M.Field)))
def wH (p0:M.aH):Option M.aH:=
 (xD p0.Fields).bind fun x1=>(some (⟨x1⟩:M.aH))
def aAQ (p0:M.Item):Option M.Item:=
 (aAG p0.Key).bind fun x1=>((wH p0.aH).bind fun x3=>(some (⟨x1,x3⟩:M.Item)))
def mO (p0:List M.Item):Nat→Int→List M.Item→Option (List M.Item)
 | 0,_,_=>none
 | nL1+1,v4,r7=>if (decide (v4<(List.length p0:Int)))=true then ((idx p0 v4).bind fun x13=>((aAQ x13).bind fun x18=>((idx r7 v4).bind fun x20=>(mO p0 nL1 (i64.wrap (v4+1)) (List.set r7 v4.toNat x18))))) else (some r7)
def yJ (p0:List M.Item):Option (List M.Item):=
 (mkL 56 (List.length p0:Int) (⟨(⟨0,0,(⟨#[]⟩:ByteArray)⟩:M.Key),(⟨([]:List M.Field)⟩:M.aH)⟩:M.Item)).bind fun x1=>(mO p0 fuel 0 (List.replicate (List.length p0:Int).toNat (⟨(⟨0,0,(⟨#[]⟩:ByteArray)⟩:M.Key),(⟨([]:List M.Field)⟩:M.aH)⟩:M.Item)))
def pP (p0:M.aE):Option M.aE:=
 (yJ p0.Items).bind fun x1=>(some (⟨p0.Name,x1,p0.Auto⟩:M.aE))
def kP (p0:List M.aE):Nat→Int→List M.aE→Option (List M.aE)
 | 0,_,_=>none
 | nL1+1,v4,r7=>if (decide (v4<(List.length p0:Int)))=true then ((idx p0 v4).bind fun x13=>((pP x13).bind fun x18=>((idx r7 v4).bind fun x20=>(kP p0 nL1 (i64.wrap (v4+1)) (List.set r7 v4.toNat x18))))) else (some r7)
def wB (p0:List M.aE):Option (List M.aE):=
 (mkL 48 (List.length p0:Int) (⟨(⟨#[]⟩:ByteArray),([]:List M.Item),0⟩:M.aE)).bind fun x1=>(kP p0 fuel 0 (List.replicate (List.length p0:Int).toNat (⟨(⟨#[]⟩:ByteArray),([]:List M.Item),0⟩:M.aE)))
def rH (p0:M.aD):Option M.aD:=
 some p0
def hZ (p0:List M.aD):Nat→Int→List M.aD→Option (List M.aD)
 | 0,_,_=>none
 | nL1+1,v4,r7=>if (decide (v4<(List.length p0:Int)))=true then ((idx p0 v4).bind fun x13=>((rH x13).bind fun x18=>((idx r7 v4).bind fun x20=>(hZ p0 nL1 (i64.wrap (v4+1)) (List.set r7 v4.toNat x18))))) else (some r7)
def pA (p0:List M.aD):Option (List M.aD):=
 (mkL 32 (List.length p0:Int) (⟨(⟨#[]⟩:ByteArray),(⟨#[]⟩:ByteArray)⟩:M.aD)).bind fun x1=>(hZ p0 fuel 0 (List.replicate (List.length p0:Int).toNat (⟨(⟨#[]⟩:ByteArray),(⟨#[]⟩:ByteArray)⟩:M.aD)))
def pT (p0:M.Database):Option M.Database:=
 (wB p0.Stores).bind fun x1=>((pA p0.Unique).bind fun x3=>(some (⟨p0.Name,p0.Version,x1,x3⟩:M.Database)))
def aA1 (p0:M.bD):Option M.bD:=
 (pT p0.Base).bind fun x1=>((uR p0.Log).bind fun x3=>(some (⟨x1,x3,p0.Count⟩:M.bD)))
def yV (p0:M.aV):Option M.aV:=
 (aAG p0.Key).bind fun x1=>(some (⟨p0.Device,p0.Seq,x1,p0.Field,p0.N⟩:M.aV))
def kV (p0:List M.aV):Nat→Int→List M.aV→Option (List M.aV)
 | 0,_,_=>none
 | nL1+1,v4,r7=>if (decide (v4<(List.length p0:Int)))=true then ((idx p0 v4).bind fun x13=>((yV x13).bind fun x18=>((idx r7 v4).bind fun x20=>(kV p0 nL1 (i64.wrap (v4+1)) (List.set r7 v4.toNat x18))))) else (some r7)
def qX (p0:List M.aV):Option (List M.aV):=
 (mkL 72 (List.length p0:Int) (⟨0,0,(⟨0,0,(⟨#[]⟩:ByteArray)⟩:M.Key),(⟨#[]⟩:ByteArray),0⟩:M.aV)).bind fun x1=>(kV p0 fuel 0 (List.replicate (List.length p0:Int).toNat (⟨0,0,(⟨0,0,(⟨#[]⟩:ByteArray)⟩:M.Key),(⟨#[]⟩:ByteArray),0⟩:M.aV)))
def vV (p0:M.aN):Option M.aN:=
 (qX p0.Writes).bind fun x1=>(some (⟨p0.Device,p0.Next,x1⟩:M.aN))
def aAu (p0:M.Sync):Option M.Sync:=
 (vV p0.aN).bind fun x1=>(some (⟨x1,p0.Tries,p0.WaitUntil⟩:M.Sync))
def tV (p0:M.aC):Option M.aC:=
 (pP p0.Base).bind fun x1=>((aAu p0.Sync).bind fun x3=>(some (⟨x1,p0.Seen,x3⟩:M.aC)))
def wU (p0:M.aA):Option M.aA:=
 (kE p0.Registration).bind fun x1=>((qO p0.Caches).bind fun x3=>((aA1 p0.bD).bind fun x5=>((tV p0.aC).bind fun x7=>(some (⟨p0.Site,p0.Top,x1,x3,x5,x7,p0.LastUsed,p0.Persistent⟩:M.aA)))))
def jR (p0:List M.aA):Nat→Int→List M.aA→Option (List M.aA)
 | 0,_,_=>none
 | nL1+1,v4,r7=>if (decide (v4<(List.length p0:Int)))=true then ((idx p0 v4).bind fun x13=>((wU x13).bind fun x18=>((idx r7 v4).bind fun x20=>(jR p0 nL1 (i64.wrap (v4+1)) (List.set r7 v4.toNat x18))))) else (some r7)
def uJ (p0:List M.aA):Option (List M.aA):=
 (mkL 328 (List.length p0:Int) (⟨(⟨#[]⟩:ByteArray),(⟨#[]⟩:ByteArray),(⟨(⟨#[]⟩:ByteArray),0,0,0⟩:M.Registration),(⟨([]:List M.Cache)⟩:M.aU),(⟨(⟨(⟨#[]⟩:ByteArray),0,([]:List M.aE),([]:List M.aD)⟩:M.Database),([]:List Int),0⟩:M.bD),(⟨(⟨(⟨#[]⟩:ByteArray),([]:List M.Item),0⟩:M.aE),0,(⟨(⟨0,0,([]:List M.aV)⟩:M.aN),0,0⟩:M.Sync)⟩:M.aC),0,false⟩:M.aA)).bind fun x1=>(jR p0 fuel 0 (List.replicate (List.length p0:Int).toNat (⟨(⟨#[]⟩:ByteArray),(⟨#[]⟩:ByteArray),(⟨(⟨#[]⟩:ByteArray),0,0,0⟩:M.Registration),(⟨([]:List M.Cache)⟩:M.aU),(⟨(⟨(⟨#[]⟩:ByteArray),0,([]:List M.aE),([]:List M.aD)⟩:M.Database),([]:List Int),0⟩:M.bD),(⟨(⟨(⟨#[]⟩:ByteArray),([]:List M.Item),0⟩:M.aE),0,(⟨(⟨0,0,([]:List M.aV)⟩:M.aN),0,0⟩:M.Sync)⟩:M.aC),0,false⟩:M.aA)))
def tL (p0:M.aF):Option M.aF:=
 (uJ p0.Buckets).bind fun x1=>(some (⟨x1⟩:M.aF))
def vM (p0:M.aM):Option M.aM:=
 some p0
def jQ (p0:List M.aM):Nat→Int→List M.aM→Option (List M.aM)
 | 0,_,_=>none
 | nL1+1,v4,r7=>if (decide (v4<(List.length p0:Int)))=true then ((idx p0 v4).bind fun x13=>((vM x13).bind fun x18=>((idx r7 v4).bind fun x20=>(jQ p0 nL1 (i64.wrap (v4+1)) (List.set r7 v4.toNat x18))))) else (some r7)
def tG (p0:List M.aM):Option (List M.aM):=
 (mkL 24 (List.length p0:Int) (⟨(⟨#[]⟩:ByteArray),0⟩:M.aM)).bind fun x1=>(jQ p0 fuel 0 (List.replicate (List.length p0:Int).toNat (⟨(⟨#[]⟩:ByteArray),0⟩:M.aM)))
def zK (p0:M.Instr):Option M.Instr:=
 some p0
def kI (p0:List M.Instr):Nat→Int→List M.Instr→Option (List M.Instr)
 | 0,_,_=>none
 | nL1+1,v4,r7=>if (decide (v4<(List.length p0:Int)))=true then ((idx p0 v4).bind fun x13=>((zK x13).bind fun x18=>((idx r7 v4).bind fun x20=>(kI p0 nL1 (i64.wrap (v4+1)) (List.set r7 v4.toNat x18))))) else (some r7)
def xE (p0:List M.Instr):Option (List M.Instr):=
 (mkL 40 (List.length p0:Int) (⟨0,0,0,(⟨#[]⟩:ByteArray)⟩:M.Instr)).bind fun x1=>(kI p0 fuel 0 (List.replicate (List.length p0:Int).toNat (⟨0,0,0,(⟨#[]⟩:ByteArray)⟩:M.Instr)))
def oC (p0:List Int):Nat→Int→List Int→Option (List Int)
 | 0,_,_=>none
 | nL1+1,v4,r7=>if (decide (v4<(List.length p0:Int)))=true then ((idx p0 v4).bind fun x13=>((idx r7 v4).bind fun x18=>(oC p0 nL1 (i64.wrap (v4+1)) (List.set r7 v4.toNat x13)))) else (some r7)
def aAd (p0:List Int):Option (List Int):=
 (mkL 8 (List.length p0:Int) 0).bind fun x1=>(oC p0 fuel 0 (List.replicate (List.length p0:Int).toNat 0))
def tC (p0:M.Machine):Option M.Machine:=
 (xE p0.Script).bind fun x1=>((aAd p0.Regs).bind fun x3=>(some (⟨x1,p0.Pc,x3,p0.Steps,p0.Done,p0.Wait⟩:M.Machine)))
def lK (p0:M.bJ):Option M.bJ:=
 (tG p0.aM).bind fun x1=>((tC p0.Machine).bind fun x3=>(some (⟨p0.Id,p0.Site,p0.Top,p0.Version,x1,x3⟩:M.bJ)))
def mG (p0:List M.bJ):Nat→Int→List M.bJ→Option (List M.bJ)
 | 0,_,_=>none
 | nL1+1,v4,r7=>if (decide (v4<(List.length p0:Int)))=true then ((idx p0 v4).bind fun x13=>((lK x13).bind fun x18=>((idx r7 v4).bind fun x20=>(mG p0 nL1 (i64.wrap (v4+1)) (List.set r7 v4.toNat x18))))) else (some r7)
def yS (p0:List M.bJ):Option (List M.bJ):=
 (mkL 144 (List.length p0:Int) (⟨0,(⟨#[]⟩:ByteArray),(⟨#[]⟩:ByteArray),0,([]:List M.aM),(⟨([]:List M.Instr),0,([]:List Int),0,false,false⟩:M.Machine)⟩:M.bJ)).bind fun x1=>(mG p0 fuel 0 (List.replicate (List.length p0:Int).toNat (⟨0,(⟨#[]⟩:ByteArray),(⟨#[]⟩:ByteArray),0,([]:List M.aM),(⟨([]:List M.Instr),0,([]:List Int),0,false,false⟩:M.Machine)⟩:M.bJ)))
def aAg (p0:M.cT):Option M.cT:=
 some p0
def lW (p0:List M.cT):Nat→Int→List M.cT→Option (List M.cT)
 | 0,_,_=>none
 | nL1+1,v4,r7=>if (decide (v4<(List.length p0:Int)))=true then ((idx p0 v4).bind fun x13=>((aAg x13).bind fun x18=>((idx r7 v4).bind fun x20=>(lW p0 nL1 (i64.wrap (v4+1)) (List.set r7 v4.toNat x18))))) else (some r7)
def yL (p0:List M.cT):Option (List M.cT):=
 (mkL 32 (List.length p0:Int) (⟨(⟨#[]⟩:ByteArray),0,false,false⟩:M.cT)).bind fun x1=>(lW p0 fuel 0 (List.replicate (List.length p0:Int).toNat (⟨(⟨#[]⟩:ByteArray),0,false,false⟩:M.cT)))
def oS (p0:M.aW):Option M.aW:=
 (yL p0.Locks).bind fun x1=>(some (⟨x1⟩:M.aW))
def aAn (p0:M.eO):Option M.eO:=
 some p0
def lZ (p0:List M.eO):Nat→Int→List M.eO→Option (List M.eO)
 | 0,_,_=>none
 | nL1+1,v4,r7=>if (decide (v4<(List.length p0:Int)))=true then ((idx p0 v4).bind fun x13=>((aAn x13).bind fun x18=>((idx r7 v4).bind fun x20=>(lZ p0 nL1 (i64.wrap (v4+1)) (List.set r7 v4.toNat x18))))) else (some r7)
def yF (p0:List M.eO):Option (List M.eO):=
 (mkL 24 (List.length p0:Int) (⟨0,0,0⟩:M.eO)).bind fun x1=>(lZ p0 fuel 0 (List.replicate (List.length p0:Int).toNat (⟨0,0,0⟩:M.eO)))
def sW (p0:M.Channel):Option M.Channel:=
 (yF p0.Mails).bind fun x1=>(some (⟨x1⟩:M.Channel))
def jI (p0:List ByteArray):Nat→Int→List ByteArray→Option (List ByteArray)
 | 0,_,_=>none
 | nL1+1,v4,r7=>if (decide (v4<(List.length p0:Int)))=true then ((idx p0 v4).bind fun x13=>((idx r7 v4).bind fun x18=>(jI p0 nL1 (i64.wrap (v4+1)) (List.set r7 v4.toNat x13)))) else (some r7)
def uG (p0:List ByteArray):Option (List ByteArray):=
 (mkL 16 (List.length p0:Int) (⟨#[]⟩:ByteArray)).bind fun x1=>(jI p0 fuel 0 (List.replicate (List.length p0:Int).toNat (⟨#[]⟩:ByteArray)))
def aAk (p0:M.Site):Option M.Site:=
 (uG p0.Files).bind fun x1=>(some (⟨p0.Name,p0.Version,x1,p0.Shared⟩:M.Site))
def mH (p0:List M.Site):Nat→Int→List M.Site→Option (List M.Site)
 | 0,_,_=>none
 | nL1+1,v4,r7=>if (decide (v4<(List.length p0:Int)))=true then ((idx p0 v4).bind fun x13=>((aAk x13).bind fun x18=>((idx r7 v4).bind fun x20=>(mH p0 nL1 (i64.wrap (v4+1)) (List.set r7 v4.toNat x18))))) else (some r7)
def yZ (p0:List M.Site):Option (List M.Site):=
 (mkL 56 (List.length p0:Int) (⟨(⟨#[]⟩:ByteArray),0,([]:List ByteArray),false⟩:M.Site)).bind fun x1=>(mH p0 fuel 0 (List.replicate (List.length p0:Int).toNat (⟨(⟨#[]⟩:ByteArray),0,([]:List ByteArray),false⟩:M.Site)))
def uA (p0:M.aO):Option M.aO:=
 some p0
def iU (p0:List M.aO):Nat→Int→List M.aO→Option (List M.aO)
 | 0,_,_=>none
 | nL1+1,v4,r7=>if (decide (v4<(List.length p0:Int)))=true then ((idx p0 v4).bind fun x13=>((uA x13).bind fun x18=>((idx r7 v4).bind fun x20=>(iU p0 nL1 (i64.wrap (v4+1)) (List.set r7 v4.toNat x18))))) else (some r7)
def rA (p0:List M.aO):Option (List M.aO):=
 (mkL 16 (List.length p0:Int) (⟨0,0⟩:M.aO)).bind fun x1=>(iU p0 fuel 0 (List.replicate (List.length p0:Int).toNat (⟨0,0⟩:M.aO)))
def xB (p0:M.Server):Option M.Server:=
 (pP p0.aE).bind fun x1=>((rA p0.aO).bind fun x3=>((qX p0.Changes).bind fun x5=>(some (⟨x1,x3,x5⟩:M.Server))))
def jM (p0:List M.Server):Nat→Int→List M.Server→Option (List M.Server)
 | 0,_,_=>none
 | nL1+1,v4,r7=>if (decide (v4<(List.length p0:Int)))=true then ((idx p0 v4).bind fun x13=>((xB x13).bind fun x18=>((idx r7 v4).bind fun x20=>(jM p0 nL1 (i64.wrap (v4+1)) (List.set r7 v4.toNat x18))))) else (some r7)
def tH (p0:List M.Server):Option (List M.Server):=
 (mkL 96 (List.length p0:Int) (⟨(⟨(⟨#[]⟩:ByteArray),([]:List M.Item),0⟩:M.aE),([]:List M.aO),([]:List M.aV)⟩:M.Server)).bind fun x1=>(jM p0 fuel 0 (List.replicate (List.length p0:Int).toNat (⟨(⟨(⟨#[]⟩:ByteArray),([]:List M.Item),0⟩:M.aE),([]:List M.aO),([]:List M.aV)⟩:M.Server)))
def lV (p0:M.World):Option M.World:=
 (tL p0.aF).bind fun x1=>((yS p0.Pages).bind fun x3=>((oS p0.Locks).bind fun x5=>((sW p0.Channel).bind fun x7=>((yZ p0.Sites).bind fun x9=>((tH p0.Servers).bind fun x11=>(some (⟨p0.Now,p0.Online,p0.Device,x1,x3,p0.NextPage,x5,x7,x9,x11⟩:M.World)))))))
def fK (p0:M.aF) (p1:ByteArray) (p2:ByteArray):Nat→Int→Option Int
 | 0,_=>none
 | nL1+1,v7=>if (decide (v7<(List.length p0.Buckets:Int)))=true then ((idx p0.Buckets v7).bind fun x8=>(if (x8.Site.toList==p1.toList)=true then (if (x8.Top.toList==p2.toList)=true then (some v7) else (fK p0 p1 p2 nL1 (i64.wrap (v7+1)))) else (fK p0 p1 p2 nL1 (i64.wrap (v7+1))))) else (some (-1))
def mM (p0:M.aF) (p1:ByteArray) (p2:ByteArray):Option Int:=
 fK p0 p1 p2 fuel 0
def zC (p0:M.Response):Option M.Response:=
 (app 1 ([]:List Int) p0.Body).bind fun x1=>(some p0)
def iJ (p0:M.Cache):Nat→Int→List M.Cached→Option M.Cache
 | 0,_,_=>none
 | nL1+1,v4,r50000=>if (decide (v4<(List.length p0.Entries:Int)))=true then ((idx p0.Entries v4).bind fun x11=>((zC x11.Response).bind fun x16=>((app 88 r50000 ([(⟨x11.Site,x11.Path,x16⟩:M.Cached)])).bind fun x18=>(iJ p0 nL1 (i64.wrap (v4+1)) (r50000++[(⟨x11.Site,x11.Path,x16⟩:M.Cached)]))))) else (some (⟨p0.Version,r50000⟩:M.Cache))
def wM (p0:M.Cache):Option M.Cache:=
 iJ p0 fuel 0 ([]:List M.Cached)
def jU (p0:M.aU):Nat→Int→List M.Cache→Option M.aU
 | 0,_,_=>none
 | nL1+1,v4,r50000=>if (decide (v4<(List.length p0.Caches:Int)))=true then ((idx p0.Caches v4).bind fun x11=>((wM x11).bind fun x16=>((app 32 r50000 ([x16])).bind fun x18=>(jU p0 nL1 (i64.wrap (v4+1)) (r50000++[x16]))))) else (some (⟨r50000⟩:M.aU))
def zT (p0:M.aU):Option M.aU:=
 jU p0 fuel 0 ([]:List M.Cache)
def bQ (p0:M.aH):Option M.aH:=
 (app 24 ([]:List M.Field) p0.Fields).bind fun x1=>(some p0)
def xL (p0:M.Item):Option M.Item:=
 (bQ p0.aH).bind fun x1=>(some (⟨p0.Key,x1⟩:M.Item))
def lA (p0:M.aE):Nat→Int→List M.Item→Option M.aE
 | 0,_,_=>none
 | nL1+1,v4,r50000=>if (decide (v4<(List.length p0.Items:Int)))=true then ((idx p0.Items v4).bind fun x11=>((xL x11).bind fun x16=>((app 56 r50000 ([x16])).bind fun x18=>(lA p0 nL1 (i64.wrap (v4+1)) (r50000++[x16]))))) else (some (⟨p0.Name,r50000,p0.Auto⟩:M.aE))
def eV (p0:M.aE):Option M.aE:=
 lA p0 fuel 0 ([]:List M.Item)
def lC (p0:M.Database):Nat→Int→List M.aE→Option M.Database
 | 0,_,_=>none
 | nL1+1,v4,r50000=>if (decide (v4<(List.length p0.Stores:Int)))=true then ((idx p0.Stores v4).bind fun x22=>((eV x22).bind fun x27=>((app 48 r50000 ([x27])).bind fun x29=>(lC p0 nL1 (i64.wrap (v4+1)) (r50000++[x27]))))) else (some (⟨p0.Name,p0.Version,r50000,p0.Unique⟩:M.Database))
def aAc (p0:M.Database):Option M.Database:=
 (app 32 ([]:List M.aD) p0.Unique).bind fun x1=>(lC p0 fuel 0 ([]:List M.aE))
def yH (p0:M.bD):Option M.bD:=
 (aAc p0.Base).bind fun x1=>((app 1 ([]:List Int) p0.Log).bind fun x3=>(some (⟨x1,p0.Log,p0.Count⟩:M.bD)))
def pN (p0:M.aN):Option M.aN:=
 (app 72 ([]:List M.aV) p0.Writes).bind fun x1=>(some p0)
def yP (p0:M.Sync):Option M.Sync:=
 (pN p0.aN).bind fun x1=>(some (⟨x1,p0.Tries,p0.WaitUntil⟩:M.Sync))
def pO (p0:M.aC):Option M.aC:=
 (eV p0.Base).bind fun x1=>((yP p0.Sync).bind fun x3=>(some (⟨x1,p0.Seen,x3⟩:M.aC)))
def gE (p0:M.aA):Option M.aA:=
 (zT p0.Caches).bind fun x1=>((yH p0.bD).bind fun x3=>((pO p0.aC).bind fun x5=>(some (⟨p0.Site,p0.Top,p0.Registration,x1,x3,x5,p0.LastUsed,p0.Persistent⟩:M.aA))))
def jH (p0:M.aF):Nat→Int→List M.aA→Option M.aF
 | 0,_,_=>none
 | nL1+1,v4,r50000=>if (decide (v4<(List.length p0.Buckets:Int)))=true then ((idx p0.Buckets v4).bind fun x11=>((gE x11).bind fun x16=>((app 328 r50000 ([x16])).bind fun x18=>(jH p0 nL1 (i64.wrap (v4+1)) (r50000++[x16]))))) else (some (⟨r50000⟩:M.aF))
def eQ (p0:M.aF):Option M.aF:=
 jH p0 fuel 0 ([]:List M.aA)
def tM (p0:List M.Instr):Option (List M.Instr):=
 (app 40 ([]:List M.Instr) p0).bind fun x1=>(some p0)
def zA (p0:M.Machine):Option M.Machine:=
 (tM p0.Script).bind fun x1=>((app 8 ([]:List Int) p0.Regs).bind fun x3=>(some (⟨x1,p0.Pc,p0.Regs,p0.Steps,p0.Done,p0.Wait⟩:M.Machine)))
def yQ (p0:M.bJ):Option M.bJ:=
 (app 24 ([]:List M.aM) p0.aM).bind fun x1=>((zA p0.Machine).bind fun x11=>(some (⟨p0.Id,p0.Site,p0.Top,p0.Version,p0.aM,x11⟩:M.bJ)))
def uU (p0:M.aW):Option M.aW:=
 (app 32 ([]:List M.cT) p0.Locks).bind fun x1=>(some p0)
def uT (p0:M.Channel):Option M.Channel:=
 (app 24 ([]:List M.eO) p0.Mails).bind fun x1=>(some p0)
def zD (p0:M.Site):Option M.Site:=
 (app 16 ([]:List ByteArray) p0.Files).bind fun x1=>(some p0)
def yU (p0:M.Server):Option M.Server:=
 (eV p0.aE).bind fun x1=>((app 16 ([]:List M.aO) p0.aO).bind fun x3=>((app 72 ([]:List M.aV) p0.Changes).bind fun x5=>(some (⟨x1,p0.aO,p0.Changes⟩:M.Server))))
def gL (p0:M.World) (x1:M.aF) (r12:List M.bJ) (x42:M.aW) (x44:M.Channel) (r40:List M.Site):Nat→Int→List M.Server→Option M.World
 | 0,_,_=>none
 | nL3+1,v6,r60=>if (decide (v6<(List.length p0.Servers:Int)))=true then ((idx p0.Servers v6).bind fun x122=>((yU x122).bind fun x127=>((app 96 r60 ([x127])).bind fun x129=>(gL p0 x1 r12 x42 x44 r40 nL3 (i64.wrap (v6+1)) (r60++[x127]))))) else (some (⟨p0.Now,p0.Online,p0.Device,x1,r12,p0.NextPage,x42,x44,r40,r60⟩:M.World))
def gN (p0:M.World) (x1:M.aF) (r12:List M.bJ) (x42:M.aW) (x44:M.Channel):Nat→Int→List M.Site→Option M.World
 | 0,_,_=>none
 | nL2+1,v5,r40=>if (decide (v5<(List.length p0.Sites:Int)))=true then ((idx p0.Sites v5).bind fun x72=>((zD x72).bind fun x77=>((app 56 r40 ([x77])).bind fun x79=>(gN p0 x1 r12 x42 x44 nL2 (i64.wrap (v5+1)) (r40++[x77]))))) else (gL p0 x1 r12 x42 x44 r40 fuel 0 ([]:List M.Server))
def iD (p0:M.World) (x1:M.aF):Nat→Int→List M.bJ→Option M.World
 | 0,_,_=>none
 | nL1+1,v4,r12=>if (decide (v4<(List.length p0.Pages:Int)))=true then ((idx p0.Pages v4).bind fun x23=>((yQ x23).bind fun x28=>((app 144 r12 ([x28])).bind fun x30=>(iD p0 x1 nL1 (i64.wrap (v4+1)) (r12++[x28]))))) else ((uU p0.Locks).bind fun x42=>((uT p0.Channel).bind fun x44=>(gN p0 x1 r12 x42 x44 fuel 0 ([]:List M.Site))))
def uW (p0:M.World):Option M.World:=
 (eQ p0.aF).bind fun x1=>(iD p0 x1 fuel 0 ([]:List M.bJ))
def aBe (p0:Int):Option M.Key:=
 some (⟨1,p0,(⟨#[]⟩:ByteArray)⟩:M.Key)
def bW (p0:Int) (p1:Int) (p2:Int):Option Bool:=
 if (decide (p0≥p1))=true then (some (decide (p0≤p2))) else (some false)
def gF (p0:ByteArray):Nat→Int→Option Bool
 | 0,_=>none
 | nL1+1,v3=>if (decide (v3<(p0.size:Int)))=true then ((aOA p0 v3).bind fun x5=>(if (decide ((x5.toNat:Int)<97))=true then (if (decide ((x5.toNat:Int)<48))=true then (some false) else (if (decide ((x5.toNat:Int)>57))=true then (some false) else (gF p0 nL1 (i64.wrap (v3+1))))) else (if (decide ((x5.toNat:Int)>122))=true then (if (decide ((x5.toNat:Int)<48))=true then (some false) else (if (decide ((x5.toNat:Int)>57))=true then (some false) else (gF p0 nL1 (i64.wrap (v3+1))))) else (gF p0 nL1 (i64.wrap (v3+1)))))) else (some (decide ((p0.size:Int)≤12)))
def xH (p0:ByteArray):Option Bool:=
 gF p0 fuel 0
def lN (p0:M.Key):Option Bool:=
 (bW p0.Kind 1 3).bind fun x1=>(if x1=true then ((bW p0.N (-1000000000000) 1000000000000).bind fun x4=>(if x4=true then (if (p0.Kind != 2)=true then ((xH p0.Text).bind fun x8=>(if x8=true then (if (p0.Kind != 1)=true then (some true) else (some (p0.Text.toList==(⟨#[]⟩:ByteArray).toList))) else (some false))) else (if (p0.N==0)=true then ((xH p0.Text).bind fun x13=>(if x13=true then (if (p0.Kind != 1)=true then (some true) else (some (p0.Text.toList==(⟨#[]⟩:ByteArray).toList))) else (some false))) else (some false))) else (some false))) else (some false))
def iX (p0:ByteArray):Nat→Int→Option Bool
 | 0,_=>none
 | nL1+1,v3=>if (decide (v3<(p0.size:Int)))=true then ((aOA p0 v3).bind fun x5=>(if (decide ((x5.toNat:Int)<97))=true then (some false) else (if (decide ((x5.toNat:Int)>122))=true then (some false) else (iX p0 nL1 (i64.wrap (v3+1)))))) else ((bW (p0.size:Int) 1 8).bind fun x11=>(some x11))
def fV (p0:ByteArray):Option Bool:=
 iX p0 fuel 0
def lJ (p0:M.aV):Option Bool:=
 (bW p0.Device 1 1000000).bind fun x1=>(if x1=true then ((bW p0.Seq 1 1000000).bind fun x4=>(if x4=true then ((lN p0.Key).bind fun x7=>(if x7=true then ((fV p0.Field).bind fun x10=>(if x10=true then ((bW p0.N 0 1000000000).bind fun x13=>(some x13)) else (some false))) else (some false))) else (some false))) else (some false))
def iK (p0:M.aN):Nat→Int→Option Bool
 | 0,_=>none
 | nL1+1,v4=>if (decide (v4<(List.length p0.Writes:Int)))=true then ((idx p0.Writes v4).bind fun x14=>((lJ x14).bind fun x19=>(if (!x19)=true then (some false) else (if (x14.Device != p0.Device)=true then (some false) else (if (x14.Seq != (i64.wrap ((i64.wrap (p0.Next-(List.length p0.Writes:Int)))+v4)))=true then (some false) else (iK p0 nL1 (i64.wrap (v4+1)))))))) else (some true)
def nF (p0:M.aN):Option Bool:=
 (bW p0.Device 1 1000000).bind fun x1=>(if (!x1)=true then (some false) else ((bW p0.Next 1 1000000).bind fun x4=>(if (!x4)=true then (some false) else (if (decide ((List.length p0.Writes:Int)>20))=true then (some false) else (iK p0 fuel 0)))))
def nD (p0:M.aN) (p1:M.Key) (p2:ByteArray) (p3:Int):Option (M.aN×Bool):=
 (pN p0).bind fun x1=>((nF p0).bind fun x3=>(if (!x3)=true then (some (x1,false)) else ((app 72 x1.Writes ([(⟨p0.Device,p0.Next,p1,p2,p3⟩:M.aV)])).bind fun x6=>((nF (⟨x1.Device,(i64.wrap (p0.Next+1)),(x1.Writes++[(⟨p0.Device,p0.Next,p1,p2,p3⟩:M.aV)])⟩:M.aN)).bind fun x16=>(if (!x16)=true then ((pN p0).bind fun x19=>(some (x19,false))) else (some ((⟨x1.Device,(i64.wrap (p0.Next+1)),(x1.Writes++[(⟨p0.Device,p0.Next,p1,p2,p3⟩:M.aV)])⟩:M.aN),true)))))))
def iS (p0:M.aE) (p1:M.Key):Nat→Int→Option Int
 | 0,_=>none
 | nL1+1,v5=>if (decide (v5<(List.length p0.Items:Int)))=true then ((idx p0.Items v5).bind fun x8=>(if ((x8.Key.Kind==p1.Kind)&&((x8.Key.N==p1.N)&&(x8.Key.Text.toList==p1.Text.toList)))=true then (some v5) else (iS p0 p1 nL1 (i64.wrap (v5+1))))) else (some (-1))
def qH (p0:M.aE) (p1:M.Key):Option Int:=
 iS p0 p1 fuel 0
def fS (p0:M.aH):Nat→Int→Option Bool
 | 0,_=>none
 | nL1+1,v3=>if (decide (v3<(List.length p0.Fields:Int)))=true then ((idx p0.Fields v3).bind fun x6=>((fV x6.Name).bind fun x11=>(if (!x11)=true then (some false) else ((bW x6.N 0 1000000000).bind fun x14=>(if (!x14)=true then (some false) else (if (decide (v3>0))=true then ((idx p0.Fields (i64.wrap (v3-1))).bind fun x18=>(if (!(Op.bytesLess x18.Name.toList x6.Name.toList))=true then (some false) else (fS p0 nL1 (i64.wrap (v3+1))))) else (fS p0 nL1 (i64.wrap (v3+1))))))))) else (some (decide ((List.length p0.Fields:Int)≤6)))
def bN (p0:M.aH):Option Bool:=
 fS p0 fuel 0
def gV (p0:M.aH) (p1:ByteArray) (p2:Int) (x1:M.aH):Nat→Int→Option (M.aH×Bool)
 | 0,_=>none
 | nL1+1,v9=>if (decide (v9<(List.length p0.Fields:Int)))=true then ((idx p0.Fields v9).bind fun x15=>(if (Op.bytesLess x15.Name.toList p1.toList)=true then (gV p0 p1 p2 x1 nL1 (i64.wrap (v9+1))) else (if (x15.Name.toList==p1.toList)=true then ((idx x1.Fields v9).bind fun x22=>((bN p0).bind fun x35=>(if (!x35)=true then ((bQ p0).bind fun x38=>(some (x38,false))) else ((bN (⟨(List.set x1.Fields v9.toNat (⟨x22.Name,p2⟩:M.Field))⟩:M.aH)).bind fun x40=>(if (!x40)=true then ((bQ p0).bind fun x43=>(some (x43,false))) else (some ((⟨(List.set x1.Fields v9.toNat (⟨x22.Name,p2⟩:M.Field))⟩:M.aH),true))))))) else ((aDO p0.Fields v9).bind fun x45=>((app 24 ([]:List M.Field) (List.take v9.toNat p0.Fields)).bind fun x47=>((app 24 (List.take v9.toNat p0.Fields) ([(⟨p1,p2⟩:M.Field)])).bind fun x49=>((aKK p0.Fields v9).bind fun x51=>((app 24 ((List.take v9.toNat p0.Fields)++[(⟨p1,p2⟩:M.Field)]) (List.drop v9.toNat p0.Fields)).bind fun x53=>((bN p0).bind fun x63=>(if (!x63)=true then ((bQ p0).bind fun x66=>(some (x66,false))) else ((bN (⟨(((List.take v9.toNat p0.Fields)++[(⟨p1,p2⟩:M.Field)])++(List.drop v9.toNat p0.Fields))⟩:M.aH)).bind fun x68=>(if (!x68)=true then ((bQ p0).bind fun x71=>(some (x71,false))) else (some ((⟨(((List.take v9.toNat p0.Fields)++[(⟨p1,p2⟩:M.Field)])++(List.drop v9.toNat p0.Fields))⟩:M.aH),true)))))))))))))) else ((aDO p0.Fields v9).bind fun x73=>((app 24 ([]:List M.Field) (List.take v9.toNat p0.Fields)).bind fun x75=>((app 24 (List.take v9.toNat p0.Fields) ([(⟨p1,p2⟩:M.Field)])).bind fun x77=>((aKK p0.Fields v9).bind fun x79=>((app 24 ((List.take v9.toNat p0.Fields)++[(⟨p1,p2⟩:M.Field)]) (List.drop v9.toNat p0.Fields)).bind fun x81=>((bN p0).bind fun x91=>(if (!x91)=true then ((bQ p0).bind fun x94=>(some (x94,false))) else ((bN (⟨(((List.take v9.toNat p0.Fields)++[(⟨p1,p2⟩:M.Field)])++(List.drop v9.toNat p0.Fields))⟩:M.aH)).bind fun x96=>(if (!x96)=true then ((bQ p0).bind fun x99=>(some (x99,false))) else (some ((⟨(((List.take v9.toNat p0.Fields)++[(⟨p1,p2⟩:M.Field)])++(List.drop v9.toNat p0.Fields))⟩:M.aH),true)))))))))))
def rJ (p0:M.aH) (p1:ByteArray) (p2:Int):Option (M.aH×Bool):=
 (bQ p0).bind fun x1=>(gV p0 p1 p2 x1 fuel 0)
def xI (p0:Bool) (p1:Bool):Option Int:=
 if p0=true then (some (-1)) else (if p1=true then (some 1) else (some 0))
def iP (p0:M.Key) (p1:M.Key):Option Int:=
 (lN p0).bind fun x1=>(if (!x1)=true then (some 0) else ((lN p1).bind fun x4=>(if (!x4)=true then (some 0) else (if (p0.Kind != p1.Kind)=true then ((xI (decide (p0.Kind<p1.Kind)) true).bind fun x8=>(some x8)) else (if (p0.N != p1.N)=true then ((xI (decide (p0.N<p1.N)) true).bind fun x11=>(some x11)) else ((xI (Op.bytesLess p0.Text.toList p1.Text.toList) (!(Op.bytesLess p0.Text.toList p1.Text.toList||p0.Text.toList==p1.Text.toList))).bind fun x13=>(some x13)))))))
def gO (p0:M.aE):Nat→Int→Option Bool
 | 0,_=>none
 | nL1+1,v3=>if (decide (v3<(List.length p0.Items:Int)))=true then ((idx p0.Items v3).bind fun x6=>((lN x6.Key).bind fun x11=>(if (!x11)=true then (some false) else ((bN x6.aH).bind fun x14=>(if (!x14)=true then (some false) else (if (decide (v3>0))=true then ((idx p0.Items (i64.wrap (v3-1))).bind fun x18=>((iP x18.Key x6.Key).bind fun x23=>(if (decide (x23≥0))=true then (some false) else (gO p0 nL1 (i64.wrap (v3+1)))))) else (gO p0 nL1 (i64.wrap (v3+1))))))))) else ((fV p0.Name).bind fun x26=>(if x26=true then (if (decide ((List.length p0.Items:Int)≤16))=true then ((bW p0.Auto 0 1000000).bind fun x30=>(some x30)) else (some false)) else (some false)))
def pK (p0:M.aE):Option Bool:=
 gO p0 fuel 0
def iG (p0:M.aE) (p1:M.Key) (p2:M.aH) (x16:M.aE):Nat→Int→Option (M.aE×Bool)
 | 0,_=>none
 | nL1+1,v10=>if (decide (v10<(List.length p0.Items:Int)))=true then ((idx p0.Items v10).bind fun x43=>((iP x43.Key p1).bind fun x48=>(if (decide (x48<0))=true then (iG p0 p1 p2 x16 nL1 (i64.wrap (v10+1))) else ((aDO x16.Items v10).bind fun x51=>((app 56 ([]:List M.Item) (List.take v10.toNat x16.Items)).bind fun x53=>((bQ p2).bind fun x70=>((app 56 (List.take v10.toNat x16.Items) ([(⟨p1,x70⟩:M.Item)])).bind fun x72=>((app 56 ((List.take v10.toNat x16.Items)++[(⟨p1,x70⟩:M.Item)]) (List.drop v10.toNat x16.Items)).bind fun x87=>(if (p1.Kind==1)=true then ((bW p1.N (i64.wrap (p0.Auto+1)) 1000000).bind fun x100=>(if x100=true then (some ((⟨x16.Name,(((List.take v10.toNat x16.Items)++[(⟨p1,x70⟩:M.Item)])++(List.drop v10.toNat x16.Items)),p1.N⟩:M.aE),true)) else (some ((⟨x16.Name,(((List.take v10.toNat x16.Items)++[(⟨p1,x70⟩:M.Item)])++(List.drop v10.toNat x16.Items)),x16.Auto⟩:M.aE),true)))) else (some ((⟨x16.Name,(((List.take v10.toNat x16.Items)++[(⟨p1,x70⟩:M.Item)])++(List.drop v10.toNat x16.Items)),x16.Auto⟩:M.aE),true))))))))))) else ((aDO x16.Items v10).bind fun x103=>((app 56 ([]:List M.Item) (List.take v10.toNat x16.Items)).bind fun x105=>((bQ p2).bind fun x122=>((app 56 (List.take v10.toNat x16.Items) ([(⟨p1,x122⟩:M.Item)])).bind fun x124=>((app 56 ((List.take v10.toNat x16.Items)++[(⟨p1,x122⟩:M.Item)]) (List.drop v10.toNat x16.Items)).bind fun x139=>(if (p1.Kind==1)=true then ((bW p1.N (i64.wrap (p0.Auto+1)) 1000000).bind fun x152=>(if x152=true then (some ((⟨x16.Name,(((List.take v10.toNat x16.Items)++[(⟨p1,x122⟩:M.Item)])++(List.drop v10.toNat x16.Items)),p1.N⟩:M.aE),true)) else (some ((⟨x16.Name,(((List.take v10.toNat x16.Items)++[(⟨p1,x122⟩:M.Item)])++(List.drop v10.toNat x16.Items)),x16.Auto⟩:M.aE),true)))) else (some ((⟨x16.Name,(((List.take v10.toNat x16.Items)++[(⟨p1,x122⟩:M.Item)])++(List.drop v10.toNat x16.Items)),x16.Auto⟩:M.aE),true))))))))
def lP (p0:M.aE) (p1:M.Key) (p2:M.aH):Option (M.aE×Bool):=
 (pK p0).bind fun x1=>(if (!x1)=true then ((eV p0).bind fun x4=>(some (x4,false))) else ((lN p1).bind fun x6=>(if (!x6)=true then ((eV p0).bind fun x9=>(some (x9,false))) else ((bN p2).bind fun x11=>(if (!x11)=true then ((eV p0).bind fun x14=>(some (x14,false))) else ((eV p0).bind fun x16=>((qH p0 p1).bind fun x18=>(if (decide (x18≥0))=true then ((bQ p2).bind fun x21=>((idx x16.Items x18).bind fun x23=>(some ((⟨x16.Name,(List.set x16.Items x18.toNat (⟨x23.Key,x21⟩:M.Item)),x16.Auto⟩:M.aE),true)))) else (if (decide ((List.length p0.Items:Int)≥16))=true then (some (x16,false)) else (iG p0 p1 p2 x16 fuel 0))))))))))
def jF (p0:M.aE) (p1:M.aV):Option (M.aE×Bool):=
 (qH p0 p1.Key).bind fun x1=>(if (decide (x1≥0))=true then ((idx p0.Items x1).bind fun x4=>((rJ x4.aH p1.Field p1.N).bind fun x9=>(if (!x9.2)=true then ((eV p0).bind fun x12=>(some (x12,false))) else ((lP p0 p1.Key x9.1).bind fun x14=>(some (x14.1,x14.2)))))) else ((rJ (⟨([]:List M.Field)⟩:M.aH) p1.Field p1.N).bind fun x16=>(if (!x16.2)=true then ((eV p0).bind fun x19=>(some (x19,false))) else ((lP p0 p1.Key x16.1).bind fun x21=>(some (x21.1,x21.2))))))
def gX (p1:List M.aV):Nat→Int→ByteArray→Int→List M.Item→Option M.aE
 | 0,_,_,_,_=>none
 | nL1+1,v6,w5_0,w5_2,r50000=>if (decide (v6<(List.length p1:Int)))=true then ((idx p1 v6).bind fun x12=>((jF (⟨w5_0,r50000,w5_2⟩:M.aE) x12).bind fun x17=>(if x17.2=true then (gX p1 nL1 (i64.wrap (v6+1)) x17.1.Name x17.1.Auto x17.1.Items) else (gX p1 nL1 (i64.wrap (v6+1)) w5_0 w5_2 r50000)))) else (some (⟨w5_0,r50000,w5_2⟩:M.aE))
def wP (p0:M.aE) (p1:List M.aV):Option M.aE:=
 (eV p0).bind fun x1=>(gX p1 fuel 0 x1.Name x1.Auto x1.Items)
def xV (p0:M.aC):Option M.aE:=
 (wP p0.Base p0.Sync.aN.Writes).bind fun x1=>(some x1)
def nW (p0:M.aC):Option Bool:=
 (pK p0.Base).bind fun x1=>(if x1=true then (if (p0.Base.Name.toList==(⟨#[110,111,116,101,115]⟩:ByteArray).toList)=true then ((bW p0.Seen 0 1000000000000).bind fun x5=>(if x5=true then ((nF p0.Sync.aN).bind fun x8=>(some x8)) else (some false))) else (some false)) else (some false))
def qR (p0:M.aC) (p1:M.Key) (p2:ByteArray) (p3:Int):Option (M.aC×Bool):=
 (pO p0).bind fun x1=>((nD p0.Sync.aN p1 p2 p3).bind fun x3=>((xV p0).bind fun x5=>((jF x5 (⟨0,0,p1,p2,p3⟩:M.aV)).bind fun x7=>((nW p0).bind fun x9=>(if (!x9)=true then (some (x1,false)) else (if (!x3.2)=true then (some (x1,false)) else (if (!x7.2)=true then (some (x1,false)) else (some ((⟨x1.Base,x1.Seen,(⟨x3.1,x1.Sync.Tries,x1.Sync.WaitUntil⟩:M.Sync)⟩:M.aC),true)))))))))
def bP (p0:M.Registration):Nat→Int→Int→Option Bool
 | 0,_,_=>none
 | nL1+1,v3,v5=>if (decide (v5<((3:Nat):Int)))=true then ((idx ([p0.Active,p0.Waiting,p0.Installing]) v5).bind fun x15=>((bW x15 0 1000000000000).bind fun x20=>(if (!x20)=true then (some false) else (if (x15 != 0)=true then (if (decide (x15≤v3))=true then (some false) else (bP p0 nL1 x15 (i64.wrap (v5+1)))) else (bP p0 nL1 v3 (i64.wrap (v5+1))))))) else ((fV p0.Site).bind fun x25=>(some x25))
def iH (p0:M.Registration):Option Bool:=
 bP p0 fuel 0 0
def qU (p0:M.Response):Option Bool:=
 (bW p0.Type_ 1 4).bind fun x1=>(if x1=true then ((bW p0.Status 0 999).bind fun x4=>(if x4=true then ((bW p0.Version 0 1000000000000).bind fun x7=>(if x7=true then (some (decide ((List.length p0.Body:Int)≤60))) else (some false))) else (some false))) else (some false))
def fI (p0:List M.Cached) (v3:Int) (x5:M.Cached) (k20:Int→Option Bool):Nat→Int→Option Bool
 | 0,_=>none
 | nL2+1,v4_L2=>if (decide (v4_L2<v3))=true then ((idx p0 v4_L2).bind fun x26=>(if (x26.Site.toList==x5.Site.toList)=true then (if (x26.Path.toList==x5.Path.toList)=true then (some false) else (fI p0 v3 x5 k20 nL2 (i64.wrap (v4_L2+1)))) else (fI p0 v3 x5 k20 nL2 (i64.wrap (v4_L2+1))))) else (k20 v4_L2)
def eD (p0:List M.Cached):Nat→Int→Option Bool
 | 0,_=>none
 | nL1+1,v3=>if (decide (v3<(List.length p0:Int)))=true then ((idx p0 v3).bind fun x5=>((fV x5.Site).bind fun x10=>(if (!x10)=true then (some false) else ((fV x5.Path).bind fun x13=>(if (!x13)=true then (some false) else ((qU x5.Response).bind fun x16=>(if (!x16)=true then (some false) else (fI p0 v3 x5 (fun (v4_L2:Int)=>eD p0 nL1 (i64.wrap (v3+1))) fuel 0)))))))) else (some (decide ((List.length p0:Int)≤12)))
def mB (p0:List M.Cached):Option Bool:=
 eD p0 fuel 0
def eA (p0:M.aU):Nat→Int→Option Bool
 | 0,_=>none
 | nL1+1,v3=>if (decide (v3<(List.length p0.Caches:Int)))=true then ((idx p0.Caches v3).bind fun x6=>((bW x6.Version 1 1000000000000).bind fun x11=>(if (!x11)=true then (some false) else (if (decide (v3>0))=true then ((idx p0.Caches (i64.wrap (v3-1))).bind fun x15=>(if (decide (x15.Version≥x6.Version))=true then (some false) else ((mB x6.Entries).bind fun x21=>(if (!x21)=true then (some false) else (eA p0 nL1 (i64.wrap (v3+1))))))) else ((mB x6.Entries).bind fun x24=>(if (!x24)=true then (some false) else (eA p0 nL1 (i64.wrap (v3+1))))))))) else (some (decide ((List.length p0.Caches:Int)≤4)))
def qY (p0:M.aU):Option Bool:=
 eA p0 fuel 0
def hY (p0:M.Database) (p1:ByteArray):Nat→Int→Option Int
 | 0,_=>none
 | nL1+1,v5=>if (decide (v5<(List.length p0.Stores:Int)))=true then ((idx p0.Stores v5).bind fun x7=>(if (x7.Name.toList==p1.toList)=true then (some v5) else (hY p0 p1 nL1 (i64.wrap (v5+1))))) else (some (-1))
def sV (p0:M.Database) (p1:ByteArray):Option Int:=
 hY p0 p1 fuel 0
def kN (p0:M.aH) (p1:ByteArray):Nat→Int→Option (Int×Bool)
 | 0,_=>none
 | nL1+1,v6=>if (decide (v6<(List.length p0.Fields:Int)))=true then ((idx p0.Fields v6).bind fun x7=>(if (x7.Name.toList==p1.toList)=true then (some (x7.N,true)) else (kN p0 p1 nL1 (i64.wrap (v6+1))))) else (some (0,false))
def kA (p0:M.aH) (p1:ByteArray):Option (Int×Bool):=
 kN p0 p1 fuel 0
def aA8 (p0:M.Item) (p1:M.Item) (p2:ByteArray):Option Bool:=
 (kA p0.aH p2).bind fun x1=>((kA p1.aH p2).bind fun x3=>(if (decide (x1.1<x3.1))=true then (some true) else (if (x1.1==x3.1)=true then ((iP p0.Key p1.Key).bind fun x7=>(some (decide (x7<0)))) else (some false))))
def gH (p1:ByteArray) (r50000:List M.Item) (x15:M.Item) (k24:Int→Option (List M.Item)):Nat→Int→Option (List M.Item)
 | 0,_=>none
 | nL2+1,v9_L2=>if (decide (v9_L2>0))=true then ((idx r50000 (i64.wrap (v9_L2-1))).bind fun x34=>((aA8 x15 x34 p1).bind fun x39=>(if x39=true then (gH p1 r50000 x15 k24 nL2 (i64.wrap (v9_L2-1))) else (k24 v9_L2)))) else (k24 v9_L2)
def gK (p0:M.aE) (p1:ByteArray):Nat→Int→List M.Item→Option (List M.Item)
 | 0,_,_=>none
 | nL1+1,v6,r50000=>if (decide (v6<(List.length p0.Items:Int)))=true then ((idx p0.Items v6).bind fun x15=>((kA x15.aH p1).bind fun x20=>(if (!x20.2)=true then (gK p0 p1 nL1 (i64.wrap (v6+1)) r50000) else (gH p1 r50000 x15 (fun (v9_L2:Int)=>(aDO r50000 v9_L2).bind fun x79=>((app 56 ([]:List M.Item) (List.take v9_L2.toNat r50000)).bind fun x81=>((xL x15).bind fun x93=>((app 56 (List.take v9_L2.toNat r50000) ([x93])).bind fun x95=>((app 56 ((List.take v9_L2.toNat r50000)++[x93]) (List.drop v9_L2.toNat r50000)).bind fun x107=>(gK p0 p1 nL1 (i64.wrap (v6+1)) (((List.take v9_L2.toNat r50000)++[x93])++(List.drop v9_L2.toNat r50000)))))))) fuel (List.length r50000:Int))))) else (some r50000)
def zB (p0:M.aE) (p1:ByteArray):Option (List M.Item):=
 gK p0 p1 fuel 0 ([]:List M.Item)
def iE (p1:ByteArray) (x1:(List M.Item)):Nat→Int→Option (M.Key×M.Key×Bool)
 | 0,_=>none
 | nL1+1,v8=>if (decide (v8<(List.length x1:Int)))=true then ((idx x1 (i64.wrap (v8-1))).bind fun x13=>((kA x13.aH p1).bind fun x18=>((idx x1 v8).bind fun x20=>((kA x20.aH p1).bind fun x25=>(if (x18.1==x25.1)=true then (some (x13.Key,x20.Key,true)) else (iE p1 x1 nL1 (i64.wrap (v8+1)))))))) else (some ((⟨0,0,(⟨#[]⟩:ByteArray)⟩:M.Key),(⟨0,0,(⟨#[]⟩:ByteArray)⟩:M.Key),false))
def oK (p0:M.aE) (p1:ByteArray):Option (M.Key×M.Key×Bool):=
 (zB p0 p1).bind fun x1=>(iE p1 x1 fuel 1)
def fH (p0:M.Database) (v4:Int) (x26:M.aD) (k46:Int→Option Bool):Nat→Int→Option Bool
 | 0,_=>none
 | nL3+1,v9_L3=>if (decide (v9_L3<v4))=true then ((idx p0.Unique v9_L3).bind fun x53=>(if ((x53.aE.toList==x26.aE.toList)&&(x53.Field.toList==x26.Field.toList))=true then (some false) else (fH p0 v4 x26 k46 nL3 (i64.wrap (v9_L3+1))))) else (k46 v9_L3)
def eG (p0:M.Database):Nat→Int→Option Bool
 | 0,_=>none
 | nL2+1,v4=>if (decide (v4<(List.length p0.Unique:Int)))=true then ((idx p0.Unique v4).bind fun x26=>((sV p0 x26.aE).bind fun x31=>(if (decide (x31<0))=true then (some false) else ((fV x26.Field).bind fun x34=>(if (!x34)=true then (some false) else ((idx p0.Stores x31).bind fun x37=>((oK x37 x26.Field).bind fun x42=>(if x42.2.2=true then (some false) else (fH p0 v4 x26 (fun (v9_L3:Int)=>eG p0 nL2 (i64.wrap (v4+1))) fuel 0))))))))) else ((fV p0.Name).bind fun x59=>(if x59=true then ((bW p0.Version 0 1000).bind fun x62=>(if x62=true then (if (decide ((List.length p0.Stores:Int)≤4))=true then (some (decide ((List.length p0.Unique:Int)≤4))) else (some false)) else (some false))) else (some false)))
def eF (p0:M.Database):Nat→Int→Option Bool
 | 0,_=>none
 | nL1+1,v3=>if (decide (v3<(List.length p0.Stores:Int)))=true then ((idx p0.Stores v3).bind fun x6=>((pK x6).bind fun x11=>(if (!x11)=true then (some false) else (if (decide (v3>0))=true then ((idx p0.Stores (i64.wrap (v3-1))).bind fun x15=>(if (!(Op.bytesLess x15.Name.toList x6.Name.toList))=true then (some false) else (eF p0 nL1 (i64.wrap (v3+1))))) else (eF p0 nL1 (i64.wrap (v3+1))))))) else (eG p0 fuel 0)
def qE (p0:M.Database):Option Bool:=
 eF p0 fuel 0
def qK (p0:M.Response) (p1:Bool):Option Int:=
 if p1=true then (some 76) else (some (i64.wrap (16+(List.length p0.Body:Int))))
def gT (p0:M.aU) (v4:Int) (k8:Int→Int→Option Int):Nat→Int→Int→Option Int
 | 0,_,_=>none
 | nL2+1,v3_L2,v5_L2=>(idx p0.Caches v4).bind fun x15=>(if (decide (v5_L2<(List.length x15.Entries:Int)))=true then ((idx x15.Entries v5_L2).bind fun x21=>((qK x21.Response (x21.Response.Type_==3)).bind fun x26=>(gT p0 v4 k8 nL2 (i64.wrap (v3_L2+x26)) (i64.wrap (v5_L2+1))))) else (k8 v3_L2 v5_L2))
def dW (p0:M.aU):Nat→Int→Int→Option Int
 | 0,_,_=>none
 | nL1+1,v3,v4=>if (decide (v4<(List.length p0.Caches:Int)))=true then (gT p0 v4 (fun (v3_L2:Int) (v5_L2:Int)=>dW p0 nL1 v3_L2 (i64.wrap (v4+1))) fuel v3 0) else (some v3)
def qD (p0:M.aU):Option Int:=
 dW p0 fuel 0 0
def cA (p0:M.Key):Nat→Int→List Int→Option (List Int)
 | 0,_,_=>none
 | nL1+1,v4,r12=>if (decide (v4≥0))=true then (if (p0.Kind != 2)=true then (if (decide (0≤(i64.wrap (8*v4))))=true then ((app 1 r12 ([(IntKind.u8.wrap (i64.wrap (BitVec.ofInt (IntKind.i64.bits) (Int.fdiv (i64.wrap (p0.N+1000000000000)) (2^(min (i64.wrap (8*v4)).toNat IntKind.i64.bits)))&&&BitVec.ofInt (IntKind.i64.bits) 255).toNat))])).bind fun x18=>(cA p0 nL1 (i64.wrap (v4-1)) (r12++[(IntKind.u8.wrap (i64.wrap (BitVec.ofInt (IntKind.i64.bits) (Int.fdiv (i64.wrap (p0.N+1000000000000)) (2^(min (i64.wrap (8*v4)).toNat IntKind.i64.bits)))&&&BitVec.ofInt (IntKind.i64.bits) 255).toNat))]))) else none) else ((app 1 r12 (lL p0.Text)).bind fun x26=>(some (r12++(lL p0.Text))))) else ((app 1 r12 (lL p0.Text)).bind fun x28=>(some (r12++(lL p0.Text))))
def tA (p0:M.Key):Option (List Int):=
 (lN p0).bind fun x1=>(if (!x1)=true then (some ([]:List Int)) else (cA p0 fuel 5 ([(IntKind.u8.wrap p0.Kind)])))
def dJ  : Nat→Int→List Int→Option (List Int)
 | 0,_,_=>none
 | nL1+1,v1,r6=>if (decide (v1>127))=true then ((app 1 r6 ([(IntKind.u8.wrap (i64.wrap (BitVec.ofInt (IntKind.i64.bits) (i64.wrap (BitVec.ofInt (IntKind.i64.bits) v1&&&BitVec.ofInt (IntKind.i64.bits) 127).toNat)|||BitVec.ofInt (IntKind.i64.bits) 128).toNat))])).bind fun x15=>(dJ nL1 (Int.fdiv v1 (2^(min (7:Int).toNat IntKind.i64.bits))) (r6++[(IntKind.u8.wrap (i64.wrap (BitVec.ofInt (IntKind.i64.bits) (i64.wrap (BitVec.ofInt (IntKind.i64.bits) v1&&&BitVec.ofInt (IntKind.i64.bits) 127).toNat)|||BitVec.ofInt (IntKind.i64.bits) 128).toNat))]))) else ((app 1 r6 ([(IntKind.u8.wrap v1)])).bind fun x21=>(some (r6++[(IntKind.u8.wrap v1)])))
def gU (p0:List Int) (p1:Int):Option (List Int):=
 (app 1 ([]:List Int) p0).bind fun x1=>((bW p1 0 1000000000000).bind fun x7=>(if (!x7)=true then (some p0) else (dJ fuel p1 p0)))
def oJ (p0:List Int) (p1:List Int):Option (List Int):=
 (gU p0 (List.length p1:Int)).bind fun x1=>((app 1 x1 p1).bind fun x3=>(some (x1++p1)))
def fP (p0:M.aH):Nat→Int→List Int→Option (List Int)
 | 0,_,_=>none
 | nL1+1,v4,r50000=>if (decide (v4<(List.length p0.Fields:Int)))=true then ((idx p0.Fields v4).bind fun x18=>((oJ r50000 (lL x18.Name)).bind fun x23=>((gU x23 x18.N).bind fun x25=>(fP p0 nL1 (i64.wrap (v4+1)) x25)))) else (some r50000)
def nJ (p0:M.aH):Option (List Int):=
 (bN p0).bind fun x1=>(if (!x1)=true then (some ([]:List Int)) else ((gU ([]:List Int) (List.length p0.Fields:Int)).bind fun x4=>(fP p0 fuel 0 x4)))
def hT (p0:M.aE):Nat→Int→Int→Option Int
 | 0,_,_=>none
 | nL1+1,v3,v4=>if (decide (v4<(List.length p0.Items:Int)))=true then ((idx p0.Items v4).bind fun x7=>((tA x7.Key).bind fun x12=>((nJ x7.aH).bind fun x14=>(hT p0 nL1 (i64.wrap ((i64.wrap (v3+(List.length x12:Int)))+(List.length x14:Int))) (i64.wrap (v4+1)))))) else (some v3)
def oA (p0:M.aE):Option Int:=
 hT p0 fuel 0 0
def fO (p0:M.Database):Nat→Int→Int→Option Int
 | 0,_,_=>none
 | nL1+1,v3,v4=>if (decide (v4<(List.length p0.Stores:Int)))=true then ((idx p0.Stores v4).bind fun x7=>((oA x7).bind fun x12=>(fO p0 nL1 (i64.wrap (v3+x12)) (i64.wrap (v4+1))))) else (some v3)
def nG (p0:M.Database):Option Int:=
 fO p0 fuel 0 0
def aAx (p0:M.bD):Option Int:=
 (nG p0.Base).bind fun x1=>(some (i64.wrap (x1+(List.length p0.Log:Int))))
def zQ (p0:M.aA):Option Int:=
 (qD p0.Caches).bind fun x1=>((aAx p0.bD).bind fun x3=>((oA p0.aC.Base).bind fun x5=>(some (i64.wrap ((i64.wrap ((i64.wrap (x1+x3))+x5))+(i64.wrap (40*(List.length p0.aC.Sync.aN.Writes:Int))))))))
def kB (p0:M.aA):Option Bool:=
 (fV p0.Site).bind fun x1=>(if x1=true then ((fV p0.Top).bind fun x4=>(if x4=true then ((iH p0.Registration).bind fun x7=>(if x7=true then (if (p0.Registration.Site.toList==p0.Site.toList)=true then ((qY p0.Caches).bind fun x11=>(if x11=true then ((qE p0.bD.Base).bind fun x14=>(if x14=true then ((nW p0.aC).bind fun x17=>(if x17=true then ((bW p0.LastUsed 0 1000000000000).bind fun x20=>(if x20=true then ((zQ p0).bind fun x23=>(some (decide (x23≤2500)))) else (some false))) else (some false))) else (some false))) else (some false))) else (some false)) else (some false))) else (some false))) else (some false))
def lB (p0:M.aA) (p1:M.aA):Option (M.aA×Bool):=
 (kB p0).bind fun x1=>(if (!x1)=true then ((gE p0).bind fun x4=>(some (x4,false))) else ((kB p1).bind fun x6=>(if (!x6)=true then ((gE p0).bind fun x9=>(some (x9,false))) else (some (p1,true)))))
def kD (p0:M.aA) (p1:M.aC):Option (M.aA×Bool):=
 (gE p0).bind fun x1=>((pO p1).bind fun x3=>((lB p0 (⟨x1.Site,x1.Top,x1.Registration,x1.Caches,x1.bD,x3,x1.LastUsed,x1.Persistent⟩:M.aA)).bind fun x5=>(if x5.2=true then (some ((⟨x1.Site,x1.Top,x1.Registration,x1.Caches,x1.bD,x3,x1.LastUsed,x1.Persistent⟩:M.aA),true)) else (some (x5.1,false)))))
def uP (p0:M.aA) (p1:ByteArray) (p2:ByteArray):Option Bool:=
 if (Op.bytesLess p0.Site.toList p1.toList)=true then (some true) else (if (p0.Site.toList==p1.toList)=true then (some (Op.bytesLess p0.Top.toList p2.toList)) else (some false))
def fB (p0:M.aF):Nat→Int→Option Bool
 | 0,_=>none
 | nL1+1,v3=>if (decide (v3<(List.length p0.Buckets:Int)))=true then ((idx p0.Buckets v3).bind fun x6=>((kB x6).bind fun x11=>(if (!x11)=true then (some false) else (if (decide (v3>0))=true then ((idx p0.Buckets (i64.wrap (v3-1))).bind fun x15=>((uP x15 x6.Site x6.Top).bind fun x20=>(if (!x20)=true then (some false) else (fB p0 nL1 (i64.wrap (v3+1)))))) else (fB p0 nL1 (i64.wrap (v3+1))))))) else (some (decide ((List.length p0.Buckets:Int)≤9)))
def cC (p0:M.aF):Option Bool:=
 fB p0 fuel 0
def gC (p0:M.aF) (p1:M.aA) (x1:M.aF):Nat→Int→Option (M.aF×Bool)
 | 0,_=>none
 | nL1+1,v8=>if (decide (v8<(List.length p0.Buckets:Int)))=true then ((idx p0.Buckets v8).bind fun x43=>((uP x43 p1.Site p1.Top).bind fun x48=>(if x48=true then (gC p0 p1 x1 nL1 (i64.wrap (v8+1))) else ((aDO x1.Buckets v8).bind fun x51=>((app 328 ([]:List M.aA) (List.take v8.toNat x1.Buckets)).bind fun x53=>((gE p1).bind fun x68=>((app 328 (List.take v8.toNat x1.Buckets) ([x68])).bind fun x70=>((app 328 ((List.take v8.toNat x1.Buckets)++[x68]) (List.drop v8.toNat x1.Buckets)).bind fun x83=>((cC p0).bind fun x93=>(if (!x93)=true then ((eQ p0).bind fun x96=>(some (x96,false))) else ((cC (⟨(((List.take v8.toNat x1.Buckets)++[x68])++(List.drop v8.toNat x1.Buckets))⟩:M.aF)).bind fun x98=>(if (!x98)=true then ((eQ p0).bind fun x101=>(some (x101,false))) else (some ((⟨(((List.take v8.toNat x1.Buckets)++[x68])++(List.drop v8.toNat x1.Buckets))⟩:M.aF),true)))))))))))))) else ((aDO x1.Buckets v8).bind fun x103=>((app 328 ([]:List M.aA) (List.take v8.toNat x1.Buckets)).bind fun x105=>((gE p1).bind fun x120=>((app 328 (List.take v8.toNat x1.Buckets) ([x120])).bind fun x122=>((app 328 ((List.take v8.toNat x1.Buckets)++[x120]) (List.drop v8.toNat x1.Buckets)).bind fun x135=>((cC p0).bind fun x145=>(if (!x145)=true then ((eQ p0).bind fun x148=>(some (x148,false))) else ((cC (⟨(((List.take v8.toNat x1.Buckets)++[x120])++(List.drop v8.toNat x1.Buckets))⟩:M.aF)).bind fun x150=>(if (!x150)=true then ((eQ p0).bind fun x153=>(some (x153,false))) else (some ((⟨(((List.take v8.toNat x1.Buckets)++[x120])++(List.drop v8.toNat x1.Buckets))⟩:M.aF),true)))))))))))
def sQ (p0:M.aF) (p1:M.aA):Option (M.aF×Bool):=
 (eQ p0).bind fun x1=>((mM p0 p1.Site p1.Top).bind fun x3=>(if (decide (x3≥0))=true then ((gE p1).bind fun x6=>((idx x1.Buckets x3).bind fun x8=>((cC p0).bind fun x21=>(if (!x21)=true then ((eQ p0).bind fun x24=>(some (x24,false))) else ((cC (⟨(List.set x1.Buckets x3.toNat x6)⟩:M.aF)).bind fun x26=>(if (!x26)=true then ((eQ p0).bind fun x29=>(some (x29,false))) else (some ((⟨(List.set x1.Buckets x3.toNat x6)⟩:M.aF),true)))))))) else (gC p0 p1 x1 fuel 0)))
def xO (p0:M.World) (p1:M.aA) (p2:Bool):Option (M.World×Bool):=
 (uW p0).bind fun x1=>((sQ p0.aF p1).bind fun x3=>(if (!p2)=true then (some (x1,false)) else (if (!x3.2)=true then (some (x1,false)) else (some ((⟨x1.Now,x1.Online,x1.Device,x3.1,x1.Pages,x1.NextPage,x1.Locks,x1.Channel,x1.Sites,x1.Servers⟩:M.World),true)))))
def vO (p0:M.World) (p1:M.bJ) (p2:Int) (p3:ByteArray) (p4:Int):Option (M.World×Bool):=
 (mM p0.aF p1.Site p1.Top).bind fun x1=>(if (decide (x1<0))=true then ((uW p0).bind fun x4=>(some (x4,false))) else ((idx p0.aF.Buckets x1).bind fun x6=>((aBe p2).bind fun x11=>((qR x6.aC x11 p3 p4).bind fun x13=>((kD x6 x13.1).bind fun x15=>(if x13.2=true then ((xO p0 x15.1 x15.2).bind fun x18=>(some (x18.1,x18.2))) else ((xO p0 x15.1 false).bind fun x20=>(some (x20.1,x20.2)))))))))
def iW (p0:List Int):Option (List Int):=
 (app 1 ([]:List Int) p0).bind fun x1=>(some p0)
def nE (p0:M.Response):Option M.Response:=
 (iW p0.Body).bind fun x1=>(some (⟨p0.Type_,p0.Status,p0.Version,x1,p0.Shares⟩:M.Response))
def fL (x11:M.Cache) (k17:Int→List M.Cached→Option M.aU):Nat→Int→List M.Cached→Option M.aU
 | 0,_,_=>none
 | nL2+1,v23_L2,r50000_L2=>if (decide (v23_L2<(List.length x11.Entries:Int)))=true then ((idx x11.Entries v23_L2).bind fun x34=>((nE x34.Response).bind fun x39=>((app 88 r50000_L2 ([(⟨x34.Site,x34.Path,x39⟩:M.Cached)])).bind fun x41=>(fL x11 k17 nL2 (i64.wrap (v23_L2+1)) (r50000_L2++[(⟨x34.Site,x34.Path,x39⟩:M.Cached)]))))) else (k17 v23_L2 r50000_L2)
def dV (p0:M.aU):Nat→Int→List M.Cache→Option M.aU
 | 0,_,_=>none
 | nL1+1,v13,r50100=>if (decide (v13<(List.length p0.Caches:Int)))=true then ((idx p0.Caches v13).bind fun x11=>(fL x11 (fun (v23_L2:Int) (r50000_L2:List M.Cached)=>(app 32 r50100 ([(⟨x11.Version,r50000_L2⟩:M.Cache)])).bind fun x58=>(dV p0 nL1 (i64.wrap (v13+1)) (r50100++[(⟨x11.Version,r50000_L2⟩:M.Cache)]))) fuel 0 ([]:List M.Cached))) else (some (⟨r50100⟩:M.aU))
def mY (p0:M.aU):Option M.aU:=
 dV p0 fuel 0 ([]:List M.Cache)
def bI (p0:M.aH):Option M.aH:=
 (app 24 ([]:List M.Field) p0.Fields).bind fun x1=>(some p0)
def rC (p0:M.Item):Option M.Item:=
 (bI p0.aH).bind fun x1=>(some (⟨p0.Key,x1⟩:M.Item))
def hO (p0:M.aE):Nat→Int→List M.Item→Option M.aE
 | 0,_,_=>none
 | nL1+1,v14,r50000=>if (decide (v14<(List.length p0.Items:Int)))=true then ((idx p0.Items v14).bind fun x11=>((rC x11).bind fun x16=>((app 56 r50000 ([x16])).bind fun x18=>(hO p0 nL1 (i64.wrap (v14+1)) (r50000++[x16]))))) else (some (⟨p0.Name,r50000,p0.Auto⟩:M.aE))
def bC (p0:M.aE):Option M.aE:=
 hO p0 fuel 0 ([]:List M.Item)
def fN (p0:M.Database):Nat→Int→List M.aE→Option M.Database
 | 0,_,_=>none
 | nL1+1,v18,r50000=>if (decide (v18<(List.length p0.Stores:Int)))=true then ((idx p0.Stores v18).bind fun x22=>((bC x22).bind fun x27=>((app 48 r50000 ([x27])).bind fun x29=>(fN p0 nL1 (i64.wrap (v18+1)) (r50000++[x27]))))) else (some (⟨p0.Name,p0.Version,r50000,p0.Unique⟩:M.Database))
def nL (p0:M.Database):Option M.Database:=
 (app 32 ([]:List M.aD) p0.Unique).bind fun x1=>(fN p0 fuel 0 ([]:List M.aE))
def wE (p0:M.bD):Option M.bD:=
 (nL p0.Base).bind fun x1=>((iW p0.Log).bind fun x3=>(some (⟨x1,x3,p0.Count⟩:M.bD)))
def iI (p0:M.aN):Option M.aN:=
 (app 72 ([]:List M.aV) p0.Writes).bind fun x1=>(some p0)
def wX (p0:M.Sync):Option M.Sync:=
 (iI p0.aN).bind fun x1=>(some (⟨x1,p0.Tries,p0.WaitUntil⟩:M.Sync))
def kT (p0:M.aC):Option M.aC:=
 (bC p0.Base).bind fun x1=>((wX p0.Sync).bind fun x3=>(some (⟨x1,p0.Seen,x3⟩:M.aC)))
def dE (p0:M.aA):Option M.aA:=
 (mY p0.Caches).bind fun x1=>((wE p0.bD).bind fun x3=>((kT p0.aC).bind fun x5=>(some (⟨p0.Site,p0.Top,p0.Registration,x1,x3,x5,p0.LastUsed,p0.Persistent⟩:M.aA))))
def fZ (p0:M.aF):Nat→Int→List M.aA→Option M.aF
 | 0,_,_=>none
 | nL1+1,v10,r50000=>if (decide (v10<(List.length p0.Buckets:Int)))=true then ((idx p0.Buckets v10).bind fun x11=>((dE x11).bind fun x16=>((app 328 r50000 ([x16])).bind fun x18=>(fZ p0 nL1 (i64.wrap (v10+1)) (r50000++[x16]))))) else (some (⟨r50000⟩:M.aF))
def bR (p0:M.aF):Option M.aF:=
 fZ p0 fuel 0 ([]:List M.aA)
def pC (p0:M.Machine):Option M.Machine:=
 (app 40 ([]:List M.Instr) p0.Script).bind fun x1=>((app 8 ([]:List Int) p0.Regs).bind fun x11=>(some p0))
def xG (p0:M.bJ):Option M.bJ:=
 (app 24 ([]:List M.aM) p0.aM).bind fun x1=>((pC p0.Machine).bind fun x9=>(some (⟨p0.Id,p0.Site,p0.Top,p0.Version,p0.aM,x9⟩:M.bJ)))
def hU (p0:List M.bJ):Nat→Int→List M.bJ→Option (List M.bJ)
 | 0,_,_=>none
 | nL1+1,v9,r6=>if (decide (v9<(List.length p0:Int)))=true then ((idx p0 v9).bind fun x12=>((xG x12).bind fun x17=>((app 144 r6 ([x17])).bind fun x19=>(hU p0 nL1 (i64.wrap (v9+1)) (r6++[x17]))))) else (some r6)
def sP (p0:List M.bJ):Option (List M.bJ):=
 hU p0 fuel 0 ([]:List M.bJ)
def sS (p0:M.aW):Option M.aW:=
 (app 32 ([]:List M.cT) p0.Locks).bind fun x1=>(some p0)
def pF (p0:M.Channel):Option M.Channel:=
 (app 24 ([]:List M.eO) p0.Mails).bind fun x1=>(some p0)
def wO (p0:M.Site):Option M.Site:=
 (app 16 ([]:List ByteArray) p0.Files).bind fun x1=>(some p0)
def qM (p0:M.Server):Option M.Server:=
 (bC p0.aE).bind fun x1=>((app 16 ([]:List M.aO) p0.aO).bind fun x3=>((app 72 ([]:List M.aV) p0.Changes).bind fun x5=>(some (⟨x1,p0.aO,p0.Changes⟩:M.Server))))
def eU (p0:M.World) (x1:M.aF) (x3:(List M.bJ)) (x5:M.aW) (x7:M.Channel) (r50000:List M.Site):Nat→Int→List M.Server→Option M.World
 | 0,_,_=>none
 | nL2+1,v45,r50100=>if (decide (v45<(List.length p0.Servers:Int)))=true then ((idx p0.Servers v45).bind fun x64=>((qM x64).bind fun x69=>((app 96 r50100 ([x69])).bind fun x71=>(eU p0 x1 x3 x5 x7 r50000 nL2 (i64.wrap (v45+1)) (r50100++[x69]))))) else (some (⟨p0.Now,p0.Online,p0.Device,x1,x3,p0.NextPage,x5,x7,r50000,r50100⟩:M.World))
def gD (p0:M.World) (x1:M.aF) (x3:(List M.bJ)) (x5:M.aW) (x7:M.Channel):Nat→Int→List M.Site→Option M.World
 | 0,_,_=>none
 | nL1+1,v29,r50000=>if (decide (v29<(List.length p0.Sites:Int)))=true then ((idx p0.Sites v29).bind fun x25=>((wO x25).bind fun x30=>((app 56 r50000 ([x30])).bind fun x32=>(gD p0 x1 x3 x5 x7 nL1 (i64.wrap (v29+1)) (r50000++[x30]))))) else (eU p0 x1 x3 x5 x7 r50000 fuel 0 ([]:List M.Server))
def tQ (p0:M.World):Option M.World:=
 (bR p0.aF).bind fun x1=>((sP p0.Pages).bind fun x3=>((sS p0.Locks).bind fun x5=>((pF p0.Channel).bind fun x7=>(gD p0 x1 x3 x5 x7 fuel 0 ([]:List M.Site)))))
def mR (p0:M.aA) (c0:ByteArray) (c1:ByteArray):Option Bool:=
 if (p0.Site.toList==c0.toList)=true then (some (p0.Top.toList==c1.toList)) else (some false)
def bS (p0:List M.aA) (p1:M.aA→Option Bool):Nat→Int→Option Int
 | 0,_=>none
 | nL1+1,v8=>if (decide (v8<(List.length p0:Int)))=true then ((idx p0 v8).bind fun x7=>((p1 x7).bind fun x12=>(if x12=true then (some v8) else (bS p0 p1 nL1 (i64.wrap (v8+1)))))) else (some (-1))
def gZ (p0:List M.aA) (p1:M.aA→Option Bool):Option Int:=
 bS p0 p1 fuel 0
def lX (p0:M.aF) (p1:ByteArray) (p2:ByteArray):Option Int:=
 (gZ p0.Buckets (fun z0=>mR z0 p1 p2)).bind fun x1=>(some x1)
def aAe (p0:M.World) (p1:ByteArray) (p2:ByteArray):Option (M.aA×Bool):=
 (lX p0.aF p1 p2).bind fun x1=>(if (decide (x1<0))=true then (some ((⟨(⟨#[]⟩:ByteArray),(⟨#[]⟩:ByteArray),(⟨(⟨#[]⟩:ByteArray),0,0,0⟩:M.Registration),(⟨([]:List M.Cache)⟩:M.aU),(⟨(⟨(⟨#[]⟩:ByteArray),0,([]:List M.aE),([]:List M.aD)⟩:M.Database),([]:List Int),0⟩:M.bD),(⟨(⟨(⟨#[]⟩:ByteArray),([]:List M.Item),0⟩:M.aE),0,(⟨(⟨0,0,([]:List M.aV)⟩:M.aN),0,0⟩:M.Sync)⟩:M.aC),0,false⟩:M.aA),false)) else ((idx p0.aF.Buckets x1).bind fun x4=>(some (x4,true))))
def zV (p0:Int):Option M.Key:=
 some (⟨1,p0,(⟨#[]⟩:ByteArray)⟩:M.Key)
def bK (p0:Int) (p1:Int) (p2:Int):Option Bool:=
 if (decide (p1≤p0))=true then (some (decide (p0≤p2))) else (some false)
def dL (p0:ByteArray):Nat→Int→Option Bool
 | 0,_=>none
 | nL1+1,v3=>if (decide (v3<(p0.size:Int)))=true then ((aOA p0 v3).bind fun x5=>(if (decide ((x5.toNat:Int)≥97))=true then (if (decide ((x5.toNat:Int)≤122))=true then (dL p0 nL1 (i64.wrap (v3+1))) else (if (decide ((x5.toNat:Int)≥48))=true then (if (!(decide ((x5.toNat:Int)≤57)))=true then (some false) else (dL p0 nL1 (i64.wrap (v3+1)))) else (some false))) else (if (decide ((x5.toNat:Int)≥48))=true then (if (!(decide ((x5.toNat:Int)≤57)))=true then (some false) else (dL p0 nL1 (i64.wrap (v3+1)))) else (some false)))) else (some (decide ((p0.size:Int)≤12)))
def sR (p0:ByteArray):Option Bool:=
 dL p0 fuel 0
def lQ (p0:M.Key):Option Bool:=
 (bK p0.Kind 1 3).bind fun x1=>(if (!x1)=true then (some false) else ((bK p0.N (-1000000000000) 1000000000000).bind fun x4=>(if (!x4)=true then (some false) else ((sR p0.Text).bind fun x7=>(if (!x7)=true then (some false) else (if (p0.Kind==2)=true then (if (!(p0.N != 0))=true then (if (p0.Kind==1)=true then (some (!(!(p0.Text.toList==(⟨#[]⟩:ByteArray).toList)))) else (some true)) else (some false)) else (if (p0.Kind==1)=true then (some (!(!(p0.Text.toList==(⟨#[]⟩:ByteArray).toList)))) else (some true))))))))
def gG (p0:ByteArray) (p1:Int) (p2:Bool):Nat→Int→Option Bool
 | 0,_=>none
 | nL1+1,v7=>if (decide (v7<(p0.size:Int)))=true then ((aOA p0 v7).bind fun x7=>(if (decide ((x7.toNat:Int)≥97))=true then (if (decide ((x7.toNat:Int)≤122))=true then (gG p0 p1 p2 nL1 (i64.wrap (v7+1))) else (if p2=true then (if (!((x7.toNat:Int)==47))=true then (some false) else (gG p0 p1 p2 nL1 (i64.wrap (v7+1)))) else (some false))) else (if p2=true then (if (!((x7.toNat:Int)==47))=true then (some false) else (gG p0 p1 p2 nL1 (i64.wrap (v7+1)))) else (some false)))) else ((bK (p0.size:Int) 1 p1).bind fun x17=>(some x17))
def aAY (p0:ByteArray) (p1:Int) (p2:Bool):Option Bool:=
 gG p0 p1 p2 fuel 0
def eK (p0:ByteArray):Option Bool:=
 (aAY p0 8 false).bind fun x1=>(some x1)
def lF (p0:M.aV):Option Bool:=
 (bK p0.Device 1 1000000).bind fun x1=>(if x1=true then ((bK p0.Seq 1 1000000).bind fun x4=>(if x4=true then ((lQ p0.Key).bind fun x7=>(if x7=true then ((eK p0.Field).bind fun x10=>(if x10=true then ((bK p0.N 0 1000000000).bind fun x13=>(some x13)) else (some false))) else (some false))) else (some false))) else (some false))
def iL (p0:M.aN):Nat→Int→Option Bool
 | 0,_=>none
 | nL1+1,v12=>if (decide (v12<(List.length p0.Writes:Int)))=true then ((idx p0.Writes v12).bind fun x9=>((lF x9).bind fun x14=>(if (!x14)=true then (some false) else (if (x9.Device != p0.Device)=true then (some false) else (if (x9.Seq != (i64.wrap ((i64.wrap (p0.Next-(List.length p0.Writes:Int)))+v12)))=true then (some false) else (iL p0 nL1 (i64.wrap (v12+1)))))))) else ((bK p0.Device 1 1000000).bind fun x19=>(if x19=true then ((bK p0.Next 1 1000000).bind fun x22=>(if x22=true then (some (decide ((List.length p0.Writes:Int)≤20))) else (some false))) else (some false)))
def mW (p0:M.aN):Option Bool:=
 iL p0 fuel 0
def nN (p0:M.aN) (p1:M.Key) (p2:ByteArray) (p3:Int):Option (M.aN×Bool):=
 (iI p0).bind fun x1=>((app 72 x1.Writes ([(⟨p0.Device,p0.Next,p1,p2,p3⟩:M.aV)])).bind fun x3=>((mW p0).bind fun x13=>(if (!x13)=true then ((iI p0).bind fun x16=>(some (x16,false))) else ((mW (⟨x1.Device,(i64.wrap (x1.Next+1)),(x1.Writes++[(⟨p0.Device,p0.Next,p1,p2,p3⟩:M.aV)])⟩:M.aN)).bind fun x18=>(if (!x18)=true then ((iI p0).bind fun x21=>(some (x21,false))) else (some ((⟨x1.Device,(i64.wrap (x1.Next+1)),(x1.Writes++[(⟨p0.Device,p0.Next,p1,p2,p3⟩:M.aV)])⟩:M.aN),true)))))))
def rL (p0:M.Item) (c0:M.Key):Option Bool:=
 some ((p0.Key.Kind==c0.Kind)&&((p0.Key.N==c0.N)&&(p0.Key.Text.toList==c0.Text.toList)))
def cE (p0:List M.Item) (p1:M.Item→Option Bool):Nat→Int→Option Int
 | 0,_=>none
 | nL1+1,v8=>if (decide (v8<(List.length p0:Int)))=true then ((idx p0 v8).bind fun x7=>((p1 x7).bind fun x12=>(if x12=true then (some v8) else (cE p0 p1 nL1 (i64.wrap (v8+1)))))) else (some (-1))
def iR (p0:List M.Item) (p1:M.Item→Option Bool):Option Int:=
 cE p0 p1 fuel 0
def qF (p0:M.aE) (p1:M.Key):Option Int:=
 (iR p0.Items (fun z0=>rL z0 p1)).bind fun x1=>(some x1)
def nS (p0:M.Field) (c0:ByteArray):Option Bool:=
 some (p0.Name.toList==c0.toList)
def bV (p0:List M.Field) (p1:M.Field→Option Bool):Nat→Int→Option Int
 | 0,_=>none
 | nL1+1,v8=>if (decide (v8<(List.length p0:Int)))=true then ((idx p0 v8).bind fun x7=>((p1 x7).bind fun x12=>(if x12=true then (some v8) else (bV p0 p1 nL1 (i64.wrap (v8+1)))))) else (some (-1))
def iF (p0:List M.Field) (p1:M.Field→Option Bool):Option Int:=
 bV p0 p1 fuel 0
def uV (p0:M.aH) (p1:ByteArray):Option Int:=
 (iF p0.Fields (fun z0=>nS z0 p1)).bind fun x1=>(some x1)
def fW (p0:M.aH):Nat→Int→Option Bool
 | 0,_=>none
 | nL1+1,v8=>if (decide (v8<(List.length p0.Fields:Int)))=true then ((idx p0.Fields v8).bind fun x8=>((eK x8.Name).bind fun x13=>(if (!x13)=true then (some false) else ((bK x8.N 0 1000000000).bind fun x16=>(if (!x16)=true then (some false) else (if (decide (v8>0))=true then ((idx p0.Fields (i64.wrap (v8-1))).bind fun x20=>(if (Op.bytesLess x8.Name.toList x20.Name.toList||x8.Name.toList==x20.Name.toList)=true then (some false) else (fW p0 nL1 (i64.wrap (v8+1))))) else (fW p0 nL1 (i64.wrap (v8+1))))))))) else (some (decide ((List.length p0.Fields:Int)≤6)))
def cF (p0:M.aH):Option Bool:=
 fW p0 fuel 0
def gW (p0:M.aH) (p1:ByteArray) (p2:Int) (x1:M.aH):Nat→Int→Option (M.aH×Bool)
 | 0,_=>none
 | nL1+1,v10=>if (decide (v10<(List.length x1.Fields:Int)))=true then ((idx x1.Fields v10).bind fun x41=>(if (Op.bytesLess x41.Name.toList p1.toList)=true then (gW p0 p1 p2 x1 nL1 (i64.wrap (v10+1))) else ((aEw 24 x1.Fields v10 ([(⟨p1,p2⟩:M.Field)])).bind fun x47=>((cF p0).bind fun x57=>(if (!x57)=true then ((bI p0).bind fun x60=>(some (x60,false))) else ((cF (⟨(List.take v10.toNat x1.Fields++([(⟨p1,p2⟩:M.Field)]++List.drop v10.toNat x1.Fields))⟩:M.aH)).bind fun x62=>(if (!x62)=true then ((bI p0).bind fun x65=>(some (x65,false))) else (some ((⟨(List.take v10.toNat x1.Fields++([(⟨p1,p2⟩:M.Field)]++List.drop v10.toNat x1.Fields))⟩:M.aH),true))))))))) else ((aEw 24 x1.Fields v10 ([(⟨p1,p2⟩:M.Field)])).bind fun x67=>((cF p0).bind fun x77=>(if (!x77)=true then ((bI p0).bind fun x80=>(some (x80,false))) else ((cF (⟨(List.take v10.toNat x1.Fields++([(⟨p1,p2⟩:M.Field)]++List.drop v10.toNat x1.Fields))⟩:M.aH)).bind fun x82=>(if (!x82)=true then ((bI p0).bind fun x85=>(some (x85,false))) else (some ((⟨(List.take v10.toNat x1.Fields++([(⟨p1,p2⟩:M.Field)]++List.drop v10.toNat x1.Fields))⟩:M.aH),true)))))))
def pW (p0:M.aH) (p1:ByteArray) (p2:Int):Option (M.aH×Bool):=
 (bI p0).bind fun x1=>((uV p0 p1).bind fun x3=>(if (decide (x3≥0))=true then ((idx x1.Fields x3).bind fun x6=>((cF p0).bind fun x19=>(if (!x19)=true then ((bI p0).bind fun x22=>(some (x22,false))) else ((cF (⟨(List.set x1.Fields x3.toNat (⟨x6.Name,p2⟩:M.Field))⟩:M.aH)).bind fun x24=>(if (!x24)=true then ((bI p0).bind fun x27=>(some (x27,false))) else (some ((⟨(List.set x1.Fields x3.toNat (⟨x6.Name,p2⟩:M.Field))⟩:M.aH),true))))))) else (gW p0 p1 p2 x1 fuel 0)))
def oL (p0:Int) (p1:Int):Option Int:=
 if (decide (p0<p1))=true then (some (-1)) else (if (decide (p0>p1))=true then (some 1) else (some 0))
def iY (p0:ByteArray) (p1:ByteArray):Option Int:=some (Lib.compareBytes p0.data.toList p1.data.toList)
def xJ (p0:ByteArray) (p1:ByteArray):Option Int:=
 (iY p0 p1).bind fun x1=>(some x1)
def iO (p0:M.Key) (p1:M.Key):Option Int:=
 (lQ p0).bind fun x1=>(if (!x1)=true then (some 0) else ((lQ p1).bind fun x4=>(if (!x4)=true then (some 0) else ((oL p0.Kind p1.Kind).bind fun x7=>(if (x7 != 0)=true then (some x7) else ((oL p0.N p1.N).bind fun x10=>(if (x10 != 0)=true then (some x10) else ((xJ p0.Text p1.Text).bind fun x13=>(some x13)))))))))
def gP (p0:M.aE):Nat→Int→Option Bool
 | 0,_=>none
 | nL1+1,v8=>if (decide (v8<(List.length p0.Items:Int)))=true then ((idx p0.Items v8).bind fun x8=>((lQ x8.Key).bind fun x13=>(if (!x13)=true then (some false) else ((cF x8.aH).bind fun x16=>(if (!x16)=true then (some false) else (if (decide (v8>0))=true then ((idx p0.Items (i64.wrap (v8-1))).bind fun x20=>((iO x20.Key x8.Key).bind fun x25=>(if (decide (x25≥0))=true then (some false) else (gP p0 nL1 (i64.wrap (v8+1)))))) else (gP p0 nL1 (i64.wrap (v8+1))))))))) else ((eK p0.Name).bind fun x28=>(if x28=true then (if (decide ((List.length p0.Items:Int)≤16))=true then ((bK p0.Auto 0 1000000).bind fun x32=>(some x32)) else (some false)) else (some false)))
def bM (p0:M.aE):Option Bool:=
 gP p0 fuel 0
def iB (p0:M.aE) (p1:M.Key) (p2:M.aH) (x11:M.aE):Nat→Int→Option (M.aE×Bool)
 | 0,_=>none
 | nL1+1,v10=>if (decide (v10<(List.length x11.Items:Int)))=true then ((idx x11.Items v10).bind fun x50=>((iO x50.Key p1).bind fun x55=>(if (decide (x55<0))=true then (iB p0 p1 p2 x11 nL1 (i64.wrap (v10+1))) else ((bI p2).bind fun x58=>((aEw 56 x11.Items v10 ([(⟨p1,x58⟩:M.Item)])).bind fun x60=>(if (p1.Kind==1)=true then (if (decide (p1.N>x11.Auto))=true then (if (decide (p1.N≤1000000))=true then ((bM (⟨x11.Name,(List.take v10.toNat x11.Items++([(⟨p1,x58⟩:M.Item)]++List.drop v10.toNat x11.Items)),p1.N⟩:M.aE)).bind fun x75=>(if (!x75)=true then ((bC p0).bind fun x78=>(some (x78,false))) else (some ((⟨x11.Name,(List.take v10.toNat x11.Items++([(⟨p1,x58⟩:M.Item)]++List.drop v10.toNat x11.Items)),p1.N⟩:M.aE),true)))) else ((bM (⟨x11.Name,(List.take v10.toNat x11.Items++([(⟨p1,x58⟩:M.Item)]++List.drop v10.toNat x11.Items)),x11.Auto⟩:M.aE)).bind fun x80=>(if (!x80)=true then ((bC p0).bind fun x83=>(some (x83,false))) else (some ((⟨x11.Name,(List.take v10.toNat x11.Items++([(⟨p1,x58⟩:M.Item)]++List.drop v10.toNat x11.Items)),x11.Auto⟩:M.aE),true))))) else ((bM (⟨x11.Name,(List.take v10.toNat x11.Items++([(⟨p1,x58⟩:M.Item)]++List.drop v10.toNat x11.Items)),x11.Auto⟩:M.aE)).bind fun x85=>(if (!x85)=true then ((bC p0).bind fun x88=>(some (x88,false))) else (some ((⟨x11.Name,(List.take v10.toNat x11.Items++([(⟨p1,x58⟩:M.Item)]++List.drop v10.toNat x11.Items)),x11.Auto⟩:M.aE),true))))) else ((bM (⟨x11.Name,(List.take v10.toNat x11.Items++([(⟨p1,x58⟩:M.Item)]++List.drop v10.toNat x11.Items)),x11.Auto⟩:M.aE)).bind fun x90=>(if (!x90)=true then ((bC p0).bind fun x93=>(some (x93,false))) else (some ((⟨x11.Name,(List.take v10.toNat x11.Items++([(⟨p1,x58⟩:M.Item)]++List.drop v10.toNat x11.Items)),x11.Auto⟩:M.aE),true)))))))))) else ((bI p2).bind fun x95=>((aEw 56 x11.Items v10 ([(⟨p1,x95⟩:M.Item)])).bind fun x97=>(if (p1.Kind==1)=true then (if (decide (p1.N>x11.Auto))=true then (if (decide (p1.N≤1000000))=true then ((bM (⟨x11.Name,(List.take v10.toNat x11.Items++([(⟨p1,x95⟩:M.Item)]++List.drop v10.toNat x11.Items)),p1.N⟩:M.aE)).bind fun x112=>(if (!x112)=true then ((bC p0).bind fun x115=>(some (x115,false))) else (some ((⟨x11.Name,(List.take v10.toNat x11.Items++([(⟨p1,x95⟩:M.Item)]++List.drop v10.toNat x11.Items)),p1.N⟩:M.aE),true)))) else ((bM (⟨x11.Name,(List.take v10.toNat x11.Items++([(⟨p1,x95⟩:M.Item)]++List.drop v10.toNat x11.Items)),x11.Auto⟩:M.aE)).bind fun x117=>(if (!x117)=true then ((bC p0).bind fun x120=>(some (x120,false))) else (some ((⟨x11.Name,(List.take v10.toNat x11.Items++([(⟨p1,x95⟩:M.Item)]++List.drop v10.toNat x11.Items)),x11.Auto⟩:M.aE),true))))) else ((bM (⟨x11.Name,(List.take v10.toNat x11.Items++([(⟨p1,x95⟩:M.Item)]++List.drop v10.toNat x11.Items)),x11.Auto⟩:M.aE)).bind fun x122=>(if (!x122)=true then ((bC p0).bind fun x125=>(some (x125,false))) else (some ((⟨x11.Name,(List.take v10.toNat x11.Items++([(⟨p1,x95⟩:M.Item)]++List.drop v10.toNat x11.Items)),x11.Auto⟩:M.aE),true))))) else ((bM (⟨x11.Name,(List.take v10.toNat x11.Items++([(⟨p1,x95⟩:M.Item)]++List.drop v10.toNat x11.Items)),x11.Auto⟩:M.aE)).bind fun x127=>(if (!x127)=true then ((bC p0).bind fun x130=>(some (x130,false))) else (some ((⟨x11.Name,(List.take v10.toNat x11.Items++([(⟨p1,x95⟩:M.Item)]++List.drop v10.toNat x11.Items)),x11.Auto⟩:M.aE),true)))))))
def lU (p0:M.aE) (p1:M.Key) (p2:M.aH):Option (M.aE×Bool):=
 (bM p0).bind fun x1=>(if (!x1)=true then ((bC p0).bind fun x4=>(some (x4,false))) else ((lQ p1).bind fun x6=>(if (!x6)=true then ((bC p0).bind fun x9=>(some (x9,false))) else ((bC p0).bind fun x11=>((qF p0 p1).bind fun x13=>(if (decide (x13≥0))=true then ((bI p2).bind fun x16=>((idx x11.Items x13).bind fun x18=>((bM (⟨x11.Name,(List.set x11.Items x13.toNat (⟨x18.Key,x16⟩:M.Item)),x11.Auto⟩:M.aE)).bind fun x31=>(if (!x31)=true then ((bC p0).bind fun x34=>(some (x34,false))) else (some ((⟨x11.Name,(List.set x11.Items x13.toNat (⟨x18.Key,x16⟩:M.Item)),x11.Auto⟩:M.aE),true)))))) else (iB p0 p1 p2 x11 fuel 0)))))))
def jT (p0:M.aE) (p1:M.aV):Option (M.aE×Bool):=
 (qF p0 p1.Key).bind fun x1=>(if (decide (x1≥0))=true then ((idx p0.Items x1).bind fun x4=>((pW x4.aH p1.Field p1.N).bind fun x9=>(if (!x9.2)=true then ((bC p0).bind fun x12=>(some (x12,false))) else ((lU p0 p1.Key x9.1).bind fun x14=>(some (x14.1,x14.2)))))) else ((pW (⟨([]:List M.Field)⟩:M.aH) p1.Field p1.N).bind fun x16=>(if (!x16.2)=true then ((bC p0).bind fun x19=>(some (x19,false))) else ((lU p0 p1.Key x16.1).bind fun x21=>(some (x21.1,x21.2))))))
def jN (p1:List M.aV):Nat→Int→ByteArray→Int→List M.Item→Option M.aE
 | 0,_,_,_,_=>none
 | nL1+1,v12,w5_0,w5_2,r50000=>if (decide (v12<(List.length p1:Int)))=true then ((idx p1 v12).bind fun x13=>((jT (⟨w5_0,r50000,w5_2⟩:M.aE) x13).bind fun x18=>(jN p1 nL1 (i64.wrap (v12+1)) x18.1.Name x18.1.Auto x18.1.Items))) else (some (⟨w5_0,r50000,w5_2⟩:M.aE))
def zH (p0:M.aE) (p1:List M.aV):Option M.aE:=
 (bC p0).bind fun x1=>(jN p1 fuel 0 x1.Name x1.Auto x1.Items)
def xP (p0:M.aC):Option M.aE:=
 (zH p0.Base p0.Sync.aN.Writes).bind fun x1=>(some x1)
def oE (p0:M.aC):Option Bool:=
 (bM p0.Base).bind fun x1=>(if x1=true then (if (p0.Base.Name.toList==(⟨#[110,111,116,101,115]⟩:ByteArray).toList)=true then ((bK p0.Seen 0 1000000000000).bind fun x5=>(if x5=true then ((mW p0.Sync.aN).bind fun x8=>(some x8)) else (some false))) else (some false)) else (some false))
def pX (p0:M.aC) (p1:M.Key) (p2:ByteArray) (p3:Int):Option (M.aC×Bool):=
 (kT p0).bind fun x1=>((nN p0.Sync.aN p1 p2 p3).bind fun x3=>((xP p0).bind fun x5=>((jT x5 (⟨p0.Sync.aN.Device,p0.Sync.aN.Next,p1,p2,p3⟩:M.aV)).bind fun x7=>((oE p0).bind fun x9=>(if (!x9)=true then (some (x1,false)) else (if (!x3.2)=true then (some (x1,false)) else (if (!x7.2)=true then (some (x1,false)) else (some ((⟨x1.Base,x1.Seen,(⟨x3.1,x1.Sync.Tries,x1.Sync.WaitUntil⟩:M.Sync)⟩:M.aC),true)))))))))
def cV (p0:M.Registration):Nat→Int→Int→Option Bool
 | 0,_,_=>none
 | nL1+1,v3,v14=>if (decide (v14<((3:Nat):Int)))=true then ((idx ([p0.Active,p0.Waiting,p0.Installing]) v14).bind fun x18=>((bK x18 0 1000000000000).bind fun x23=>(if (!x23)=true then (some false) else (if (x18 != 0)=true then (if (decide (x18≤v3))=true then (some false) else (cV p0 nL1 (if x18>v3 then x18 else v3) (i64.wrap (v14+1)))) else (cV p0 nL1 (if x18>v3 then x18 else v3) (i64.wrap (v14+1))))))) else ((eK p0.Site).bind fun x28=>(some x28))
def pI (p0:M.Registration):Option Bool:=
 cV p0 fuel 0 0
def tD (p0:M.Cached) (c0:ByteArray) (c1:ByteArray):Option Bool:=
 if (p0.Site.toList==c0.toList)=true then (some (p0.Path.toList==c1.toList)) else (some false)
def bT (p0:List M.Cached) (p1:M.Cached→Option Bool):Nat→Int→Option Int
 | 0,_=>none
 | nL1+1,v8=>if (decide (v8<(List.length p0:Int)))=true then ((idx p0 v8).bind fun x7=>((p1 x7).bind fun x12=>(if x12=true then (some v8) else (bT p0 p1 nL1 (i64.wrap (v8+1)))))) else (some (-1))
def hD (p0:List M.Cached) (p1:M.Cached→Option Bool):Option Int:=
 bT p0 p1 fuel 0
def uQ (p0:M.Cache) (p1:ByteArray) (p2:ByteArray):Option Int:=
 (hD p0.Entries (fun z0=>tD z0 p1 p2)).bind fun x1=>(some x1)
def lY (p0:M.Response):Option Bool:=
 (bK p0.Type_ 1 4).bind fun x1=>(if x1=true then ((bK p0.Status 0 999).bind fun x4=>(if x4=true then ((bK p0.Version 0 1000000000000).bind fun x7=>(if x7=true then (some (decide ((List.length p0.Body:Int)≤60))) else (some false))) else (some false))) else (some false))
def eL (x8:M.Cache) (k25:Int→Option Bool):Nat→Int→Option Bool
 | 0,_=>none
 | nL2+1,v44_L2=>if (decide (v44_L2<(List.length x8.Entries:Int)))=true then ((idx x8.Entries v44_L2).bind fun x38=>((eK x38.Site).bind fun x43=>(if (!x43)=true then (some false) else ((eK x38.Path).bind fun x46=>(if (!x46)=true then (some false) else ((uQ x8 x38.Site x38.Path).bind fun x49=>(if (x49 != v44_L2)=true then (some false) else ((lY x38.Response).bind fun x52=>(if (!x52)=true then (some false) else (eL x8 k25 nL2 (i64.wrap (v44_L2+1)))))))))))) else (k25 v44_L2)
def dX (x8:M.Cache) (k57:Int→Option Bool):Nat→Int→Option Bool
 | 0,_=>none
 | nL3+1,v44_L3=>if (decide (v44_L3<(List.length x8.Entries:Int)))=true then ((idx x8.Entries v44_L3).bind fun x70=>((eK x70.Site).bind fun x75=>(if (!x75)=true then (some false) else ((eK x70.Path).bind fun x78=>(if (!x78)=true then (some false) else ((uQ x8 x70.Site x70.Path).bind fun x81=>(if (x81 != v44_L3)=true then (some false) else ((lY x70.Response).bind fun x84=>(if (!x84)=true then (some false) else (dX x8 k57 nL3 (i64.wrap (v44_L3+1)))))))))))) else (k57 v44_L3)
def eJ (p0:M.aU):Nat→Int→Option Bool
 | 0,_=>none
 | nL1+1,v10=>if (decide (v10<(List.length p0.Caches:Int)))=true then ((idx p0.Caches v10).bind fun x8=>((bK x8.Version 1 1000000000000).bind fun x13=>(if (!x13)=true then (some false) else (if (decide (v10>0))=true then ((idx p0.Caches (i64.wrap (v10-1))).bind fun x17=>(if (decide (x8.Version≤x17.Version))=true then (some false) else (if (decide ((List.length x8.Entries:Int)>12))=true then (some false) else (eL x8 (fun (v44_L2:Int)=>eJ p0 nL1 (i64.wrap (v10+1))) fuel 0)))) else (if (decide ((List.length x8.Entries:Int)>12))=true then (some false) else (dX x8 (fun (v44_L3:Int)=>eJ p0 nL1 (i64.wrap (v10+1))) fuel 0)))))) else (some (decide ((List.length p0.Caches:Int)≤4)))
def pZ (p0:M.aU):Option Bool:=
 eJ p0 fuel 0
def oQ (p0:M.aE) (c0:ByteArray):Option Bool:=
 some (p0.Name.toList==c0.toList)
def bX (p0:List M.aE) (p1:M.aE→Option Bool):Nat→Int→Option Int
 | 0,_=>none
 | nL1+1,v8=>if (decide (v8<(List.length p0:Int)))=true then ((idx p0 v8).bind fun x7=>((p1 x7).bind fun x12=>(if x12=true then (some v8) else (bX p0 p1 nL1 (i64.wrap (v8+1)))))) else (some (-1))
def iC (p0:List M.aE) (p1:M.aE→Option Bool):Option Int:=
 bX p0 p1 fuel 0
def sZ (p0:M.Database) (p1:ByteArray):Option Int:=
 (iC p0.Stores (fun z0=>oQ z0 p1)).bind fun x1=>(some x1)
def dD (p0:List M.aD) (p1:M.aD):Nat→Int→Option Int
 | 0,_=>none
 | nL1+1,v8=>if (decide (v8<(List.length p0:Int)))=true then ((idx p0 v8).bind fun x8=>(if ((p1.aE.toList==x8.aE.toList)&&(p1.Field.toList==x8.Field.toList))=true then (some v8) else (dD p0 p1 nL1 (i64.wrap (v8+1))))) else (some (-1))
def iM (p0:List M.aD) (p1:M.aD):Option Int:=
 dD p0 p1 fuel 0
def gQ (p0:List M.aD) (p1:M.aD):Option Bool:=
 (iM p0 p1).bind fun x1=>(some (decide (x1≥0)))
def iN (p0:M.aH) (p1:ByteArray):Option (Int×Bool):=
 (uV p0 p1).bind fun x1=>(if (decide (x1<0))=true then (some (0,false)) else ((idx p0.Fields x1).bind fun x4=>(some (x4.N,true))))
def pB (p0:M.Item) (p1:M.Item) (p2:ByteArray):Option Bool:=
 (iN p0.aH p2).bind fun x1=>((iN p1.aH p2).bind fun x3=>(if (decide (x1.1<x3.1))=true then (some true) else (if (x1.1==x3.1)=true then ((iO p0.Key p1.Key).bind fun x7=>(some (decide (x7<0)))) else (some false))))
def gM (p1:ByteArray) (r11:List M.Item) (x15:M.Item) (k24:Int→Option (List M.Item)):Nat→Int→Option (List M.Item)
 | 0,_=>none
 | nL2+1,v10_L2=>if (decide (v10_L2>0))=true then ((idx r11 (i64.wrap (v10_L2-1))).bind fun x36=>((pB x15 x36 p1).bind fun x41=>(if x41=true then (gM p1 r11 x15 k24 nL2 (i64.wrap (v10_L2-1))) else (k24 v10_L2)))) else (k24 v10_L2)
def gJ (p0:M.aE) (p1:ByteArray):Nat→Int→List M.Item→Option (List M.Item)
 | 0,_,_=>none
 | nL1+1,v15,r11=>if (decide (v15<(List.length p0.Items:Int)))=true then ((idx p0.Items v15).bind fun x15=>((iN x15.aH p1).bind fun x20=>(if (!x20.2)=true then (gJ p0 p1 nL1 (i64.wrap (v15+1)) r11) else (gM p1 r11 x15 (fun (v10_L2:Int)=>(rC x15).bind fun x55=>((aEw 56 r11 v10_L2 ([x55])).bind fun x57=>(gJ p0 p1 nL1 (i64.wrap (v15+1)) (List.take v10_L2.toNat r11++([x55]++List.drop v10_L2.toNat r11))))) fuel (List.length r11:Int))))) else (some r11)
def yO (p0:M.aE) (p1:ByteArray):Option (List M.Item):=
 gJ p0 p1 fuel 0 ([]:List M.Item)
def eS (p1:ByteArray) (x1:(List M.Item)):Nat→Int→Option (M.Key×M.Key×Bool)
 | 0,_=>none
 | nL1+1,v8=>if (decide (v8<(List.length x1:Int)))=true then ((idx x1 (i64.wrap (v8-1))).bind fun x13=>((iN x13.aH p1).bind fun x18=>((idx x1 v8).bind fun x20=>((iN x20.aH p1).bind fun x25=>(if (x18.1==x25.1)=true then (some (x13.Key,x20.Key,true)) else (eS p1 x1 nL1 (i64.wrap (v8+1)))))))) else (some ((⟨0,0,(⟨#[]⟩:ByteArray)⟩:M.Key),(⟨0,0,(⟨#[]⟩:ByteArray)⟩:M.Key),false))
def gY (p0:M.aE) (p1:ByteArray):Option (M.Key×M.Key×Bool):=
 (yO p0 p1).bind fun x1=>(eS p1 x1 fuel 1)
def dC (p0:M.Database):Nat→Int→Option Bool
 | 0,_=>none
 | nL2+1,v64=>if (decide (v64<(List.length p0.Unique:Int)))=true then ((idx p0.Unique v64).bind fun x38=>((sZ p0 x38.aE).bind fun x43=>(if (decide (x43<0))=true then (some false) else ((eK x38.Field).bind fun x46=>(if (!x46)=true then (some false) else ((aDO p0.Unique v64).bind fun x49=>((gQ (List.take v64.toNat p0.Unique) x38).bind fun x51=>(if x51=true then (some false) else ((idx p0.Stores x43).bind fun x54=>((gY x54 x38.Field).bind fun x59=>(if x59.2.2=true then (some false) else (dC p0 nL2 (i64.wrap (v64+1)))))))))))))) else (some true)
def dA (p0:M.Database):Nat→Int→Option Bool
 | 0,_=>none
 | nL1+1,v36=>if (decide (v36<(List.length p0.Stores:Int)))=true then ((idx p0.Stores v36).bind fun x16=>((bM x16).bind fun x21=>(if (!x21)=true then (some false) else (if (decide (v36>0))=true then ((idx p0.Stores (i64.wrap (v36-1))).bind fun x25=>(if (Op.bytesLess x16.Name.toList x25.Name.toList||x16.Name.toList==x25.Name.toList)=true then (some false) else (dA p0 nL1 (i64.wrap (v36+1))))) else (dA p0 nL1 (i64.wrap (v36+1))))))) else (dC p0 fuel 0)
def pY (p0:M.Database):Option Bool:=
 (eK p0.Name).bind fun x1=>(if (!x1)=true then (some false) else ((bK p0.Version 0 1000).bind fun x4=>(if (!x4)=true then (some false) else (if (decide ((List.length p0.Stores:Int)>4))=true then (some false) else (if (decide ((List.length p0.Unique:Int)>4))=true then (some false) else (dA p0 fuel 0))))))
def rG (p0:M.Response) (p1:Bool):Option Int:=
 if p1=true then (some 76) else (some (i64.wrap (16+(List.length p0.Body:Int))))
def gS (x7:M.Cache) (k13:Int→Int→Option Int):Nat→Int→Int→Option Int
 | 0,_,_=>none
 | nL2+1,v3_L2,v18_L2=>if (decide (v18_L2<(List.length x7.Entries:Int)))=true then ((idx x7.Entries v18_L2).bind fun x23=>((rG x23.Response (x23.Response.Type_==3)).bind fun x28=>(gS x7 k13 nL2 (i64.wrap (v3_L2+x28)) (i64.wrap (v18_L2+1))))) else (k13 v3_L2 v18_L2)
def eH (p0:M.aU):Nat→Int→Int→Option Int
 | 0,_,_=>none
 | nL1+1,v3,v11=>if (decide (v11<(List.length p0.Caches:Int)))=true then ((idx p0.Caches v11).bind fun x7=>(gS x7 (fun (v3_L2:Int) (v18_L2:Int)=>eH p0 nL1 v3_L2 (i64.wrap (v11+1))) fuel v3 0)) else (some v3)
def qV (p0:M.aU):Option Int:=
 eH p0 fuel 0 0
def dO (p0:M.Key):Nat→Int→List Int→Option (List Int)
 | 0,_,_=>none
 | nL1+1,v4,r12=>if (decide (v4≥0))=true then (if (decide (0≤(i64.wrap (8*v4))))=true then ((app 1 r12 ([(IntKind.u8.wrap (Int.fdiv (i64.wrap (p0.N+1000000000000)) (2^(min (i64.wrap (8*v4)).toNat IntKind.i64.bits))))])).bind fun x18=>(dO p0 nL1 (i64.wrap (v4-1)) (r12++[(IntKind.u8.wrap (Int.fdiv (i64.wrap (p0.N+1000000000000)) (2^(min (i64.wrap (8*v4)).toNat IntKind.i64.bits))))]))) else none) else ((app 1 r12 (lL p0.Text)).bind fun x26=>(some (r12++lL p0.Text)))
def tY (p0:M.Key):Option (List Int):=
 (lQ p0).bind fun x1=>(if (!x1)=true then (some ([]:List Int)) else (if (p0.Kind != 2)=true then (dO p0 fuel 5 ([(IntKind.u8.wrap p0.Kind)])) else ((app 1 ([(IntKind.u8.wrap p0.Kind)]) (lL p0.Text)).bind fun x28=>(some ([(IntKind.u8.wrap p0.Kind)]++lL p0.Text)))))
def eW  : Nat→Int→List Int→Option (List Int)
 | 0,_,_=>none
 | nL1+1,v1,r7=>if (decide (v1≥128))=true then ((app 1 r7 ([(IntKind.u8.wrap (i64.wrap ((Int.tmod v1 128)+128)))])).bind fun x11=>(eW nL1 (i64.wrap (Int.tdiv v1 128)) (r7++[(IntKind.u8.wrap (i64.wrap ((Int.tmod v1 128)+128)))]))) else ((app 1 r7 ([(IntKind.u8.wrap v1)])).bind fun x17=>(some (r7++[(IntKind.u8.wrap v1)])))
def gR (p0:List Int) (p1:Int):Option (List Int):=
 (iW p0).bind fun x1=>((bK p1 0 1000000000000).bind fun x3=>(if (!x3)=true then (some x1) else (eW fuel p1 x1)))
def pE (p0:List Int) (p1:List Int):Option (List Int):=
 (gR p0 (List.length p1:Int)).bind fun x1=>((app 1 x1 p1).bind fun x3=>(some (x1++p1)))
def fR (p0:M.aH):Nat→Int→List Int→Option (List Int)
 | 0,_,_=>none
 | nL1+1,v17,r50000=>if (decide (v17<(List.length p0.Fields:Int)))=true then ((idx p0.Fields v17).bind fun x13=>((pE r50000 (lL x13.Name)).bind fun x18=>((gR x18 x13.N).bind fun x20=>(fR p0 nL1 (i64.wrap (v17+1)) x20)))) else (some r50000)
def mX (p0:M.aH):Option (List Int):=
 (cF p0).bind fun x1=>(if (!x1)=true then (some ([]:List Int)) else ((gR ([]:List Int) (List.length p0.Fields:Int)).bind fun x4=>(fR p0 fuel 0 x4)))
def hM (p0:M.aE):Nat→Int→Int→Option Int
 | 0,_,_=>none
 | nL1+1,v3,v9=>if (decide (v9<(List.length p0.Items:Int)))=true then ((idx p0.Items v9).bind fun x7=>((tY x7.Key).bind fun x12=>((mX x7.aH).bind fun x14=>(hM p0 nL1 (i64.wrap (v3+(i64.wrap ((List.length x12:Int)+(List.length x14:Int))))) (i64.wrap (v9+1)))))) else (some v3)
def nY (p0:M.aE):Option Int:=
 hM p0 fuel 0 0
def fM (p0:M.Database):Nat→Int→Int→Option Int
 | 0,_,_=>none
 | nL1+1,v3,v9=>if (decide (v9<(List.length p0.Stores:Int)))=true then ((idx p0.Stores v9).bind fun x7=>((nY x7).bind fun x12=>(fM p0 nL1 (i64.wrap (v3+x12)) (i64.wrap (v9+1))))) else (some v3)
def mT (p0:M.Database):Option Int:=
 fM p0 fuel 0 0
def aAf (p0:M.bD):Option Int:=
 (mT p0.Base).bind fun x1=>(some (i64.wrap (x1+(List.length p0.Log:Int))))
def yN (p0:M.aA):Option Int:=
 (qV p0.Caches).bind fun x1=>((aAf p0.bD).bind fun x3=>((nY p0.aC.Base).bind fun x5=>(some (i64.wrap ((i64.wrap ((i64.wrap (x1+x3))+x5))+(i64.wrap (40*(List.length p0.aC.Sync.aN.Writes:Int))))))))
def jZ (p0:M.aA):Option Bool:=
 (eK p0.Site).bind fun x1=>(if x1=true then ((eK p0.Top).bind fun x4=>(if x4=true then ((pI p0.Registration).bind fun x7=>(if x7=true then (if (p0.Registration.Site.toList==p0.Site.toList)=true then ((pZ p0.Caches).bind fun x11=>(if x11=true then ((pY p0.bD.Base).bind fun x14=>(if x14=true then ((oE p0.aC).bind fun x17=>(if x17=true then ((bK p0.LastUsed 0 1000000000000).bind fun x20=>(if x20=true then ((yN p0).bind fun x23=>(some (decide (x23≤2500)))) else (some false))) else (some false))) else (some false))) else (some false))) else (some false)) else (some false))) else (some false))) else (some false))
def lI (p0:M.aA) (p1:M.aA):Option (M.aA×Bool):=
 (jZ p0).bind fun x1=>(if (!x1)=true then ((dE p0).bind fun x4=>(some (x4,false))) else ((jZ p1).bind fun x6=>(if (!x6)=true then ((dE p0).bind fun x9=>(some (x9,false))) else ((dE p1).bind fun x11=>(some (x11,true))))))
def jX (p0:M.aA) (p1:M.aC):Option (M.aA×Bool):=
 (lI p0 (⟨p0.Site,p0.Top,p0.Registration,p0.Caches,p0.bD,p1,p0.LastUsed,p0.Persistent⟩:M.aA)).bind fun x1=>(some (x1.1,x1.2))
def jS (p0:M.aA) (p1:M.aA):Option Bool:=
 if (Op.bytesLess p0.Site.toList p1.Site.toList)=true then (some true) else (if (p0.Site.toList==p1.Site.toList)=true then (some (Op.bytesLess p0.Top.toList p1.Top.toList)) else (some false))
def eX (p0:M.aF):Nat→Int→Option Bool
 | 0,_=>none
 | nL1+1,v8=>if (decide (v8<(List.length p0.Buckets:Int)))=true then ((idx p0.Buckets v8).bind fun x8=>((jZ x8).bind fun x13=>(if (!x13)=true then (some false) else (if (decide (v8>0))=true then ((idx p0.Buckets (i64.wrap (v8-1))).bind fun x17=>((jS x17 x8).bind fun x22=>(if (!x22)=true then (some false) else (eX p0 nL1 (i64.wrap (v8+1)))))) else (eX p0 nL1 (i64.wrap (v8+1))))))) else (some (decide ((List.length p0.Buckets:Int)≤9)))
def cD (p0:M.aF):Option Bool:=
 eX p0 fuel 0
def gA (p0:M.aF) (p1:M.aA) (x1:M.aF):Nat→Int→Option (M.aF×Bool)
 | 0,_=>none
 | nL1+1,v8=>if (decide (v8<(List.length x1.Buckets:Int)))=true then ((idx x1.Buckets v8).bind fun x43=>((jS x43 p1).bind fun x48=>(if x48=true then (gA p0 p1 x1 nL1 (i64.wrap (v8+1))) else ((dE p1).bind fun x51=>((aEw 328 x1.Buckets v8 ([x51])).bind fun x53=>((cD p0).bind fun x63=>(if (!x63)=true then ((bR p0).bind fun x66=>(some (x66,false))) else ((cD (⟨(List.take v8.toNat x1.Buckets++([x51]++List.drop v8.toNat x1.Buckets))⟩:M.aF)).bind fun x68=>(if (!x68)=true then ((bR p0).bind fun x71=>(some (x71,false))) else (some ((⟨(List.take v8.toNat x1.Buckets++([x51]++List.drop v8.toNat x1.Buckets))⟩:M.aF),true))))))))))) else ((dE p1).bind fun x73=>((aEw 328 x1.Buckets v8 ([x73])).bind fun x75=>((cD p0).bind fun x85=>(if (!x85)=true then ((bR p0).bind fun x88=>(some (x88,false))) else ((cD (⟨(List.take v8.toNat x1.Buckets++([x73]++List.drop v8.toNat x1.Buckets))⟩:M.aF)).bind fun x90=>(if (!x90)=true then ((bR p0).bind fun x93=>(some (x93,false))) else (some ((⟨(List.take v8.toNat x1.Buckets++([x73]++List.drop v8.toNat x1.Buckets))⟩:M.aF),true))))))))
def sX (p0:M.aF) (p1:M.aA):Option (M.aF×Bool):=
 (bR p0).bind fun x1=>((lX p0 p1.Site p1.Top).bind fun x3=>(if (decide (x3≥0))=true then ((dE p1).bind fun x6=>((idx x1.Buckets x3).bind fun x8=>((cD p0).bind fun x21=>(if (!x21)=true then ((bR p0).bind fun x24=>(some (x24,false))) else ((cD (⟨(List.set x1.Buckets x3.toNat x6)⟩:M.aF)).bind fun x26=>(if (!x26)=true then ((bR p0).bind fun x29=>(some (x29,false))) else (some ((⟨(List.set x1.Buckets x3.toNat x6)⟩:M.aF),true)))))))) else (gA p0 p1 x1 fuel 0)))
def pV (p0:M.World) (p1:M.bJ) (p2:Int) (p3:ByteArray) (p4:Int):Option (M.World×Bool):=
 (tQ p0).bind fun x1=>((aAe p0 p1.Site p1.Top).bind fun x3=>(if (!x3.2)=true then (some (x1,false)) else ((zV p2).bind fun x6=>((pX x3.1.aC x6 p3 p4).bind fun x8=>((jX x3.1 x8.1).bind fun x10=>((sX p0.aF x10.1).bind fun x12=>(if (!x8.2)=true then (some (x1,false)) else (if (!x10.2)=true then (some (x1,false)) else (if (!x12.2)=true then (some (x1,false)) else (some ((⟨x1.Now,x1.Online,x1.Device,x12.1,x1.Pages,x1.NextPage,x1.Locks,x1.Channel,x1.Sites,x1.Servers⟩:M.World),true)))))))))))
def kF (p0:M.Registration) (p1:M.Registration):Option Bool:=
 if (!(p0.Site.toList==p1.Site.toList))=true then (some false) else (if (p0.Installing != p1.Installing)=true then (some false) else (if (p0.Waiting != p1.Waiting)=true then (some false) else (if (p0.Active != p1.Active)=true then (some false) else (some true))))
def mD (p0:List Int) (p1:List Int):Nat→Int→Option Bool
 | 0,_=>none
 | nL1+1,v5=>if (decide (v5<(List.length p0:Int)))=true then ((idx p0 v5).bind fun x7=>((idx p1 v5).bind fun x12=>(if (x7 != x12)=true then (some false) else (mD p0 p1 nL1 (i64.wrap (v5+1)))))) else (some true)
def uS (p0:List Int) (p1:List Int):Option Bool:=
 if ((List.length p0:Int) != (List.length p1:Int))=true then (some false) else (mD p0 p1 fuel 0)
def qZ (p0:M.Response) (p1:M.Response):Option Bool:=
 if (p0.Type_ != p1.Type_)=true then (some false) else (if (p0.Status != p1.Status)=true then (some false) else (if (p0.Version != p1.Version)=true then (some false) else ((uS p0.Body p1.Body).bind fun x4=>(if (!x4)=true then (some false) else (if (!(p0.Shares==p1.Shares))=true then (some false) else (some true))))))
def wL (p0:M.Cached) (p1:M.Cached):Option Bool:=
 if (!(p0.Site.toList==p1.Site.toList))=true then (some false) else (if (!(p0.Path.toList==p1.Path.toList))=true then (some false) else ((qZ p0.Response p1.Response).bind fun x3=>(if (!x3)=true then (some false) else (some true))))
def jL (p0:List M.Cached) (p1:List M.Cached):Nat→Int→Option Bool
 | 0,_=>none
 | nL1+1,v5=>if (decide (v5<(List.length p0:Int)))=true then ((idx p0 v5).bind fun x7=>((idx p1 v5).bind fun x12=>((wL x7 x12).bind fun x17=>(if (!x17)=true then (some false) else (jL p0 p1 nL1 (i64.wrap (v5+1))))))) else (some true)
def tK (p0:List M.Cached) (p1:List M.Cached):Option Bool:=
 if ((List.length p0:Int) != (List.length p1:Int))=true then (some false) else (jL p0 p1 fuel 0)
def zM (p0:M.Cache) (p1:M.Cache):Option Bool:=
 if (p0.Version != p1.Version)=true then (some false) else ((tK p0.Entries p1.Entries).bind fun x2=>(if (!x2)=true then (some false) else (some true)))
def kO (p0:List M.Cache) (p1:List M.Cache):Nat→Int→Option Bool
 | 0,_=>none
 | nL1+1,v5=>if (decide (v5<(List.length p0:Int)))=true then ((idx p0 v5).bind fun x7=>((idx p1 v5).bind fun x12=>((zM x7 x12).bind fun x17=>(if (!x17)=true then (some false) else (kO p0 p1 nL1 (i64.wrap (v5+1))))))) else (some true)
def wR (p0:List M.Cache) (p1:List M.Cache):Option Bool:=
 if ((List.length p0:Int) != (List.length p1:Int))=true then (some false) else (kO p0 p1 fuel 0)
def qN (p0:M.aU) (p1:M.aU):Option Bool:=
 (wR p0.Caches p1.Caches).bind fun x1=>(if (!x1)=true then (some false) else (some true))
def aAH (p0:M.Key) (p1:M.Key):Option Bool:=
 if (p0.Kind != p1.Kind)=true then (some false) else (if (p0.N != p1.N)=true then (some false) else (if (!(p0.Text.toList==p1.Text.toList))=true then (some false) else (some true)))
def yE (p0:M.Field) (p1:M.Field):Option Bool:=
 if (!(p0.Name.toList==p1.Name.toList))=true then (some false) else (if (p0.N != p1.N)=true then (some false) else (some true))
def kL (p0:List M.Field) (p1:List M.Field):Nat→Int→Option Bool
 | 0,_=>none
 | nL1+1,v5=>if (decide (v5<(List.length p0:Int)))=true then ((idx p0 v5).bind fun x7=>((idx p1 v5).bind fun x12=>((yE x7 x12).bind fun x17=>(if (!x17)=true then (some false) else (kL p0 p1 nL1 (i64.wrap (v5+1))))))) else (some true)
def wV (p0:List M.Field) (p1:List M.Field):Option Bool:=
 if ((List.length p0:Int) != (List.length p1:Int))=true then (some false) else (kL p0 p1 fuel 0)
def wW (p0:M.aH) (p1:M.aH):Option Bool:=
 (wV p0.Fields p1.Fields).bind fun x1=>(if (!x1)=true then (some false) else (some true))
def aAU (p0:M.Item) (p1:M.Item):Option Bool:=
 (aAH p0.Key p1.Key).bind fun x1=>(if (!x1)=true then (some false) else ((wW p0.aH p1.aH).bind fun x4=>(if (!x4)=true then (some false) else (some true))))
def mA (p0:List M.Item) (p1:List M.Item):Nat→Int→Option Bool
 | 0,_=>none
 | nL1+1,v5=>if (decide (v5<(List.length p0:Int)))=true then ((idx p0 v5).bind fun x7=>((idx p1 v5).bind fun x12=>((aAU x7 x12).bind fun x17=>(if (!x17)=true then (some false) else (mA p0 p1 nL1 (i64.wrap (v5+1))))))) else (some true)
def zO (p0:List M.Item) (p1:List M.Item):Option Bool:=
 if ((List.length p0:Int) != (List.length p1:Int))=true then (some false) else (mA p0 p1 fuel 0)
def pM (p0:M.aE) (p1:M.aE):Option Bool:=
 if (!(p0.Name.toList==p1.Name.toList))=true then (some false) else ((zO p0.Items p1.Items).bind fun x2=>(if (!x2)=true then (some false) else (if (p0.Auto != p1.Auto)=true then (some false) else (some true))))
def kK (p0:List M.aE) (p1:List M.aE):Nat→Int→Option Bool
 | 0,_=>none
 | nL1+1,v5=>if (decide (v5<(List.length p0:Int)))=true then ((idx p0 v5).bind fun x7=>((idx p1 v5).bind fun x12=>((pM x7 x12).bind fun x17=>(if (!x17)=true then (some false) else (kK p0 p1 nL1 (i64.wrap (v5+1))))))) else (some true)
def vT (p0:List M.aE) (p1:List M.aE):Option Bool:=
 if ((List.length p0:Int) != (List.length p1:Int))=true then (some false) else (kK p0 p1 fuel 0)
def rD (p0:M.aD) (p1:M.aD):Option Bool:=
 if (!(p0.aE.toList==p1.aE.toList))=true then (some false) else (if (!(p0.Field.toList==p1.Field.toList))=true then (some false) else (some true))
def iA (p0:List M.aD) (p1:List M.aD):Nat→Int→Option Bool
 | 0,_=>none
 | nL1+1,v5=>if (decide (v5<(List.length p0:Int)))=true then ((idx p0 v5).bind fun x7=>((idx p1 v5).bind fun x12=>((rD x7 x12).bind fun x17=>(if (!x17)=true then (some false) else (iA p0 p1 nL1 (i64.wrap (v5+1))))))) else (some true)
def oT (p0:List M.aD) (p1:List M.aD):Option Bool:=
 if ((List.length p0:Int) != (List.length p1:Int))=true then (some false) else (iA p0 p1 fuel 0)
def rK (p0:M.Database) (p1:M.Database):Option Bool:=
 if (!(p0.Name.toList==p1.Name.toList))=true then (some false) else (if (p0.Version != p1.Version)=true then (some false) else ((vT p0.Stores p1.Stores).bind fun x3=>(if (!x3)=true then (some false) else ((oT p0.Unique p1.Unique).bind fun x6=>(if (!x6)=true then (some false) else (some true))))))
def aAr (p0:M.bD) (p1:M.bD):Option Bool:=
 (rK p0.Base p1.Base).bind fun x1=>(if (!x1)=true then (some false) else ((uS p0.Log p1.Log).bind fun x4=>(if (!x4)=true then (some false) else (if (p0.Count != p1.Count)=true then (some false) else (some true)))))
def yG (p0:M.aV) (p1:M.aV):Option Bool:=
 if (p0.Device != p1.Device)=true then (some false) else (if (p0.Seq != p1.Seq)=true then (some false) else ((aAH p0.Key p1.Key).bind fun x3=>(if (!x3)=true then (some false) else (if (!(p0.Field.toList==p1.Field.toList))=true then (some false) else (if (p0.N != p1.N)=true then (some false) else (some true))))))
def kR (p0:List M.aV) (p1:List M.aV):Nat→Int→Option Bool
 | 0,_=>none
 | nL1+1,v5=>if (decide (v5<(List.length p0:Int)))=true then ((idx p0 v5).bind fun x7=>((idx p1 v5).bind fun x12=>((yG x7 x12).bind fun x17=>(if (!x17)=true then (some false) else (kR p0 p1 nL1 (i64.wrap (v5+1))))))) else (some true)
def rM (p0:List M.aV) (p1:List M.aV):Option Bool:=
 if ((List.length p0:Int) != (List.length p1:Int))=true then (some false) else (kR p0 p1 fuel 0)
def wY (p0:M.aN) (p1:M.aN):Option Bool:=
 if (p0.Device != p1.Device)=true then (some false) else (if (p0.Next != p1.Next)=true then (some false) else ((rM p0.Writes p1.Writes).bind fun x3=>(if (!x3)=true then (some false) else (some true))))
def aAa (p0:M.Sync) (p1:M.Sync):Option Bool:=
 (wY p0.aN p1.aN).bind fun x1=>(if (!x1)=true then (some false) else (if (p0.Tries != p1.Tries)=true then (some false) else (if (p0.WaitUntil != p1.WaitUntil)=true then (some false) else (some true))))
def tR (p0:M.aC) (p1:M.aC):Option Bool:=
 (pM p0.Base p1.Base).bind fun x1=>(if (!x1)=true then (some false) else (if (p0.Seen != p1.Seen)=true then (some false) else ((aAa p0.Sync p1.Sync).bind fun x5=>(if (!x5)=true then (some false) else (some true)))))
def wC (p0:M.aA) (p1:M.aA):Option Bool:=
 if (!(p0.Site.toList==p1.Site.toList))=true then (some false) else (if (!(p0.Top.toList==p1.Top.toList))=true then (some false) else ((kF p0.Registration p1.Registration).bind fun x3=>(if (!x3)=true then (some false) else ((qN p0.Caches p1.Caches).bind fun x6=>(if (!x6)=true then (some false) else ((aAr p0.bD p1.bD).bind fun x9=>(if (!x9)=true then (some false) else ((tR p0.aC p1.aC).bind fun x12=>(if (!x12)=true then (some false) else (if (p0.LastUsed != p1.LastUsed)=true then (some false) else (if (!(p0.Persistent==p1.Persistent))=true then (some false) else (some true))))))))))))
def jE (p0:List M.aA) (p1:List M.aA):Nat→Int→Option Bool
 | 0,_=>none
 | nL1+1,v5=>if (decide (v5<(List.length p0:Int)))=true then ((idx p0 v5).bind fun x7=>((idx p1 v5).bind fun x12=>((wC x7 x12).bind fun x17=>(if (!x17)=true then (some false) else (jE p0 p1 nL1 (i64.wrap (v5+1))))))) else (some true)
def uC (p0:List M.aA) (p1:List M.aA):Option Bool:=
 if ((List.length p0:Int) != (List.length p1:Int))=true then (some false) else (jE p0 p1 fuel 0)
def uB (p0:M.aF) (p1:M.aF):Option Bool:=
 (uC p0.Buckets p1.Buckets).bind fun x1=>(if (!x1)=true then (some false) else (some true))
def vN (p0:M.aM) (p1:M.aM):Option Bool:=
 if (!(p0.Path.toList==p1.Path.toList))=true then (some false) else (if (p0.Version != p1.Version)=true then (some false) else (some true))
def jP (p0:List M.aM) (p1:List M.aM):Nat→Int→Option Bool
 | 0,_=>none
 | nL1+1,v5=>if (decide (v5<(List.length p0:Int)))=true then ((idx p0 v5).bind fun x7=>((idx p1 v5).bind fun x12=>((vN x7 x12).bind fun x17=>(if (!x17)=true then (some false) else (jP p0 p1 nL1 (i64.wrap (v5+1))))))) else (some true)
def uE (p0:List M.aM) (p1:List M.aM):Option Bool:=
 if ((List.length p0:Int) != (List.length p1:Int))=true then (some false) else (jP p0 p1 fuel 0)
def yC (p0:M.Instr) (p1:M.Instr):Option Bool:=
 if (p0.Kind != p1.Kind)=true then (some false) else (if (p0.R != p1.R)=true then (some false) else (if (p0.N != p1.N)=true then (some false) else (if (!(p0.Text.toList==p1.Text.toList))=true then (some false) else (some true))))
def kM (p0:List M.Instr) (p1:List M.Instr):Nat→Int→Option Bool
 | 0,_=>none
 | nL1+1,v5=>if (decide (v5<(List.length p0:Int)))=true then ((idx p0 v5).bind fun x7=>((idx p1 v5).bind fun x12=>((yC x7 x12).bind fun x17=>(if (!x17)=true then (some false) else (kM p0 p1 nL1 (i64.wrap (v5+1))))))) else (some true)
def wQ (p0:List M.Instr) (p1:List M.Instr):Option Bool:=
 if ((List.length p0:Int) != (List.length p1:Int))=true then (some false) else (kM p0 p1 fuel 0)
def nX (p0:List Int) (p1:List Int):Nat→Int→Option Bool
 | 0,_=>none
 | nL1+1,v5=>if (decide (v5<(List.length p0:Int)))=true then ((idx p0 v5).bind fun x7=>((idx p1 v5).bind fun x12=>(if (x7 != x12)=true then (some false) else (nX p0 p1 nL1 (i64.wrap (v5+1)))))) else (some true)
def aAs (p0:List Int) (p1:List Int):Option Bool:=
 if ((List.length p0:Int) != (List.length p1:Int))=true then (some false) else (nX p0 p1 fuel 0)
def sN (p0:M.Machine) (p1:M.Machine):Option Bool:=
 (wQ p0.Script p1.Script).bind fun x1=>(if (!x1)=true then (some false) else (if (p0.Pc != p1.Pc)=true then (some false) else ((aAs p0.Regs p1.Regs).bind fun x5=>(if (!x5)=true then (some false) else (if (p0.Steps != p1.Steps)=true then (some false) else (if (!(p0.Done==p1.Done))=true then (some false) else (if (!(p0.Wait==p1.Wait))=true then (some false) else (some true))))))))
def xM (p0:M.bJ) (p1:M.bJ):Option Bool:=
 if (p0.Id != p1.Id)=true then (some false) else (if (!(p0.Site.toList==p1.Site.toList))=true then (some false) else (if (!(p0.Top.toList==p1.Top.toList))=true then (some false) else (if (p0.Version != p1.Version)=true then (some false) else ((uE p0.aM p1.aM).bind fun x5=>(if (!x5)=true then (some false) else ((sN p0.Machine p1.Machine).bind fun x8=>(if (!x8)=true then (some false) else (some true))))))))
def mI (p0:List M.bJ) (p1:List M.bJ):Nat→Int→Option Bool
 | 0,_=>none
 | nL1+1,v5=>if (decide (v5<(List.length p0:Int)))=true then ((idx p0 v5).bind fun x7=>((idx p1 v5).bind fun x12=>((xM x7 x12).bind fun x17=>(if (!x17)=true then (some false) else (mI p0 p1 nL1 (i64.wrap (v5+1))))))) else (some true)
def yW (p0:List M.bJ) (p1:List M.bJ):Option Bool:=
 if ((List.length p0:Int) != (List.length p1:Int))=true then (some false) else (mI p0 p1 fuel 0)
def aAy (p0:M.cT) (p1:M.cT):Option Bool:=
 if (!(p0.Name.toList==p1.Name.toList))=true then (some false) else (if (p0.bJ != p1.bJ)=true then (some false) else (if (!(p0.Shared==p1.Shared))=true then (some false) else (if (!(p0.Held==p1.Held))=true then (some false) else (some true))))
def mK (p0:List M.cT) (p1:List M.cT):Nat→Int→Option Bool
 | 0,_=>none
 | nL1+1,v5=>if (decide (v5<(List.length p0:Int)))=true then ((idx p0 v5).bind fun x7=>((idx p1 v5).bind fun x12=>((aAy x7 x12).bind fun x17=>(if (!x17)=true then (some false) else (mK p0 p1 nL1 (i64.wrap (v5+1))))))) else (some true)
def yI (p0:List M.cT) (p1:List M.cT):Option Bool:=
 if ((List.length p0:Int) != (List.length p1:Int))=true then (some false) else (mK p0 p1 fuel 0)
def oY (p0:M.aW) (p1:M.aW):Option Bool:=
 (yI p0.Locks p1.Locks).bind fun x1=>(if (!x1)=true then (some false) else (some true))
def aA2 (p0:M.eO) (p1:M.eO):Option Bool:=
 if (p0.To != p1.To)=true then (some false) else (if (p0.From != p1.From)=true then (some false) else (if (p0.N != p1.N)=true then (some false) else (some true)))
def mP (p0:List M.eO) (p1:List M.eO):Nat→Int→Option Bool
 | 0,_=>none
 | nL1+1,v5=>if (decide (v5<(List.length p0:Int)))=true then ((idx p0 v5).bind fun x7=>((idx p1 v5).bind fun x12=>((aA2 x7 x12).bind fun x17=>(if (!x17)=true then (some false) else (mP p0 p1 nL1 (i64.wrap (v5+1))))))) else (some true)
def zF (p0:List M.eO) (p1:List M.eO):Option Bool:=
 if ((List.length p0:Int) != (List.length p1:Int))=true then (some false) else (mP p0 p1 fuel 0)
def tN (p0:M.Channel) (p1:M.Channel):Option Bool:=
 (zF p0.Mails p1.Mails).bind fun x1=>(if (!x1)=true then (some false) else (some true))
def jK (p0:List ByteArray) (p1:List ByteArray):Nat→Int→Option Bool
 | 0,_=>none
 | nL1+1,v5=>if (decide (v5<(List.length p0:Int)))=true then ((idx p0 v5).bind fun x7=>((idx p1 v5).bind fun x12=>(if (!(x7.toList==x12.toList))=true then (some false) else (jK p0 p1 nL1 (i64.wrap (v5+1)))))) else (some true)
def tZ (p0:List ByteArray) (p1:List ByteArray):Option Bool:=
 if ((List.length p0:Int) != (List.length p1:Int))=true then (some false) else (jK p0 p1 fuel 0)
def aAS (p0:M.Site) (p1:M.Site):Option Bool:=
 if (!(p0.Name.toList==p1.Name.toList))=true then (some false) else (if (p0.Version != p1.Version)=true then (some false) else ((tZ p0.Files p1.Files).bind fun x3=>(if (!x3)=true then (some false) else (if (!(p0.Shared==p1.Shared))=true then (some false) else (some true)))))
def mE (p0:List M.Site) (p1:List M.Site):Nat→Int→Option Bool
 | 0,_=>none
 | nL1+1,v5=>if (decide (v5<(List.length p0:Int)))=true then ((idx p0 v5).bind fun x7=>((idx p1 v5).bind fun x12=>((aAS x7 x12).bind fun x17=>(if (!x17)=true then (some false) else (mE p0 p1 nL1 (i64.wrap (v5+1))))))) else (some true)
def zU (p0:List M.Site) (p1:List M.Site):Option Bool:=
 if ((List.length p0:Int) != (List.length p1:Int))=true then (some false) else (mE p0 p1 fuel 0)
def sY (p0:M.aO) (p1:M.aO):Option Bool:=
 if (p0.Device != p1.Device)=true then (some false) else (if (p0.Seq != p1.Seq)=true then (some false) else (some true))
def iT (p0:List M.aO) (p1:List M.aO):Nat→Int→Option Bool
 | 0,_=>none
 | nL1+1,v5=>if (decide (v5<(List.length p0:Int)))=true then ((idx p0 v5).bind fun x7=>((idx p1 v5).bind fun x12=>((sY x7 x12).bind fun x17=>(if (!x17)=true then (some false) else (iT p0 p1 nL1 (i64.wrap (v5+1))))))) else (some true)
def qG (p0:List M.aO) (p1:List M.aO):Option Bool:=
 if ((List.length p0:Int) != (List.length p1:Int))=true then (some false) else (iT p0 p1 fuel 0)
def wD (p0:M.Server) (p1:M.Server):Option Bool:=
 (pM p0.aE p1.aE).bind fun x1=>(if (!x1)=true then (some false) else ((qG p0.aO p1.aO).bind fun x4=>(if (!x4)=true then (some false) else ((rM p0.Changes p1.Changes).bind fun x7=>(if (!x7)=true then (some false) else (some true))))))
def jJ (p0:List M.Server) (p1:List M.Server):Nat→Int→Option Bool
 | 0,_=>none
 | nL1+1,v5=>if (decide (v5<(List.length p0:Int)))=true then ((idx p0 v5).bind fun x7=>((idx p1 v5).bind fun x12=>((wD x7 x12).bind fun x17=>(if (!x17)=true then (some false) else (jJ p0 p1 nL1 (i64.wrap (v5+1))))))) else (some true)
def tX (p0:List M.Server) (p1:List M.Server):Option Bool:=
 if ((List.length p0:Int) != (List.length p1:Int))=true then (some false) else (jJ p0 p1 fuel 0)
def lS (p0:M.World) (p1:M.World):Option Bool:=
 if (p0.Now != p1.Now)=true then (some false) else (if (!(p0.Online==p1.Online))=true then (some false) else (if (p0.Device != p1.Device)=true then (some false) else ((uB p0.aF p1.aF).bind fun x4=>(if (!x4)=true then (some false) else ((yW p0.Pages p1.Pages).bind fun x7=>(if (!x7)=true then (some false) else (if (p0.NextPage != p1.NextPage)=true then (some false) else ((oY p0.Locks p1.Locks).bind fun x11=>(if (!x11)=true then (some false) else ((tN p0.Channel p1.Channel).bind fun x14=>(if (!x14)=true then (some false) else ((zU p0.Sites p1.Sites).bind fun x17=>(if (!x17)=true then (some false) else ((tX p0.Servers p1.Servers).bind fun x20=>(if (!x20)=true then (some false) else (some true))))))))))))))))
def kQ  : Nat→Int→ByteArray→Option ByteArray
 | 0,_,_=>none
 | nL1+1,v0,v3=>if (decide (v0>0))=true then ((toStr ([(IntKind.u8.wrap (i64.wrap (48+(Int.tmod v0 10))))])).bind fun x6=>((cat (aB8 ([(IntKind.u8.wrap (i64.wrap (48+(Int.tmod v0 10))))])) v3).bind fun x8=>(kQ nL1 (i64.wrap (Int.tdiv v0 10)) ((aB8 ([(IntKind.u8.wrap (i64.wrap (48+(Int.tmod v0 10))))]))++v3)))) else ((cat (⟨#[109]⟩:ByteArray) v3).bind fun x13=>(some ((⟨#[109]⟩:ByteArray)++v3)))
def aJ (p0:Int):Option ByteArray:=
 if (decide (p0≤0))=true then (some (⟨#[109,48]⟩:ByteArray)) else (kQ fuel p0 (⟨#[]⟩:ByteArray))
def dS  : Nat→Int→Int→List Int→Option (List Int×Int)
 | 0,_,_,_=>none
 | nL1+1,v1,v5,r99=>if (decide (v5<(List.length r99:Int)))=true then ((idx r99 v5).bind fun x8=>((some (List.set r99 v5.toNat (IntKind.u8.wrap v1))).bind fun y13=>(dS nL1 (i64.wrap (v1+1)) (i64.wrap (v5+1)) y13))) else (some (r99,v1))
def oD (p0:List Int) (p1:Int):Option (List Int×Int):=
 dS fuel p1 0 p0
def cN  : Nat→Int→Int→List M.Cached→Option (List M.Cached×Int)
 | 0,_,_,_=>none
 | nL1+1,v1,v5,r99=>if (decide (v5<(List.length r99:Int)))=true then ((aJ v1).bind fun x8=>((idx r99 v5).bind fun x10=>((some (List.set r99 v5.toNat (⟨x8,x10.Path,x10.Response⟩:M.Cached))).bind fun y15=>((aJ (i64.wrap (v1+1))).bind fun x23=>((idx y15 v5).bind fun x25=>((some (List.set y15 v5.toNat (⟨x25.Site,x23,x25.Response⟩:M.Cached))).bind fun y30=>((idx y30 v5).bind fun x38=>((some (List.set y30 v5.toNat (⟨x38.Site,x38.Path,(⟨(i64.wrap ((i64.wrap (v1+1))+1)),x38.Response.Status,x38.Response.Version,x38.Response.Body,x38.Response.Shares⟩:M.Response)⟩:M.Cached))).bind fun y43=>((idx y43 v5).bind fun x51=>((some (List.set y43 v5.toNat (⟨x51.Site,x51.Path,(⟨x51.Response.Type_,(i64.wrap ((i64.wrap ((i64.wrap (v1+1))+1))+1)),x51.Response.Version,x51.Response.Body,x51.Response.Shares⟩:M.Response)⟩:M.Cached))).bind fun y56=>((idx y56 v5).bind fun x64=>((some (List.set y56 v5.toNat (⟨x64.Site,x64.Path,(⟨x64.Response.Type_,x64.Response.Status,(i64.wrap ((i64.wrap ((i64.wrap ((i64.wrap (v1+1))+1))+1))+1)),x64.Response.Body,x64.Response.Shares⟩:M.Response)⟩:M.Cached))).bind fun y69=>((idx y69 v5).bind fun x77=>((oD x77.Response.Body (i64.wrap ((i64.wrap ((i64.wrap ((i64.wrap ((i64.wrap (v1+1))+1))+1))+1))+1))).bind fun x82=>((some (List.set y69 v5.toNat (⟨x77.Site,x77.Path,(⟨x77.Response.Type_,x77.Response.Status,x77.Response.Version,x82.1,x77.Response.Shares⟩:M.Response)⟩:M.Cached))).bind fun y84=>((idx y84 v5).bind fun x92=>((some (List.set y84 v5.toNat (⟨x92.Site,x92.Path,(⟨x92.Response.Type_,x92.Response.Status,x92.Response.Version,x92.Response.Body,((Int.tmod x82.2 3)==0)⟩:M.Response)⟩:M.Cached))).bind fun y97=>(cN nL1 (i64.wrap (x82.2+1)) (i64.wrap (v5+1)) y97)))))))))))))))))) else (some (r99,v1))
def oN (p0:List M.Cached) (p1:Int):Option (List M.Cached×Int):=
 cN fuel p1 0 p0
def dB  : Nat→Int→Int→List M.Cache→Option (List M.Cache×Int)
 | 0,_,_,_=>none
 | nL1+1,v1,v5,r99=>if (decide (v5<(List.length r99:Int)))=true then ((idx r99 v5).bind fun x8=>((some (List.set r99 v5.toNat (⟨v1,x8.Entries⟩:M.Cache))).bind fun y13=>((idx y13 v5).bind fun x21=>((oN x21.Entries (i64.wrap (v1+1))).bind fun x26=>((some (List.set y13 v5.toNat (⟨x21.Version,x26.1⟩:M.Cache))).bind fun y28=>(dB nL1 x26.2 (i64.wrap (v5+1)) y28)))))) else (some (r99,v1))
def rO (p0:List M.Cache) (p1:Int):Option (List M.Cache×Int):=
 dB fuel p1 0 p0
def cX  : Nat→Int→Int→List M.Field→Option (List M.Field×Int)
 | 0,_,_,_=>none
 | nL1+1,v1,v5,r99=>if (decide (v5<(List.length r99:Int)))=true then ((aJ v1).bind fun x8=>((idx r99 v5).bind fun x10=>((some (List.set r99 v5.toNat (⟨x8,x10.N⟩:M.Field))).bind fun y15=>((idx y15 v5).bind fun x23=>((some (List.set y15 v5.toNat (⟨x23.Name,(i64.wrap (v1+1))⟩:M.Field))).bind fun y28=>(cX nL1 (i64.wrap ((i64.wrap (v1+1))+1)) (i64.wrap (v5+1)) y28)))))) else (some (r99,v1))
def rE (p0:List M.Field) (p1:Int):Option (List M.Field×Int):=
 cX fuel p1 0 p0
def dQ  : Nat→Int→Int→List M.Item→Option (List M.Item×Int)
 | 0,_,_,_=>none
 | nL1+1,v1,v5,r99=>if (decide (v5<(List.length r99:Int)))=true then ((idx r99 v5).bind fun x8=>((some (List.set r99 v5.toNat (⟨(⟨v1,x8.Key.N,x8.Key.Text⟩:M.Key),x8.aH⟩:M.Item))).bind fun y13=>((idx y13 v5).bind fun x21=>((some (List.set y13 v5.toNat (⟨(⟨x21.Key.Kind,(i64.wrap (v1+1)),x21.Key.Text⟩:M.Key),x21.aH⟩:M.Item))).bind fun y26=>((aJ (i64.wrap ((i64.wrap (v1+1))+1))).bind fun x34=>((idx y26 v5).bind fun x36=>((some (List.set y26 v5.toNat (⟨(⟨x36.Key.Kind,x36.Key.N,x34⟩:M.Key),x36.aH⟩:M.Item))).bind fun y41=>((idx y41 v5).bind fun x49=>((rE x49.aH.Fields (i64.wrap ((i64.wrap ((i64.wrap (v1+1))+1))+1))).bind fun x54=>((some (List.set y41 v5.toNat (⟨x49.Key,(⟨x54.1⟩:M.aH)⟩:M.Item))).bind fun y56=>(dQ nL1 x54.2 (i64.wrap (v5+1)) y56))))))))))) else (some (r99,v1))
def kY (p0:List M.Item) (p1:Int):Option (List M.Item×Int):=
 dQ fuel p1 0 p0
def cZ  : Nat→Int→Int→List M.aE→Option (List M.aE×Int)
 | 0,_,_,_=>none
 | nL1+1,v1,v5,r99=>if (decide (v5<(List.length r99:Int)))=true then ((aJ v1).bind fun x8=>((idx r99 v5).bind fun x10=>((some (List.set r99 v5.toNat (⟨x8,x10.Items,x10.Auto⟩:M.aE))).bind fun y15=>((idx y15 v5).bind fun x23=>((kY x23.Items (i64.wrap (v1+1))).bind fun x28=>((some (List.set y15 v5.toNat (⟨x23.Name,x28.1,x23.Auto⟩:M.aE))).bind fun y30=>((idx y30 v5).bind fun x38=>((some (List.set y30 v5.toNat (⟨x38.Name,x38.Items,x28.2⟩:M.aE))).bind fun y43=>(cZ nL1 (i64.wrap (x28.2+1)) (i64.wrap (v5+1)) y43))))))))) else (some (r99,v1))
def qI (p0:List M.aE) (p1:Int):Option (List M.aE×Int):=
 cZ fuel p1 0 p0
def bU  : Nat→Int→Int→List M.aD→Option (List M.aD×Int)
 | 0,_,_,_=>none
 | nL1+1,v1,v5,r99=>if (decide (v5<(List.length r99:Int)))=true then ((aJ v1).bind fun x8=>((idx r99 v5).bind fun x10=>((some (List.set r99 v5.toNat (⟨x8,x10.Field⟩:M.aD))).bind fun y15=>((aJ (i64.wrap (v1+1))).bind fun x23=>((idx y15 v5).bind fun x25=>((some (List.set y15 v5.toNat (⟨x25.aE,x23⟩:M.aD))).bind fun y30=>(bU nL1 (i64.wrap ((i64.wrap (v1+1))+1)) (i64.wrap (v5+1)) y30))))))) else (some (r99,v1))
def lH (p0:List M.aD) (p1:Int):Option (List M.aD×Int):=
 bU fuel p1 0 p0
def cY  : Nat→Int→Int→List M.aV→Option (List M.aV×Int)
 | 0,_,_,_=>none
 | nL1+1,v1,v5,r99=>if (decide (v5<(List.length r99:Int)))=true then ((idx r99 v5).bind fun x8=>((some (List.set r99 v5.toNat (⟨v1,x8.Seq,x8.Key,x8.Field,x8.N⟩:M.aV))).bind fun y13=>((idx y13 v5).bind fun x21=>((some (List.set y13 v5.toNat (⟨x21.Device,(i64.wrap (v1+1)),x21.Key,x21.Field,x21.N⟩:M.aV))).bind fun y26=>((idx y26 v5).bind fun x34=>((some (List.set y26 v5.toNat (⟨x34.Device,x34.Seq,(⟨(i64.wrap ((i64.wrap (v1+1))+1)),x34.Key.N,x34.Key.Text⟩:M.Key),x34.Field,x34.N⟩:M.aV))).bind fun y39=>((idx y39 v5).bind fun x47=>((some (List.set y39 v5.toNat (⟨x47.Device,x47.Seq,(⟨x47.Key.Kind,(i64.wrap ((i64.wrap ((i64.wrap (v1+1))+1))+1)),x47.Key.Text⟩:M.Key),x47.Field,x47.N⟩:M.aV))).bind fun y52=>((aJ (i64.wrap ((i64.wrap ((i64.wrap ((i64.wrap (v1+1))+1))+1))+1))).bind fun x60=>((idx y52 v5).bind fun x62=>((some (List.set y52 v5.toNat (⟨x62.Device,x62.Seq,(⟨x62.Key.Kind,x62.Key.N,x60⟩:M.Key),x62.Field,x62.N⟩:M.aV))).bind fun y67=>((aJ (i64.wrap ((i64.wrap ((i64.wrap ((i64.wrap ((i64.wrap (v1+1))+1))+1))+1))+1))).bind fun x75=>((idx y67 v5).bind fun x77=>((some (List.set y67 v5.toNat (⟨x77.Device,x77.Seq,x77.Key,x75,x77.N⟩:M.aV))).bind fun y82=>((idx y82 v5).bind fun x90=>((some (List.set y82 v5.toNat (⟨x90.Device,x90.Seq,x90.Key,x90.Field,(i64.wrap ((i64.wrap ((i64.wrap ((i64.wrap ((i64.wrap ((i64.wrap (v1+1))+1))+1))+1))+1))+1))⟩:M.aV))).bind fun y95=>(cY nL1 (i64.wrap ((i64.wrap ((i64.wrap ((i64.wrap ((i64.wrap ((i64.wrap ((i64.wrap (v1+1))+1))+1))+1))+1))+1))+1)) (i64.wrap (v5+1)) y95))))))))))))))))) else (some (r99,v1))
def mC (p0:List M.aV) (p1:Int):Option (List M.aV×Int):=
 cY fuel p1 0 p0
def cR  : Nat→Int→Int→List M.aA→Option (List M.aA×Int)
 | 0,_,_,_=>none
 | nL1+1,v1,v5,r99=>if (decide (v5<(List.length r99:Int)))=true then ((aJ v1).bind fun x8=>((idx r99 v5).bind fun x10=>((some (List.set r99 v5.toNat (⟨x8,x10.Top,x10.Registration,x10.Caches,x10.bD,x10.aC,x10.LastUsed,x10.Persistent⟩:M.aA))).bind fun y15=>((aJ (i64.wrap (v1+1))).bind fun x23=>((idx y15 v5).bind fun x25=>((some (List.set y15 v5.toNat (⟨x25.Site,x23,x25.Registration,x25.Caches,x25.bD,x25.aC,x25.LastUsed,x25.Persistent⟩:M.aA))).bind fun y30=>((aJ (i64.wrap ((i64.wrap (v1+1))+1))).bind fun x38=>((idx y30 v5).bind fun x40=>((some (List.set y30 v5.toNat (⟨x40.Site,x40.Top,(⟨x38,x40.Registration.Installing,x40.Registration.Waiting,x40.Registration.Active⟩:M.Registration),x40.Caches,x40.bD,x40.aC,x40.LastUsed,x40.Persistent⟩:M.aA))).bind fun y45=>((idx y45 v5).bind fun x53=>((some (List.set y45 v5.toNat (⟨x53.Site,x53.Top,(⟨x53.Registration.Site,(i64.wrap ((i64.wrap ((i64.wrap (v1+1))+1))+1)),x53.Registration.Waiting,x53.Registration.Active⟩:M.Registration),x53.Caches,x53.bD,x53.aC,x53.LastUsed,x53.Persistent⟩:M.aA))).bind fun y58=>((idx y58 v5).bind fun x66=>((some (List.set y58 v5.toNat (⟨x66.Site,x66.Top,(⟨x66.Registration.Site,x66.Registration.Installing,(i64.wrap ((i64.wrap ((i64.wrap ((i64.wrap (v1+1))+1))+1))+1)),x66.Registration.Active⟩:M.Registration),x66.Caches,x66.bD,x66.aC,x66.LastUsed,x66.Persistent⟩:M.aA))).bind fun y71=>((idx y71 v5).bind fun x79=>((some (List.set y71 v5.toNat (⟨x79.Site,x79.Top,(⟨x79.Registration.Site,x79.Registration.Installing,x79.Registration.Waiting,(i64.wrap ((i64.wrap ((i64.wrap ((i64.wrap ((i64.wrap (v1+1))+1))+1))+1))+1))⟩:M.Registration),x79.Caches,x79.bD,x79.aC,x79.LastUsed,x79.Persistent⟩:M.aA))).bind fun y84=>((idx y84 v5).bind fun x92=>((rO x92.Caches.Caches (i64.wrap ((i64.wrap ((i64.wrap ((i64.wrap ((i64.wrap ((i64.wrap (v1+1))+1))+1))+1))+1))+1))).bind fun x97=>((some (List.set y84 v5.toNat (⟨x92.Site,x92.Top,x92.Registration,(⟨x97.1⟩:M.aU),x92.bD,x92.aC,x92.LastUsed,x92.Persistent⟩:M.aA))).bind fun y99=>((aJ x97.2).bind fun x107=>((idx y99 v5).bind fun x109=>((some (List.set y99 v5.toNat (⟨x109.Site,x109.Top,x109.Registration,x109.Caches,(⟨(⟨x107,x109.bD.Base.Version,x109.bD.Base.Stores,x109.bD.Base.Unique⟩:M.Database),x109.bD.Log,x109.bD.Count⟩:M.bD),x109.aC,x109.LastUsed,x109.Persistent⟩:M.aA))).bind fun y114=>((idx y114 v5).bind fun x122=>((some (List.set y114 v5.toNat (⟨x122.Site,x122.Top,x122.Registration,x122.Caches,(⟨(⟨x122.bD.Base.Name,(i64.wrap (x97.2+1)),x122.bD.Base.Stores,x122.bD.Base.Unique⟩:M.Database),x122.bD.Log,x122.bD.Count⟩:M.bD),x122.aC,x122.LastUsed,x122.Persistent⟩:M.aA))).bind fun y127=>((idx y127 v5).bind fun x135=>((qI x135.bD.Base.Stores (i64.wrap ((i64.wrap (x97.2+1))+1))).bind fun x140=>((some (List.set y127 v5.toNat (⟨x135.Site,x135.Top,x135.Registration,x135.Caches,(⟨(⟨x135.bD.Base.Name,x135.bD.Base.Version,x140.1,x135.bD.Base.Unique⟩:M.Database),x135.bD.Log,x135.bD.Count⟩:M.bD),x135.aC,x135.LastUsed,x135.Persistent⟩:M.aA))).bind fun y142=>((idx y142 v5).bind fun x150=>((lH x150.bD.Base.Unique x140.2).bind fun x155=>((some (List.set y142 v5.toNat (⟨x150.Site,x150.Top,x150.Registration,x150.Caches,(⟨(⟨x150.bD.Base.Name,x150.bD.Base.Version,x150.bD.Base.Stores,x155.1⟩:M.Database),x150.bD.Log,x150.bD.Count⟩:M.bD),x150.aC,x150.LastUsed,x150.Persistent⟩:M.aA))).bind fun y157=>((idx y157 v5).bind fun x165=>((oD x165.bD.Log x155.2).bind fun x170=>((some (List.set y157 v5.toNat (⟨x165.Site,x165.Top,x165.Registration,x165.Caches,(⟨x165.bD.Base,x170.1,x165.bD.Count⟩:M.bD),x165.aC,x165.LastUsed,x165.Persistent⟩:M.aA))).bind fun y172=>((idx y172 v5).bind fun x180=>((some (List.set y172 v5.toNat (⟨x180.Site,x180.Top,x180.Registration,x180.Caches,(⟨x180.bD.Base,x180.bD.Log,x170.2⟩:M.bD),x180.aC,x180.LastUsed,x180.Persistent⟩:M.aA))).bind fun y185=>((aJ (i64.wrap (x170.2+1))).bind fun x193=>((idx y185 v5).bind fun x195=>((some (List.set y185 v5.toNat (⟨x195.Site,x195.Top,x195.Registration,x195.Caches,x195.bD,(⟨(⟨x193,x195.aC.Base.Items,x195.aC.Base.Auto⟩:M.aE),x195.aC.Seen,x195.aC.Sync⟩:M.aC),x195.LastUsed,x195.Persistent⟩:M.aA))).bind fun y200=>((idx y200 v5).bind fun x208=>((kY x208.aC.Base.Items (i64.wrap ((i64.wrap (x170.2+1))+1))).bind fun x213=>((some (List.set y200 v5.toNat (⟨x208.Site,x208.Top,x208.Registration,x208.Caches,x208.bD,(⟨(⟨x208.aC.Base.Name,x213.1,x208.aC.Base.Auto⟩:M.aE),x208.aC.Seen,x208.aC.Sync⟩:M.aC),x208.LastUsed,x208.Persistent⟩:M.aA))).bind fun y215=>((idx y215 v5).bind fun x223=>((some (List.set y215 v5.toNat (⟨x223.Site,x223.Top,x223.Registration,x223.Caches,x223.bD,(⟨(⟨x223.aC.Base.Name,x223.aC.Base.Items,x213.2⟩:M.aE),x223.aC.Seen,x223.aC.Sync⟩:M.aC),x223.LastUsed,x223.Persistent⟩:M.aA))).bind fun y228=>((idx y228 v5).bind fun x236=>((some (List.set y228 v5.toNat (⟨x236.Site,x236.Top,x236.Registration,x236.Caches,x236.bD,(⟨x236.aC.Base,(i64.wrap (x213.2+1)),x236.aC.Sync⟩:M.aC),x236.LastUsed,x236.Persistent⟩:M.aA))).bind fun y241=>((idx y241 v5).bind fun x249=>((some (List.set y241 v5.toNat (⟨x249.Site,x249.Top,x249.Registration,x249.Caches,x249.bD,(⟨x249.aC.Base,x249.aC.Seen,(⟨(⟨(i64.wrap ((i64.wrap (x213.2+1))+1)),x249.aC.Sync.aN.Next,x249.aC.Sync.aN.Writes⟩:M.aN),x249.aC.Sync.Tries,x249.aC.Sync.WaitUntil⟩:M.Sync)⟩:M.aC),x249.LastUsed,x249.Persistent⟩:M.aA))).bind fun y254=>((idx y254 v5).bind fun x262=>((some (List.set y254 v5.toNat (⟨x262.Site,x262.Top,x262.Registration,x262.Caches,x262.bD,(⟨x262.aC.Base,x262.aC.Seen,(⟨(⟨x262.aC.Sync.aN.Device,(i64.wrap ((i64.wrap ((i64.wrap (x213.2+1))+1))+1)),x262.aC.Sync.aN.Writes⟩:M.aN),x262.aC.Sync.Tries,x262.aC.Sync.WaitUntil⟩:M.Sync)⟩:M.aC),x262.LastUsed,x262.Persistent⟩:M.aA))).bind fun y267=>((idx y267 v5).bind fun x275=>((mC x275.aC.Sync.aN.Writes (i64.wrap ((i64.wrap ((i64.wrap ((i64.wrap (x213.2+1))+1))+1))+1))).bind fun x280=>((some (List.set y267 v5.toNat (⟨x275.Site,x275.Top,x275.Registration,x275.Caches,x275.bD,(⟨x275.aC.Base,x275.aC.Seen,(⟨(⟨x275.aC.Sync.aN.Device,x275.aC.Sync.aN.Next,x280.1⟩:M.aN),x275.aC.Sync.Tries,x275.aC.Sync.WaitUntil⟩:M.Sync)⟩:M.aC),x275.LastUsed,x275.Persistent⟩:M.aA))).bind fun y282=>((idx y282 v5).bind fun x290=>((some (List.set y282 v5.toNat (⟨x290.Site,x290.Top,x290.Registration,x290.Caches,x290.bD,(⟨x290.aC.Base,x290.aC.Seen,(⟨x290.aC.Sync.aN,x280.2,x290.aC.Sync.WaitUntil⟩:M.Sync)⟩:M.aC),x290.LastUsed,x290.Persistent⟩:M.aA))).bind fun y295=>((idx y295 v5).bind fun x303=>((some (List.set y295 v5.toNat (⟨x303.Site,x303.Top,x303.Registration,x303.Caches,x303.bD,(⟨x303.aC.Base,x303.aC.Seen,(⟨x303.aC.Sync.aN,x303.aC.Sync.Tries,(i64.wrap (x280.2+1))⟩:M.Sync)⟩:M.aC),x303.LastUsed,x303.Persistent⟩:M.aA))).bind fun y308=>((idx y308 v5).bind fun x316=>((some (List.set y308 v5.toNat (⟨x316.Site,x316.Top,x316.Registration,x316.Caches,x316.bD,x316.aC,(i64.wrap ((i64.wrap (x280.2+1))+1)),x316.Persistent⟩:M.aA))).bind fun y321=>((idx y321 v5).bind fun x329=>((some (List.set y321 v5.toNat (⟨x329.Site,x329.Top,x329.Registration,x329.Caches,x329.bD,x329.aC,x329.LastUsed,((Int.tmod (i64.wrap ((i64.wrap ((i64.wrap (x280.2+1))+1))+1)) 3)==0)⟩:M.aA))).bind fun y334=>(cR nL1 (i64.wrap ((i64.wrap ((i64.wrap ((i64.wrap (x280.2+1))+1))+1))+1)) (i64.wrap (v5+1)) y334)))))))))))))))))))))))))))))))))))))))))))))))))))))))))))) else (some (r99,v1))
def pG (p0:List M.aA) (p1:Int):Option (List M.aA×Int):=
 cR fuel p1 0 p0
def vK (p0:M.aF) (p1:Int):Option (List M.aA×Int):=
 (pG p0.Buckets p1).bind fun x1=>(some (x1.1,x1.2))
def cM  : Nat→Int→Int→List M.aM→Option (List M.aM×Int)
 | 0,_,_,_=>none
 | nL1+1,v1,v5,r99=>if (decide (v5<(List.length r99:Int)))=true then ((aJ v1).bind fun x8=>((idx r99 v5).bind fun x10=>((some (List.set r99 v5.toNat (⟨x8,x10.Version⟩:M.aM))).bind fun y15=>((idx y15 v5).bind fun x23=>((some (List.set y15 v5.toNat (⟨x23.Path,(i64.wrap (v1+1))⟩:M.aM))).bind fun y28=>(cM nL1 (i64.wrap ((i64.wrap (v1+1))+1)) (i64.wrap (v5+1)) y28)))))) else (some (r99,v1))
def kU (p0:List M.aM) (p1:Int):Option (List M.aM×Int):=
 cM fuel p1 0 p0
def cW  : Nat→Int→Int→List M.Instr→Option (List M.Instr×Int)
 | 0,_,_,_=>none
 | nL1+1,v1,v5,r99=>if (decide (v5<(List.length r99:Int)))=true then ((idx r99 v5).bind fun x8=>((some (List.set r99 v5.toNat (⟨v1,x8.R,x8.N,x8.Text⟩:M.Instr))).bind fun y13=>((idx y13 v5).bind fun x21=>((some (List.set y13 v5.toNat (⟨x21.Kind,(i64.wrap (v1+1)),x21.N,x21.Text⟩:M.Instr))).bind fun y26=>((idx y26 v5).bind fun x34=>((some (List.set y26 v5.toNat (⟨x34.Kind,x34.R,(i64.wrap ((i64.wrap (v1+1))+1)),x34.Text⟩:M.Instr))).bind fun y39=>((aJ (i64.wrap ((i64.wrap ((i64.wrap (v1+1))+1))+1))).bind fun x47=>((idx y39 v5).bind fun x49=>((some (List.set y39 v5.toNat (⟨x49.Kind,x49.R,x49.N,x47⟩:M.Instr))).bind fun y54=>(cW nL1 (i64.wrap ((i64.wrap ((i64.wrap ((i64.wrap (v1+1))+1))+1))+1)) (i64.wrap (v5+1)) y54)))))))))) else (some (r99,v1))
def mL (p0:List M.Instr) (p1:Int):Option (List M.Instr×Int):=
 cW fuel p1 0 p0
def eP  : Nat→Int→Int→List Int→Option (List Int×Int)
 | 0,_,_,_=>none
 | nL1+1,v1,v5,r99=>if (decide (v5<(List.length r99:Int)))=true then ((idx r99 v5).bind fun x8=>((some (List.set r99 v5.toNat v1)).bind fun y13=>(eP nL1 (i64.wrap (v1+1)) (i64.wrap (v5+1)) y13))) else (some (r99,v1))
def qP (p0:List Int) (p1:Int):Option (List Int×Int):=
 eP fuel p1 0 p0
def dN  : Nat→Int→Int→List M.bJ→Option (List M.bJ×Int)
 | 0,_,_,_=>none
 | nL1+1,v1,v5,r99=>if (decide (v5<(List.length r99:Int)))=true then ((idx r99 v5).bind fun x8=>((some (List.set r99 v5.toNat (⟨v1,x8.Site,x8.Top,x8.Version,x8.aM,x8.Machine⟩:M.bJ))).bind fun y13=>((aJ (i64.wrap (v1+1))).bind fun x21=>((idx y13 v5).bind fun x23=>((some (List.set y13 v5.toNat (⟨x23.Id,x21,x23.Top,x23.Version,x23.aM,x23.Machine⟩:M.bJ))).bind fun y28=>((aJ (i64.wrap ((i64.wrap (v1+1))+1))).bind fun x36=>((idx y28 v5).bind fun x38=>((some (List.set y28 v5.toNat (⟨x38.Id,x38.Site,x36,x38.Version,x38.aM,x38.Machine⟩:M.bJ))).bind fun y43=>((idx y43 v5).bind fun x51=>((some (List.set y43 v5.toNat (⟨x51.Id,x51.Site,x51.Top,(i64.wrap ((i64.wrap ((i64.wrap (v1+1))+1))+1)),x51.aM,x51.Machine⟩:M.bJ))).bind fun y56=>((idx y56 v5).bind fun x64=>((kU x64.aM (i64.wrap ((i64.wrap ((i64.wrap ((i64.wrap (v1+1))+1))+1))+1))).bind fun x69=>((some (List.set y56 v5.toNat (⟨x64.Id,x64.Site,x64.Top,x64.Version,x69.1,x64.Machine⟩:M.bJ))).bind fun y71=>((idx y71 v5).bind fun x79=>((mL x79.Machine.Script x69.2).bind fun x84=>((some (List.set y71 v5.toNat (⟨x79.Id,x79.Site,x79.Top,x79.Version,x79.aM,(⟨x84.1,x79.Machine.Pc,x79.Machine.Regs,x79.Machine.Steps,x79.Machine.Done,x79.Machine.Wait⟩:M.Machine)⟩:M.bJ))).bind fun y86=>((idx y86 v5).bind fun x94=>((some (List.set y86 v5.toNat (⟨x94.Id,x94.Site,x94.Top,x94.Version,x94.aM,(⟨x94.Machine.Script,x84.2,x94.Machine.Regs,x94.Machine.Steps,x94.Machine.Done,x94.Machine.Wait⟩:M.Machine)⟩:M.bJ))).bind fun y99=>((idx y99 v5).bind fun x107=>((qP x107.Machine.Regs (i64.wrap (x84.2+1))).bind fun x112=>((some (List.set y99 v5.toNat (⟨x107.Id,x107.Site,x107.Top,x107.Version,x107.aM,(⟨x107.Machine.Script,x107.Machine.Pc,x112.1,x107.Machine.Steps,x107.Machine.Done,x107.Machine.Wait⟩:M.Machine)⟩:M.bJ))).bind fun y114=>((idx y114 v5).bind fun x122=>((some (List.set y114 v5.toNat (⟨x122.Id,x122.Site,x122.Top,x122.Version,x122.aM,(⟨x122.Machine.Script,x122.Machine.Pc,x122.Machine.Regs,x112.2,x122.Machine.Done,x122.Machine.Wait⟩:M.Machine)⟩:M.bJ))).bind fun y127=>((idx y127 v5).bind fun x135=>((some (List.set y127 v5.toNat (⟨x135.Id,x135.Site,x135.Top,x135.Version,x135.aM,(⟨x135.Machine.Script,x135.Machine.Pc,x135.Machine.Regs,x135.Machine.Steps,((Int.tmod (i64.wrap (x112.2+1)) 3)==0),x135.Machine.Wait⟩:M.Machine)⟩:M.bJ))).bind fun y140=>((idx y140 v5).bind fun x148=>((some (List.set y140 v5.toNat (⟨x148.Id,x148.Site,x148.Top,x148.Version,x148.aM,(⟨x148.Machine.Script,x148.Machine.Pc,x148.Machine.Regs,x148.Machine.Steps,x148.Machine.Done,((Int.tmod (i64.wrap ((i64.wrap (x112.2+1))+1)) 3)==0)⟩:M.Machine)⟩:M.bJ))).bind fun y153=>(dN nL1 (i64.wrap ((i64.wrap ((i64.wrap (x112.2+1))+1))+1)) (i64.wrap (v5+1)) y153)))))))))))))))))))))))))))) else (some (r99,v1))
def sM (p0:List M.bJ) (p1:Int):Option (List M.bJ×Int):=
 dN fuel p1 0 p0
def dM  : Nat→Int→Int→List M.cT→Option (List M.cT×Int)
 | 0,_,_,_=>none
 | nL1+1,v1,v5,r99=>if (decide (v5<(List.length r99:Int)))=true then ((aJ v1).bind fun x8=>((idx r99 v5).bind fun x10=>((some (List.set r99 v5.toNat (⟨x8,x10.bJ,x10.Shared,x10.Held⟩:M.cT))).bind fun y15=>((idx y15 v5).bind fun x23=>((some (List.set y15 v5.toNat (⟨x23.Name,(i64.wrap (v1+1)),x23.Shared,x23.Held⟩:M.cT))).bind fun y28=>((idx y28 v5).bind fun x36=>((some (List.set y28 v5.toNat (⟨x36.Name,x36.bJ,((Int.tmod (i64.wrap ((i64.wrap (v1+1))+1)) 3)==0),x36.Held⟩:M.cT))).bind fun y41=>((idx y41 v5).bind fun x49=>((some (List.set y41 v5.toNat (⟨x49.Name,x49.bJ,x49.Shared,((Int.tmod (i64.wrap ((i64.wrap ((i64.wrap (v1+1))+1))+1)) 3)==0)⟩:M.cT))).bind fun y54=>(dM nL1 (i64.wrap ((i64.wrap ((i64.wrap ((i64.wrap (v1+1))+1))+1))+1)) (i64.wrap (v5+1)) y54)))))))))) else (some (r99,v1))
def tP (p0:List M.cT) (p1:Int):Option (List M.cT×Int):=
 dM fuel p1 0 p0
def pR (p0:M.aW) (p1:Int):Option (List M.cT×Int):=
 (tP p0.Locks p1).bind fun x1=>(some (x1.1,x1.2))
def dK  : Nat→Int→Int→List M.eO→Option (List M.eO×Int)
 | 0,_,_,_=>none
 | nL1+1,v1,v5,r99=>if (decide (v5<(List.length r99:Int)))=true then ((idx r99 v5).bind fun x8=>((some (List.set r99 v5.toNat (⟨v1,x8.From,x8.N⟩:M.eO))).bind fun y13=>((idx y13 v5).bind fun x21=>((some (List.set y13 v5.toNat (⟨x21.To,(i64.wrap (v1+1)),x21.N⟩:M.eO))).bind fun y26=>((idx y26 v5).bind fun x34=>((some (List.set y26 v5.toNat (⟨x34.To,x34.From,(i64.wrap ((i64.wrap (v1+1))+1))⟩:M.eO))).bind fun y39=>(dK nL1 (i64.wrap ((i64.wrap ((i64.wrap (v1+1))+1))+1)) (i64.wrap (v5+1)) y39))))))) else (some (r99,v1))
def tT (p0:List M.eO) (p1:Int):Option (List M.eO×Int):=
 dK fuel p1 0 p0
def vD (p0:M.Channel) (p1:Int):Option (List M.eO×Int):=
 (tT p0.Mails p1).bind fun x1=>(some (x1.1,x1.2))
def cQ  : Nat→Int→Int→List ByteArray→Option (List ByteArray×Int)
 | 0,_,_,_=>none
 | nL1+1,v1,v5,r99=>if (decide (v5<(List.length r99:Int)))=true then ((aJ v1).bind fun x8=>((idx r99 v5).bind fun x10=>((some (List.set r99 v5.toNat x8)).bind fun y15=>(cQ nL1 (i64.wrap (v1+1)) (i64.wrap (v5+1)) y15)))) else (some (r99,v1))
def oH (p0:List ByteArray) (p1:Int):Option (List ByteArray×Int):=
 cQ fuel p1 0 p0
def dR  : Nat→Int→Int→List M.Site→Option (List M.Site×Int)
 | 0,_,_,_=>none
 | nL1+1,v1,v5,r99=>if (decide (v5<(List.length r99:Int)))=true then ((aJ v1).bind fun x8=>((idx r99 v5).bind fun x10=>((some (List.set r99 v5.toNat (⟨x8,x10.Version,x10.Files,x10.Shared⟩:M.Site))).bind fun y15=>((idx y15 v5).bind fun x23=>((some (List.set y15 v5.toNat (⟨x23.Name,(i64.wrap (v1+1)),x23.Files,x23.Shared⟩:M.Site))).bind fun y28=>((idx y28 v5).bind fun x36=>((oH x36.Files (i64.wrap ((i64.wrap (v1+1))+1))).bind fun x41=>((some (List.set y28 v5.toNat (⟨x36.Name,x36.Version,x41.1,x36.Shared⟩:M.Site))).bind fun y43=>((idx y43 v5).bind fun x51=>((some (List.set y43 v5.toNat (⟨x51.Name,x51.Version,x51.Files,((Int.tmod x41.2 3)==0)⟩:M.Site))).bind fun y56=>(dR nL1 (i64.wrap (x41.2+1)) (i64.wrap (v5+1)) y56))))))))))) else (some (r99,v1))
def tJ (p0:List M.Site) (p1:Int):Option (List M.Site×Int):=
 dR fuel p1 0 p0
def bZ  : Nat→Int→Int→List M.aO→Option (List M.aO×Int)
 | 0,_,_,_=>none
 | nL1+1,v1,v5,r99=>if (decide (v5<(List.length r99:Int)))=true then ((idx r99 v5).bind fun x8=>((some (List.set r99 v5.toNat (⟨v1,x8.Seq⟩:M.aO))).bind fun y13=>((idx y13 v5).bind fun x21=>((some (List.set y13 v5.toNat (⟨x21.Device,(i64.wrap (v1+1))⟩:M.aO))).bind fun y26=>(bZ nL1 (i64.wrap ((i64.wrap (v1+1))+1)) (i64.wrap (v5+1)) y26))))) else (some (r99,v1))
def nA (p0:List M.aO) (p1:Int):Option (List M.aO×Int):=
 bZ fuel p1 0 p0
def cJ  : Nat→Int→Int→List M.Server→Option (List M.Server×Int)
 | 0,_,_,_=>none
 | nL1+1,v1,v5,r99=>if (decide (v5<(List.length r99:Int)))=true then ((aJ v1).bind fun x8=>((idx r99 v5).bind fun x10=>((some (List.set r99 v5.toNat (⟨(⟨x8,x10.aE.Items,x10.aE.Auto⟩:M.aE),x10.aO,x10.Changes⟩:M.Server))).bind fun y15=>((idx y15 v5).bind fun x23=>((kY x23.aE.Items (i64.wrap (v1+1))).bind fun x28=>((some (List.set y15 v5.toNat (⟨(⟨x23.aE.Name,x28.1,x23.aE.Auto⟩:M.aE),x23.aO,x23.Changes⟩:M.Server))).bind fun y30=>((idx y30 v5).bind fun x38=>((some (List.set y30 v5.toNat (⟨(⟨x38.aE.Name,x38.aE.Items,x28.2⟩:M.aE),x38.aO,x38.Changes⟩:M.Server))).bind fun y43=>((idx y43 v5).bind fun x51=>((nA x51.aO (i64.wrap (x28.2+1))).bind fun x56=>((some (List.set y43 v5.toNat (⟨x51.aE,x56.1,x51.Changes⟩:M.Server))).bind fun y58=>((idx y58 v5).bind fun x66=>((mC x66.Changes x56.2).bind fun x71=>((some (List.set y58 v5.toNat (⟨x66.aE,x66.aO,x71.1⟩:M.Server))).bind fun y73=>(cJ nL1 x71.2 (i64.wrap (v5+1)) y73))))))))))))))) else (some (r99,v1))
def oV (p0:List M.Server) (p1:Int):Option (List M.Server×Int):=
 cJ fuel p1 0 p0
def nZ (p0:M.World) (p1:Int):Option (List M.aA×List M.bJ×List M.cT×List M.eO×List M.Site×List M.Server×Int):=
 (vK p0.aF p1).bind fun x1=>((sM p0.Pages x1.2).bind fun x8=>((pR p0.Locks x8.2).bind fun x15=>((vD p0.Channel x15.2).bind fun x22=>((tJ p0.Sites x22.2).bind fun x29=>((oV p0.Servers x29.2).bind fun x36=>(some (x1.1,x8.1,x15.1,x22.1,x29.1,x36.1,x36.2)))))))
def vA (p0:M.Machine) (p1:Int):Option (List M.Instr×List Int×Int):=
 (mL p0.Script p1).bind fun x1=>((qP p0.Regs x1.2).bind fun x8=>(some (x1.1,x8.1,x8.2)))
def wI (p0:M.bJ) (p1:Int):Option (List M.aM×List M.Instr×List Int×Int):=
 (kU p0.aM p1).bind fun x1=>((vA p0.Machine x1.2).bind fun x8=>(some (x1.1,x8.1,x8.2.1,x8.2.2)))
def eY (p0:List Int):Nat→Int→Int→Option Int
 | 0,_,_=>none
 | nL1+1,v1,v5=>if (decide (v5<(List.length p0:Int)))=true then ((idx p0 v5).bind fun x6=>(if (x6 != (IntKind.u8.wrap v1))=true then (some (-1)) else (eY p0 nL1 (i64.wrap (v1+1)) (i64.wrap (v5+1))))) else (some v1)
def nV (p0:List Int) (p1:Int):Option Int:=
 eY p0 fuel p1 0
def dI (p0:List M.Cached):Nat→Int→Int→Option Int
 | 0,_,_=>none
 | nL1+1,v1,v5=>if (decide (v5<(List.length p0:Int)))=true then ((idx p0 v5).bind fun x6=>((aJ v1).bind fun x11=>(if (!(x6.Site.toList==x11.toList))=true then (some (-1)) else ((aJ (i64.wrap (v1+1))).bind fun x14=>(if (!(x6.Path.toList==x14.toList))=true then (some (-1)) else (if (x6.Response.Type_ != (i64.wrap ((i64.wrap (v1+1))+1)))=true then (some (-1)) else (if (x6.Response.Status != (i64.wrap ((i64.wrap ((i64.wrap (v1+1))+1))+1)))=true then (some (-1)) else (if (x6.Response.Version != (i64.wrap ((i64.wrap ((i64.wrap ((i64.wrap (v1+1))+1))+1))+1)))=true then (some (-1)) else ((nV x6.Response.Body (i64.wrap ((i64.wrap ((i64.wrap ((i64.wrap ((i64.wrap (v1+1))+1))+1))+1))+1))).bind fun x20=>(if (decide (x20<0))=true then (some (-1)) else (if (!(x6.Response.Shares==((Int.tmod x20 3)==0)))=true then (some (-1)) else (dI p0 nL1 (i64.wrap (x20+1)) (i64.wrap (v5+1)))))))))))))) else (some v1)
def oG (p0:List M.Cached) (p1:Int):Option Int:=
 dI p0 fuel p1 0
def eB (p0:List M.Cache):Nat→Int→Int→Option Int
 | 0,_,_=>none
 | nL1+1,v1,v5=>if (decide (v5<(List.length p0:Int)))=true then ((idx p0 v5).bind fun x6=>(if (x6.Version != v1)=true then (some (-1)) else ((oG x6.Entries (i64.wrap (v1+1))).bind fun x12=>(if (decide (x12<0))=true then (some (-1)) else (eB p0 nL1 x12 (i64.wrap (v5+1))))))) else (some v1)
def qC (p0:List M.Cache) (p1:Int):Option Int:=
 eB p0 fuel p1 0
def eE (p0:List M.Field):Nat→Int→Int→Option Int
 | 0,_,_=>none
 | nL1+1,v1,v5=>if (decide (v5<(List.length p0:Int)))=true then ((idx p0 v5).bind fun x6=>((aJ v1).bind fun x11=>(if (!(x6.Name.toList==x11.toList))=true then (some (-1)) else (if (x6.N != (i64.wrap (v1+1)))=true then (some (-1)) else (eE p0 nL1 (i64.wrap ((i64.wrap (v1+1))+1)) (i64.wrap (v5+1))))))) else (some v1)
def qL (p0:List M.Field) (p1:Int):Option Int:=
 eE p0 fuel p1 0
def fA (p0:List M.Item):Nat→Int→Int→Option Int
 | 0,_,_=>none
 | nL1+1,v1,v5=>if (decide (v5<(List.length p0:Int)))=true then ((idx p0 v5).bind fun x6=>(if (x6.Key.Kind != v1)=true then (some (-1)) else (if (x6.Key.N != (i64.wrap (v1+1)))=true then (some (-1)) else ((aJ (i64.wrap ((i64.wrap (v1+1))+1))).bind fun x13=>(if (!(x6.Key.Text.toList==x13.toList))=true then (some (-1)) else ((qL x6.aH.Fields (i64.wrap ((i64.wrap ((i64.wrap (v1+1))+1))+1))).bind fun x16=>(if (decide (x16<0))=true then (some (-1)) else (fA p0 nL1 x16 (i64.wrap (v5+1)))))))))) else (some v1)
def kZ (p0:List M.Item) (p1:Int):Option Int:=
 fA p0 fuel p1 0
def eC (p0:List M.aE):Nat→Int→Int→Option Int
 | 0,_,_=>none
 | nL1+1,v1,v5=>if (decide (v5<(List.length p0:Int)))=true then ((idx p0 v5).bind fun x6=>((aJ v1).bind fun x11=>(if (!(x6.Name.toList==x11.toList))=true then (some (-1)) else ((kZ x6.Items (i64.wrap (v1+1))).bind fun x14=>(if (decide (x14<0))=true then (some (-1)) else (if (x6.Auto != x14)=true then (some (-1)) else (eC p0 nL1 (i64.wrap (x14+1)) (i64.wrap (v5+1))))))))) else (some v1)
def pU (p0:List M.aE) (p1:Int):Option Int:=
 eC p0 fuel p1 0
def cG (p0:List M.aD):Nat→Int→Int→Option Int
 | 0,_,_=>none
 | nL1+1,v1,v5=>if (decide (v5<(List.length p0:Int)))=true then ((idx p0 v5).bind fun x6=>((aJ v1).bind fun x11=>(if (!(x6.aE.toList==x11.toList))=true then (some (-1)) else ((aJ (i64.wrap (v1+1))).bind fun x14=>(if (!(x6.Field.toList==x14.toList))=true then (some (-1)) else (cG p0 nL1 (i64.wrap ((i64.wrap (v1+1))+1)) (i64.wrap (v5+1)))))))) else (some v1)
def lG (p0:List M.aD) (p1:Int):Option Int:=
 cG p0 fuel p1 0
def dZ (p0:List M.aV):Nat→Int→Int→Option Int
 | 0,_,_=>none
 | nL1+1,v1,v5=>if (decide (v5<(List.length p0:Int)))=true then ((idx p0 v5).bind fun x6=>(if (x6.Device != v1)=true then (some (-1)) else (if (x6.Seq != (i64.wrap (v1+1)))=true then (some (-1)) else (if (x6.Key.Kind != (i64.wrap ((i64.wrap (v1+1))+1)))=true then (some (-1)) else (if (x6.Key.N != (i64.wrap ((i64.wrap ((i64.wrap (v1+1))+1))+1)))=true then (some (-1)) else ((aJ (i64.wrap ((i64.wrap ((i64.wrap ((i64.wrap (v1+1))+1))+1))+1))).bind fun x15=>(if (!(x6.Key.Text.toList==x15.toList))=true then (some (-1)) else ((aJ (i64.wrap ((i64.wrap ((i64.wrap ((i64.wrap ((i64.wrap (v1+1))+1))+1))+1))+1))).bind fun x18=>(if (!(x6.Field.toList==x18.toList))=true then (some (-1)) else (if (x6.N != (i64.wrap ((i64.wrap ((i64.wrap ((i64.wrap ((i64.wrap ((i64.wrap (v1+1))+1))+1))+1))+1))+1)))=true then (some (-1)) else (dZ p0 nL1 (i64.wrap ((i64.wrap ((i64.wrap ((i64.wrap ((i64.wrap ((i64.wrap ((i64.wrap (v1+1))+1))+1))+1))+1))+1))+1)) (i64.wrap (v5+1))))))))))))) else (some v1)
def mF (p0:List M.aV) (p1:Int):Option Int:=
 dZ p0 fuel p1 0
def cP (p0:List M.aA):Nat→Int→Int→Option Int
 | 0,_,_=>none
 | nL1+1,v1,v5=>if (decide (v5<(List.length p0:Int)))=true then ((idx p0 v5).bind fun x6=>((aJ v1).bind fun x11=>(if (!(x6.Site.toList==x11.toList))=true then (some (-1)) else ((aJ (i64.wrap (v1+1))).bind fun x14=>(if (!(x6.Top.toList==x14.toList))=true then (some (-1)) else ((aJ (i64.wrap ((i64.wrap (v1+1))+1))).bind fun x17=>(if (!(x6.Registration.Site.toList==x17.toList))=true then (some (-1)) else (if (x6.Registration.Installing != (i64.wrap ((i64.wrap ((i64.wrap (v1+1))+1))+1)))=true then (some (-1)) else (if (x6.Registration.Waiting != (i64.wrap ((i64.wrap ((i64.wrap ((i64.wrap (v1+1))+1))+1))+1)))=true then (some (-1)) else (if (x6.Registration.Active != (i64.wrap ((i64.wrap ((i64.wrap ((i64.wrap ((i64.wrap (v1+1))+1))+1))+1))+1)))=true then (some (-1)) else ((qC x6.Caches.Caches (i64.wrap ((i64.wrap ((i64.wrap ((i64.wrap ((i64.wrap ((i64.wrap (v1+1))+1))+1))+1))+1))+1))).bind fun x27=>(if (decide (x27<0))=true then (some (-1)) else ((aJ x27).bind fun x30=>(if (!(x6.bD.Base.Name.toList==x30.toList))=true then (some (-1)) else (if (x6.bD.Base.Version != (i64.wrap (x27+1)))=true then (some (-1)) else ((pU x6.bD.Base.Stores (i64.wrap ((i64.wrap (x27+1))+1))).bind fun x34=>(if (decide (x34<0))=true then (some (-1)) else ((lG x6.bD.Base.Unique x34).bind fun x37=>(if (decide (x37<0))=true then (some (-1)) else ((nV x6.bD.Log x37).bind fun x40=>(if (decide (x40<0))=true then (some (-1)) else (if (x6.bD.Count != x40)=true then (some (-1)) else ((aJ (i64.wrap (x40+1))).bind fun x48=>(if (!(x6.aC.Base.Name.toList==x48.toList))=true then (some (-1)) else ((kZ x6.aC.Base.Items (i64.wrap ((i64.wrap (x40+1))+1))).bind fun x51=>(if (decide (x51<0))=true then (some (-1)) else (if (x6.aC.Base.Auto != x51)=true then (some (-1)) else (if (x6.aC.Seen != (i64.wrap (x51+1)))=true then (some (-1)) else (if (x6.aC.Sync.aN.Device != (i64.wrap ((i64.wrap (x51+1))+1)))=true then (some (-1)) else (if (x6.aC.Sync.aN.Next != (i64.wrap ((i64.wrap ((i64.wrap (x51+1))+1))+1)))=true then (some (-1)) else ((mF x6.aC.Sync.aN.Writes (i64.wrap ((i64.wrap ((i64.wrap ((i64.wrap (x51+1))+1))+1))+1))).bind fun x62=>(if (decide (x62<0))=true then (some (-1)) else (if (x6.aC.Sync.Tries != x62)=true then (some (-1)) else (if (x6.aC.Sync.WaitUntil != (i64.wrap (x62+1)))=true then (some (-1)) else (if (x6.LastUsed != (i64.wrap ((i64.wrap (x62+1))+1)))=true then (some (-1)) else (if (!(x6.Persistent==((Int.tmod (i64.wrap ((i64.wrap ((i64.wrap (x62+1))+1))+1)) 3)==0)))=true then (some (-1)) else (cP p0 nL1 (i64.wrap ((i64.wrap ((i64.wrap ((i64.wrap (x62+1))+1))+1))+1)) (i64.wrap (v5+1))))))))))))))))))))))))))))))))))))))) else (some v1)
def oU (p0:List M.aA) (p1:Int):Option Int:=
 cP p0 fuel p1 0
def vC (p0:M.aF) (p1:Int):Option Int:=
 (oU p0.Buckets p1).bind fun x1=>(if (decide (x1<0))=true then (some (-1)) else (some x1))
def dH (p0:List M.aM):Nat→Int→Int→Option Int
 | 0,_,_=>none
 | nL1+1,v1,v5=>if (decide (v5<(List.length p0:Int)))=true then ((idx p0 v5).bind fun x6=>((aJ v1).bind fun x11=>(if (!(x6.Path.toList==x11.toList))=true then (some (-1)) else (if (x6.Version != (i64.wrap (v1+1)))=true then (some (-1)) else (dH p0 nL1 (i64.wrap ((i64.wrap (v1+1))+1)) (i64.wrap (v5+1))))))) else (some v1)
def pD (p0:List M.aM) (p1:Int):Option Int:=
 dH p0 fuel p1 0
def dY (p0:List M.Instr):Nat→Int→Int→Option Int
 | 0,_,_=>none
 | nL1+1,v1,v5=>if (decide (v5<(List.length p0:Int)))=true then ((idx p0 v5).bind fun x6=>(if (x6.Kind != v1)=true then (some (-1)) else (if (x6.R != (i64.wrap (v1+1)))=true then (some (-1)) else (if (x6.N != (i64.wrap ((i64.wrap (v1+1))+1)))=true then (some (-1)) else ((aJ (i64.wrap ((i64.wrap ((i64.wrap (v1+1))+1))+1))).bind fun x14=>(if (!(x6.Text.toList==x14.toList))=true then (some (-1)) else (dY p0 nL1 (i64.wrap ((i64.wrap ((i64.wrap ((i64.wrap (v1+1))+1))+1))+1)) (i64.wrap (v5+1))))))))) else (some v1)
def qW (p0:List M.Instr) (p1:Int):Option Int:=
 dY p0 fuel p1 0
def fU (p0:List Int):Nat→Int→Int→Option Int
 | 0,_,_=>none
 | nL1+1,v1,v5=>if (decide (v5<(List.length p0:Int)))=true then ((idx p0 v5).bind fun x6=>(if (x6 != v1)=true then (some (-1)) else (fU p0 nL1 (i64.wrap (v1+1)) (i64.wrap (v5+1))))) else (some v1)
def wJ (p0:List Int) (p1:Int):Option Int:=
 fU p0 fuel p1 0
def dP (p0:List M.bJ):Nat→Int→Int→Option Int
 | 0,_,_=>none
 | nL1+1,v1,v5=>if (decide (v5<(List.length p0:Int)))=true then ((idx p0 v5).bind fun x6=>(if (x6.Id != v1)=true then (some (-1)) else ((aJ (i64.wrap (v1+1))).bind fun x12=>(if (!(x6.Site.toList==x12.toList))=true then (some (-1)) else ((aJ (i64.wrap ((i64.wrap (v1+1))+1))).bind fun x15=>(if (!(x6.Top.toList==x15.toList))=true then (some (-1)) else (if (x6.Version != (i64.wrap ((i64.wrap ((i64.wrap (v1+1))+1))+1)))=true then (some (-1)) else ((pD x6.aM (i64.wrap ((i64.wrap ((i64.wrap ((i64.wrap (v1+1))+1))+1))+1))).bind fun x19=>(if (decide (x19<0))=true then (some (-1)) else ((qW x6.Machine.Script x19).bind fun x22=>(if (decide (x22<0))=true then (some (-1)) else (if (x6.Machine.Pc != x22)=true then (some (-1)) else ((wJ x6.Machine.Regs (i64.wrap (x22+1))).bind fun x30=>(if (decide (x30<0))=true then (some (-1)) else (if (x6.Machine.Steps != x30)=true then (some (-1)) else (if (!(x6.Machine.Done==((Int.tmod (i64.wrap (x30+1)) 3)==0)))=true then (some (-1)) else (if (!(x6.Machine.Wait==((Int.tmod (i64.wrap ((i64.wrap (x30+1))+1)) 3)==0)))=true then (some (-1)) else (dP p0 nL1 (i64.wrap ((i64.wrap ((i64.wrap (x30+1))+1))+1)) (i64.wrap (v5+1)))))))))))))))))))) else (some v1)
def sO (p0:List M.bJ) (p1:Int):Option Int:=
 dP p0 fuel p1 0
def eZ (p0:List M.cT):Nat→Int→Int→Option Int
 | 0,_,_=>none
 | nL1+1,v1,v5=>if (decide (v5<(List.length p0:Int)))=true then ((idx p0 v5).bind fun x6=>((aJ v1).bind fun x11=>(if (!(x6.Name.toList==x11.toList))=true then (some (-1)) else (if (x6.bJ != (i64.wrap (v1+1)))=true then (some (-1)) else (if (!(x6.Shared==((Int.tmod (i64.wrap ((i64.wrap (v1+1))+1)) 3)==0)))=true then (some (-1)) else (if (!(x6.Held==((Int.tmod (i64.wrap ((i64.wrap ((i64.wrap (v1+1))+1))+1)) 3)==0)))=true then (some (-1)) else (eZ p0 nL1 (i64.wrap ((i64.wrap ((i64.wrap ((i64.wrap (v1+1))+1))+1))+1)) (i64.wrap (v5+1))))))))) else (some v1)
def tO (p0:List M.cT) (p1:Int):Option Int:=
 eZ p0 fuel p1 0
def pS (p0:M.aW) (p1:Int):Option Int:=
 (tO p0.Locks p1).bind fun x1=>(if (decide (x1<0))=true then (some (-1)) else (some x1))
def fC (p0:List M.eO):Nat→Int→Int→Option Int
 | 0,_,_=>none
 | nL1+1,v1,v5=>if (decide (v5<(List.length p0:Int)))=true then ((idx p0 v5).bind fun x6=>(if (x6.To != v1)=true then (some (-1)) else (if (x6.From != (i64.wrap (v1+1)))=true then (some (-1)) else (if (x6.N != (i64.wrap ((i64.wrap (v1+1))+1)))=true then (some (-1)) else (fC p0 nL1 (i64.wrap ((i64.wrap ((i64.wrap (v1+1))+1))+1)) (i64.wrap (v5+1))))))) else (some v1)
def tW (p0:List M.eO) (p1:Int):Option Int:=
 fC p0 fuel p1 0
def vH (p0:M.Channel) (p1:Int):Option Int:=
 (tW p0.Mails p1).bind fun x1=>(if (decide (x1<0))=true then (some (-1)) else (some x1))
def dG (p0:List ByteArray):Nat→Int→Int→Option Int
 | 0,_,_=>none
 | nL1+1,v1,v5=>if (decide (v5<(List.length p0:Int)))=true then ((idx p0 v5).bind fun x6=>((aJ v1).bind fun x11=>(if (!(x6.toList==x11.toList))=true then (some (-1)) else (dG p0 nL1 (i64.wrap (v1+1)) (i64.wrap (v5+1)))))) else (some v1)
def oM (p0:List ByteArray) (p1:Int):Option Int:=
 dG p0 fuel p1 0
def eT (p0:List M.Site):Nat→Int→Int→Option Int
 | 0,_,_=>none
 | nL1+1,v1,v5=>if (decide (v5<(List.length p0:Int)))=true then ((idx p0 v5).bind fun x6=>((aJ v1).bind fun x11=>(if (!(x6.Name.toList==x11.toList))=true then (some (-1)) else (if (x6.Version != (i64.wrap (v1+1)))=true then (some (-1)) else ((oM x6.Files (i64.wrap ((i64.wrap (v1+1))+1))).bind fun x15=>(if (decide (x15<0))=true then (some (-1)) else (if (!(x6.Shared==((Int.tmod x15 3)==0)))=true then (some (-1)) else (eT p0 nL1 (i64.wrap (x15+1)) (i64.wrap (v5+1)))))))))) else (some v1)
def uL (p0:List M.Site) (p1:Int):Option Int:=
 eT p0 fuel p1 0
def cU (p0:List M.aO):Nat→Int→Int→Option Int
 | 0,_,_=>none
 | nL1+1,v1,v5=>if (decide (v5<(List.length p0:Int)))=true then ((idx p0 v5).bind fun x6=>(if (x6.Device != v1)=true then (some (-1)) else (if (x6.Seq != (i64.wrap (v1+1)))=true then (some (-1)) else (cU p0 nL1 (i64.wrap ((i64.wrap (v1+1))+1)) (i64.wrap (v5+1)))))) else (some v1)
def mZ (p0:List M.aO) (p1:Int):Option Int:=
 cU p0 fuel p1 0
def cO (p0:List M.Server):Nat→Int→Int→Option Int
 | 0,_,_=>none
 | nL1+1,v1,v5=>if (decide (v5<(List.length p0:Int)))=true then ((idx p0 v5).bind fun x6=>((aJ v1).bind fun x11=>(if (!(x6.aE.Name.toList==x11.toList))=true then (some (-1)) else ((kZ x6.aE.Items (i64.wrap (v1+1))).bind fun x14=>(if (decide (x14<0))=true then (some (-1)) else (if (x6.aE.Auto != x14)=true then (some (-1)) else ((mZ x6.aO (i64.wrap (x14+1))).bind fun x18=>(if (decide (x18<0))=true then (some (-1)) else ((mF x6.Changes x18).bind fun x21=>(if (decide (x21<0))=true then (some (-1)) else (cO p0 nL1 x21 (i64.wrap (v5+1))))))))))))) else (some v1)
def pH (p0:List M.Server) (p1:Int):Option Int:=
 cO p0 fuel p1 0
def oF (p0:M.World) (p1:Int):Option Int:=
 (vC p0.aF p1).bind fun x1=>(if (decide (x1<0))=true then (some (-1)) else ((sO p0.Pages x1).bind fun x4=>(if (decide (x4<0))=true then (some (-1)) else ((pS p0.Locks x4).bind fun x7=>(if (decide (x7<0))=true then (some (-1)) else ((vH p0.Channel x7).bind fun x10=>(if (decide (x10<0))=true then (some (-1)) else ((uL p0.Sites x10).bind fun x13=>(if (decide (x13<0))=true then (some (-1)) else ((pH p0.Servers x13).bind fun x16=>(if (decide (x16<0))=true then (some (-1)) else (some x16))))))))))))
def nO (p0:M.World) (p1:M.bJ) (p2:Int) (p3:ByteArray) (p4:Int):Option Bool:=
 if (decide ((p3.size:Int)>1048576))=true then (some true) else ((yT p0 1048576).bind fun x2=>(if (decide (x2<0))=true then (some true) else ((xS p1 x2).bind fun x5=>(if (decide (x5<0))=true then (some true) else ((lV p0).bind fun x8=>((lK p1).bind fun x10=>((vO x8 x10 p2 p3 p4).bind fun x12=>((lV p0).bind fun x14=>((lK p1).bind fun x16=>((pV x14 x16 p2 p3 p4).bind fun x18=>((lS x18.1 x12.1).bind fun x20=>(if (!x20)=true then (some false) else (if (!(x18.2==x12.2))=true then (some false) else ((lV p0).bind fun x63=>((lS x14 x63).bind fun x65=>(if (!x65)=true then (some false) else ((lK p1).bind fun x68=>((xM x16 x68).bind fun x70=>(if (!x70)=true then (some false) else ((nZ x14 1).bind fun x73=>((wI x16 x73.2.2.2.2.2.2).bind fun x107=>(if (decide (x107.2.2.2<0))=true then (some false) else ((lS x18.1 x12.1).bind fun x137=>(if (!x137)=true then (some false) else ((nZ x18.1 1).bind fun x140=>((oF (⟨x18.1.Now,x18.1.Online,x18.1.Device,(⟨x140.1⟩:M.aF),x140.2.1,x18.1.NextPage,(⟨x140.2.2.1⟩:M.aW),(⟨x140.2.2.2.1⟩:M.Channel),x140.2.2.2.2.1,x140.2.2.2.2.2.1⟩:M.World) 1).bind fun x168=>(if (decide (x168<0))=true then (some false) else (if (x168 != x140.2.2.2.2.2.2)=true then (some false) else ((lV p0).bind fun x172=>((lK p1).bind fun x174=>((pV x172 x174 p2 p3 p4).bind fun x176=>((lS x176.1 x12.1).bind fun x178=>(if (!x178)=true then (some false) else (if (!(x176.2==x12.2))=true then (some false) else ((oF (⟨x18.1.Now,x18.1.Online,x18.1.Device,(⟨x140.1⟩:M.aF),x140.2.1,x18.1.NextPage,(⟨x140.2.2.1⟩:M.aW),(⟨x140.2.2.2.1⟩:M.Channel),x140.2.2.2.2.1,x140.2.2.2.2.2.1⟩:M.World) 1).bind fun x182=>(if (decide (x182<0))=true then (some false) else (if (x182 != x140.2.2.2.2.2.2)=true then (some false) else (some true))))))))))))))))))))))))))))))))))))))
end Go.Proofs.YtnhpbpnhmapeeaaGreat.gen
