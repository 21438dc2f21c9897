/-
  Helper text. No conditions.
-/
import Derived.Test.YtimblbmbfdopgaaGreatShS
set_option linter.unusedVariables false
set_option linter.unusedSimpArgs false
namespace Go.Proofs.YtimblbmbfdopgaaGreat.gen
open Go Go.Sh
open Go.IntKind (i64)
structure M.Registration where
 Site:ByteArray
 Installing:Int
 Waiting:Int
 Active:Int
def M.Registration.en (x:M.Registration):List D:=[.str x.Site,.int .i64 x.Installing,.int .i64 x.Waiting,.int .i64 x.Active]
theorem M.Registration.en.fl (l:List M.Registration):(List.map M.Registration.en l).all (fun y=>y.all D.flat)=true:=aFv (fun _=>rfl) l
structure M.Response where
 Type_:Int
 Status:Int
 Version:Int
 Body:List Int
 Shares:Bool
def M.Response.en (x:M.Response):List D:=[.int .i64 x.Type_,.int .i64 x.Status,.int .i64 x.Version,.sl (List.map enB x.Body),.bool x.Shares]
structure M.Cached where
 Site:ByteArray
 Path:ByteArray
 Response:M.Response
def M.Cached.en (x:M.Cached):List D:=[.str x.Site,.str x.Path,.int .i64 x.Response.Type_,.int .i64 x.Response.Status,.int .i64 x.Response.Version,.sl (List.map enB x.Response.Body),.bool x.Response.Shares]
structure M.Cache where
 Version:Int
 Entries:List M.Cached
def M.Cache.en (x:M.Cache):List D:=[.int .i64 x.Version,.sl (List.map M.Cached.en x.Entries)]
structure M.aO where
 Caches:List M.Cache
def M.aO.en (x:M.aO):List D:=[.sl (List.map M.Cache.en x.Caches)]
structure M.Key where
 Kind:Int
 N:Int
 Text:ByteArray
def M.Key.en (x:M.Key):List D:=[.int .i64 x.Kind,.int .i64 x.N,.str x.Text]
theorem M.Key.en.fl (l:List M.Key):(List.map M.Key.en l).all (fun y=>y.all D.flat)=true:=aFv (fun _=>rfl) l
structure M.Field where
 Name:ByteArray
 N:Int
def M.Field.en (x:M.Field):List D:=[.str x.Name,.int .i64 x.N]
theorem M.Field.en.fl (l:List M.Field):(List.map M.Field.en l).all (fun y=>y.all D.flat)=true:=aFv (fun _=>rfl) l
structure M.aW where
 Fields:List M.Field
def M.aW.en (x:M.aW):List D:=[.sl (List.map M.Field.en x.Fields)]
structure M.Item where
 Key:M.Key
 aW:M.aW
def M.Item.en (x:M.Item):List D:=[.int .i64 x.Key.Kind,.int .i64 x.Key.N,.str x.Key.Text,.sl (List.map M.Field.en x.aW.Fields)]
structure M.aH where
 Name:ByteArray
 Items:List M.Item
 Auto:Int
def M.aH.en (x:M.aH):List D:=[.str x.Name,.sl (List.map M.Item.en x.Items),.int .i64 x.Auto]
structure M.aE where
 aH:ByteArray
 Field:ByteArray
def M.aE.en (x:M.aE):List D:=[.str x.aH,.str x.Field]
theorem M.aE.en.fl (l:List M.aE):(List.map M.aE.en l).all (fun y=>y.all D.flat)=true:=aFv (fun _=>rfl) l
structure M.Database where
 Name:ByteArray
 Version:Int
 Stores:List M.aH
 Unique:List M.aE
def M.Database.en (x:M.Database):List D:=[.str x.Name,.int .i64 x.Version,.sl (List.map M.aH.en x.Stores),.sl (List.map M.aE.en x.Unique)]
structure M.bC where
 Base:M.Database
 Log:List Int
 Count:Int
def M.bC.en (x:M.bC):List D:=[.str x.Base.Name,.int .i64 x.Base.Version,.sl (List.map M.aH.en x.Base.Stores),.sl (List.map M.aE.en x.Base.Unique),.sl (List.map enB x.Log),.int .i64 x.Count]
structure M.aZ where
 Device:Int
 Seq:Int
 Key:M.Key
 Field:ByteArray
 N:Int
def M.aZ.en (x:M.aZ):List D:=[.int .i64 x.Device,.int .i64 x.Seq,.int .i64 x.Key.Kind,.int .i64 x.Key.N,.str x.Key.Text,.str x.Field,.int .i64 x.N]
theorem M.aZ.en.fl (l:List M.aZ):(List.map M.aZ.en l).all (fun y=>y.all D.flat)=true:=aFv (fun _=>rfl) l
structure M.aR where
 Device:Int
 Next:Int
 Writes:List M.aZ
def M.aR.en (x:M.aR):List D:=[.int .i64 x.Device,.int .i64 x.Next,.sl (List.map M.aZ.en x.Writes)]
structure M.Sync where
 aR:M.aR
 Tries:Int
 WaitUntil:Int
def M.Sync.en (x:M.Sync):List D:=[.int .i64 x.aR.Device,.int .i64 x.aR.Next,.sl (List.map M.aZ.en x.aR.Writes),.int .i64 x.Tries,.int .i64 x.WaitUntil]
structure M.aD where
 Base:M.aH
 Seen:Int
 Sync:M.Sync
def M.aD.en (x:M.aD):List D:=[.str x.Base.Name,.sl (List.map M.Item.en x.Base.Items),.int .i64 x.Base.Auto,.int .i64 x.Seen,.int .i64 x.Sync.aR.Device,.int .i64 x.Sync.aR.Next,.sl (List.map M.aZ.en x.Sync.aR.Writes),.int .i64 x.Sync.Tries,.int .i64 x.Sync.WaitUntil]
structure M.aC where
 Site:ByteArray
 Top:ByteArray
 Registration:M.Registration
 Caches:M.aO
 bC:M.bC
 aD:M.aD
 LastUsed:Int
 Persistent:Bool
def M.aC.en (x:M.aC):List D:=[.str x.Site,.str x.Top,.str x.Registration.Site,.int .i64 x.Registration.Installing,.int .i64 x.Registration.Waiting,.int .i64 x.Registration.Active,.sl (List.map M.Cache.en x.Caches.Caches),.str x.bC.Base.Name,.int .i64 x.bC.Base.Version,.sl (List.map M.aH.en x.bC.Base.Stores),.sl (List.map M.aE.en x.bC.Base.Unique),.sl (List.map enB x.bC.Log),.int .i64 x.bC.Count,.str x.aD.Base.Name,.sl (List.map M.Item.en x.aD.Base.Items),.int .i64 x.aD.Base.Auto,.int .i64 x.aD.Seen,.int .i64 x.aD.Sync.aR.Device,.int .i64 x.aD.Sync.aR.Next,.sl (List.map M.aZ.en x.aD.Sync.aR.Writes),.int .i64 x.aD.Sync.Tries,.int .i64 x.aD.Sync.WaitUntil,.int .i64 x.LastUsed,.bool x.Persistent]
structure M.aA where
 Buckets:List M.aC
def M.aA.en (x:M.aA):List D:=[.sl (List.map M.aC.en x.Buckets)]
structure M.aK where
 Path:ByteArray
 Version:Int
def M.aK.en (x:M.aK):List D:=[.str x.Path,.int .i64 x.Version]
theorem M.aK.en.fl (l:List M.aK):(List.map M.aK.en l).all (fun y=>y.all D.flat)=true:=aFv (fun _=>rfl) l
structure M.Instr where
 Kind:Int
 R:Int
 N:Int
 Text:ByteArray
def M.Instr.en (x:M.Instr):List D:=[.int .i64 x.Kind,.int .i64 x.R,.int .i64 x.N,.str x.Text]
theorem M.Instr.en.fl (l:List M.Instr):(List.map M.Instr.en l).all (fun y=>y.all D.flat)=true:=aFv (fun _=>rfl) l
structure M.Machine where
 Script:List M.Instr
 Pc:Int
 Regs:List Int
 Steps:Int
 Done:Bool
 Wait:Bool
def M.Machine.en (x:M.Machine):List D:=[.sl (List.map M.Instr.en x.Script),.int .i64 x.Pc,.sl (List.map enI x.Regs),.int .i64 x.Steps,.bool x.Done,.bool x.Wait]
structure M.bH where
 Id:Int
 Site:ByteArray
 Top:ByteArray
 Version:Int
 aK:List M.aK
 Machine:M.Machine
def M.bH.en (x:M.bH):List D:=[.int .i64 x.Id,.str x.Site,.str x.Top,.int .i64 x.Version,.sl (List.map M.aK.en x.aK),.sl (List.map M.Instr.en x.Machine.Script),.int .i64 x.Machine.Pc,.sl (List.map enI x.Machine.Regs),.int .i64 x.Machine.Steps,.bool x.Machine.Done,.bool x.Machine.Wait]
structure M.cJ where
 Name:ByteArray
 bH:Int
 Shared:Bool
 Held:Bool
def M.cJ.en (x:M.cJ):List D:=[.str x.Name,.int .i64 x.bH,.bool x.Shared,.bool x.Held]
theorem M.cJ.en.fl (l:List M.cJ):(List.map M.cJ.en l).all (fun y=>y.all D.flat)=true:=aFv (fun _=>rfl) l
structure M.aQ where
 Locks:List M.cJ
def M.aQ.en (x:M.aQ):List D:=[.sl (List.map M.cJ.en x.Locks)]
structure M.eU where
 To:Int
 From:Int
 N:Int
def M.eU.en (x:M.eU):List D:=[.int .i64 x.To,.int .i64 x.From,.int .i64 x.N]
theorem M.eU.en.fl (l:List M.eU):(List.map M.eU.en l).all (fun y=>y.all D.flat)=true:=aFv (fun _=>rfl) l
structure M.Channel where
 Mails:List M.eU
def M.Channel.en (x:M.Channel):List D:=[.sl (List.map M.eU.en x.Mails)]
structure M.Site where
 Name:ByteArray
 Version:Int
 Files:List ByteArray
 Shared:Bool
def M.Site.en (x:M.Site):List D:=[.str x.Name,.int .i64 x.Version,.sl (List.map enS x.Files),.bool x.Shared]
structure M.aM where
 Device:Int
 Seq:Int
def M.aM.en (x:M.aM):List D:=[.int .i64 x.Device,.int .i64 x.Seq]
theorem M.aM.en.fl (l:List M.aM):(List.map M.aM.en l).all (fun y=>y.all D.flat)=true:=aFv (fun _=>rfl) l
structure M.Server where
 aH:M.aH
 aM:List M.aM
 Changes:List M.aZ
def M.Server.en (x:M.Server):List D:=[.str x.aH.Name,.sl (List.map M.Item.en x.aH.Items),.int .i64 x.aH.Auto,.sl (List.map M.aM.en x.aM),.sl (List.map M.aZ.en x.Changes)]
structure M.World where
 Now:Int
 Online:Bool
 Device:Int
 aA:M.aA
 Pages:List M.bH
 NextPage:Int
 Locks:M.aQ
 Channel:M.Channel
 Sites:List M.Site
 Servers:List M.Server
def M.World.en (x:M.World):List D:=[.int .i64 x.Now,.bool x.Online,.int .i64 x.Device,.sl (List.map M.aC.en x.aA.Buckets),.sl (List.map M.bH.en x.Pages),.int .i64 x.NextPage,.sl (List.map M.cJ.en x.Locks.Locks),.sl (List.map M.eU.en x.Channel.Mails),.sl (List.map M.Site.en x.Sites),.sl (List.map M.Server.en x.Servers)]
def lE (p0:M.Registration) (p1:Int):Option Int:=
 if (decide ((i64.wrap (p1-(p0.Site.size:Int)))<0))=true then (some (-1)) else (some (i64.wrap (p1-(p0.Site.size:Int))))
def xR (p0:List Int) (p1:Int):Option Int:=
 if (decide ((i64.wrap (p1-(List.length p0:Int)))<0))=true then (some (-1)) else (some (i64.wrap (p1-(List.length p0:Int))))
def tO (p0:M.Response) (p1:Int):Option Int:=
 (xR p0.Body p1).bind fun x1=>(if (decide (x1<0))=true then (some (-1)) else (some x1))
def yO (p0:M.Cached) (p1:Int):Option Int:=
 if (decide ((i64.wrap (p1-(p0.Site.size:Int)))<0))=true then (some (-1)) else (if (decide ((i64.wrap ((i64.wrap (p1-(p0.Site.size:Int)))-(p0.Path.size:Int)))<0))=true then (some (-1)) else ((tO p0.Response (i64.wrap ((i64.wrap (p1-(p0.Site.size:Int)))-(p0.Path.size:Int)))).bind fun x3=>(if (decide (x3<0))=true then (some (-1)) else (some x3))))
def uT (p0:List M.Cached):Nat→Int→Int→Option Int
 | 0,_,_=>none
 | nL1+1,v1,v5=>if (decide (v5<(List.length p0:Int)))=true then ((idx p0 v5).bind fun x7=>((yO x7 v1).bind fun x12=>(if (decide (x12<0))=true then (some (-1)) else (uT p0 nL1 x12 (i64.wrap (v5+1)))))) else (some v1)
def wE (p0:List M.Cached) (p1:Int):Option Int:=
 if (decide ((i64.wrap (p1-(List.length p0:Int)))<0))=true then (some (-1)) else (uT p0 fuel (i64.wrap (p1-(List.length p0:Int))) 0)
def aA0 (p0:M.Cache) (p1:Int):Option Int:=
 (wE p0.Entries p1).bind fun x1=>(if (decide (x1<0))=true then (some (-1)) else (some x1))
def yC (p0:List M.Cache):Nat→Int→Int→Option Int
 | 0,_,_=>none
 | nL1+1,v1,v5=>if (decide (v5<(List.length p0:Int)))=true then ((idx p0 v5).bind fun x7=>((aA0 x7 v1).bind fun x12=>(if (decide (x12<0))=true then (some (-1)) else (yC p0 nL1 x12 (i64.wrap (v5+1)))))) else (some v1)
def zV (p0:List M.Cache) (p1:Int):Option Int:=
 if (decide ((i64.wrap (p1-(List.length p0:Int)))<0))=true then (some (-1)) else (yC p0 fuel (i64.wrap (p1-(List.length p0:Int))) 0)
def uO (p0:M.aO) (p1:Int):Option Int:=
 (zV p0.Caches p1).bind fun x1=>(if (decide (x1<0))=true then (some (-1)) else (some x1))
def aBX (p0:M.Key) (p1:Int):Option Int:=
 if (decide ((i64.wrap (p1-(p0.Text.size:Int)))<0))=true then (some (-1)) else (some (i64.wrap (p1-(p0.Text.size:Int))))
def aAs (p0:M.Field) (p1:Int):Option Int:=
 if (decide ((i64.wrap (p1-(p0.Name.size:Int)))<0))=true then (some (-1)) else (some (i64.wrap (p1-(p0.Name.size:Int))))
def xY (p0:List M.Field):Nat→Int→Int→Option Int
 | 0,_,_=>none
 | nL1+1,v1,v5=>if (decide (v5<(List.length p0:Int)))=true then ((idx p0 v5).bind fun x7=>((aAs x7 v1).bind fun x12=>(if (decide (x12<0))=true then (some (-1)) else (xY p0 nL1 x12 (i64.wrap (v5+1)))))) else (some v1)
def yL (p0:List M.Field) (p1:Int):Option Int:=
 if (decide ((i64.wrap (p1-(List.length p0:Int)))<0))=true then (some (-1)) else (xY p0 fuel (i64.wrap (p1-(List.length p0:Int))) 0)
def zU (p0:M.aW) (p1:Int):Option Int:=
 (yL p0.Fields p1).bind fun x1=>(if (decide (x1<0))=true then (some (-1)) else (some x1))
def aB1 (p0:M.Item) (p1:Int):Option Int:=
 (aBX p0.Key p1).bind fun x1=>(if (decide (x1<0))=true then (some (-1)) else ((zU p0.aW x1).bind fun x4=>(if (decide (x4<0))=true then (some (-1)) else (some x4))))
def aAK (p0:List M.Item):Nat→Int→Int→Option Int
 | 0,_,_=>none
 | nL1+1,v1,v5=>if (decide (v5<(List.length p0:Int)))=true then ((idx p0 v5).bind fun x7=>((aB1 x7 v1).bind fun x12=>(if (decide (x12<0))=true then (some (-1)) else (aAK p0 nL1 x12 (i64.wrap (v5+1)))))) else (some v1)
def aA7 (p0:List M.Item) (p1:Int):Option Int:=
 if (decide ((i64.wrap (p1-(List.length p0:Int)))<0))=true then (some (-1)) else (aAK p0 fuel (i64.wrap (p1-(List.length p0:Int))) 0)
def rO (p0:M.aH) (p1:Int):Option Int:=
 if (decide ((i64.wrap (p1-(p0.Name.size:Int)))<0))=true then (some (-1)) else ((aA7 p0.Items (i64.wrap (p1-(p0.Name.size:Int)))).bind fun x2=>(if (decide (x2<0))=true then (some (-1)) else (some x2)))
def yD (p0:List M.aH):Nat→Int→Int→Option Int
 | 0,_,_=>none
 | nL1+1,v1,v5=>if (decide (v5<(List.length p0:Int)))=true then ((idx p0 v5).bind fun x7=>((rO x7 v1).bind fun x12=>(if (decide (x12<0))=true then (some (-1)) else (yD p0 nL1 x12 (i64.wrap (v5+1)))))) else (some v1)
def zI (p0:List M.aH) (p1:Int):Option Int:=
 if (decide ((i64.wrap (p1-(List.length p0:Int)))<0))=true then (some (-1)) else (yD p0 fuel (i64.wrap (p1-(List.length p0:Int))) 0)
def sL (p0:M.aE) (p1:Int):Option Int:=
 if (decide ((i64.wrap (p1-(p0.aH.size:Int)))<0))=true then (some (-1)) else (if (decide ((i64.wrap ((i64.wrap (p1-(p0.aH.size:Int)))-(p0.Field.size:Int)))<0))=true then (some (-1)) else (some (i64.wrap ((i64.wrap (p1-(p0.aH.size:Int)))-(p0.Field.size:Int)))))
def pH (p0:List M.aE):Nat→Int→Int→Option Int
 | 0,_,_=>none
 | nL1+1,v1,v5=>if (decide (v5<(List.length p0:Int)))=true then ((idx p0 v5).bind fun x7=>((sL x7 v1).bind fun x12=>(if (decide (x12<0))=true then (some (-1)) else (pH p0 nL1 x12 (i64.wrap (v5+1)))))) else (some v1)
def pQ (p0:List M.aE) (p1:Int):Option Int:=
 if (decide ((i64.wrap (p1-(List.length p0:Int)))<0))=true then (some (-1)) else (pH p0 fuel (i64.wrap (p1-(List.length p0:Int))) 0)
def uI (p0:M.Database) (p1:Int):Option Int:=
 if (decide ((i64.wrap (p1-(p0.Name.size:Int)))<0))=true then (some (-1)) else ((zI p0.Stores (i64.wrap (p1-(p0.Name.size:Int)))).bind fun x2=>(if (decide (x2<0))=true then (some (-1)) else ((pQ p0.Unique x2).bind fun x5=>(if (decide (x5<0))=true then (some (-1)) else (some x5)))))
def aBZ (p0:M.bC) (p1:Int):Option Int:=
 (uI p0.Base p1).bind fun x1=>(if (decide (x1<0))=true then (some (-1)) else ((xR p0.Log x1).bind fun x4=>(if (decide (x4<0))=true then (some (-1)) else (some x4))))
def aAy (p0:M.aZ) (p1:Int):Option Int:=
 (aBX p0.Key p1).bind fun x1=>(if (decide (x1<0))=true then (some (-1)) else (if (decide ((i64.wrap (x1-(p0.Field.size:Int)))<0))=true then (some (-1)) else (some (i64.wrap (x1-(p0.Field.size:Int))))))
def xZ (p0:List M.aZ):Nat→Int→Int→Option Int
 | 0,_,_=>none
 | nL1+1,v1,v5=>if (decide (v5<(List.length p0:Int)))=true then ((idx p0 v5).bind fun x7=>((aAy x7 v1).bind fun x12=>(if (decide (x12<0))=true then (some (-1)) else (xZ p0 nL1 x12 (i64.wrap (v5+1)))))) else (some v1)
def tR (p0:List M.aZ) (p1:Int):Option Int:=
 if (decide ((i64.wrap (p1-(List.length p0:Int)))<0))=true then (some (-1)) else (xZ p0 fuel (i64.wrap (p1-(List.length p0:Int))) 0)
def yY (p0:M.aR) (p1:Int):Option Int:=
 (tR p0.Writes p1).bind fun x1=>(if (decide (x1<0))=true then (some (-1)) else (some x1))
def aCF (p0:M.Sync) (p1:Int):Option Int:=
 (yY p0.aR p1).bind fun x1=>(if (decide (x1<0))=true then (some (-1)) else (some x1))
def xG (p0:M.aD) (p1:Int):Option Int:=
 (rO p0.Base p1).bind fun x1=>(if (decide (x1<0))=true then (some (-1)) else ((aCF p0.Sync x1).bind fun x4=>(if (decide (x4<0))=true then (some (-1)) else (some x4))))
def zX (p0:M.aC) (p1:Int):Option Int:=
 if (decide ((i64.wrap (p1-(p0.Site.size:Int)))<0))=true then (some (-1)) else (if (decide ((i64.wrap ((i64.wrap (p1-(p0.Site.size:Int)))-(p0.Top.size:Int)))<0))=true then (some (-1)) else ((lE p0.Registration (i64.wrap ((i64.wrap (p1-(p0.Site.size:Int)))-(p0.Top.size:Int)))).bind fun x3=>(if (decide (x3<0))=true then (some (-1)) else ((uO p0.Caches x3).bind fun x6=>(if (decide (x6<0))=true then (some (-1)) else ((aBZ p0.bC x6).bind fun x9=>(if (decide (x9<0))=true then (some (-1)) else ((xG p0.aD x9).bind fun x12=>(if (decide (x12<0))=true then (some (-1)) else (some x12))))))))))
def vK (p0:List M.aC):Nat→Int→Int→Option Int
 | 0,_,_=>none
 | nL1+1,v1,v5=>if (decide (v5<(List.length p0:Int)))=true then ((idx p0 v5).bind fun x7=>((zX x7 v1).bind fun x12=>(if (decide (x12<0))=true then (some (-1)) else (vK p0 nL1 x12 (i64.wrap (v5+1)))))) else (some v1)
def wH (p0:List M.aC) (p1:Int):Option Int:=
 if (decide ((i64.wrap (p1-(List.length p0:Int)))<0))=true then (some (-1)) else (vK p0 fuel (i64.wrap (p1-(List.length p0:Int))) 0)
def vY (p0:M.aA) (p1:Int):Option Int:=
 (wH p0.Buckets p1).bind fun x1=>(if (decide (x1<0))=true then (some (-1)) else (some x1))
def yP (p0:M.aK) (p1:Int):Option Int:=
 if (decide ((i64.wrap (p1-(p0.Path.size:Int)))<0))=true then (some (-1)) else (some (i64.wrap (p1-(p0.Path.size:Int))))
def vJ (p0:List M.aK):Nat→Int→Int→Option Int
 | 0,_,_=>none
 | nL1+1,v1,v5=>if (decide (v5<(List.length p0:Int)))=true then ((idx p0 v5).bind fun x7=>((yP x7 v1).bind fun x12=>(if (decide (x12<0))=true then (some (-1)) else (vJ p0 nL1 x12 (i64.wrap (v5+1)))))) else (some v1)
def wI (p0:List M.aK) (p1:Int):Option Int:=
 if (decide ((i64.wrap (p1-(List.length p0:Int)))<0))=true then (some (-1)) else (vJ p0 fuel (i64.wrap (p1-(List.length p0:Int))) 0)
def aAV (p0:M.Instr) (p1:Int):Option Int:=
 if (decide ((i64.wrap (p1-(p0.Text.size:Int)))<0))=true then (some (-1)) else (some (i64.wrap (p1-(p0.Text.size:Int))))
def yF (p0:List M.Instr):Nat→Int→Int→Option Int
 | 0,_,_=>none
 | nL1+1,v1,v5=>if (decide (v5<(List.length p0:Int)))=true then ((idx p0 v5).bind fun x7=>((aAV x7 v1).bind fun x12=>(if (decide (x12<0))=true then (some (-1)) else (yF p0 nL1 x12 (i64.wrap (v5+1)))))) else (some v1)
def tQ (p0:List M.Instr) (p1:Int):Option Int:=
 if (decide ((i64.wrap (p1-(List.length p0:Int)))<0))=true then (some (-1)) else (yF p0 fuel (i64.wrap (p1-(List.length p0:Int))) 0)
def aB7 (p0:List Int) (p1:Int):Option Int:=
 if (decide ((i64.wrap (p1-(List.length p0:Int)))<0))=true then (some (-1)) else (some (i64.wrap (p1-(List.length p0:Int))))
def xJ (p0:M.Machine) (p1:Int):Option Int:=
 (tQ p0.Script p1).bind fun x1=>(if (decide (x1<0))=true then (some (-1)) else ((aB7 p0.Regs x1).bind fun x4=>(if (decide (x4<0))=true then (some (-1)) else (some x4))))
def aB4 (p0:M.bH) (p1:Int):Option Int:=
 if (decide ((i64.wrap (p1-(p0.Site.size:Int)))<0))=true then (some (-1)) else (if (decide ((i64.wrap ((i64.wrap (p1-(p0.Site.size:Int)))-(p0.Top.size:Int)))<0))=true then (some (-1)) else ((wI p0.aK (i64.wrap ((i64.wrap (p1-(p0.Site.size:Int)))-(p0.Top.size:Int)))).bind fun x3=>(if (decide (x3<0))=true then (some (-1)) else ((xJ p0.Machine x3).bind fun x6=>(if (decide (x6<0))=true then (some (-1)) else (some x6))))))
def aAM (p0:List M.bH):Nat→Int→Int→Option Int
 | 0,_,_=>none
 | nL1+1,v1,v5=>if (decide (v5<(List.length p0:Int)))=true then ((idx p0 v5).bind fun x7=>((aB4 x7 v1).bind fun x12=>(if (decide (x12<0))=true then (some (-1)) else (aAM p0 nL1 x12 (i64.wrap (v5+1)))))) else (some v1)
def aAm (p0:List M.bH) (p1:Int):Option Int:=
 if (decide ((i64.wrap (p1-(List.length p0:Int)))<0))=true then (some (-1)) else (aAM p0 fuel (i64.wrap (p1-(List.length p0:Int))) 0)
def aCG (p0:M.cJ) (p1:Int):Option Int:=
 if (decide ((i64.wrap (p1-(p0.Name.size:Int)))<0))=true then (some (-1)) else (some (i64.wrap (p1-(p0.Name.size:Int))))
def aAJ (p0:List M.cJ):Nat→Int→Int→Option Int
 | 0,_,_=>none
 | nL1+1,v1,v5=>if (decide (v5<(List.length p0:Int)))=true then ((idx p0 v5).bind fun x7=>((aCG x7 v1).bind fun x12=>(if (decide (x12<0))=true then (some (-1)) else (aAJ p0 nL1 x12 (i64.wrap (v5+1)))))) else (some v1)
def aAh (p0:List M.cJ) (p1:Int):Option Int:=
 if (decide ((i64.wrap (p1-(List.length p0:Int)))<0))=true then (some (-1)) else (aAJ p0 fuel (i64.wrap (p1-(List.length p0:Int))) 0)
def pS (p0:M.aQ) (p1:Int):Option Int:=
 (aAh p0.Locks p1).bind fun x1=>(if (decide (x1<0))=true then (some (-1)) else (some x1))
def aAt (p0:List M.eU) (p1:Int):Option Int:=
 if (decide ((i64.wrap (p1-(List.length p0:Int)))<0))=true then (some (-1)) else (some (i64.wrap (p1-(List.length p0:Int))))
def xE (p0:M.Channel) (p1:Int):Option Int:=
 (aAt p0.Mails p1).bind fun x1=>(if (decide (x1<0))=true then (some (-1)) else (some x1))
def vH (p0:List ByteArray):Nat→Int→Int→Option Int
 | 0,_,_=>none
 | nL1+1,v1,v5=>if (decide (v5<(List.length p0:Int)))=true then ((idx p0 v5).bind fun x7=>(if (decide ((i64.wrap (v1-(x7.size:Int)))<0))=true then (some (-1)) else (vH p0 nL1 (i64.wrap (v1-(x7.size:Int))) (i64.wrap (v5+1))))) else (some v1)
def vN (p0:List ByteArray) (p1:Int):Option Int:=
 if (decide ((i64.wrap (p1-(List.length p0:Int)))<0))=true then (some (-1)) else (vH p0 fuel (i64.wrap (p1-(List.length p0:Int))) 0)
def aBh (p0:M.Site) (p1:Int):Option Int:=
 if (decide ((i64.wrap (p1-(p0.Name.size:Int)))<0))=true then (some (-1)) else ((vN p0.Files (i64.wrap (p1-(p0.Name.size:Int)))).bind fun x2=>(if (decide (x2<0))=true then (some (-1)) else (some x2)))
def aAI (p0:List M.Site):Nat→Int→Int→Option Int
 | 0,_,_=>none
 | nL1+1,v1,v5=>if (decide (v5<(List.length p0:Int)))=true then ((idx p0 v5).bind fun x7=>((aBh x7 v1).bind fun x12=>(if (decide (x12<0))=true then (some (-1)) else (aAI p0 nL1 x12 (i64.wrap (v5+1)))))) else (some v1)
def aBB (p0:List M.Site) (p1:Int):Option Int:=
 if (decide ((i64.wrap (p1-(List.length p0:Int)))<0))=true then (some (-1)) else (aAI p0 fuel (i64.wrap (p1-(List.length p0:Int))) 0)
def tM (p0:List M.aM) (p1:Int):Option Int:=
 if (decide ((i64.wrap (p1-(List.length p0:Int)))<0))=true then (some (-1)) else (some (i64.wrap (p1-(List.length p0:Int))))
def yJ (p0:M.Server) (p1:Int):Option Int:=
 (rO p0.aH p1).bind fun x1=>(if (decide (x1<0))=true then (some (-1)) else ((tM p0.aM x1).bind fun x4=>(if (decide (x4<0))=true then (some (-1)) else ((tR p0.Changes x4).bind fun x7=>(if (decide (x7<0))=true then (some (-1)) else (some x7))))))
def uU (p0:List M.Server):Nat→Int→Int→Option Int
 | 0,_,_=>none
 | nL1+1,v1,v5=>if (decide (v5<(List.length p0:Int)))=true then ((idx p0 v5).bind fun x7=>((yJ x7 v1).bind fun x12=>(if (decide (x12<0))=true then (some (-1)) else (uU p0 nL1 x12 (i64.wrap (v5+1)))))) else (some v1)
def xO (p0:List M.Server) (p1:Int):Option Int:=
 if (decide ((i64.wrap (p1-(List.length p0:Int)))<0))=true then (some (-1)) else (uU p0 fuel (i64.wrap (p1-(List.length p0:Int))) 0)
def aAo (p0:M.World) (p1:Int):Option Int:=
 (vY p0.aA p1).bind fun x1=>(if (decide (x1<0))=true then (some (-1)) else ((aAm p0.Pages x1).bind fun x4=>(if (decide (x4<0))=true then (some (-1)) else ((pS p0.Locks x4).bind fun x7=>(if (decide (x7<0))=true then (some (-1)) else ((xE p0.Channel x7).bind fun x10=>(if (decide (x10<0))=true then (some (-1)) else ((aBB p0.Sites x10).bind fun x13=>(if (decide (x13<0))=true then (some (-1)) else ((xO p0.Servers x13).bind fun x16=>(if (decide (x16<0))=true then (some (-1)) else (some x16))))))))))))
def lG (p0:M.Registration):Option M.Registration:=
 some p0
def nM (p0:List Int):Nat→Int→List Int→Option (List Int)
 | 0,_,_=>none
 | nL1+1,v4,r7=>if (decide (v4<(List.length p0:Int)))=true then ((idx p0 v4).bind fun x13=>((idx r7 v4).bind fun x18=>(nM p0 nL1 (i64.wrap (v4+1)) (List.set r7 v4.toNat x13)))) else (some r7)
def xT (p0:List Int):Option (List Int):=
 (mkL 1 (List.length p0:Int) 0).bind fun x1=>(nM p0 fuel 0 (List.replicate (List.length p0:Int).toNat 0))
def tB (p0:M.Response):Option M.Response:=
 (xT p0.Body).bind fun x1=>(some (⟨p0.Type_,p0.Status,p0.Version,x1,p0.Shares⟩:M.Response))
def zE (p0:M.Cached):Option M.Cached:=
 (tB p0.Response).bind fun x1=>(some (⟨p0.Site,p0.Path,x1⟩:M.Cached))
def kG (p0:List M.Cached):Nat→Int→List M.Cached→Option (List M.Cached)
 | 0,_,_=>none
 | nL1+1,v4,r7=>if (decide (v4<(List.length p0:Int)))=true then ((idx p0 v4).bind fun x13=>((zE x13).bind fun x18=>((idx r7 v4).bind fun x20=>(kG p0 nL1 (i64.wrap (v4+1)) (List.set r7 v4.toNat x18))))) else (some r7)
def wU (p0:List M.Cached):Option (List M.Cached):=
 (mkL 88 (List.length p0:Int) (⟨(⟨#[]⟩:ByteArray),(⟨#[]⟩:ByteArray),(⟨0,0,0,([]:List Int),false⟩:M.Response)⟩:M.Cached)).bind fun x1=>(kG p0 fuel 0 (List.replicate (List.length p0:Int).toNat (⟨(⟨#[]⟩:ByteArray),(⟨#[]⟩:ByteArray),(⟨0,0,0,([]:List Int),false⟩:M.Response)⟩:M.Cached)))
def aAf (p0:M.Cache):Option M.Cache:=
 (wU p0.Entries).bind fun x1=>(some (⟨p0.Version,x1⟩:M.Cache))
def lY (p0:List M.Cache):Nat→Int→List M.Cache→Option (List M.Cache)
 | 0,_,_=>none
 | nL1+1,v4,r7=>if (decide (v4<(List.length p0:Int)))=true then ((idx p0 v4).bind fun x13=>((aAf x13).bind fun x18=>((idx r7 v4).bind fun x20=>(lY p0 nL1 (i64.wrap (v4+1)) (List.set r7 v4.toNat x18))))) else (some r7)
def zN (p0:List M.Cache):Option (List M.Cache):=
 (mkL 32 (List.length p0:Int) (⟨0,([]:List M.Cached)⟩:M.Cache)).bind fun x1=>(lY p0 fuel 0 (List.replicate (List.length p0:Int).toNat (⟨0,([]:List M.Cached)⟩:M.Cache)))
def tJ (p0:M.aO):Option M.aO:=
 (zN p0.Caches).bind fun x1=>(some (⟨x1⟩:M.aO))
def aBU (p0:M.Key):Option M.Key:=
 some p0
def aA1 (p0:M.Field):Option M.Field:=
 some p0
def lL (p0:List M.Field):Nat→Int→List M.Field→Option (List M.Field)
 | 0,_,_=>none
 | nL1+1,v4,r7=>if (decide (v4<(List.length p0:Int)))=true then ((idx p0 v4).bind fun x13=>((aA1 x13).bind fun x18=>((idx r7 v4).bind fun x20=>(lL p0 nL1 (i64.wrap (v4+1)) (List.set r7 v4.toNat x18))))) else (some r7)
def zZ (p0:List M.Field):Option (List M.Field):=
 (mkL 24 (List.length p0:Int) (⟨(⟨#[]⟩:ByteArray),0⟩:M.Field)).bind fun x1=>(lL p0 fuel 0 (List.replicate (List.length p0:Int).toNat (⟨(⟨#[]⟩:ByteArray),0⟩:M.Field)))
def yZ (p0:M.aW):Option M.aW:=
 (zZ p0.Fields).bind fun x1=>(some (⟨x1⟩:M.aW))
def aBa (p0:M.Item):Option M.Item:=
 (aBU p0.Key).bind fun x1=>((yZ p0.aW).bind fun x3=>(some (⟨x1,x3⟩:M.Item)))
def nP (p0:List M.Item):Nat→Int→List M.Item→Option (List M.Item)
 | 0,_,_=>none
 | nL1+1,v4,r7=>if (decide (v4<(List.length p0:Int)))=true then ((idx p0 v4).bind fun x13=>((aBa x13).bind fun x18=>((idx r7 v4).bind fun x20=>(nP p0 nL1 (i64.wrap (v4+1)) (List.set r7 v4.toNat x18))))) else (some r7)
def aAe (p0:List M.Item):Option (List M.Item):=
 (mkL 56 (List.length p0:Int) (⟨(⟨0,0,(⟨#[]⟩:ByteArray)⟩:M.Key),(⟨([]:List M.Field)⟩:M.aW)⟩:M.Item)).bind fun x1=>(nP p0 fuel 0 (List.replicate (List.length p0:Int).toNat (⟨(⟨0,0,(⟨#[]⟩:ByteArray)⟩:M.Key),(⟨([]:List M.Field)⟩:M.aW)⟩:M.Item)))
def sA (p0:M.aH):Option M.aH:=
 (aAe p0.Items).bind fun x1=>(some (⟨p0.Name,x1,p0.Auto⟩:M.aH))
def lU (p0:List M.aH):Nat→Int→List M.aH→Option (List M.aH)
 | 0,_,_=>none
 | nL1+1,v4,r7=>if (decide (v4<(List.length p0:Int)))=true then ((idx p0 v4).bind fun x13=>((sA x13).bind fun x18=>((idx r7 v4).bind fun x20=>(lU p0 nL1 (i64.wrap (v4+1)) (List.set r7 v4.toNat x18))))) else (some r7)
def yS (p0:List M.aH):Option (List M.aH):=
 (mkL 48 (List.length p0:Int) (⟨(⟨#[]⟩:ByteArray),([]:List M.Item),0⟩:M.aH)).bind fun x1=>(lU p0 fuel 0 (List.replicate (List.length p0:Int).toNat (⟨(⟨#[]⟩:ByteArray),([]:List M.Item),0⟩:M.aH)))
def uK (p0:M.aE):Option M.aE:=
 some p0
def iS (p0:List M.aE):Nat→Int→List M.aE→Option (List M.aE)
 | 0,_,_=>none
 | nL1+1,v4,r7=>if (decide (v4<(List.length p0:Int)))=true then ((idx p0 v4).bind fun x13=>((uK x13).bind fun x18=>((idx r7 v4).bind fun x20=>(iS p0 nL1 (i64.wrap (v4+1)) (List.set r7 v4.toNat x18))))) else (some r7)
def pZ (p0:List M.aE):Option (List M.aE):=
 (mkL 32 (List.length p0:Int) (⟨(⟨#[]⟩:ByteArray),(⟨#[]⟩:ByteArray)⟩:M.aE)).bind fun x1=>(iS p0 fuel 0 (List.replicate (List.length p0:Int).toNat (⟨(⟨#[]⟩:ByteArray),(⟨#[]⟩:ByteArray)⟩:M.aE)))
def sH (p0:M.Database):Option M.Database:=
 (yS p0.Stores).bind fun x1=>((pZ p0.Unique).bind fun x3=>(some (⟨p0.Name,p0.Version,x1,x3⟩:M.Database)))
def aCC (p0:M.bC):Option M.bC:=
 (sH p0.Base).bind fun x1=>((xT p0.Log).bind fun x3=>(some (⟨x1,x3,p0.Count⟩:M.bC)))
def aAq (p0:M.aZ):Option M.aZ:=
 (aBU p0.Key).bind fun x1=>(some (⟨p0.Device,p0.Seq,x1,p0.Field,p0.N⟩:M.aZ))
def lZ (p0:List M.aZ):Nat→Int→List M.aZ→Option (List M.aZ)
 | 0,_,_=>none
 | nL1+1,v4,r7=>if (decide (v4<(List.length p0:Int)))=true then ((idx p0 v4).bind fun x13=>((aAq x13).bind fun x18=>((idx r7 v4).bind fun x20=>(lZ p0 nL1 (i64.wrap (v4+1)) (List.set r7 v4.toNat x18))))) else (some r7)
def tX (p0:List M.aZ):Option (List M.aZ):=
 (mkL 72 (List.length p0:Int) (⟨0,0,(⟨0,0,(⟨#[]⟩:ByteArray)⟩:M.Key),(⟨#[]⟩:ByteArray),0⟩:M.aZ)).bind fun x1=>(lZ p0 fuel 0 (List.replicate (List.length p0:Int).toNat (⟨0,0,(⟨0,0,(⟨#[]⟩:ByteArray)⟩:M.Key),(⟨#[]⟩:ByteArray),0⟩:M.aZ)))
def yM (p0:M.aR):Option M.aR:=
 (tX p0.Writes).bind fun x1=>(some (⟨p0.Device,p0.Next,x1⟩:M.aR))
def aB6 (p0:M.Sync):Option M.Sync:=
 (yM p0.aR).bind fun x1=>(some (⟨x1,p0.Tries,p0.WaitUntil⟩:M.Sync))
def wV (p0:M.aD):Option M.aD:=
 (sA p0.Base).bind fun x1=>((aB6 p0.Sync).bind fun x3=>(some (⟨x1,p0.Seen,x3⟩:M.aD)))
def zO (p0:M.aC):Option M.aC:=
 (lG p0.Registration).bind fun x1=>((tJ p0.Caches).bind fun x3=>((aCC p0.bC).bind fun x5=>((wV p0.aD).bind fun x7=>(some (⟨p0.Site,p0.Top,x1,x3,x5,x7,p0.LastUsed,p0.Persistent⟩:M.aC)))))
def kT (p0:List M.aC):Nat→Int→List M.aC→Option (List M.aC)
 | 0,_,_=>none
 | nL1+1,v4,r7=>if (decide (v4<(List.length p0:Int)))=true then ((idx p0 v4).bind fun x13=>((zO x13).bind fun x18=>((idx r7 v4).bind fun x20=>(kT p0 nL1 (i64.wrap (v4+1)) (List.set r7 v4.toNat x18))))) else (some r7)
def xM (p0:List M.aC):Option (List M.aC):=
 (mkL 328 (List.length p0:Int) (⟨(⟨#[]⟩:ByteArray),(⟨#[]⟩:ByteArray),(⟨(⟨#[]⟩:ByteArray),0,0,0⟩:M.Registration),(⟨([]:List M.Cache)⟩:M.aO),(⟨(⟨(⟨#[]⟩:ByteArray),0,([]:List M.aH),([]:List M.aE)⟩:M.Database),([]:List Int),0⟩:M.bC),(⟨(⟨(⟨#[]⟩:ByteArray),([]:List M.Item),0⟩:M.aH),0,(⟨(⟨0,0,([]:List M.aZ)⟩:M.aR),0,0⟩:M.Sync)⟩:M.aD),0,false⟩:M.aC)).bind fun x1=>(kT p0 fuel 0 (List.replicate (List.length p0:Int).toNat (⟨(⟨#[]⟩:ByteArray),(⟨#[]⟩:ByteArray),(⟨(⟨#[]⟩:ByteArray),0,0,0⟩:M.Registration),(⟨([]:List M.Cache)⟩:M.aO),(⟨(⟨(⟨#[]⟩:ByteArray),0,([]:List M.aH),([]:List M.aE)⟩:M.Database),([]:List Int),0⟩:M.bC),(⟨(⟨(⟨#[]⟩:ByteArray),([]:List M.Item),0⟩:M.aH),0,(⟨(⟨0,0,([]:List M.aZ)⟩:M.aR),0,0⟩:M.Sync)⟩:M.aD),0,false⟩:M.aC)))
def wO (p0:M.aA):Option M.aA:=
 (xM p0.Buckets).bind fun x1=>(some (⟨x1⟩:M.aA))
def yH (p0:M.aK):Option M.aK:=
 some p0
def kS (p0:List M.aK):Nat→Int→List M.aK→Option (List M.aK)
 | 0,_,_=>none
 | nL1+1,v4,r7=>if (decide (v4<(List.length p0:Int)))=true then ((idx p0 v4).bind fun x13=>((yH x13).bind fun x18=>((idx r7 v4).bind fun x20=>(kS p0 nL1 (i64.wrap (v4+1)) (List.set r7 v4.toNat x18))))) else (some r7)
def wJ (p0:List M.aK):Option (List M.aK):=
 (mkL 24 (List.length p0:Int) (⟨(⟨#[]⟩:ByteArray),0⟩:M.aK)).bind fun x1=>(kS p0 fuel 0 (List.replicate (List.length p0:Int).toNat (⟨(⟨#[]⟩:ByteArray),0⟩:M.aK)))
def aA2 (p0:M.Instr):Option M.Instr:=
 some p0
def lK (p0:List M.Instr):Nat→Int→List M.Instr→Option (List M.Instr)
 | 0,_,_=>none
 | nL1+1,v4,r7=>if (decide (v4<(List.length p0:Int)))=true then ((idx p0 v4).bind fun x13=>((aA2 x13).bind fun x18=>((idx r7 v4).bind fun x20=>(lK p0 nL1 (i64.wrap (v4+1)) (List.set r7 v4.toNat x18))))) else (some r7)
def jT (p0:List M.Instr):Option (List M.Instr):=
 (mkL 40 (List.length p0:Int) (⟨0,0,0,(⟨#[]⟩:ByteArray)⟩:M.Instr)).bind fun x1=>(lK p0 fuel 0 (List.replicate (List.length p0:Int).toNat (⟨0,0,0,(⟨#[]⟩:ByteArray)⟩:M.Instr)))
def pB (p0:List Int):Nat→Int→List Int→Option (List Int)
 | 0,_,_=>none
 | nL1+1,v4,r7=>if (decide (v4<(List.length p0:Int)))=true then ((idx p0 v4).bind fun x13=>((idx r7 v4).bind fun x18=>(pB p0 nL1 (i64.wrap (v4+1)) (List.set r7 v4.toNat x13)))) else (some r7)
def aBo (p0:List Int):Option (List Int):=
 (mkL 8 (List.length p0:Int) 0).bind fun x1=>(pB p0 fuel 0 (List.replicate (List.length p0:Int).toNat 0))
def wF (p0:M.Machine):Option M.Machine:=
 (jT p0.Script).bind fun x1=>((aBo p0.Regs).bind fun x3=>(some (⟨x1,p0.Pc,x3,p0.Steps,p0.Done,p0.Wait⟩:M.Machine)))
def aBd (p0:M.bH):Option M.bH:=
 (wJ p0.aK).bind fun x1=>((wF p0.Machine).bind fun x3=>(some (⟨p0.Id,p0.Site,p0.Top,p0.Version,x1,x3⟩:M.bH)))
def nJ (p0:List M.bH):Nat→Int→List M.bH→Option (List M.bH)
 | 0,_,_=>none
 | nL1+1,v4,r7=>if (decide (v4<(List.length p0:Int)))=true then ((idx p0 v4).bind fun x13=>((aBd x13).bind fun x18=>((idx r7 v4).bind fun x20=>(nJ p0 nL1 (i64.wrap (v4+1)) (List.set r7 v4.toNat x18))))) else (some r7)
def aAn (p0:List M.bH):Option (List M.bH):=
 (mkL 144 (List.length p0:Int) (⟨0,(⟨#[]⟩:ByteArray),(⟨#[]⟩:ByteArray),0,([]:List M.aK),(⟨([]:List M.Instr),0,([]:List Int),0,false,false⟩:M.Machine)⟩:M.bH)).bind fun x1=>(nJ p0 fuel 0 (List.replicate (List.length p0:Int).toNat (⟨0,(⟨#[]⟩:ByteArray),(⟨#[]⟩:ByteArray),0,([]:List M.aK),(⟨([]:List M.Instr),0,([]:List Int),0,false,false⟩:M.Machine)⟩:M.bH)))
def aBq (p0:M.cJ):Option M.cJ:=
 some p0
def nA (p0:List M.cJ):Nat→Int→List M.cJ→Option (List M.cJ)
 | 0,_,_=>none
 | nL1+1,v4,r7=>if (decide (v4<(List.length p0:Int)))=true then ((idx p0 v4).bind fun x13=>((aBq x13).bind fun x18=>((idx r7 v4).bind fun x20=>(nA p0 nL1 (i64.wrap (v4+1)) (List.set r7 v4.toNat x18))))) else (some r7)
def aAg (p0:List M.cJ):Option (List M.cJ):=
 (mkL 32 (List.length p0:Int) (⟨(⟨#[]⟩:ByteArray),0,false,false⟩:M.cJ)).bind fun x1=>(nA p0 fuel 0 (List.replicate (List.length p0:Int).toNat (⟨(⟨#[]⟩:ByteArray),0,false,false⟩:M.cJ)))
def pT (p0:M.aQ):Option M.aQ:=
 (aAg p0.Locks).bind fun x1=>(some (⟨x1⟩:M.aQ))
def aB0 (p0:M.eU):Option M.eU:=
 some p0
def nC (p0:List M.eU):Nat→Int→List M.eU→Option (List M.eU)
 | 0,_,_=>none
 | nL1+1,v4,r7=>if (decide (v4<(List.length p0:Int)))=true then ((idx p0 v4).bind fun x13=>((aB0 x13).bind fun x18=>((idx r7 v4).bind fun x20=>(nC p0 nL1 (i64.wrap (v4+1)) (List.set r7 v4.toNat x18))))) else (some r7)
def aAY (p0:List M.eU):Option (List M.eU):=
 (mkL 24 (List.length p0:Int) (⟨0,0,0⟩:M.eU)).bind fun x1=>(nC p0 fuel 0 (List.replicate (List.length p0:Int).toNat (⟨0,0,0⟩:M.eU)))
def wA (p0:M.Channel):Option M.Channel:=
 (aAY p0.Mails).bind fun x1=>(some (⟨x1⟩:M.Channel))
def kI (p0:List ByteArray):Nat→Int→List ByteArray→Option (List ByteArray)
 | 0,_,_=>none
 | nL1+1,v4,r7=>if (decide (v4<(List.length p0:Int)))=true then ((idx p0 v4).bind fun x13=>((idx r7 v4).bind fun x18=>(kI p0 nL1 (i64.wrap (v4+1)) (List.set r7 v4.toNat x13)))) else (some r7)
def xH (p0:List ByteArray):Option (List ByteArray):=
 (mkL 16 (List.length p0:Int) (⟨#[]⟩:ByteArray)).bind fun x1=>(kI p0 fuel 0 (List.replicate (List.length p0:Int).toNat (⟨#[]⟩:ByteArray)))
def aBw (p0:M.Site):Option M.Site:=
 (xH p0.Files).bind fun x1=>(some (⟨p0.Name,p0.Version,x1,p0.Shared⟩:M.Site))
def nK (p0:List M.Site):Nat→Int→List M.Site→Option (List M.Site)
 | 0,_,_=>none
 | nL1+1,v4,r7=>if (decide (v4<(List.length p0:Int)))=true then ((idx p0 v4).bind fun x13=>((aBw x13).bind fun x18=>((idx r7 v4).bind fun x20=>(nK p0 nL1 (i64.wrap (v4+1)) (List.set r7 v4.toNat x18))))) else (some r7)
def aAu (p0:List M.Site):Option (List M.Site):=
 (mkL 56 (List.length p0:Int) (⟨(⟨#[]⟩:ByteArray),0,([]:List ByteArray),false⟩:M.Site)).bind fun x1=>(nK p0 fuel 0 (List.replicate (List.length p0:Int).toNat (⟨(⟨#[]⟩:ByteArray),0,([]:List ByteArray),false⟩:M.Site)))
def xB (p0:M.aM):Option M.aM:=
 some p0
def jW (p0:List M.aM):Nat→Int→List M.aM→Option (List M.aM)
 | 0,_,_=>none
 | nL1+1,v4,r7=>if (decide (v4<(List.length p0:Int)))=true then ((idx p0 v4).bind fun x13=>((xB x13).bind fun x18=>((idx r7 v4).bind fun x20=>(jW p0 nL1 (i64.wrap (v4+1)) (List.set r7 v4.toNat x18))))) else (some r7)
def uA (p0:List M.aM):Option (List M.aM):=
 (mkL 16 (List.length p0:Int) (⟨0,0⟩:M.aM)).bind fun x1=>(jW p0 fuel 0 (List.replicate (List.length p0:Int).toNat (⟨0,0⟩:M.aM)))
def zW (p0:M.Server):Option M.Server:=
 (sA p0.aH).bind fun x1=>((uA p0.aM).bind fun x3=>((tX p0.Changes).bind fun x5=>(some (⟨x1,x3,x5⟩:M.Server))))
def kO (p0:List M.Server):Nat→Int→List M.Server→Option (List M.Server)
 | 0,_,_=>none
 | nL1+1,v4,r7=>if (decide (v4<(List.length p0:Int)))=true then ((idx p0 v4).bind fun x13=>((zW x13).bind fun x18=>((idx r7 v4).bind fun x20=>(kO p0 nL1 (i64.wrap (v4+1)) (List.set r7 v4.toNat x18))))) else (some r7)
def wK (p0:List M.Server):Option (List M.Server):=
 (mkL 96 (List.length p0:Int) (⟨(⟨(⟨#[]⟩:ByteArray),([]:List M.Item),0⟩:M.aH),([]:List M.aM),([]:List M.aZ)⟩:M.Server)).bind fun x1=>(kO p0 fuel 0 (List.replicate (List.length p0:Int).toNat (⟨(⟨(⟨#[]⟩:ByteArray),([]:List M.Item),0⟩:M.aH),([]:List M.aM),([]:List M.aZ)⟩:M.Server)))
def mZ (p0:M.World):Option M.World:=
 (wO p0.aA).bind fun x1=>((aAn p0.Pages).bind fun x3=>((pT p0.Locks).bind fun x5=>((wA p0.Channel).bind fun x7=>((aAu p0.Sites).bind fun x9=>((wK p0.Servers).bind fun x11=>(some (⟨p0.Now,p0.Online,p0.Device,x1,x3,p0.NextPage,x5,x7,x9,x11⟩:M.World)))))))
def rU (p0:M.Response):Option M.Response:=
 (app 1 ([]:List Int) p0.Body).bind fun x1=>(some p0)
def jK (p0:M.Cache):Nat→Int→List M.Cached→Option M.Cache
 | 0,_,_=>none
 | nL1+1,v4,r50000=>if (decide (v4<(List.length p0.Entries:Int)))=true then ((idx p0.Entries v4).bind fun x11=>((rU x11.Response).bind fun x16=>((app 88 r50000 ([(⟨x11.Site,x11.Path,x16⟩:M.Cached)])).bind fun x18=>(jK p0 nL1 (i64.wrap (v4+1)) (r50000++[(⟨x11.Site,x11.Path,x16⟩:M.Cached)]))))) else (some (⟨p0.Version,r50000⟩:M.Cache))
def zG (p0:M.Cache):Option M.Cache:=
 jK p0 fuel 0 ([]:List M.Cached)
def kX (p0:M.aO):Nat→Int→List M.Cache→Option M.aO
 | 0,_,_=>none
 | nL1+1,v4,r50000=>if (decide (v4<(List.length p0.Caches:Int)))=true then ((idx p0.Caches v4).bind fun x11=>((zG x11).bind fun x16=>((app 32 r50000 ([x16])).bind fun x18=>(kX p0 nL1 (i64.wrap (v4+1)) (r50000++[x16]))))) else (some (⟨r50000⟩:M.aO))
def aBC (p0:M.aO):Option M.aO:=
 kX p0 fuel 0 ([]:List M.Cache)
def aBt (p0:M.aW):Option M.aW:=
 (app 24 ([]:List M.Field) p0.Fields).bind fun x1=>(some p0)
def aAG (p0:M.Item):Option M.Item:=
 (aBt p0.aW).bind fun x1=>(some (⟨p0.Key,x1⟩:M.Item))
def mJ (p0:M.aH):Nat→Int→List M.Item→Option M.aH
 | 0,_,_=>none
 | nL1+1,v4,r50000=>if (decide (v4<(List.length p0.Items:Int)))=true then ((idx p0.Items v4).bind fun x11=>((aAG x11).bind fun x16=>((app 56 r50000 ([x16])).bind fun x18=>(mJ p0 nL1 (i64.wrap (v4+1)) (r50000++[x16]))))) else (some (⟨p0.Name,r50000,p0.Auto⟩:M.aH))
def uW (p0:M.aH):Option M.aH:=
 mJ p0 fuel 0 ([]:List M.Item)
def mL (p0:M.Database):Nat→Int→List M.aH→Option M.Database
 | 0,_,_=>none
 | nL1+1,v4,r50000=>if (decide (v4<(List.length p0.Stores:Int)))=true then ((idx p0.Stores v4).bind fun x22=>((uW x22).bind fun x27=>((app 48 r50000 ([x27])).bind fun x29=>(mL p0 nL1 (i64.wrap (v4+1)) (r50000++[x27]))))) else (some (⟨p0.Name,p0.Version,r50000,p0.Unique⟩:M.Database))
def aBn (p0:M.Database):Option M.Database:=
 (app 32 ([]:List M.aE) p0.Unique).bind fun x1=>(mL p0 fuel 0 ([]:List M.aH))
def aAc (p0:M.bC):Option M.bC:=
 (aBn p0.Base).bind fun x1=>((app 1 ([]:List Int) p0.Log).bind fun x3=>(some (⟨x1,p0.Log,p0.Count⟩:M.bC)))
def aA4 (p0:M.aR):Option M.aR:=
 (app 72 ([]:List M.aZ) p0.Writes).bind fun x1=>(some p0)
def aAk (p0:M.Sync):Option M.Sync:=
 (aA4 p0.aR).bind fun x1=>(some (⟨x1,p0.Tries,p0.WaitUntil⟩:M.Sync))
def aBA (p0:M.aD):Option M.aD:=
 (uW p0.Base).bind fun x1=>((aAk p0.Sync).bind fun x3=>(some (⟨x1,p0.Seen,x3⟩:M.aD)))
def jH (p0:M.aC):Option M.aC:=
 (aBC p0.Caches).bind fun x1=>((aAc p0.bC).bind fun x3=>((aBA p0.aD).bind fun x5=>(some (⟨p0.Site,p0.Top,p0.Registration,x1,x3,x5,p0.LastUsed,p0.Persistent⟩:M.aC))))
def kH (p0:M.aA):Nat→Int→List M.aC→Option M.aA
 | 0,_,_=>none
 | nL1+1,v4,r50000=>if (decide (v4<(List.length p0.Buckets:Int)))=true then ((idx p0.Buckets v4).bind fun x11=>((jH x11).bind fun x16=>((app 328 r50000 ([x16])).bind fun x18=>(kH p0 nL1 (i64.wrap (v4+1)) (r50000++[x16]))))) else (some (⟨r50000⟩:M.aA))
def eW (p0:M.aA):Option M.aA:=
 kH p0 fuel 0 ([]:List M.aC)
def oY (p0:List M.Instr):Option (List M.Instr):=
 (app 40 ([]:List M.Instr) p0).bind fun x1=>(some p0)
def aAv (p0:M.Machine):Option M.Machine:=
 (oY p0.Script).bind fun x1=>((app 8 ([]:List Int) p0.Regs).bind fun x3=>(some (⟨x1,p0.Pc,p0.Regs,p0.Steps,p0.Done,p0.Wait⟩:M.Machine)))
def jJ (p0:M.bH):Option M.bH:=
 (app 24 ([]:List M.aK) p0.aK).bind fun x1=>((aAv p0.Machine).bind fun x11=>(some (⟨p0.Id,p0.Site,p0.Top,p0.Version,p0.aK,x11⟩:M.bH)))
def xW (p0:M.aQ):Option M.aQ:=
 (app 32 ([]:List M.cJ) p0.Locks).bind fun x1=>(some p0)
def xV (p0:M.Channel):Option M.Channel:=
 (app 24 ([]:List M.eU) p0.Mails).bind fun x1=>(some p0)
def aAx (p0:M.Site):Option M.Site:=
 (app 16 ([]:List ByteArray) p0.Files).bind fun x1=>(some p0)
def aAp (p0:M.Server):Option M.Server:=
 (uW p0.aH).bind fun x1=>((app 16 ([]:List M.aM) p0.aM).bind fun x3=>((app 72 ([]:List M.aZ) p0.Changes).bind fun x5=>(some (⟨x1,p0.aM,p0.Changes⟩:M.Server))))
def gR (p0:M.World) (x1:M.aA) (r12:List M.bH) (x42:M.aQ) (x44:M.Channel) (r40:List M.Site):Nat→Int→List M.Server→Option M.World
 | 0,_,_=>none
 | nL3+1,v6,r60=>if (decide (v6<(List.length p0.Servers:Int)))=true then ((idx p0.Servers v6).bind fun x122=>((aAp x122).bind fun x127=>((app 96 r60 ([x127])).bind fun x129=>(gR p0 x1 r12 x42 x44 r40 nL3 (i64.wrap (v6+1)) (r60++[x127]))))) else (some (⟨p0.Now,p0.Online,p0.Device,x1,r12,p0.NextPage,x42,x44,r40,r60⟩:M.World))
def gT (p0:M.World) (x1:M.aA) (r12:List M.bH) (x42:M.aQ) (x44:M.Channel):Nat→Int→List M.Site→Option M.World
 | 0,_,_=>none
 | nL2+1,v5,r40=>if (decide (v5<(List.length p0.Sites:Int)))=true then ((idx p0.Sites v5).bind fun x72=>((aAx x72).bind fun x77=>((app 56 r40 ([x77])).bind fun x79=>(gT p0 x1 r12 x42 x44 nL2 (i64.wrap (v5+1)) (r40++[x77]))))) else (gR p0 x1 r12 x42 x44 r40 fuel 0 ([]:List M.Server))
def jA (p0:M.World) (x1:M.aA):Nat→Int→List M.bH→Option M.World
 | 0,_,_=>none
 | nL1+1,v4,r12=>if (decide (v4<(List.length p0.Pages:Int)))=true then ((idx p0.Pages v4).bind fun x23=>((jJ x23).bind fun x28=>((app 144 r12 ([x28])).bind fun x30=>(jA p0 x1 nL1 (i64.wrap (v4+1)) (r12++[x28]))))) else ((xW p0.Locks).bind fun x42=>((xV p0.Channel).bind fun x44=>(gT p0 x1 r12 x42 x44 fuel 0 ([]:List M.Site))))
def fO (p0:M.World):Option M.World:=
 (eW p0.aA).bind fun x1=>(jA p0 x1 fuel 0 ([]:List M.bH))
def sW  : Option (List ByteArray):=
 some ([(⟨#[98,97,110,107]⟩:ByteArray),(⟨#[110,101,119,115]⟩:ByteArray),(⟨#[115,104,111,112]⟩:ByteArray)])
def hM (p0:ByteArray) (x1:(List ByteArray)):Nat→Int→Option Int
 | 0,_=>none
 | nL1+1,v4=>if (decide (v4<(List.length x1:Int)))=true then ((idx x1 v4).bind fun x9=>(if (x9.toList==p0.toList)=true then (some v4) else (hM p0 x1 nL1 (i64.wrap (v4+1))))) else (some (-1))
def kV (p0:ByteArray):Option Int:=
 (sW).bind fun x1=>(hM p0 x1 fuel 0)
def bG (p0:Int) (p1:Int) (p2:Int):Option Bool:=
 if (decide (p0≥p1))=true then (some (decide (p0≤p2))) else (some false)
def kA (p0:ByteArray):Nat→Int→Option Bool
 | 0,_=>none
 | nL1+1,v3=>if (decide (v3<(p0.size:Int)))=true then ((aP6 p0 v3).bind fun x5=>(if (decide ((x5.toNat:Int)<97))=true then (some false) else (if (decide ((x5.toNat:Int)>122))=true then (some false) else (kA p0 nL1 (i64.wrap (v3+1)))))) else ((bG (p0.size:Int) 1 8).bind fun x11=>(some x11))
def cG (p0:ByteArray):Option Bool:=
 kA p0 fuel 0
def iH (p0:M.Site):Nat→Int→Option Bool
 | 0,_=>none
 | nL1+1,v3=>if (decide (v3<(List.length p0.Files:Int)))=true then ((idx p0.Files v3).bind fun x6=>((cG x6).bind fun x11=>(if (!x11)=true then (some false) else (if (decide (v3>0))=true then ((idx p0.Files (i64.wrap (v3-1))).bind fun x15=>(if (!(Op.bytesLess x15.toList x6.toList))=true then (some false) else (iH p0 nL1 (i64.wrap (v3+1))))) else (iH p0 nL1 (i64.wrap (v3+1))))))) else ((cG p0.Name).bind fun x21=>(if x21=true then ((bG p0.Version 1 1000000000000).bind fun x24=>(if x24=true then ((bG (List.length p0.Files:Int) 1 6).bind fun x27=>(some x27)) else (some false))) else (some false)))
def vC (p0:M.Site):Option Bool:=
 iH p0 fuel 0
def gK (p0:ByteArray):Nat→Int→Option Bool
 | 0,_=>none
 | nL1+1,v3=>if (decide (v3<(p0.size:Int)))=true then ((aP6 p0 v3).bind fun x5=>(if (decide ((x5.toNat:Int)<97))=true then (if (decide ((x5.toNat:Int)<48))=true then (some false) else (if (decide ((x5.toNat:Int)>57))=true then (some false) else (gK p0 nL1 (i64.wrap (v3+1))))) else (if (decide ((x5.toNat:Int)>122))=true then (if (decide ((x5.toNat:Int)<48))=true then (some false) else (if (decide ((x5.toNat:Int)>57))=true then (some false) else (gK p0 nL1 (i64.wrap (v3+1))))) else (gK p0 nL1 (i64.wrap (v3+1)))))) else (some (decide ((p0.size:Int)≤12)))
def aAC (p0:ByteArray):Option Bool:=
 gK p0 fuel 0
def pE (p0:M.Key):Option Bool:=
 (bG p0.Kind 1 3).bind fun x1=>(if x1=true then ((bG p0.N (-1000000000000) 1000000000000).bind fun x4=>(if x4=true then (if (p0.Kind != 2)=true then ((aAC p0.Text).bind fun x8=>(if x8=true then (if (p0.Kind != 1)=true then (some true) else (some (p0.Text.toList==(⟨#[]⟩:ByteArray).toList))) else (some false))) else (if (p0.N==0)=true then ((aAC p0.Text).bind fun x13=>(if x13=true then (if (p0.Kind != 1)=true then (some true) else (some (p0.Text.toList==(⟨#[]⟩:ByteArray).toList))) else (some false))) else (some false))) else (some false))) else (some false))
def jX (p0:M.aZ):Option Bool:=
 (bG p0.Device 1 1000000).bind fun x1=>(if x1=true then ((bG p0.Seq 1 1000000).bind fun x4=>(if x4=true then ((pE p0.Key).bind fun x7=>(if x7=true then ((cG p0.Field).bind fun x10=>(if x10=true then ((bG p0.N 0 1000000000).bind fun x13=>(some x13)) else (some false))) else (some false))) else (some false))) else (some false))
def fZ (p0:M.aW):Nat→Int→Option Bool
 | 0,_=>none
 | nL1+1,v3=>if (decide (v3<(List.length p0.Fields:Int)))=true then ((idx p0.Fields v3).bind fun x6=>((cG x6.Name).bind fun x11=>(if (!x11)=true then (some false) else ((bG x6.N 0 1000000000).bind fun x14=>(if (!x14)=true then (some false) else (if (decide (v3>0))=true then ((idx p0.Fields (i64.wrap (v3-1))).bind fun x18=>(if (!(Op.bytesLess x18.Name.toList x6.Name.toList))=true then (some false) else (fZ p0 nL1 (i64.wrap (v3+1))))) else (fZ p0 nL1 (i64.wrap (v3+1))))))))) else (some (decide ((List.length p0.Fields:Int)≤6)))
def uM (p0:M.aW):Option Bool:=
 fZ p0 fuel 0
def aAE (p0:Bool) (p1:Bool):Option Int:=
 if p0=true then (some (-1)) else (if p1=true then (some 1) else (some 0))
def lV (p0:M.Key) (p1:M.Key):Option Int:=
 (pE p0).bind fun x1=>(if (!x1)=true then (some 0) else ((pE p1).bind fun x4=>(if (!x4)=true then (some 0) else (if (p0.Kind != p1.Kind)=true then ((aAE (decide (p0.Kind<p1.Kind)) true).bind fun x8=>(some x8)) else (if (p0.N != p1.N)=true then ((aAE (decide (p0.N<p1.N)) true).bind fun x11=>(some x11)) else ((aAE (Op.bytesLess p0.Text.toList p1.Text.toList) (!(Op.bytesLess p0.Text.toList p1.Text.toList||p0.Text.toList==p1.Text.toList))).bind fun x13=>(some x13)))))))
def gU (p0:M.aH):Nat→Int→Option Bool
 | 0,_=>none
 | nL1+1,v3=>if (decide (v3<(List.length p0.Items:Int)))=true then ((idx p0.Items v3).bind fun x6=>((pE x6.Key).bind fun x11=>(if (!x11)=true then (some false) else ((uM x6.aW).bind fun x14=>(if (!x14)=true then (some false) else (if (decide (v3>0))=true then ((idx p0.Items (i64.wrap (v3-1))).bind fun x18=>((lV x18.Key x6.Key).bind fun x23=>(if (decide (x23≥0))=true then (some false) else (gU p0 nL1 (i64.wrap (v3+1)))))) else (gU p0 nL1 (i64.wrap (v3+1))))))))) else ((cG p0.Name).bind fun x26=>(if x26=true then (if (decide ((List.length p0.Items:Int)≤16))=true then ((bG p0.Auto 0 1000000).bind fun x30=>(some x30)) else (some false)) else (some false)))
def rX (p0:M.aH):Option Bool:=
 gU p0 fuel 0
def hT (p0:M.Server):Nat→Int→Option Bool
 | 0,_=>none
 | nL2+1,v4=>if (decide (v4<(List.length p0.Changes:Int)))=true then ((idx p0.Changes v4).bind fun x29=>((jX x29).bind fun x34=>(if (!x34)=true then (some false) else (hT p0 nL2 (i64.wrap (v4+1)))))) else ((rX p0.aH).bind fun x37=>(if x37=true then (if (p0.aH.Name.toList==(⟨#[110,111,116,101,115]⟩:ByteArray).toList)=true then (some (decide ((List.length p0.aM:Int)≤60))) else (some false)) else (some false)))
def gB (p0:M.Server):Nat→Int→Option Bool
 | 0,_=>none
 | nL1+1,v3=>if (decide (v3<(List.length p0.aM:Int)))=true then ((idx p0.aM v3).bind fun x6=>((bG x6.Device 1 1000000).bind fun x11=>(if (!x11)=true then (some false) else ((bG x6.Seq 0 1000000).bind fun x14=>(if (!x14)=true then (some false) else (if (decide (v3>0))=true then ((idx p0.aM (i64.wrap (v3-1))).bind fun x18=>(if (decide (x18.Device≥x6.Device))=true then (some false) else (gB p0 nL1 (i64.wrap (v3+1))))) else (gB p0 nL1 (i64.wrap (v3+1))))))))) else (hT p0 fuel 0)
def zS (p0:M.Server):Option Bool:=
 gB p0 fuel 0
def mE (p0:M.bH):Nat→Int→Option Bool
 | 0,_=>none
 | nL1+1,v3=>if (decide (v3<(List.length p0.aK:Int)))=true then ((idx p0.aK v3).bind fun x6=>((cG x6.Path).bind fun x11=>(if (!x11)=true then (some false) else (if (x6.Version != p0.Version)=true then (some false) else (mE p0 nL1 (i64.wrap (v3+1))))))) else ((bG p0.Id 1 1000000000000).bind fun x15=>(if x15=true then ((cG p0.Site).bind fun x18=>(if x18=true then ((cG p0.Top).bind fun x21=>(if x21=true then ((bG p0.Version 1 1000000000000).bind fun x24=>(if x24=true then (some (decide ((List.length p0.aK:Int)≤8))) else (some false))) else (some false))) else (some false))) else (some false)))
def mV (p0:M.bH):Option Bool:=
 mE p0 fuel 0
def fR (p0:M.aA) (p1:ByteArray) (p2:ByteArray):Nat→Int→Option Int
 | 0,_=>none
 | nL1+1,v7=>if (decide (v7<(List.length p0.Buckets:Int)))=true then ((idx p0.Buckets v7).bind fun x8=>(if (x8.Site.toList==p1.toList)=true then (if (x8.Top.toList==p2.toList)=true then (some v7) else (fR p0 p1 p2 nL1 (i64.wrap (v7+1)))) else (fR p0 p1 p2 nL1 (i64.wrap (v7+1))))) else (some (-1))
def gS (p0:M.aA) (p1:ByteArray) (p2:ByteArray):Option Int:=
 fR p0 p1 p2 fuel 0
def bQ (p0:M.Registration):Nat→Int→Int→Option Bool
 | 0,_,_=>none
 | nL1+1,v3,v5=>if (decide (v5<((3:Nat):Int)))=true then ((idx ([p0.Active,p0.Waiting,p0.Installing]) v5).bind fun x15=>((bG x15 0 1000000000000).bind fun x20=>(if (!x20)=true then (some false) else (if (x15 != 0)=true then (if (decide (x15≤v3))=true then (some false) else (bQ p0 nL1 x15 (i64.wrap (v5+1)))) else (bQ p0 nL1 v3 (i64.wrap (v5+1))))))) else ((cG p0.Site).bind fun x25=>(some x25))
def jE (p0:M.Registration):Option Bool:=
 bQ p0 fuel 0 0
def tT (p0:M.Response):Option Bool:=
 (bG p0.Type_ 1 4).bind fun x1=>(if x1=true then ((bG p0.Status 0 999).bind fun x4=>(if x4=true then ((bG p0.Version 0 1000000000000).bind fun x7=>(if x7=true then (some (decide ((List.length p0.Body:Int)≤60))) else (some false))) else (some false))) else (some false))
def fQ (p0:List M.Cached) (v3:Int) (x5:M.Cached) (k20:Int→Option Bool):Nat→Int→Option Bool
 | 0,_=>none
 | nL2+1,v4_L2=>if (decide (v4_L2<v3))=true then ((idx p0 v4_L2).bind fun x26=>(if (x26.Site.toList==x5.Site.toList)=true then (if (x26.Path.toList==x5.Path.toList)=true then (some false) else (fQ p0 v3 x5 k20 nL2 (i64.wrap (v4_L2+1)))) else (fQ p0 v3 x5 k20 nL2 (i64.wrap (v4_L2+1))))) else (k20 v4_L2)
def eJ (p0:List M.Cached):Nat→Int→Option Bool
 | 0,_=>none
 | nL1+1,v3=>if (decide (v3<(List.length p0:Int)))=true then ((idx p0 v3).bind fun x5=>((cG x5.Site).bind fun x10=>(if (!x10)=true then (some false) else ((cG x5.Path).bind fun x13=>(if (!x13)=true then (some false) else ((tT x5.Response).bind fun x16=>(if (!x16)=true then (some false) else (fQ p0 v3 x5 (fun (v4_L2:Int)=>eJ p0 nL1 (i64.wrap (v3+1))) fuel 0)))))))) else (some (decide ((List.length p0:Int)≤12)))
def nE (p0:List M.Cached):Option Bool:=
 eJ p0 fuel 0
def eF (p0:M.aO):Nat→Int→Option Bool
 | 0,_=>none
 | nL1+1,v3=>if (decide (v3<(List.length p0.Caches:Int)))=true then ((idx p0.Caches v3).bind fun x6=>((bG x6.Version 1 1000000000000).bind fun x11=>(if (!x11)=true then (some false) else (if (decide (v3>0))=true then ((idx p0.Caches (i64.wrap (v3-1))).bind fun x15=>(if (decide (x15.Version≥x6.Version))=true then (some false) else ((nE x6.Entries).bind fun x21=>(if (!x21)=true then (some false) else (eF p0 nL1 (i64.wrap (v3+1))))))) else ((nE x6.Entries).bind fun x24=>(if (!x24)=true then (some false) else (eF p0 nL1 (i64.wrap (v3+1))))))))) else (some (decide ((List.length p0.Caches:Int)≤4)))
def tY (p0:M.aO):Option Bool:=
 eF p0 fuel 0
def iR (p0:M.Database) (p1:ByteArray):Nat→Int→Option Int
 | 0,_=>none
 | nL1+1,v5=>if (decide (v5<(List.length p0.Stores:Int)))=true then ((idx p0.Stores v5).bind fun x7=>(if (x7.Name.toList==p1.toList)=true then (some v5) else (iR p0 p1 nL1 (i64.wrap (v5+1))))) else (some (-1))
def vZ (p0:M.Database) (p1:ByteArray):Option Int:=
 iR p0 p1 fuel 0
def lS (p0:M.aW) (p1:ByteArray):Nat→Int→Option (Int×Bool)
 | 0,_=>none
 | nL1+1,v6=>if (decide (v6<(List.length p0.Fields:Int)))=true then ((idx p0.Fields v6).bind fun x7=>(if (x7.Name.toList==p1.toList)=true then (some (x7.N,true)) else (lS p0 p1 nL1 (i64.wrap (v6+1))))) else (some (0,false))
def lF (p0:M.aW) (p1:ByteArray):Option (Int×Bool):=
 lS p0 p1 fuel 0
def aCH (p0:M.Item) (p1:M.Item) (p2:ByteArray):Option Bool:=
 (lF p0.aW p2).bind fun x1=>((lF p1.aW p2).bind fun x3=>(if (decide (x1.1<x3.1))=true then (some true) else (if (x1.1==x3.1)=true then ((lV p0.Key p1.Key).bind fun x7=>(some (decide (x7<0)))) else (some false))))
def kF (p1:ByteArray) (r50000:List M.Item) (x15:M.Item) (k24:Int→Option (List M.Item)):Nat→Int→Option (List M.Item)
 | 0,_=>none
 | nL2+1,v9_L2=>if (decide (v9_L2>0))=true then ((idx r50000 (i64.wrap (v9_L2-1))).bind fun x34=>((aCH x15 x34 p1).bind fun x39=>(if x39=true then (kF p1 r50000 x15 k24 nL2 (i64.wrap (v9_L2-1))) else (k24 v9_L2)))) else (k24 v9_L2)
def iV (p0:M.aH) (p1:ByteArray):Nat→Int→List M.Item→Option (List M.Item)
 | 0,_,_=>none
 | nL1+1,v6,r50000=>if (decide (v6<(List.length p0.Items:Int)))=true then ((idx p0.Items v6).bind fun x15=>((lF x15.aW p1).bind fun x20=>(if (!x20.2)=true then (iV p0 p1 nL1 (i64.wrap (v6+1)) r50000) else (kF p1 r50000 x15 (fun (v9_L2:Int)=>(aHz r50000 v9_L2).bind fun x79=>((app 56 ([]:List M.Item) (List.take v9_L2.toNat r50000)).bind fun x81=>((aAG x15).bind fun x93=>((app 56 (List.take v9_L2.toNat r50000) ([x93])).bind fun x95=>((app 56 ((List.take v9_L2.toNat r50000)++[x93]) (List.drop v9_L2.toNat r50000)).bind fun x107=>(iV p0 p1 nL1 (i64.wrap (v6+1)) (((List.take v9_L2.toNat r50000)++[x93])++(List.drop v9_L2.toNat r50000)))))))) fuel (List.length r50000:Int))))) else (some r50000)
def aAw (p0:M.aH) (p1:ByteArray):Option (List M.Item):=
 iV p0 p1 fuel 0 ([]:List M.Item)
def jC (p1:ByteArray) (x1:(List M.Item)):Nat→Int→Option (M.Key×M.Key×Bool)
 | 0,_=>none
 | nL1+1,v8=>if (decide (v8<(List.length x1:Int)))=true then ((idx x1 (i64.wrap (v8-1))).bind fun x13=>((lF x13.aW p1).bind fun x18=>((idx x1 v8).bind fun x20=>((lF x20.aW p1).bind fun x25=>(if (x18.1==x25.1)=true then (some (x13.Key,x20.Key,true)) else (jC p1 x1 nL1 (i64.wrap (v8+1)))))))) else (some ((⟨0,0,(⟨#[]⟩:ByteArray)⟩:M.Key),(⟨0,0,(⟨#[]⟩:ByteArray)⟩:M.Key),false))
def pJ (p0:M.aH) (p1:ByteArray):Option (M.Key×M.Key×Bool):=
 (aAw p0 p1).bind fun x1=>(jC p1 x1 fuel 1)
def fP (p0:M.Database) (v4:Int) (x26:M.aE) (k46:Int→Option Bool):Nat→Int→Option Bool
 | 0,_=>none
 | nL3+1,v9_L3=>if (decide (v9_L3<v4))=true then ((idx p0.Unique v9_L3).bind fun x53=>(if ((x53.aH.toList==x26.aH.toList)&&(x53.Field.toList==x26.Field.toList))=true then (some false) else (fP p0 v4 x26 k46 nL3 (i64.wrap (v9_L3+1))))) else (k46 v9_L3)
def eN (p0:M.Database):Nat→Int→Option Bool
 | 0,_=>none
 | nL2+1,v4=>if (decide (v4<(List.length p0.Unique:Int)))=true then ((idx p0.Unique v4).bind fun x26=>((vZ p0 x26.aH).bind fun x31=>(if (decide (x31<0))=true then (some false) else ((cG x26.Field).bind fun x34=>(if (!x34)=true then (some false) else ((idx p0.Stores x31).bind fun x37=>((pJ x37 x26.Field).bind fun x42=>(if x42.2.2=true then (some false) else (fP p0 v4 x26 (fun (v9_L3:Int)=>eN p0 nL2 (i64.wrap (v4+1))) fuel 0))))))))) else ((cG p0.Name).bind fun x59=>(if x59=true then ((bG p0.Version 0 1000).bind fun x62=>(if x62=true then (if (decide ((List.length p0.Stores:Int)≤4))=true then (some (decide ((List.length p0.Unique:Int)≤4))) else (some false)) else (some false))) else (some false)))
def eM (p0:M.Database):Nat→Int→Option Bool
 | 0,_=>none
 | nL1+1,v3=>if (decide (v3<(List.length p0.Stores:Int)))=true then ((idx p0.Stores v3).bind fun x6=>((rX x6).bind fun x11=>(if (!x11)=true then (some false) else (if (decide (v3>0))=true then ((idx p0.Stores (i64.wrap (v3-1))).bind fun x15=>(if (!(Op.bytesLess x15.Name.toList x6.Name.toList))=true then (some false) else (eM p0 nL1 (i64.wrap (v3+1))))) else (eM p0 nL1 (i64.wrap (v3+1))))))) else (eN p0 fuel 0)
def sQ (p0:M.Database):Option Bool:=
 eM p0 fuel 0
def jL (p0:M.aR):Nat→Int→Option Bool
 | 0,_=>none
 | nL1+1,v4=>if (decide (v4<(List.length p0.Writes:Int)))=true then ((idx p0.Writes v4).bind fun x14=>((jX x14).bind fun x19=>(if (!x19)=true then (some false) else (if (x14.Device != p0.Device)=true then (some false) else (if (x14.Seq != (i64.wrap ((i64.wrap (p0.Next-(List.length p0.Writes:Int)))+v4)))=true then (some false) else (jL p0 nL1 (i64.wrap (v4+1)))))))) else (some true)
def uC (p0:M.aR):Option Bool:=
 (bG p0.Device 1 1000000).bind fun x1=>(if (!x1)=true then (some false) else ((bG p0.Next 1 1000000).bind fun x4=>(if (!x4)=true then (some false) else (if (decide ((List.length p0.Writes:Int)>20))=true then (some false) else (jL p0 fuel 0)))))
def wG (p0:M.aD):Option Bool:=
 (rX p0.Base).bind fun x1=>(if x1=true then (if (p0.Base.Name.toList==(⟨#[110,111,116,101,115]⟩:ByteArray).toList)=true then ((bG p0.Seen 0 1000000000000).bind fun x5=>(if x5=true then ((uC p0.Sync.aR).bind fun x8=>(some x8)) else (some false))) else (some false)) else (some false))
def tC (p0:M.Response) (p1:Bool):Option Int:=
 if p1=true then (some 76) else (some (i64.wrap (16+(List.length p0.Body:Int))))
def hJ (p0:M.aO) (v4:Int) (k8:Int→Int→Option Int):Nat→Int→Int→Option Int
 | 0,_,_=>none
 | nL2+1,v3_L2,v5_L2=>(idx p0.Caches v4).bind fun x15=>(if (decide (v5_L2<(List.length x15.Entries:Int)))=true then ((idx x15.Entries v5_L2).bind fun x21=>((tC x21.Response (x21.Response.Type_==3)).bind fun x26=>(hJ p0 v4 k8 nL2 (i64.wrap (v3_L2+x26)) (i64.wrap (v5_L2+1))))) else (k8 v3_L2 v5_L2))
def eB (p0:M.aO):Nat→Int→Int→Option Int
 | 0,_,_=>none
 | nL1+1,v3,v4=>if (decide (v4<(List.length p0.Caches:Int)))=true then (hJ p0 v4 (fun (v3_L2:Int) (v5_L2:Int)=>eB p0 nL1 v3_L2 (i64.wrap (v4+1))) fuel v3 0) else (some v3)
def sP (p0:M.aO):Option Int:=
 eB p0 fuel 0 0
def cY (p0:M.Key):Nat→Int→List Int→Option (List Int)
 | 0,_,_=>none
 | nL1+1,v4,r12=>if (decide (v4≥0))=true then (if (p0.Kind != 2)=true then (if (decide (0≤(i64.wrap (8*v4))))=true then ((app 1 r12 ([(IntKind.u8.wrap (i64.wrap (BitVec.ofInt (IntKind.i64.bits) (Int.fdiv (i64.wrap (p0.N+1000000000000)) (2^(min (i64.wrap (8*v4)).toNat IntKind.i64.bits)))&&&BitVec.ofInt (IntKind.i64.bits) 255).toNat))])).bind fun x18=>(cY p0 nL1 (i64.wrap (v4-1)) (r12++[(IntKind.u8.wrap (i64.wrap (BitVec.ofInt (IntKind.i64.bits) (Int.fdiv (i64.wrap (p0.N+1000000000000)) (2^(min (i64.wrap (8*v4)).toNat IntKind.i64.bits)))&&&BitVec.ofInt (IntKind.i64.bits) 255).toNat))]))) else none) else ((app 1 r12 (fD p0.Text)).bind fun x26=>(some (r12++(fD p0.Text))))) else ((app 1 r12 (fD p0.Text)).bind fun x28=>(some (r12++(fD p0.Text))))
def wD (p0:M.Key):Option (List Int):=
 (pE p0).bind fun x1=>(if (!x1)=true then (some ([]:List Int)) else (cY p0 fuel 5 ([(IntKind.u8.wrap p0.Kind)])))
def fM  : Nat→Int→List Int→Option (List Int)
 | 0,_,_=>none
 | nL1+1,v1,r6=>if (decide (v1>127))=true then ((app 1 r6 ([(IntKind.u8.wrap (i64.wrap (BitVec.ofInt (IntKind.i64.bits) (i64.wrap (BitVec.ofInt (IntKind.i64.bits) v1&&&BitVec.ofInt (IntKind.i64.bits) 127).toNat)|||BitVec.ofInt (IntKind.i64.bits) 128).toNat))])).bind fun x15=>(fM nL1 (Int.fdiv v1 (2^(min (7:Int).toNat IntKind.i64.bits))) (r6++[(IntKind.u8.wrap (i64.wrap (BitVec.ofInt (IntKind.i64.bits) (i64.wrap (BitVec.ofInt (IntKind.i64.bits) v1&&&BitVec.ofInt (IntKind.i64.bits) 127).toNat)|||BitVec.ofInt (IntKind.i64.bits) 128).toNat))]))) else ((app 1 r6 ([(IntKind.u8.wrap v1)])).bind fun x21=>(some (r6++[(IntKind.u8.wrap v1)])))
def hO (p0:List Int) (p1:Int):Option (List Int):=
 (app 1 ([]:List Int) p0).bind fun x1=>((bG p1 0 1000000000000).bind fun x7=>(if (!x7)=true then (some p0) else (fM fuel p1 p0)))
def pI (p0:List Int) (p1:List Int):Option (List Int):=
 (hO p0 (List.length p1:Int)).bind fun x1=>((app 1 x1 p1).bind fun x3=>(some (x1++p1)))
def fW (p0:M.aW):Nat→Int→List Int→Option (List Int)
 | 0,_,_=>none
 | nL1+1,v4,r50000=>if (decide (v4<(List.length p0.Fields:Int)))=true then ((idx p0.Fields v4).bind fun x18=>((pI r50000 (fD x18.Name)).bind fun x23=>((hO x23 x18.N).bind fun x25=>(fW p0 nL1 (i64.wrap (v4+1)) x25)))) else (some r50000)
def oH (p0:M.aW):Option (List Int):=
 (uM p0).bind fun x1=>(if (!x1)=true then (some ([]:List Int)) else ((hO ([]:List Int) (List.length p0.Fields:Int)).bind fun x4=>(fW p0 fuel 0 x4)))
def iL (p0:M.aH):Nat→Int→Int→Option Int
 | 0,_,_=>none
 | nL1+1,v3,v4=>if (decide (v4<(List.length p0.Items:Int)))=true then ((idx p0.Items v4).bind fun x7=>((wD x7.Key).bind fun x12=>((oH x7.aW).bind fun x14=>(iL p0 nL1 (i64.wrap ((i64.wrap (v3+(List.length x12:Int)))+(List.length x14:Int))) (i64.wrap (v4+1)))))) else (some v3)
def pA (p0:M.aH):Option Int:=
 iL p0 fuel 0 0
def fV (p0:M.Database):Nat→Int→Int→Option Int
 | 0,_,_=>none
 | nL1+1,v3,v4=>if (decide (v4<(List.length p0.Stores:Int)))=true then ((idx p0.Stores v4).bind fun x7=>((pA x7).bind fun x12=>(fV p0 nL1 (i64.wrap (v3+x12)) (i64.wrap (v4+1))))) else (some v3)
def oD (p0:M.Database):Option Int:=
 fV p0 fuel 0 0
def aB9 (p0:M.bC):Option Int:=
 (oD p0.Base).bind fun x1=>(some (i64.wrap (x1+(List.length p0.Log:Int))))
def aA8 (p0:M.aC):Option Int:=
 (sP p0.Caches).bind fun x1=>((aB9 p0.bC).bind fun x3=>((pA p0.aD.Base).bind fun x5=>(some (i64.wrap ((i64.wrap ((i64.wrap (x1+x3))+x5))+(i64.wrap (40*(List.length p0.aD.Sync.aR.Writes:Int))))))))
def tN (p0:M.aC):Option Bool:=
 (cG p0.Site).bind fun x1=>(if x1=true then ((cG p0.Top).bind fun x4=>(if x4=true then ((jE p0.Registration).bind fun x7=>(if x7=true then (if (p0.Registration.Site.toList==p0.Site.toList)=true then ((tY p0.Caches).bind fun x11=>(if x11=true then ((sQ p0.bC.Base).bind fun x14=>(if x14=true then ((wG p0.aD).bind fun x17=>(if x17=true then ((bG p0.LastUsed 0 1000000000000).bind fun x20=>(if x20=true then ((aA8 p0).bind fun x23=>(some (decide (x23≤2500)))) else (some false))) else (some false))) else (some false))) else (some false))) else (some false)) else (some false))) else (some false))) else (some false))
def xS (p0:M.aC) (p1:ByteArray) (p2:ByteArray):Option Bool:=
 if (Op.bytesLess p0.Site.toList p1.toList)=true then (some true) else (if (p0.Site.toList==p1.toList)=true then (some (Op.bytesLess p0.Top.toList p2.toList)) else (some false))
def fL (p0:M.aA):Nat→Int→Option Bool
 | 0,_=>none
 | nL1+1,v3=>if (decide (v3<(List.length p0.Buckets:Int)))=true then ((idx p0.Buckets v3).bind fun x6=>((tN x6).bind fun x11=>(if (!x11)=true then (some false) else (if (decide (v3>0))=true then ((idx p0.Buckets (i64.wrap (v3-1))).bind fun x15=>((xS x15 x6.Site x6.Top).bind fun x20=>(if (!x20)=true then (some false) else (fL p0 nL1 (i64.wrap (v3+1)))))) else (fL p0 nL1 (i64.wrap (v3+1))))))) else (some (decide ((List.length p0.Buckets:Int)≤9)))
def bW (p0:M.aA):Option Bool:=
 fL p0 fuel 0
def dF (p0:ByteArray):Nat→Int→Option Bool
 | 0,_=>none
 | nL1+1,v3=>if (decide (v3<(p0.size:Int)))=true then ((aP6 p0 v3).bind fun x5=>(if (decide ((x5.toNat:Int)<97))=true then (if ((x5.toNat:Int) != 47)=true then (some false) else (dF p0 nL1 (i64.wrap (v3+1)))) else (if (decide ((x5.toNat:Int)>122))=true then (if ((x5.toNat:Int) != 47)=true then (some false) else (dF p0 nL1 (i64.wrap (v3+1)))) else (dF p0 nL1 (i64.wrap (v3+1)))))) else ((bG (p0.size:Int) 1 30).bind fun x13=>(some x13))
def sG (p0:ByteArray):Option Bool:=
 dF p0 fuel 0
def bZ (p0:M.aQ) (v3:Int) (x6:M.cJ) (k18:Int→Option Bool):Nat→Int→Option Bool
 | 0,_=>none
 | nL2+1,v5_L2=>if (decide (v5_L2<v3))=true then ((idx p0.Locks v5_L2).bind fun x27=>(if x6.Held=true then (if (x27.Name.toList==x6.Name.toList)=true then (if (!x27.Held)=true then (some false) else (if (!x6.Shared)=true then (some false) else (if (!x27.Shared)=true then (some false) else (bZ p0 v3 x6 k18 nL2 (i64.wrap (v5_L2+1)))))) else (bZ p0 v3 x6 k18 nL2 (i64.wrap (v5_L2+1)))) else (bZ p0 v3 x6 k18 nL2 (i64.wrap (v5_L2+1))))) else (k18 v5_L2)
def eZ (p0:M.aQ):Nat→Int→Option Bool
 | 0,_=>none
 | nL1+1,v3=>if (decide (v3<(List.length p0.Locks:Int)))=true then ((idx p0.Locks v3).bind fun x6=>((sG x6.Name).bind fun x11=>(if (!x11)=true then (some false) else ((bG x6.bH 1 1000000000000).bind fun x14=>(if (!x14)=true then (some false) else (bZ p0 v3 x6 (fun (v5_L2:Int)=>eZ p0 nL1 (i64.wrap (v3+1))) fuel 0)))))) else (some (decide ((List.length p0.Locks:Int)≤12)))
def rL (p0:M.aQ):Option Bool:=
 eZ p0 fuel 0
def dL (p0:M.World):Nat→Int→Option Bool
 | 0,_=>none
 | nL2+1,v4=>if (decide (v4<(List.length p0.Pages:Int)))=true then ((idx p0.Pages v4).bind fun x38=>((mV x38).bind fun x43=>(if (!x43)=true then (some false) else (if (decide (x38.Id≥p0.NextPage))=true then (some false) else (if (decide (v4>0))=true then ((idx p0.Pages (i64.wrap (v4-1))).bind fun x48=>(if (decide (x48.Id≥x38.Id))=true then (some false) else ((gS p0.aA x38.Site x38.Top).bind fun x54=>(if (decide (x54<0))=true then (some false) else (dL p0 nL2 (i64.wrap (v4+1))))))) else ((gS p0.aA x38.Site x38.Top).bind fun x57=>(if (decide (x57<0))=true then (some false) else (dL p0 nL2 (i64.wrap (v4+1)))))))))) else ((bG p0.Now 0 999999990000).bind fun x60=>(if x60=true then ((bG p0.Device 1 1000000).bind fun x63=>(if x63=true then ((bW p0.aA).bind fun x66=>(if x66=true then ((bG p0.NextPage 1 1000000000000).bind fun x69=>(if x69=true then ((rL p0.Locks).bind fun x72=>(some x72)) else (some false))) else (some false))) else (some false))) else (some false)))
def iY (p0:M.World):Nat→Int→Option Bool
 | 0,_=>none
 | nL1+1,v3=>if (decide (v3<3))=true then ((idx p0.Sites v3).bind fun x9=>((vC x9).bind fun x14=>(if (!x14)=true then (some false) else ((sW).bind fun x17=>((idx x17 v3).bind fun x19=>(if (!(x9.Name.toList==x19.toList))=true then (some false) else ((idx p0.Servers v3).bind fun x25=>((zS x25).bind fun x30=>(if (!x30)=true then (some false) else (iY p0 nL1 (i64.wrap (v3+1)))))))))))) else (dL p0 fuel 0)
def lA (p0:M.World):Option Bool:=
 if ((List.length p0.Sites:Int) != 3)=true then (some false) else (if ((List.length p0.Servers:Int) != 3)=true then (some false) else (if (decide ((List.length p0.Pages:Int)>6))=true then (some false) else (iY p0 fuel 0)))
def uX (p0:M.World):Option Int:=
 some (i64.wrap ((i64.wrap (1000*p0.Device))+p0.NextPage))
def aBF (p0:Int):Option (M.aR×Bool):=
 (uC (⟨p0,1,([]:List M.aZ)⟩:M.aR)).bind fun x1=>(if (!x1)=true then (some ((⟨0,0,([]:List M.aZ)⟩:M.aR),false)) else (some ((⟨p0,1,([]:List M.aZ)⟩:M.aR),true)))
def vV (p0:ByteArray) (p1:ByteArray) (p2:Int):Option (M.aC×Bool):=
 (aBF p2).bind fun x1=>(if (!x1.2)=true then (some ((⟨(⟨#[]⟩:ByteArray),(⟨#[]⟩:ByteArray),(⟨(⟨#[]⟩:ByteArray),0,0,0⟩:M.Registration),(⟨([]:List M.Cache)⟩:M.aO),(⟨(⟨(⟨#[]⟩:ByteArray),0,([]:List M.aH),([]:List M.aE)⟩:M.Database),([]:List Int),0⟩:M.bC),(⟨(⟨(⟨#[]⟩:ByteArray),([]:List M.Item),0⟩:M.aH),0,(⟨(⟨0,0,([]:List M.aZ)⟩:M.aR),0,0⟩:M.Sync)⟩:M.aD),0,false⟩:M.aC),false)) else ((tN (⟨p0,p1,(⟨p0,0,0,0⟩:M.Registration),(⟨([]:List M.Cache)⟩:M.aO),(⟨(⟨(⟨#[97,112,112]⟩:ByteArray),1,[(⟨(⟨#[110,111,116,101,115]⟩:ByteArray),([]:List M.Item),0⟩:M.aH)],([]:List M.aE)⟩:M.Database),([]:List Int),0⟩:M.bC),(⟨(⟨(⟨#[110,111,116,101,115]⟩:ByteArray),([]:List M.Item),0⟩:M.aH),0,(⟨x1.1,0,0⟩:M.Sync)⟩:M.aD),0,false⟩:M.aC)).bind fun x14=>(if (!x14)=true then (some ((⟨(⟨#[]⟩:ByteArray),(⟨#[]⟩:ByteArray),(⟨(⟨#[]⟩:ByteArray),0,0,0⟩:M.Registration),(⟨([]:List M.Cache)⟩:M.aO),(⟨(⟨(⟨#[]⟩:ByteArray),0,([]:List M.aH),([]:List M.aE)⟩:M.Database),([]:List Int),0⟩:M.bC),(⟨(⟨(⟨#[]⟩:ByteArray),([]:List M.Item),0⟩:M.aH),0,(⟨(⟨0,0,([]:List M.aZ)⟩:M.aR),0,0⟩:M.Sync)⟩:M.aD),0,false⟩:M.aC),false)) else (some ((⟨p0,p1,(⟨p0,0,0,0⟩:M.Registration),(⟨([]:List M.Cache)⟩:M.aO),(⟨(⟨(⟨#[97,112,112]⟩:ByteArray),1,[(⟨(⟨#[110,111,116,101,115]⟩:ByteArray),([]:List M.Item),0⟩:M.aH)],([]:List M.aE)⟩:M.Database),([]:List Int),0⟩:M.bC),(⟨(⟨(⟨#[110,111,116,101,115]⟩:ByteArray),([]:List M.Item),0⟩:M.aH),0,(⟨x1.1,0,0⟩:M.Sync)⟩:M.aD),0,false⟩:M.aC),true)))))
def iP (p0:M.aA) (p1:M.aC) (x1:M.aA):Nat→Int→Option (M.aA×Bool)
 | 0,_=>none
 | nL1+1,v8=>if (decide (v8<(List.length p0.Buckets:Int)))=true then ((idx p0.Buckets v8).bind fun x43=>((xS x43 p1.Site p1.Top).bind fun x48=>(if x48=true then (iP p0 p1 x1 nL1 (i64.wrap (v8+1))) else ((aHz x1.Buckets v8).bind fun x51=>((app 328 ([]:List M.aC) (List.take v8.toNat x1.Buckets)).bind fun x53=>((jH p1).bind fun x68=>((app 328 (List.take v8.toNat x1.Buckets) ([x68])).bind fun x70=>((app 328 ((List.take v8.toNat x1.Buckets)++[x68]) (List.drop v8.toNat x1.Buckets)).bind fun x83=>((bW p0).bind fun x93=>(if (!x93)=true then ((eW p0).bind fun x96=>(some (x96,false))) else ((bW (⟨(((List.take v8.toNat x1.Buckets)++[x68])++(List.drop v8.toNat x1.Buckets))⟩:M.aA)).bind fun x98=>(if (!x98)=true then ((eW p0).bind fun x101=>(some (x101,false))) else (some ((⟨(((List.take v8.toNat x1.Buckets)++[x68])++(List.drop v8.toNat x1.Buckets))⟩:M.aA),true)))))))))))))) else ((aHz x1.Buckets v8).bind fun x103=>((app 328 ([]:List M.aC) (List.take v8.toNat x1.Buckets)).bind fun x105=>((jH p1).bind fun x120=>((app 328 (List.take v8.toNat x1.Buckets) ([x120])).bind fun x122=>((app 328 ((List.take v8.toNat x1.Buckets)++[x120]) (List.drop v8.toNat x1.Buckets)).bind fun x135=>((bW p0).bind fun x145=>(if (!x145)=true then ((eW p0).bind fun x148=>(some (x148,false))) else ((bW (⟨(((List.take v8.toNat x1.Buckets)++[x120])++(List.drop v8.toNat x1.Buckets))⟩:M.aA)).bind fun x150=>(if (!x150)=true then ((eW p0).bind fun x153=>(some (x153,false))) else (some ((⟨(((List.take v8.toNat x1.Buckets)++[x120])++(List.drop v8.toNat x1.Buckets))⟩:M.aA),true)))))))))))
def mB (p0:M.aA) (p1:M.aC):Option (M.aA×Bool):=
 (eW p0).bind fun x1=>((gS p0 p1.Site p1.Top).bind fun x3=>(if (decide (x3≥0))=true then ((jH p1).bind fun x6=>((idx x1.Buckets x3).bind fun x8=>((bW p0).bind fun x21=>(if (!x21)=true then ((eW p0).bind fun x24=>(some (x24,false))) else ((bW (⟨(List.set x1.Buckets x3.toNat x6)⟩:M.aA)).bind fun x26=>(if (!x26)=true then ((eW p0).bind fun x29=>(some (x29,false))) else (some ((⟨(List.set x1.Buckets x3.toNat x6)⟩:M.aA),true)))))))) else (iP p0 p1 x1 fuel 0)))
def kN (p0:M.Registration) (p1:M.Site) (p2:Bool):Option Int:=
 if (p0.Active != 0)=true then (some p0.Active) else (if p2=true then (some p1.Version) else (some 0))
def xQ (p0:M.Instr) (p1:Int):Option Bool:=
 (if (p0.Kind==5)=true then (some true) else ((bG p0.Kind 6 8).bind fun x9=>(some x9))).bind fun x1=>((if (p0.Kind==1)=true then (some 1000) else (if (p0.Kind==2)=true then (some 3) else ((if (p0.Kind==3)=true then (some (p0.Kind==3)) else (some (p0.Kind==4))).bind fun x20=>(if x20=true then (some p1) else ((if (p0.Kind==6)=true then (some (p0.Kind==6)) else (if (p0.Kind==7)=true then (some (p0.Kind==7)) else (some (p0.Kind==8)))).bind fun x32=>(if x32=true then (some 100) else (some 0))))))).bind fun x11=>(((bG p0.Kind 1 9).bind fun x50=>(if (!x50)=true then (some true) else ((bG p0.R 0 3).bind fun x53=>(if (!x53)=true then (some true) else ((bG p0.N 0 x11).bind fun x56=>(some (!x56))))))).bind fun x43=>(if x43=true then (some false) else ((if (p0.Kind==4)=true then (some (p0.R != 0)) else (if (p0.Kind==9)=true then (some (p0.R != 0)) else (some false))).bind fun x59=>(if x59=true then (some false) else ((if x1=true then ((cG p0.Text).bind fun x74=>(if x74=true then (some true) else (some false))) else (some (p0.Text.toList==(⟨#[]⟩:ByteArray).toList))).bind fun x69=>(some x69)))))))
def jQ (p0:List M.Instr):Nat→Int→Option Bool
 | 0,_=>none
 | nL1+1,v3=>if (decide (v3<(List.length p0:Int)))=true then ((idx p0 v3).bind fun x5=>((xQ x5 (List.length p0:Int)).bind fun x10=>(if (!x10)=true then (some false) else (jQ p0 nL1 (i64.wrap (v3+1)))))) else (some (decide ((List.length p0:Int)≤16)))
def zY (p0:List M.Instr):Option Bool:=
 jQ p0 fuel 0
def tW (p0:List M.Instr):Option M.Machine:=
 (zY p0).bind fun x8=>(if (!x8)=true then (some (⟨([]:List M.Instr),0,[0,0,0,0],0,true,false⟩:M.Machine)) else ((oY p0).bind fun x11=>(some (⟨x11,0,[0,0,0,0],0,false,false⟩:M.Machine))))
def mH (p0:Int) (p1:ByteArray) (p2:ByteArray) (p3:Int) (p4:List M.Instr):Option (M.bH×Bool):=
 (tW p4).bind fun x1=>((mV (⟨p0,p1,p2,p3,([]:List M.aK),x1⟩:M.bH)).bind fun x3=>(if (!x3)=true then (some ((⟨0,(⟨#[]⟩:ByteArray),(⟨#[]⟩:ByteArray),0,([]:List M.aK),(⟨([]:List M.Instr),0,([]:List Int),0,false,false⟩:M.Machine)⟩:M.bH),false)) else (some ((⟨p0,p1,p2,p3,([]:List M.aK),x1⟩:M.bH),true))))
def cK  : Option M.Response:=
 some (⟨4,0,0,([]:List Int),false⟩:M.Response)
def iJ (p0:M.aO) (p1:Int):Nat→Int→Option Int
 | 0,_=>none
 | nL1+1,v5=>if (decide (v5<(List.length p0.Caches:Int)))=true then ((idx p0.Caches v5).bind fun x7=>(if (x7.Version==p1)=true then (some v5) else (iJ p0 p1 nL1 (i64.wrap (v5+1))))) else (some (-1))
def xN (p0:M.aO) (p1:Int):Option Int:=
 iJ p0 p1 fuel 0
def jF (p0:M.Cache) (p1:ByteArray) (p2:ByteArray):Nat→Int→Option Int
 | 0,_=>none
 | nL1+1,v7=>if (decide (v7<(List.length p0.Entries:Int)))=true then ((idx p0.Entries v7).bind fun x8=>(if (x8.Site.toList==p1.toList)=true then (if (x8.Path.toList==p2.toList)=true then (some v7) else (jF p0 p1 p2 nL1 (i64.wrap (v7+1)))) else (jF p0 p1 p2 nL1 (i64.wrap (v7+1))))) else (some (-1))
def aAX (p0:M.Cache) (p1:ByteArray) (p2:ByteArray):Option Int:=
 jF p0 p1 p2 fuel 0
def sY (p0:M.aO) (p1:Int) (p2:ByteArray) (p3:ByteArray):Option (M.Response×Bool):=
 (xN p0 p1).bind fun x1=>(if (decide (x1<0))=true then ((cK).bind fun x4=>(some (x4,false))) else ((idx p0.Caches x1).bind fun x6=>((aAX x6 p2 p3).bind fun x11=>(if (decide (x11<0))=true then ((cK).bind fun x14=>(some (x14,false))) else ((idx x6.Entries x11).bind fun x16=>((rU x16.Response).bind fun x21=>(some (x21,true))))))))
def aC4 (p0:Int) (p1:Int):Option Int:=
 if (decide (p1>p0))=true then (some p1) else (some p0)
def mR (p0:M.Site) (p1:Int):Option Bool:=
 (vC p0).bind fun x1=>(if x1=true then ((aC4 1 (i64.wrap ((i64.wrap (p0.Version-2))+1))).bind fun x4=>((bG p1 x4 p0.Version).bind fun x6=>(some x6))) else (some false))
def kL (p0:M.Site) (p1:ByteArray):Nat→Int→Option Bool
 | 0,_=>none
 | nL1+1,v5=>if (decide (v5<(List.length p0.Files:Int)))=true then ((idx p0.Files v5).bind fun x7=>(if (x7.toList==p1.toList)=true then (some true) else (kL p0 p1 nL1 (i64.wrap (v5+1))))) else (some false)
def aAZ (p0:M.Site) (p1:ByteArray):Option Bool:=
 kL p0 p1 fuel 0
def gG (p0:List Int):Nat→Int→List Int→Option (List Int)
 | 0,_,_=>none
 | nL1+1,v4,r7=>if (decide (v4<(List.length p0:Int)))=true then ((idx p0 v4).bind fun x11=>((app 8 r7 ([(i64.wrap x11)])).bind fun x16=>(gG p0 nL1 (i64.wrap (v4+1)) (r7++[(i64.wrap x11)])))) else (some r7)
def rM (p0:List Int):Option (List Int):=
 gG p0 fuel 0 ([(List.length p0:Int)])
def aDb (p0:Int) (p1:Int):Option Int:=
 (bG p1 1 1000000000000).bind fun x1=>(if (!x1)=true then (some 0) else (if (decide (p1=0))=true then none else (some (Int.tmod (i64.wrap ((Int.tmod p0 p1)+p1)) p1))))
def rT (p0:List Int):Nat→Int→Int→Option Int
 | 0,_,_=>none
 | nL1+1,v3,v4=>if (decide (v4<(List.length p0:Int)))=true then ((idx p0 v4).bind fun x6=>((aDb x6 2147483647).bind fun x11=>(rT p0 nL1 (Int.tmod (i64.wrap ((i64.wrap ((i64.wrap (v3*1000003))+x11))+13)) 2147483647) (i64.wrap (v4+1))))) else (some v3)
def aC7 (p0:List Int):Option Int:=
 rT p0 fuel 11 0
def oV (p0:Int) (p1:List Int):Option Int:=
 (app 8 ([p0]) p1).bind fun x1=>((app 8 ([p0]++p1) ([p0])).bind fun x3=>((aC7 (([p0]++p1)++[p0])).bind fun x5=>(some x5)))
def gO (p0:Int) (p1:ByteArray):Option Int:=
 (rM (fD p1)).bind fun x1=>((oV p0 x1).bind fun x3=>((aC4 1 x3).bind fun x5=>(some x5)))
def oR (x5:Int):Nat→Int→List Int→Option (List Int)
 | 0,_,_=>none
 | nL1+1,v9,r19=>if (decide (v9≥0))=true then (if (decide (0≤(i64.wrap (8*v9))))=true then ((app 1 r19 ([(IntKind.u8.wrap (i64.wrap (BitVec.ofInt (IntKind.i64.bits) (Int.fdiv x5 (2^(min (i64.wrap (8*v9)).toNat IntKind.i64.bits)))&&&BitVec.ofInt (IntKind.i64.bits) 255).toNat))])).bind fun x20=>(oR x5 nL1 (i64.wrap (v9-1)) (r19++[(IntKind.u8.wrap (i64.wrap (BitVec.ofInt (IntKind.i64.bits) (Int.fdiv x5 (2^(min (i64.wrap (8*v9)).toNat IntKind.i64.bits)))&&&BitVec.ofInt (IntKind.i64.bits) 255).toNat))]))) else none) else (some r19)
def aBu (p0:M.Site) (p1:ByteArray) (p2:Int):Option (List Int):=
 (gO 107 p0.Name).bind fun x1=>((gO 109 p1).bind fun x3=>((oV (i64.wrap (1+p2)) ([103,x1,x3])).bind fun x5=>(oR x5 fuel 5 ([]:List Int))))
def xI (p0:M.Site) (p1:ByteArray) (p2:Int):Option M.Response:=
 (vC p0).bind fun x1=>(if (!x1)=true then ((cK).bind fun x4=>(some x4)) else ((mR p0 p2).bind fun x6=>(if (!x6)=true then (some (⟨1,404,p0.Version,([]:List Int),false⟩:M.Response)) else ((aAZ p0 p1).bind fun x9=>(if (!x9)=true then (some (⟨1,404,p0.Version,([]:List Int),false⟩:M.Response)) else ((aBu p0 p1 p2).bind fun x12=>(some (⟨1,200,p2,x12,p0.Shared⟩:M.Response))))))))
def jP (p0:M.aO) (p1:M.Site) (p2:Int) (p3:ByteArray) (p4:Bool):Option M.Response:=
 (sY p0 p2 p1.Name p3).bind fun x1=>(if x1.2=true then (some x1.1) else (if p4=true then ((xI p1 p3 p2).bind fun x5=>(some x5)) else ((cK).bind fun x7=>(some x7))))
def jZ (p0:M.World) (p1:M.bH) (p2:ByteArray):Option M.Response:=
 (gS p0.aA p1.Site p1.Top).bind fun x1=>((kV p1.Site).bind fun x3=>(if (decide (x1<0))=true then ((cK).bind fun x6=>(some x6)) else (if (decide (x3<0))=true then ((cK).bind fun x9=>(some x9)) else ((idx p0.aA.Buckets x1).bind fun x11=>((idx p0.Sites x3).bind fun x16=>((jP x11.Caches x16 p1.Version p2 p0.Online).bind fun x21=>(some x21)))))))
def nX (p0:M.bH) (p1:ByteArray) (p2:M.Response):Option (M.bH×Bool):=
 (jJ p0).bind fun x1=>((app 24 x1.aK ([(⟨p1,p2.Version⟩:M.aK)])).bind fun x3=>(if (p2.Status != 200)=true then ((jJ p0).bind fun x18=>(some (x18,false))) else (if (p2.Version != p0.Version)=true then ((jJ p0).bind fun x21=>(some (x21,false))) else ((mV p0).bind fun x23=>(if (!x23)=true then ((jJ p0).bind fun x26=>(some (x26,false))) else ((mV (⟨x1.Id,x1.Site,x1.Top,x1.Version,(x1.aK++[(⟨p1,p2.Version⟩:M.aK)]),x1.Machine⟩:M.bH)).bind fun x28=>(if (!x28)=true then ((jJ p0).bind fun x31=>(some (x31,false))) else (some ((⟨x1.Id,x1.Site,x1.Top,x1.Version,(x1.aK++[(⟨p1,p2.Version⟩:M.aK)]),x1.Machine⟩:M.bH),true)))))))))
def yN (p0:M.World) (p1:ByteArray) (p2:ByteArray) (p3:List M.Instr):Option (M.World×Int×Bool):=
 (fO p0).bind fun x1=>((kV p1).bind fun x3=>((lA p0).bind fun x5=>(if (!x5)=true then (some (x1,0,false)) else (if (decide (x3<0))=true then (some (x1,0,false)) else ((kV p2).bind fun x9=>(if (decide (x9<0))=true then (some (x1,0,false)) else ((uX p0).bind fun x12=>((vV p1 p2 x12).bind fun x14=>((gS p0.aA p1 p2).bind fun x16=>(if (decide (x16≥0))=true then ((idx p0.aA.Buckets x16).bind fun x19=>((jH x19).bind fun x24=>((mB p0.aA (⟨x24.Site,x24.Top,x24.Registration,x24.Caches,x24.bC,x24.aD,p0.Now,x24.Persistent⟩:M.aC)).bind fun x26=>((idx p0.Sites x3).bind fun x57=>((kN x24.Registration x57 p0.Online).bind fun x62=>((mH p0.NextPage p1 p2 x62 p3).bind fun x64=>(if (!x26.2)=true then ((fO p0).bind fun x67=>(some (x67,0,false))) else (if (!x64.2)=true then ((fO p0).bind fun x70=>(some (x70,0,false))) else ((jZ (⟨x1.Now,x1.Online,x1.Device,x26.1,x1.Pages,x1.NextPage,x1.Locks,x1.Channel,x1.Sites,x1.Servers⟩:M.World) x64.1 (⟨#[105,110,100,101,120]⟩:ByteArray)).bind fun x72=>((nX x64.1 (⟨#[105,110,100,101,120]⟩:ByteArray) x72).bind fun x74=>((app 144 x1.Pages ([x74.1])).bind fun x76=>(if (!x74.2)=true then ((fO p0).bind fun x98=>(some (x98,0,false))) else ((lA (⟨x1.Now,x1.Online,x1.Device,x26.1,(x1.Pages++[x74.1]),(i64.wrap (p0.NextPage+1)),x1.Locks,x1.Channel,x1.Sites,x1.Servers⟩:M.World)).bind fun x100=>(if (!x100)=true then ((fO p0).bind fun x103=>(some (x103,0,false))) else (some ((⟨x1.Now,x1.Online,x1.Device,x26.1,(x1.Pages++[x74.1]),(i64.wrap (p0.NextPage+1)),x1.Locks,x1.Channel,x1.Sites,x1.Servers⟩:M.World),x64.1.Id,true)))))))))))))))) else ((mB p0.aA (⟨x14.1.Site,x14.1.Top,x14.1.Registration,x14.1.Caches,x14.1.bC,x14.1.aD,p0.Now,x14.1.Persistent⟩:M.aC)).bind fun x105=>((idx p0.Sites x3).bind fun x107=>((kN x14.1.Registration x107 p0.Online).bind fun x112=>((mH p0.NextPage p1 p2 x112 p3).bind fun x114=>(if (!x105.2)=true then ((fO p0).bind fun x137=>(some (x137,0,false))) else (if (!x114.2)=true then ((fO p0).bind fun x140=>(some (x140,0,false))) else ((jZ (⟨x1.Now,x1.Online,x1.Device,x105.1,x1.Pages,x1.NextPage,x1.Locks,x1.Channel,x1.Sites,x1.Servers⟩:M.World) x114.1 (⟨#[105,110,100,101,120]⟩:ByteArray)).bind fun x142=>((nX x114.1 (⟨#[105,110,100,101,120]⟩:ByteArray) x142).bind fun x144=>((app 144 x1.Pages ([x144.1])).bind fun x146=>(if (!x144.2)=true then ((fO p0).bind fun x168=>(some (x168,0,false))) else ((lA (⟨x1.Now,x1.Online,x1.Device,x105.1,(x1.Pages++[x144.1]),(i64.wrap (p0.NextPage+1)),x1.Locks,x1.Channel,x1.Sites,x1.Servers⟩:M.World)).bind fun x170=>(if (!x170)=true then ((fO p0).bind fun x173=>(some (x173,0,false))) else (some ((⟨x1.Now,x1.Online,x1.Device,x105.1,(x1.Pages++[x144.1]),(i64.wrap (p0.NextPage+1)),x1.Locks,x1.Channel,x1.Sites,x1.Servers⟩:M.World),x114.1.Id,true))))))))))))))))))))))))
def iG (p0:List Int):Option (List Int):=
 (app 1 ([]:List Int) p0).bind fun x1=>(some p0)
def iN (p0:M.Response):Option M.Response:=
 (iG p0.Body).bind fun x1=>(some (⟨p0.Type_,p0.Status,p0.Version,x1,p0.Shares⟩:M.Response))
def fS (x11:M.Cache) (k17:Int→List M.Cached→Option M.aO):Nat→Int→List M.Cached→Option M.aO
 | 0,_,_=>none
 | nL2+1,v23_L2,r50000_L2=>if (decide (v23_L2<(List.length x11.Entries:Int)))=true then ((idx x11.Entries v23_L2).bind fun x34=>((iN x34.Response).bind fun x39=>((app 88 r50000_L2 ([(⟨x34.Site,x34.Path,x39⟩:M.Cached)])).bind fun x41=>(fS x11 k17 nL2 (i64.wrap (v23_L2+1)) (r50000_L2++[(⟨x34.Site,x34.Path,x39⟩:M.Cached)]))))) else (k17 v23_L2 r50000_L2)
def eA (p0:M.aO):Nat→Int→List M.Cache→Option M.aO
 | 0,_,_=>none
 | nL1+1,v13,r50100=>if (decide (v13<(List.length p0.Caches:Int)))=true then ((idx p0.Caches v13).bind fun x11=>(fS x11 (fun (v23_L2:Int) (r50000_L2:List M.Cached)=>(app 32 r50100 ([(⟨x11.Version,r50000_L2⟩:M.Cache)])).bind fun x58=>(eA p0 nL1 (i64.wrap (v13+1)) (r50100++[(⟨x11.Version,r50000_L2⟩:M.Cache)]))) fuel 0 ([]:List M.Cached))) else (some (⟨r50100⟩:M.aO))
def nY (p0:M.aO):Option M.aO:=
 eA p0 fuel 0 ([]:List M.Cache)
def tK (p0:M.aW):Option M.aW:=
 (app 24 ([]:List M.Field) p0.Fields).bind fun x1=>(some p0)
def uD (p0:M.Item):Option M.Item:=
 (tK p0.aW).bind fun x1=>(some (⟨p0.Key,x1⟩:M.Item))
def iK (p0:M.aH):Nat→Int→List M.Item→Option M.aH
 | 0,_,_=>none
 | nL1+1,v14,r50000=>if (decide (v14<(List.length p0.Items:Int)))=true then ((idx p0.Items v14).bind fun x11=>((uD x11).bind fun x16=>((app 56 r50000 ([x16])).bind fun x18=>(iK p0 nL1 (i64.wrap (v14+1)) (r50000++[x16]))))) else (some (⟨p0.Name,r50000,p0.Auto⟩:M.aH))
def mK (p0:M.aH):Option M.aH:=
 iK p0 fuel 0 ([]:List M.Item)
def fU (p0:M.Database):Nat→Int→List M.aH→Option M.Database
 | 0,_,_=>none
 | nL1+1,v18,r50000=>if (decide (v18<(List.length p0.Stores:Int)))=true then ((idx p0.Stores v18).bind fun x22=>((mK x22).bind fun x27=>((app 48 r50000 ([x27])).bind fun x29=>(fU p0 nL1 (i64.wrap (v18+1)) (r50000++[x27]))))) else (some (⟨p0.Name,p0.Version,r50000,p0.Unique⟩:M.Database))
def oJ (p0:M.Database):Option M.Database:=
 (app 32 ([]:List M.aE) p0.Unique).bind fun x1=>(fU p0 fuel 0 ([]:List M.aH))
def yV (p0:M.bC):Option M.bC:=
 (oJ p0.Base).bind fun x1=>((iG p0.Log).bind fun x3=>(some (⟨x1,x3,p0.Count⟩:M.bC)))
def uF (p0:M.aR):Option M.aR:=
 (app 72 ([]:List M.aZ) p0.Writes).bind fun x1=>(some p0)
def zR (p0:M.Sync):Option M.Sync:=
 (uF p0.aR).bind fun x1=>(some (⟨x1,p0.Tries,p0.WaitUntil⟩:M.Sync))
def rE (p0:M.aD):Option M.aD:=
 (mK p0.Base).bind fun x1=>((zR p0.Sync).bind fun x3=>(some (⟨x1,p0.Seen,x3⟩:M.aD)))
def gP (p0:M.aC):Option M.aC:=
 (nY p0.Caches).bind fun x1=>((yV p0.bC).bind fun x3=>((rE p0.aD).bind fun x5=>(some (⟨p0.Site,p0.Top,p0.Registration,x1,x3,x5,p0.LastUsed,p0.Persistent⟩:M.aC))))
def gF (p0:M.aA):Nat→Int→List M.aC→Option M.aA
 | 0,_,_=>none
 | nL1+1,v10,r50000=>if (decide (v10<(List.length p0.Buckets:Int)))=true then ((idx p0.Buckets v10).bind fun x11=>((gP x11).bind fun x16=>((app 328 r50000 ([x16])).bind fun x18=>(gF p0 nL1 (i64.wrap (v10+1)) (r50000++[x16]))))) else (some (⟨r50000⟩:M.aA))
def bT (p0:M.aA):Option M.aA:=
 gF p0 fuel 0 ([]:List M.aC)
def qZ (p0:M.Machine):Option M.Machine:=
 (app 40 ([]:List M.Instr) p0.Script).bind fun x1=>((app 8 ([]:List Int) p0.Regs).bind fun x11=>(some p0))
def iD (p0:M.bH):Option M.bH:=
 (app 24 ([]:List M.aK) p0.aK).bind fun x1=>((qZ p0.Machine).bind fun x9=>(some (⟨p0.Id,p0.Site,p0.Top,p0.Version,p0.aK,x9⟩:M.bH)))
def iQ (p0:List M.bH):Nat→Int→List M.bH→Option (List M.bH)
 | 0,_,_=>none
 | nL1+1,v9,r6=>if (decide (v9<(List.length p0:Int)))=true then ((idx p0 v9).bind fun x12=>((iD x12).bind fun x17=>((app 144 r6 ([x17])).bind fun x19=>(iQ p0 nL1 (i64.wrap (v9+1)) (r6++[x17]))))) else (some r6)
def vU (p0:List M.bH):Option (List M.bH):=
 iQ p0 fuel 0 ([]:List M.bH)
def vX (p0:M.aQ):Option M.aQ:=
 (app 32 ([]:List M.cJ) p0.Locks).bind fun x1=>(some p0)
def rD (p0:M.Channel):Option M.Channel:=
 (app 24 ([]:List M.eU) p0.Mails).bind fun x1=>(some p0)
def zL (p0:M.Site):Option M.Site:=
 (app 16 ([]:List ByteArray) p0.Files).bind fun x1=>(some p0)
def tG (p0:M.Server):Option M.Server:=
 (mK p0.aH).bind fun x1=>((app 16 ([]:List M.aM) p0.aM).bind fun x3=>((app 72 ([]:List M.aZ) p0.Changes).bind fun x5=>(some (⟨x1,p0.aM,p0.Changes⟩:M.Server))))
def fE (p0:M.World) (x1:M.aA) (x3:(List M.bH)) (x5:M.aQ) (x7:M.Channel) (r50000:List M.Site):Nat→Int→List M.Server→Option M.World
 | 0,_,_=>none
 | nL2+1,v45,r50100=>if (decide (v45<(List.length p0.Servers:Int)))=true then ((idx p0.Servers v45).bind fun x64=>((tG x64).bind fun x69=>((app 96 r50100 ([x69])).bind fun x71=>(fE p0 x1 x3 x5 x7 r50000 nL2 (i64.wrap (v45+1)) (r50100++[x69]))))) else (some (⟨p0.Now,p0.Online,p0.Device,x1,x3,p0.NextPage,x5,x7,r50000,r50100⟩:M.World))
def gI (p0:M.World) (x1:M.aA) (x3:(List M.bH)) (x5:M.aQ) (x7:M.Channel):Nat→Int→List M.Site→Option M.World
 | 0,_,_=>none
 | nL1+1,v29,r50000=>if (decide (v29<(List.length p0.Sites:Int)))=true then ((idx p0.Sites v29).bind fun x25=>((zL x25).bind fun x30=>((app 56 r50000 ([x30])).bind fun x32=>(gI p0 x1 x3 x5 x7 nL1 (i64.wrap (v29+1)) (r50000++[x30]))))) else (fE p0 x1 x3 x5 x7 r50000 fuel 0 ([]:List M.Server))
def iF (p0:M.World):Option M.World:=
 (bT p0.aA).bind fun x1=>((vU p0.Pages).bind fun x3=>((vX p0.Locks).bind fun x5=>((rD p0.Channel).bind fun x7=>(gI p0 x1 x3 x5 x7 fuel 0 ([]:List M.Site)))))
def aY (p0:Int) (p1:Int) (p2:Int):Option Bool:=
 if (decide (p1≤p0))=true then (some (decide (p0≤p2))) else (some false)
def gL (p0:ByteArray) (p1:Int) (p2:Bool):Nat→Int→Option Bool
 | 0,_=>none
 | nL1+1,v7=>if (decide (v7<(p0.size:Int)))=true then ((aP6 p0 v7).bind fun x7=>(if (decide ((x7.toNat:Int)≥97))=true then (if (decide ((x7.toNat:Int)≤122))=true then (gL p0 p1 p2 nL1 (i64.wrap (v7+1))) else (if p2=true then (if (!((x7.toNat:Int)==47))=true then (some false) else (gL p0 p1 p2 nL1 (i64.wrap (v7+1)))) else (some false))) else (if p2=true then (if (!((x7.toNat:Int)==47))=true then (some false) else (gL p0 p1 p2 nL1 (i64.wrap (v7+1)))) else (some false)))) else ((aY (p0.size:Int) 1 p1).bind fun x17=>(some x17))
def aAD (p0:ByteArray) (p1:Int) (p2:Bool):Option Bool:=
 gL p0 p1 p2 fuel 0
def bR (p0:ByteArray):Option Bool:=
 (aAD p0 8 false).bind fun x1=>(some x1)
def dC (p0:M.Registration):Nat→Int→Int→Option Bool
 | 0,_,_=>none
 | nL1+1,v3,v14=>if (decide (v14<((3:Nat):Int)))=true then ((idx ([p0.Active,p0.Waiting,p0.Installing]) v14).bind fun x18=>((aY x18 0 1000000000000).bind fun x23=>(if (!x23)=true then (some false) else (if (x18 != 0)=true then (if (decide (x18≤v3))=true then (some false) else (dC p0 nL1 (if x18>v3 then x18 else v3) (i64.wrap (v14+1)))) else (dC p0 nL1 (if x18>v3 then x18 else v3) (i64.wrap (v14+1))))))) else ((bR p0.Site).bind fun x28=>(some x28))
def rK (p0:M.Registration):Option Bool:=
 dC p0 fuel 0 0
def oQ (p0:M.Cached) (c0:ByteArray) (c1:ByteArray):Option Bool:=
 if (p0.Site.toList==c0.toList)=true then (some (p0.Path.toList==c1.toList)) else (some false)
def bV (p0:List M.Cached) (p1:M.Cached→Option Bool):Nat→Int→Option Int
 | 0,_=>none
 | nL1+1,v8=>if (decide (v8<(List.length p0:Int)))=true then ((idx p0 v8).bind fun x7=>((p1 x7).bind fun x12=>(if x12=true then (some v8) else (bV p0 p1 nL1 (i64.wrap (v8+1)))))) else (some (-1))
def iC (p0:List M.Cached) (p1:M.Cached→Option Bool):Option Int:=
 bV p0 p1 fuel 0
def kZ (p0:M.Cache) (p1:ByteArray) (p2:ByteArray):Option Int:=
 (iC p0.Entries (fun z0=>oQ z0 p1 p2)).bind fun x1=>(some x1)
def nB (p0:M.Response):Option Bool:=
 (aY p0.Type_ 1 4).bind fun x1=>(if x1=true then ((aY p0.Status 0 999).bind fun x4=>(if x4=true then ((aY p0.Version 0 1000000000000).bind fun x7=>(if x7=true then (some (decide ((List.length p0.Body:Int)≤60))) else (some false))) else (some false))) else (some false))
def eR (x8:M.Cache) (k25:Int→Option Bool):Nat→Int→Option Bool
 | 0,_=>none
 | nL2+1,v44_L2=>if (decide (v44_L2<(List.length x8.Entries:Int)))=true then ((idx x8.Entries v44_L2).bind fun x38=>((bR x38.Site).bind fun x43=>(if (!x43)=true then (some false) else ((bR x38.Path).bind fun x46=>(if (!x46)=true then (some false) else ((kZ x8 x38.Site x38.Path).bind fun x49=>(if (x49 != v44_L2)=true then (some false) else ((nB x38.Response).bind fun x52=>(if (!x52)=true then (some false) else (eR x8 k25 nL2 (i64.wrap (v44_L2+1)))))))))))) else (k25 v44_L2)
def eC (x8:M.Cache) (k57:Int→Option Bool):Nat→Int→Option Bool
 | 0,_=>none
 | nL3+1,v44_L3=>if (decide (v44_L3<(List.length x8.Entries:Int)))=true then ((idx x8.Entries v44_L3).bind fun x70=>((bR x70.Site).bind fun x75=>(if (!x75)=true then (some false) else ((bR x70.Path).bind fun x78=>(if (!x78)=true then (some false) else ((kZ x8 x70.Site x70.Path).bind fun x81=>(if (x81 != v44_L3)=true then (some false) else ((nB x70.Response).bind fun x84=>(if (!x84)=true then (some false) else (eC x8 k57 nL3 (i64.wrap (v44_L3+1)))))))))))) else (k57 v44_L3)
def eQ (p0:M.aO):Nat→Int→Option Bool
 | 0,_=>none
 | nL1+1,v10=>if (decide (v10<(List.length p0.Caches:Int)))=true then ((idx p0.Caches v10).bind fun x8=>((aY x8.Version 1 1000000000000).bind fun x13=>(if (!x13)=true then (some false) else (if (decide (v10>0))=true then ((idx p0.Caches (i64.wrap (v10-1))).bind fun x17=>(if (decide (x8.Version≤x17.Version))=true then (some false) else (if (decide ((List.length x8.Entries:Int)>12))=true then (some false) else (eR x8 (fun (v44_L2:Int)=>eQ p0 nL1 (i64.wrap (v10+1))) fuel 0)))) else (if (decide ((List.length x8.Entries:Int)>12))=true then (some false) else (eC x8 (fun (v44_L3:Int)=>eQ p0 nL1 (i64.wrap (v10+1))) fuel 0)))))) else (some (decide ((List.length p0.Caches:Int)≤4)))
def sK (p0:M.aO):Option Bool:=
 eQ p0 fuel 0
def dR (p0:ByteArray):Nat→Int→Option Bool
 | 0,_=>none
 | nL1+1,v3=>if (decide (v3<(p0.size:Int)))=true then ((aP6 p0 v3).bind fun x5=>(if (decide ((x5.toNat:Int)≥97))=true then (if (decide ((x5.toNat:Int)≤122))=true then (dR p0 nL1 (i64.wrap (v3+1))) else (if (decide ((x5.toNat:Int)≥48))=true then (if (!(decide ((x5.toNat:Int)≤57)))=true then (some false) else (dR p0 nL1 (i64.wrap (v3+1)))) else (some false))) else (if (decide ((x5.toNat:Int)≥48))=true then (if (!(decide ((x5.toNat:Int)≤57)))=true then (some false) else (dR p0 nL1 (i64.wrap (v3+1)))) else (some false)))) else (some (decide ((p0.size:Int)≤12)))
def vW (p0:ByteArray):Option Bool:=
 dR p0 fuel 0
def pO (p0:M.Key):Option Bool:=
 (aY p0.Kind 1 3).bind fun x1=>(if (!x1)=true then (some false) else ((aY p0.N (-1000000000000) 1000000000000).bind fun x4=>(if (!x4)=true then (some false) else ((vW p0.Text).bind fun x7=>(if (!x7)=true then (some false) else (if (p0.Kind==2)=true then (if (!(p0.N != 0))=true then (if (p0.Kind==1)=true then (some (!(!(p0.Text.toList==(⟨#[]⟩:ByteArray).toList)))) else (some true)) else (some false)) else (if (p0.Kind==1)=true then (some (!(!(p0.Text.toList==(⟨#[]⟩:ByteArray).toList)))) else (some true))))))))
def gE (p0:M.aW):Nat→Int→Option Bool
 | 0,_=>none
 | nL1+1,v8=>if (decide (v8<(List.length p0.Fields:Int)))=true then ((idx p0.Fields v8).bind fun x8=>((bR x8.Name).bind fun x13=>(if (!x13)=true then (some false) else ((aY x8.N 0 1000000000).bind fun x16=>(if (!x16)=true then (some false) else (if (decide (v8>0))=true then ((idx p0.Fields (i64.wrap (v8-1))).bind fun x20=>(if (Op.bytesLess x8.Name.toList x20.Name.toList||x8.Name.toList==x20.Name.toList)=true then (some false) else (gE p0 nL1 (i64.wrap (v8+1))))) else (gE p0 nL1 (i64.wrap (v8+1))))))))) else (some (decide ((List.length p0.Fields:Int)≤6)))
def sU (p0:M.aW):Option Bool:=
 gE p0 fuel 0
def pL (p0:Int) (p1:Int):Option Int:=
 if (decide (p0<p1))=true then (some (-1)) else (if (decide (p0>p1))=true then (some 1) else (some 0))
def kC (p0:ByteArray) (p1:ByteArray):Option Int:=some (Lib.compareBytes p0.data.toList p1.data.toList)
def aAF (p0:ByteArray) (p1:ByteArray):Option Int:=
 (kC p0 p1).bind fun x1=>(some x1)
def lQ (p0:M.Key) (p1:M.Key):Option Int:=
 (pO p0).bind fun x1=>(if (!x1)=true then (some 0) else ((pO p1).bind fun x4=>(if (!x4)=true then (some 0) else ((pL p0.Kind p1.Kind).bind fun x7=>(if (x7 != 0)=true then (some x7) else ((pL p0.N p1.N).bind fun x10=>(if (x10 != 0)=true then (some x10) else ((aAF p0.Text p1.Text).bind fun x13=>(some x13)))))))))
def gV (p0:M.aH):Nat→Int→Option Bool
 | 0,_=>none
 | nL1+1,v8=>if (decide (v8<(List.length p0.Items:Int)))=true then ((idx p0.Items v8).bind fun x8=>((pO x8.Key).bind fun x13=>(if (!x13)=true then (some false) else ((sU x8.aW).bind fun x16=>(if (!x16)=true then (some false) else (if (decide (v8>0))=true then ((idx p0.Items (i64.wrap (v8-1))).bind fun x20=>((lQ x20.Key x8.Key).bind fun x25=>(if (decide (x25≥0))=true then (some false) else (gV p0 nL1 (i64.wrap (v8+1)))))) else (gV p0 nL1 (i64.wrap (v8+1))))))))) else ((bR p0.Name).bind fun x28=>(if x28=true then (if (decide ((List.length p0.Items:Int)≤16))=true then ((aY p0.Auto 0 1000000).bind fun x32=>(some x32)) else (some false)) else (some false)))
def rV (p0:M.aH):Option Bool:=
 gV p0 fuel 0
def pR (p0:M.aH) (c0:ByteArray):Option Bool:=
 some (p0.Name.toList==c0.toList)
def cE (p0:List M.aH) (p1:M.aH→Option Bool):Nat→Int→Option Int
 | 0,_=>none
 | nL1+1,v8=>if (decide (v8<(List.length p0:Int)))=true then ((idx p0 v8).bind fun x7=>((p1 x7).bind fun x12=>(if x12=true then (some v8) else (cE p0 p1 nL1 (i64.wrap (v8+1)))))) else (some (-1))
def iZ (p0:List M.aH) (p1:M.aH→Option Bool):Option Int:=
 cE p0 p1 fuel 0
def wC (p0:M.Database) (p1:ByteArray):Option Int:=
 (iZ p0.Stores (fun z0=>pR z0 p1)).bind fun x1=>(some x1)
def dJ (p0:List M.aE) (p1:M.aE):Nat→Int→Option Int
 | 0,_=>none
 | nL1+1,v8=>if (decide (v8<(List.length p0:Int)))=true then ((idx p0 v8).bind fun x8=>(if ((p1.aH.toList==x8.aH.toList)&&(p1.Field.toList==x8.Field.toList))=true then (some v8) else (dJ p0 p1 nL1 (i64.wrap (v8+1))))) else (some (-1))
def jN (p0:List M.aE) (p1:M.aE):Option Int:=
 dJ p0 p1 fuel 0
def gY (p0:List M.aE) (p1:M.aE):Option Bool:=
 (jN p0 p1).bind fun x1=>(some (decide (x1≥0)))
def vM (p0:M.Field) (c0:ByteArray):Option Bool:=
 some (p0.Name.toList==c0.toList)
def cA (p0:List M.Field) (p1:M.Field→Option Bool):Nat→Int→Option Int
 | 0,_=>none
 | nL1+1,v8=>if (decide (v8<(List.length p0:Int)))=true then ((idx p0 v8).bind fun x7=>((p1 x7).bind fun x12=>(if x12=true then (some v8) else (cA p0 p1 nL1 (i64.wrap (v8+1)))))) else (some (-1))
def jD (p0:List M.Field) (p1:M.Field→Option Bool):Option Int:=
 cA p0 p1 fuel 0
def aCW (p0:M.aW) (p1:ByteArray):Option Int:=
 (jD p0.Fields (fun z0=>vM z0 p1)).bind fun x1=>(some x1)
def jO (p0:M.aW) (p1:ByteArray):Option (Int×Bool):=
 (aCW p0 p1).bind fun x1=>(if (decide (x1<0))=true then (some (0,false)) else ((idx p0.Fields x1).bind fun x4=>(some (x4.N,true))))
def qY (p0:M.Item) (p1:M.Item) (p2:ByteArray):Option Bool:=
 (jO p0.aW p2).bind fun x1=>((jO p1.aW p2).bind fun x3=>(if (decide (x1.1<x3.1))=true then (some true) else (if (x1.1==x3.1)=true then ((lQ p0.Key p1.Key).bind fun x7=>(some (decide (x7<0)))) else (some false))))
def kQ (p1:ByteArray) (r11:List M.Item) (x15:M.Item) (k24:Int→Option (List M.Item)):Nat→Int→Option (List M.Item)
 | 0,_=>none
 | nL2+1,v10_L2=>if (decide (v10_L2>0))=true then ((idx r11 (i64.wrap (v10_L2-1))).bind fun x36=>((qY x15 x36 p1).bind fun x41=>(if x41=true then (kQ p1 r11 x15 k24 nL2 (i64.wrap (v10_L2-1))) else (k24 v10_L2)))) else (k24 v10_L2)
def iT (p0:M.aH) (p1:ByteArray):Nat→Int→List M.Item→Option (List M.Item)
 | 0,_,_=>none
 | nL1+1,v15,r11=>if (decide (v15<(List.length p0.Items:Int)))=true then ((idx p0.Items v15).bind fun x15=>((jO x15.aW p1).bind fun x20=>(if (!x20.2)=true then (iT p0 p1 nL1 (i64.wrap (v15+1)) r11) else (kQ p1 r11 x15 (fun (v10_L2:Int)=>(uD x15).bind fun x55=>((aK9 56 r11 v10_L2 ([x55])).bind fun x57=>(iT p0 p1 nL1 (i64.wrap (v15+1)) (List.take v10_L2.toNat r11++([x55]++List.drop v10_L2.toNat r11))))) fuel (List.length r11:Int))))) else (some r11)
def aAj (p0:M.aH) (p1:ByteArray):Option (List M.Item):=
 iT p0 p1 fuel 0 ([]:List M.Item)
def eY (p1:ByteArray) (x1:(List M.Item)):Nat→Int→Option (M.Key×M.Key×Bool)
 | 0,_=>none
 | nL1+1,v8=>if (decide (v8<(List.length x1:Int)))=true then ((idx x1 (i64.wrap (v8-1))).bind fun x13=>((jO x13.aW p1).bind fun x18=>((idx x1 v8).bind fun x20=>((jO x20.aW p1).bind fun x25=>(if (x18.1==x25.1)=true then (some (x13.Key,x20.Key,true)) else (eY p1 x1 nL1 (i64.wrap (v8+1)))))))) else (some ((⟨0,0,(⟨#[]⟩:ByteArray)⟩:M.Key),(⟨0,0,(⟨#[]⟩:ByteArray)⟩:M.Key),false))
def hY (p0:M.aH) (p1:ByteArray):Option (M.Key×M.Key×Bool):=
 (aAj p0 p1).bind fun x1=>(eY p1 x1 fuel 1)
def eP (p0:M.Database):Nat→Int→Option Bool
 | 0,_=>none
 | nL2+1,v64=>if (decide (v64<(List.length p0.Unique:Int)))=true then ((idx p0.Unique v64).bind fun x38=>((wC p0 x38.aH).bind fun x43=>(if (decide (x43<0))=true then (some false) else ((bR x38.Field).bind fun x46=>(if (!x46)=true then (some false) else ((aHz p0.Unique v64).bind fun x49=>((gY (List.take v64.toNat p0.Unique) x38).bind fun x51=>(if x51=true then (some false) else ((idx p0.Stores x43).bind fun x54=>((hY x54 x38.Field).bind fun x59=>(if x59.2.2=true then (some false) else (eP p0 nL2 (i64.wrap (v64+1)))))))))))))) else (some true)
def eL (p0:M.Database):Nat→Int→Option Bool
 | 0,_=>none
 | nL1+1,v36=>if (decide (v36<(List.length p0.Stores:Int)))=true then ((idx p0.Stores v36).bind fun x16=>((rV x16).bind fun x21=>(if (!x21)=true then (some false) else (if (decide (v36>0))=true then ((idx p0.Stores (i64.wrap (v36-1))).bind fun x25=>(if (Op.bytesLess x16.Name.toList x25.Name.toList||x16.Name.toList==x25.Name.toList)=true then (some false) else (eL p0 nL1 (i64.wrap (v36+1))))) else (eL p0 nL1 (i64.wrap (v36+1))))))) else (eP p0 fuel 0)
def sJ (p0:M.Database):Option Bool:=
 (bR p0.Name).bind fun x1=>(if (!x1)=true then (some false) else ((aY p0.Version 0 1000).bind fun x4=>(if (!x4)=true then (some false) else (if (decide ((List.length p0.Stores:Int)>4))=true then (some false) else (if (decide ((List.length p0.Unique:Int)>4))=true then (some false) else (eL p0 fuel 0))))))
def jU (p0:M.aZ):Option Bool:=
 (aY p0.Device 1 1000000).bind fun x1=>(if x1=true then ((aY p0.Seq 1 1000000).bind fun x4=>(if x4=true then ((pO p0.Key).bind fun x7=>(if x7=true then ((bR p0.Field).bind fun x10=>(if x10=true then ((aY p0.N 0 1000000000).bind fun x13=>(some x13)) else (some false))) else (some false))) else (some false))) else (some false))
def jM (p0:M.aR):Nat→Int→Option Bool
 | 0,_=>none
 | nL1+1,v12=>if (decide (v12<(List.length p0.Writes:Int)))=true then ((idx p0.Writes v12).bind fun x9=>((jU x9).bind fun x14=>(if (!x14)=true then (some false) else (if (x9.Device != p0.Device)=true then (some false) else (if (x9.Seq != (i64.wrap ((i64.wrap (p0.Next-(List.length p0.Writes:Int)))+v12)))=true then (some false) else (jM p0 nL1 (i64.wrap (v12+1)))))))) else ((aY p0.Device 1 1000000).bind fun x19=>(if x19=true then ((aY p0.Next 1 1000000).bind fun x22=>(if x22=true then (some (decide ((List.length p0.Writes:Int)≤20))) else (some false))) else (some false)))
def sZ (p0:M.aR):Option Bool:=
 jM p0 fuel 0
def xK (p0:M.aD):Option Bool:=
 (rV p0.Base).bind fun x1=>(if x1=true then (if (p0.Base.Name.toList==(⟨#[110,111,116,101,115]⟩:ByteArray).toList)=true then ((aY p0.Seen 0 1000000000000).bind fun x5=>(if x5=true then ((sZ p0.Sync.aR).bind fun x8=>(some x8)) else (some false))) else (some false)) else (some false))
def uJ (p0:M.Response) (p1:Bool):Option Int:=
 if p1=true then (some 76) else (some (i64.wrap (16+(List.length p0.Body:Int))))
def hH (x7:M.Cache) (k13:Int→Int→Option Int):Nat→Int→Int→Option Int
 | 0,_,_=>none
 | nL2+1,v3_L2,v18_L2=>if (decide (v18_L2<(List.length x7.Entries:Int)))=true then ((idx x7.Entries v18_L2).bind fun x23=>((uJ x23.Response (x23.Response.Type_==3)).bind fun x28=>(hH x7 k13 nL2 (i64.wrap (v3_L2+x28)) (i64.wrap (v18_L2+1))))) else (k13 v3_L2 v18_L2)
def eO (p0:M.aO):Nat→Int→Int→Option Int
 | 0,_,_=>none
 | nL1+1,v3,v11=>if (decide (v11<(List.length p0.Caches:Int)))=true then ((idx p0.Caches v11).bind fun x7=>(hH x7 (fun (v3_L2:Int) (v18_L2:Int)=>eO p0 nL1 v3_L2 (i64.wrap (v11+1))) fuel v3 0)) else (some v3)
def tU (p0:M.aO):Option Int:=
 eO p0 fuel 0 0
def fF (p0:M.Key):Nat→Int→List Int→Option (List Int)
 | 0,_,_=>none
 | nL1+1,v4,r12=>if (decide (v4≥0))=true then (if (decide (0≤(i64.wrap (8*v4))))=true then ((app 1 r12 ([(IntKind.u8.wrap (Int.fdiv (i64.wrap (p0.N+1000000000000)) (2^(min (i64.wrap (8*v4)).toNat IntKind.i64.bits))))])).bind fun x18=>(fF p0 nL1 (i64.wrap (v4-1)) (r12++[(IntKind.u8.wrap (Int.fdiv (i64.wrap (p0.N+1000000000000)) (2^(min (i64.wrap (8*v4)).toNat IntKind.i64.bits))))]))) else none) else ((app 1 r12 (fD p0.Text)).bind fun x26=>(some (r12++fD p0.Text)))
def wZ (p0:M.Key):Option (List Int):=
 (pO p0).bind fun x1=>(if (!x1)=true then (some ([]:List Int)) else (if (p0.Kind != 2)=true then (fF p0 fuel 5 ([(IntKind.u8.wrap p0.Kind)])) else ((app 1 ([(IntKind.u8.wrap p0.Kind)]) (fD p0.Text)).bind fun x28=>(some ([(IntKind.u8.wrap p0.Kind)]++fD p0.Text)))))
def fG  : Nat→Int→List Int→Option (List Int)
 | 0,_,_=>none
 | nL1+1,v1,r7=>if (decide (v1≥128))=true then ((app 1 r7 ([(IntKind.u8.wrap (i64.wrap ((Int.tmod v1 128)+128)))])).bind fun x11=>(fG nL1 (i64.wrap (Int.tdiv v1 128)) (r7++[(IntKind.u8.wrap (i64.wrap ((Int.tmod v1 128)+128)))]))) else ((app 1 r7 ([(IntKind.u8.wrap v1)])).bind fun x17=>(some (r7++[(IntKind.u8.wrap v1)])))
def hD (p0:List Int) (p1:Int):Option (List Int):=
 (iG p0).bind fun x1=>((aY p1 0 1000000000000).bind fun x3=>(if (!x3)=true then (some x1) else (fG fuel p1 x1)))
def rC (p0:List Int) (p1:List Int):Option (List Int):=
 (hD p0 (List.length p1:Int)).bind fun x1=>((app 1 x1 p1).bind fun x3=>(some (x1++p1)))
def fY (p0:M.aW):Nat→Int→List Int→Option (List Int)
 | 0,_,_=>none
 | nL1+1,v17,r50000=>if (decide (v17<(List.length p0.Fields:Int)))=true then ((idx p0.Fields v17).bind fun x13=>((rC r50000 (fD x13.Name)).bind fun x18=>((hD x18 x13.N).bind fun x20=>(fY p0 nL1 (i64.wrap (v17+1)) x20)))) else (some r50000)
def nW (p0:M.aW):Option (List Int):=
 (sU p0).bind fun x1=>(if (!x1)=true then (some ([]:List Int)) else ((hD ([]:List Int) (List.length p0.Fields:Int)).bind fun x4=>(fY p0 fuel 0 x4)))
def iI (p0:M.aH):Nat→Int→Int→Option Int
 | 0,_,_=>none
 | nL1+1,v3,v9=>if (decide (v9<(List.length p0.Items:Int)))=true then ((idx p0.Items v9).bind fun x7=>((wZ x7.Key).bind fun x12=>((nW x7.aW).bind fun x14=>(iI p0 nL1 (i64.wrap (v3+(i64.wrap ((List.length x12:Int)+(List.length x14:Int))))) (i64.wrap (v9+1)))))) else (some v3)
def oT (p0:M.aH):Option Int:=
 iI p0 fuel 0 0
def fT (p0:M.Database):Nat→Int→Int→Option Int
 | 0,_,_=>none
 | nL1+1,v3,v9=>if (decide (v9<(List.length p0.Stores:Int)))=true then ((idx p0.Stores v9).bind fun x7=>((oT x7).bind fun x12=>(fT p0 nL1 (i64.wrap (v3+x12)) (i64.wrap (v9+1))))) else (some v3)
def nU (p0:M.Database):Option Int:=
 fT p0 fuel 0 0
def aBp (p0:M.bC):Option Int:=
 (nU p0.Base).bind fun x1=>(some (i64.wrap (x1+(List.length p0.Log:Int))))
def aAi (p0:M.aC):Option Int:=
 (tU p0.Caches).bind fun x1=>((aBp p0.bC).bind fun x3=>((oT p0.aD.Base).bind fun x5=>(some (i64.wrap ((i64.wrap ((i64.wrap (x1+x3))+x5))+(i64.wrap (40*(List.length p0.aD.Sync.aR.Writes:Int))))))))
def tL (p0:M.aC):Option Bool:=
 (bR p0.Site).bind fun x1=>(if x1=true then ((bR p0.Top).bind fun x4=>(if x4=true then ((rK p0.Registration).bind fun x7=>(if x7=true then (if (p0.Registration.Site.toList==p0.Site.toList)=true then ((sK p0.Caches).bind fun x11=>(if x11=true then ((sJ p0.bC.Base).bind fun x14=>(if x14=true then ((xK p0.aD).bind fun x17=>(if x17=true then ((aY p0.LastUsed 0 1000000000000).bind fun x20=>(if x20=true then ((aAi p0).bind fun x23=>(some (decide (x23≤2500)))) else (some false))) else (some false))) else (some false))) else (some false))) else (some false)) else (some false))) else (some false))) else (some false))
def kU (p0:M.aC) (p1:M.aC):Option Bool:=
 if (Op.bytesLess p0.Site.toList p1.Site.toList)=true then (some true) else (if (p0.Site.toList==p1.Site.toList)=true then (some (Op.bytesLess p0.Top.toList p1.Top.toList)) else (some false))
def fH (p0:M.aA):Nat→Int→Option Bool
 | 0,_=>none
 | nL1+1,v8=>if (decide (v8<(List.length p0.Buckets:Int)))=true then ((idx p0.Buckets v8).bind fun x8=>((tL x8).bind fun x13=>(if (!x13)=true then (some false) else (if (decide (v8>0))=true then ((idx p0.Buckets (i64.wrap (v8-1))).bind fun x17=>((kU x17 x8).bind fun x22=>(if (!x22)=true then (some false) else (fH p0 nL1 (i64.wrap (v8+1)))))) else (fH p0 nL1 (i64.wrap (v8+1))))))) else (some (decide ((List.length p0.Buckets:Int)≤9)))
def bX (p0:M.aA):Option Bool:=
 fH p0 fuel 0
def sM (p0:ByteArray):Option Bool:=
 (aAD p0 30 true).bind fun x1=>(some x1)
def cC (p0:M.aQ) (v10:Int) (x8:M.cJ) (k22:Int→Option Bool):Nat→Int→Option Bool
 | 0,_=>none
 | nL2+1,v30_L2=>if (decide (v30_L2<(List.length (List.take v10.toNat p0.Locks):Int)))=true then ((idx (List.take v10.toNat p0.Locks) v30_L2).bind fun x35=>(if (x35.Name.toList==x8.Name.toList)=true then (if x8.Held=true then (if (!x35.Held)=true then (some false) else (if (!x8.Shared)=true then (some false) else (if (!x35.Shared)=true then (some false) else (cC p0 v10 x8 k22 nL2 (i64.wrap (v30_L2+1)))))) else (cC p0 v10 x8 k22 nL2 (i64.wrap (v30_L2+1)))) else (cC p0 v10 x8 k22 nL2 (i64.wrap (v30_L2+1))))) else (k22 v30_L2)
def fA (p0:M.aQ):Nat→Int→Option Bool
 | 0,_=>none
 | nL1+1,v10=>if (decide (v10<(List.length p0.Locks:Int)))=true then ((idx p0.Locks v10).bind fun x8=>((sM x8.Name).bind fun x13=>(if (!x13)=true then (some false) else ((aY x8.bH 1 1000000000000).bind fun x16=>(if (!x16)=true then (some false) else ((aHz p0.Locks v10).bind fun x19=>(cC p0 v10 x8 (fun (v30_L2:Int)=>fA p0 nL1 (i64.wrap (v10+1))) fuel 0))))))) else (some (decide ((List.length p0.Locks:Int)≤12)))
def pK (p0:M.aQ):Option Bool:=
 fA p0 fuel 0
def mM (p0:M.bH):Nat→Int→Option Bool
 | 0,_=>none
 | nL1+1,v8=>if (decide (v8<(List.length p0.aK:Int)))=true then ((idx p0.aK v8).bind fun x8=>((bR x8.Path).bind fun x13=>(if (!x13)=true then (some false) else (if (x8.Version != p0.Version)=true then (some false) else (mM p0 nL1 (i64.wrap (v8+1))))))) else ((aY p0.Id 1 1000000000000).bind fun x17=>(if x17=true then ((bR p0.Site).bind fun x20=>(if x20=true then ((bR p0.Top).bind fun x23=>(if x23=true then ((aY p0.Version 1 1000000000000).bind fun x26=>(if x26=true then (some (decide ((List.length p0.aK:Int)≤8))) else (some false))) else (some false))) else (some false))) else (some false)))
def mU (p0:M.bH):Option Bool:=
 mM p0 fuel 0
def nT (p0:M.aC) (c0:ByteArray) (c1:ByteArray):Option Bool:=
 if (p0.Site.toList==c0.toList)=true then (some (p0.Top.toList==c1.toList)) else (some false)
def bU (p0:List M.aC) (p1:M.aC→Option Bool):Nat→Int→Option Int
 | 0,_=>none
 | nL1+1,v8=>if (decide (v8<(List.length p0:Int)))=true then ((idx p0 v8).bind fun x7=>((p1 x7).bind fun x12=>(if x12=true then (some v8) else (bU p0 p1 nL1 (i64.wrap (v8+1)))))) else (some (-1))
def iA (p0:List M.aC) (p1:M.aC→Option Bool):Option Int:=
 bU p0 p1 fuel 0
def gN (p0:M.aA) (p1:ByteArray) (p2:ByteArray):Option Int:=
 (iA p0.Buckets (fun z0=>nT z0 p1 p2)).bind fun x1=>(some x1)
def iE (p0:M.Site):Nat→Int→Option Bool
 | 0,_=>none
 | nL1+1,v8=>if (decide (v8<(List.length p0.Files:Int)))=true then ((idx p0.Files v8).bind fun x8=>((bR x8).bind fun x13=>(if (!x13)=true then (some false) else (if (decide (v8>0))=true then ((idx p0.Files (i64.wrap (v8-1))).bind fun x17=>(if (Op.bytesLess x8.toList x17.toList||x8.toList==x17.toList)=true then (some false) else (iE p0 nL1 (i64.wrap (v8+1))))) else (iE p0 nL1 (i64.wrap (v8+1))))))) else ((bR p0.Name).bind fun x23=>(if x23=true then ((aY p0.Version 1 1000000000000).bind fun x26=>(if x26=true then ((aY (List.length p0.Files:Int) 1 6).bind fun x29=>(some x29)) else (some false))) else (some false)))
def uV (p0:M.Site):Option Bool:=
 iE p0 fuel 0
def bP (p0:List ByteArray) (p1:ByteArray):Nat→Int→Option Int
 | 0,_=>none
 | nL1+1,v8=>if (decide (v8<(List.length p0:Int)))=true then ((idx p0 v8).bind fun x7=>(if (p1.toList==x7.toList)=true then (some v8) else (bP p0 p1 nL1 (i64.wrap (v8+1))))) else (some (-1))
def jB (p0:List ByteArray) (p1:ByteArray):Option Int:=
 bP p0 p1 fuel 0
def iW (p0:ByteArray):Option Int:=
 (jB ([(⟨#[98,97,110,107]⟩:ByteArray),(⟨#[110,101,119,115]⟩:ByteArray),(⟨#[115,104,111,112]⟩:ByteArray)]) p0).bind fun x1=>(some x1)
def hU (p0:M.Server):Nat→Int→Option Bool
 | 0,_=>none
 | nL2+1,v45=>if (decide (v45<(List.length p0.Changes:Int)))=true then ((idx p0.Changes v45).bind fun x33=>((jU x33).bind fun x38=>(if (!x38)=true then (some false) else (hU p0 nL2 (i64.wrap (v45+1)))))) else ((rV p0.aH).bind fun x41=>(if x41=true then (if (p0.aH.Name.toList==(⟨#[110,111,116,101,115]⟩:ByteArray).toList)=true then (some (decide ((List.length p0.aM:Int)≤60))) else (some false)) else (some false)))
def gD (p0:M.Server):Nat→Int→Option Bool
 | 0,_=>none
 | nL1+1,v10=>if (decide (v10<(List.length p0.aM:Int)))=true then ((idx p0.aM v10).bind fun x8=>((aY x8.Device 1 1000000).bind fun x13=>(if (!x13)=true then (some false) else ((aY x8.Seq 0 1000000).bind fun x16=>(if (!x16)=true then (some false) else (if (decide (v10>0))=true then ((idx p0.aM (i64.wrap (v10-1))).bind fun x20=>(if (decide (x8.Device≤x20.Device))=true then (some false) else (gD p0 nL1 (i64.wrap (v10+1))))) else (gD p0 nL1 (i64.wrap (v10+1))))))))) else (hU p0 fuel 0)
def zK (p0:M.Server):Option Bool:=
 gD p0 fuel 0
def gQ (p0:M.World):Nat→Int→Option Bool
 | 0,_=>none
 | nL2+1,v101=>if (decide (v101<(List.length p0.Sites:Int)))=true then ((idx p0.Sites v101).bind fun x55=>((uV x55).bind fun x60=>(if (!x60)=true then (some false) else ((iW x55.Name).bind fun x63=>(if (x63 != v101)=true then (some false) else ((idx p0.Servers v101).bind fun x66=>((zK x66).bind fun x71=>(if (!x71)=true then (some false) else (gQ p0 nL2 (i64.wrap (v101+1))))))))))) else (some true)
def eT (p0:M.World):Nat→Int→Option Bool
 | 0,_=>none
 | nL1+1,v56=>if (decide (v56<(List.length p0.Pages:Int)))=true then ((idx p0.Pages v56).bind fun x26=>((mU x26).bind fun x31=>(if (!x31)=true then (some false) else (if (decide (x26.Id≥p0.NextPage))=true then (some false) else (if (decide (v56>0))=true then ((idx p0.Pages (i64.wrap (v56-1))).bind fun x36=>(if (decide (x26.Id≤x36.Id))=true then (some false) else ((gN p0.aA x26.Site x26.Top).bind fun x42=>(if (decide (x42<0))=true then (some false) else (eT p0 nL1 (i64.wrap (v56+1))))))) else ((gN p0.aA x26.Site x26.Top).bind fun x45=>(if (decide (x45<0))=true then (some false) else (eT p0 nL1 (i64.wrap (v56+1)))))))))) else (gQ p0 fuel 0)
def kY (p0:M.World):Option Bool:=
 (aY p0.Now 0 999999990000).bind fun x1=>(if (!x1)=true then (some false) else ((aY p0.Device 1 1000000).bind fun x4=>(if (!x4)=true then (some false) else ((bX p0.aA).bind fun x7=>(if (!x7)=true then (some false) else (if (decide ((List.length p0.Pages:Int)>6))=true then (some false) else ((aY p0.NextPage 1 1000000000000).bind fun x11=>(if (!x11)=true then (some false) else ((pK p0.Locks).bind fun x14=>(if (!x14)=true then (some false) else (if ((List.length p0.Sites:Int) != 3)=true then (some false) else (if ((List.length p0.Servers:Int) != 3)=true then (some false) else (eT p0 fuel 0)))))))))))))
def iB (p0:M.World) (p1:ByteArray) (p2:ByteArray):Option (M.aC×Bool):=
 (gN p0.aA p1 p2).bind fun x1=>(if (decide (x1<0))=true then (some ((⟨(⟨#[]⟩:ByteArray),(⟨#[]⟩:ByteArray),(⟨(⟨#[]⟩:ByteArray),0,0,0⟩:M.Registration),(⟨([]:List M.Cache)⟩:M.aO),(⟨(⟨(⟨#[]⟩:ByteArray),0,([]:List M.aH),([]:List M.aE)⟩:M.Database),([]:List Int),0⟩:M.bC),(⟨(⟨(⟨#[]⟩:ByteArray),([]:List M.Item),0⟩:M.aH),0,(⟨(⟨0,0,([]:List M.aZ)⟩:M.aR),0,0⟩:M.Sync)⟩:M.aD),0,false⟩:M.aC),false)) else ((idx p0.aA.Buckets x1).bind fun x4=>(some (x4,true))))
def vD (p0:M.World):Option Int:=
 some (i64.wrap ((i64.wrap (1000*p0.Device))+p0.NextPage))
def aBH (p0:Int):Option (M.aR×Bool):=
 (sZ (⟨p0,1,([]:List M.aZ)⟩:M.aR)).bind fun x1=>(if (!x1)=true then (some ((⟨0,0,([]:List M.aZ)⟩:M.aR),false)) else (some ((⟨p0,1,([]:List M.aZ)⟩:M.aR),true)))
def wW (p0:ByteArray) (p1:ByteArray) (p2:Int):Option (M.aC×Bool):=
 (aBH p2).bind fun x1=>(if (!x1.2)=true then (some ((⟨(⟨#[]⟩:ByteArray),(⟨#[]⟩:ByteArray),(⟨(⟨#[]⟩:ByteArray),0,0,0⟩:M.Registration),(⟨([]:List M.Cache)⟩:M.aO),(⟨(⟨(⟨#[]⟩:ByteArray),0,([]:List M.aH),([]:List M.aE)⟩:M.Database),([]:List Int),0⟩:M.bC),(⟨(⟨(⟨#[]⟩:ByteArray),([]:List M.Item),0⟩:M.aH),0,(⟨(⟨0,0,([]:List M.aZ)⟩:M.aR),0,0⟩:M.Sync)⟩:M.aD),0,false⟩:M.aC),false)) else ((tL (⟨p0,p1,(⟨p0,0,0,0⟩:M.Registration),(⟨([]:List M.Cache)⟩:M.aO),(⟨(⟨(⟨#[97,112,112]⟩:ByteArray),1,[(⟨(⟨#[110,111,116,101,115]⟩:ByteArray),([]:List M.Item),0⟩:M.aH)],([]:List M.aE)⟩:M.Database),([]:List Int),0⟩:M.bC),(⟨(⟨(⟨#[110,111,116,101,115]⟩:ByteArray),([]:List M.Item),0⟩:M.aH),0,(⟨x1.1,0,0⟩:M.Sync)⟩:M.aD),0,false⟩:M.aC)).bind fun x12=>(if (!x12)=true then (some ((⟨(⟨#[]⟩:ByteArray),(⟨#[]⟩:ByteArray),(⟨(⟨#[]⟩:ByteArray),0,0,0⟩:M.Registration),(⟨([]:List M.Cache)⟩:M.aO),(⟨(⟨(⟨#[]⟩:ByteArray),0,([]:List M.aH),([]:List M.aE)⟩:M.Database),([]:List Int),0⟩:M.bC),(⟨(⟨(⟨#[]⟩:ByteArray),([]:List M.Item),0⟩:M.aH),0,(⟨(⟨0,0,([]:List M.aZ)⟩:M.aR),0,0⟩:M.Sync)⟩:M.aD),0,false⟩:M.aC),false)) else (some ((⟨p0,p1,(⟨p0,0,0,0⟩:M.Registration),(⟨([]:List M.Cache)⟩:M.aO),(⟨(⟨(⟨#[97,112,112]⟩:ByteArray),1,[(⟨(⟨#[110,111,116,101,115]⟩:ByteArray),([]:List M.Item),0⟩:M.aH)],([]:List M.aE)⟩:M.Database),([]:List Int),0⟩:M.bC),(⟨(⟨(⟨#[110,111,116,101,115]⟩:ByteArray),([]:List M.Item),0⟩:M.aH),0,(⟨x1.1,0,0⟩:M.Sync)⟩:M.aD),0,false⟩:M.aC),true)))))
def vA (p0:M.World) (p1:ByteArray):Option M.Site:=
 (iW p1).bind fun x1=>(if (decide (x1<0))=true then (some (⟨(⟨#[]⟩:ByteArray),0,([]:List ByteArray),false⟩:M.Site)) else (if (decide (x1≥(List.length p0.Sites:Int)))=true then (some (⟨(⟨#[]⟩:ByteArray),0,([]:List ByteArray),false⟩:M.Site)) else ((idx p0.Sites x1).bind fun x5=>(some x5))))
def kW (p0:M.Registration) (p1:M.Site) (p2:Bool):Option Int:=
 if (p0.Active != 0)=true then (some p0.Active) else (if p2=true then (some p1.Version) else (some 0))
def rQ (p0:M.Instr) (p1:Int):Option Bool:=
 ((aY p0.Kind 1 9).bind fun x8=>(if (!x8)=true then (some true) else ((aY p0.R 0 3).bind fun x11=>(if (!x11)=true then (some true) else (if (p0.Kind==4)=true then (some (p0.R != 0)) else (if (p0.Kind==9)=true then (some (p0.R != 0)) else (some false))))))).bind fun x1=>(if x1=true then (some false) else ((if (p0.Kind==5)=true then (some true) else (if (p0.Kind==6)=true then (some true) else (if (p0.Kind==7)=true then (some true) else (some (p0.Kind==8))))).bind fun x17=>((if x17=true then ((bR p0.Text).bind fun x35=>(if (!x35)=true then (some true) else (some false))) else (some (!(p0.Text.toList==(⟨#[]⟩:ByteArray).toList)))).bind fun x27=>(if x27=true then (some false) else (if (p0.Kind==1)=true then ((aY p0.N 0 1000).bind fun x40=>(some x40)) else (if (p0.Kind==2)=true then ((aY p0.N 0 3).bind fun x43=>(some x43)) else ((if (p0.Kind==3)=true then (some (p0.Kind==3)) else (some (p0.Kind==4))).bind fun x45=>(if x45=true then ((aY p0.N 0 p1).bind fun x55=>(some x55)) else ((if (p0.Kind==6)=true then (some (p0.Kind==6)) else (if (p0.Kind==7)=true then (some (p0.Kind==7)) else (some (p0.Kind==8)))).bind fun x57=>(if x57=true then ((aY p0.N 0 100).bind fun x66=>(some x66)) else (some (p0.N==0))))))))))))
def jR (p0:List M.Instr):Nat→Int→Option Bool
 | 0,_=>none
 | nL1+1,v7=>if (decide (v7<(List.length p0:Int)))=true then ((idx p0 v7).bind fun x7=>((rQ x7 (List.length p0:Int)).bind fun x12=>(if (!x12)=true then (some false) else (jR p0 nL1 (i64.wrap (v7+1)))))) else (some (decide ((List.length p0:Int)≤16)))
def zJ (p0:List M.Instr):Option Bool:=
 jR p0 fuel 0
def sX (p0:List M.Instr):Option M.Machine:=
 (zJ p0).bind fun x8=>(if (!x8)=true then (some (⟨([]:List M.Instr),0,(List.replicate 4 0),0,true,false⟩:M.Machine)) else ((app 40 ([]:List M.Instr) p0).bind fun x11=>(some (⟨p0,0,(List.replicate 4 0),0,false,false⟩:M.Machine))))
def mD (p0:Int) (p1:ByteArray) (p2:ByteArray) (p3:Int) (p4:List M.Instr):Option (M.bH×Bool):=
 (sX p4).bind fun x1=>((mU (⟨p0,p1,p2,p3,([]:List M.aK),x1⟩:M.bH)).bind fun x3=>(if (!x3)=true then (some ((⟨0,(⟨#[]⟩:ByteArray),(⟨#[]⟩:ByteArray),0,([]:List M.aK),(⟨([]:List M.Instr),0,([]:List Int),0,false,false⟩:M.Machine)⟩:M.bH),false)) else (some ((⟨p0,p1,p2,p3,([]:List M.aK),x1⟩:M.bH),true))))
def pX (p0:M.Cache) (c0:Int):Option Bool:=
 some (p0.Version==c0)
def cD (p0:List M.Cache) (p1:M.Cache→Option Bool):Nat→Int→Option Int
 | 0,_=>none
 | nL1+1,v8=>if (decide (v8<(List.length p0:Int)))=true then ((idx p0 v8).bind fun x7=>((p1 x7).bind fun x12=>(if x12=true then (some v8) else (cD p0 p1 nL1 (i64.wrap (v8+1)))))) else (some (-1))
def iX (p0:List M.Cache) (p1:M.Cache→Option Bool):Option Int:=
 cD p0 p1 fuel 0
def xL (p0:M.aO) (p1:Int):Option Int:=
 (iX p0.Caches (fun z0=>pX z0 p1)).bind fun x1=>(some x1)
def eI  : Option M.Response:=
 some (⟨4,0,0,([]:List Int),false⟩:M.Response)
def uH (p0:M.aO) (p1:Int) (p2:ByteArray) (p3:ByteArray):Option (M.Response×Bool):=
 (xL p0 p1).bind fun x1=>(if (decide (x1<0))=true then ((eI).bind fun x4=>(some (x4,false))) else ((idx p0.Caches x1).bind fun x6=>((kZ x6 p2 p3).bind fun x11=>(if (decide (x11<0))=true then ((eI).bind fun x14=>(some (x14,false))) else ((idx x6.Entries x11).bind fun x16=>((iN x16.Response).bind fun x21=>(some (x21,true))))))))
def mS (p0:M.Site) (p1:Int):Option Bool:=
 (uV p0).bind fun x1=>(if x1=true then (if (decide (p1>(i64.wrap (p0.Version-2))))=true then (if (decide (p1≤p0.Version))=true then (some (decide (p1≥1))) else (some false)) else (some false)) else (some false))
def lN (p0:List ByteArray) (p1:ByteArray):Option Bool:=
 (jB p0 p1).bind fun x1=>(some (decide (x1≥0)))
def aAl (p0:M.Site) (p1:ByteArray):Option Bool:=
 (lN p0.Files p1).bind fun x1=>(some x1)
def gH (p0:List Int):Nat→Int→List Int→Option (List Int)
 | 0,_,_=>none
 | nL1+1,v11,r8=>if (decide (v11<(List.length p0:Int)))=true then ((idx p0 v11).bind fun x12=>((app 8 r8 ([(i64.wrap x12)])).bind fun x17=>(gH p0 nL1 (i64.wrap (v11+1)) (r8++[(i64.wrap x12)])))) else (some r8)
def rG (p0:List Int):Option (List Int):=
 gH p0 fuel 0 ([(List.length p0:Int)])
def aDv (p0:Int) (p1:Int):Option Int:=
 (aY p1 1 1000000000000).bind fun x1=>(if (!x1)=true then (some 0) else (if (decide (p1=0))=true then none else (if (decide ((Int.tmod p0 p1)<0))=true then (some (i64.wrap ((Int.tmod p0 p1)+p1))) else (some (Int.tmod p0 p1)))))
def rY (p0:List Int):Nat→Int→Int→Option Int
 | 0,_,_=>none
 | nL1+1,v3,v8=>if (decide (v8<(List.length p0:Int)))=true then ((idx p0 v8).bind fun x7=>((aDv x7 2147483647).bind fun x12=>(rY p0 nL1 (Int.tmod (i64.wrap ((i64.wrap ((i64.wrap (v3*1000003))+x12))+13)) 2147483647) (i64.wrap (v8+1))))) else (some v3)
def aDC (p0:List Int):Option Int:=
 rY p0 fuel 11 0
def oZ (p0:Int) (p1:List Int):Option Int:=
 (app 8 ([p0]) p1).bind fun x1=>((app 8 ([p0]++p1) ([p0])).bind fun x3=>((aDC (([p0]++p1)++[p0])).bind fun x5=>(some x5)))
def gW (p0:Int) (p1:ByteArray):Option Int:=
 (rG (fD p1)).bind fun x1=>((oZ p0 x1).bind fun x3=>(if (x3==0)=true then (some 1) else (some x3)))
def eS (x5:Int):Nat→Int→List Int→Option (List Int)
 | 0,_,_=>none
 | nL1+1,v9,r19=>if (decide (v9≥0))=true then (if (decide (0≤(i64.wrap (8*v9))))=true then ((app 1 r19 ([(IntKind.u8.wrap (Int.fdiv x5 (2^(min (i64.wrap (8*v9)).toNat IntKind.i64.bits))))])).bind fun x20=>(eS x5 nL1 (i64.wrap (v9-1)) (r19++[(IntKind.u8.wrap (Int.fdiv x5 (2^(min (i64.wrap (8*v9)).toNat IntKind.i64.bits))))]))) else none) else (some r19)
def aB8 (p0:M.Site) (p1:ByteArray) (p2:Int):Option (List Int):=
 (gW 107 p0.Name).bind fun x1=>((gW 109 p1).bind fun x3=>((oZ (i64.wrap (1+p2)) ([103,x1,x3])).bind fun x5=>(eS x5 fuel 5 ([]:List Int))))
def wM (p0:M.Site) (p1:ByteArray) (p2:Int):Option M.Response:=
 (uV p0).bind fun x1=>(if (!x1)=true then ((eI).bind fun x4=>(some x4)) else ((mS p0 p2).bind fun x6=>(if (!x6)=true then (some (⟨1,404,p0.Version,([]:List Int),false⟩:M.Response)) else ((aAl p0 p1).bind fun x9=>(if (!x9)=true then (some (⟨1,404,p0.Version,([]:List Int),false⟩:M.Response)) else ((aB8 p0 p1 p2).bind fun x12=>(some (⟨1,200,p2,x12,p0.Shared⟩:M.Response))))))))
def jS (p0:M.aO) (p1:M.Site) (p2:Int) (p3:ByteArray) (p4:Bool):Option M.Response:=
 (uH p0 p2 p1.Name p3).bind fun x1=>(if x1.2=true then (some x1.1) else (if p4=true then ((wM p1 p3 p2).bind fun x5=>(some x5)) else ((eI).bind fun x7=>(some x7))))
def oE (p0:M.bH) (p1:ByteArray) (p2:M.Response):Option (M.bH×Bool):=
 (iD p0).bind fun x1=>((app 24 x1.aK ([(⟨p1,p2.Version⟩:M.aK)])).bind fun x3=>(if (p2.Status != 200)=true then ((iD p0).bind fun x18=>(some (x18,false))) else (if (p2.Version != p0.Version)=true then ((iD p0).bind fun x21=>(some (x21,false))) else ((mU p0).bind fun x23=>(if (!x23)=true then ((iD p0).bind fun x26=>(some (x26,false))) else ((mU (⟨x1.Id,x1.Site,x1.Top,x1.Version,(x1.aK++[(⟨p1,p2.Version⟩:M.aK)]),x1.Machine⟩:M.bH)).bind fun x28=>(if (!x28)=true then ((iD p0).bind fun x31=>(some (x31,false))) else (some ((⟨x1.Id,x1.Site,x1.Top,x1.Version,(x1.aK++[(⟨p1,p2.Version⟩:M.aK)]),x1.Machine⟩:M.bH),true)))))))))
def iM (p0:M.aA) (p1:M.aC) (x1:M.aA):Nat→Int→Option (M.aA×Bool)
 | 0,_=>none
 | nL1+1,v8=>if (decide (v8<(List.length x1.Buckets:Int)))=true then ((idx x1.Buckets v8).bind fun x43=>((kU x43 p1).bind fun x48=>(if x48=true then (iM p0 p1 x1 nL1 (i64.wrap (v8+1))) else ((gP p1).bind fun x51=>((aK9 328 x1.Buckets v8 ([x51])).bind fun x53=>((bX p0).bind fun x63=>(if (!x63)=true then ((bT p0).bind fun x66=>(some (x66,false))) else ((bX (⟨(List.take v8.toNat x1.Buckets++([x51]++List.drop v8.toNat x1.Buckets))⟩:M.aA)).bind fun x68=>(if (!x68)=true then ((bT p0).bind fun x71=>(some (x71,false))) else (some ((⟨(List.take v8.toNat x1.Buckets++([x51]++List.drop v8.toNat x1.Buckets))⟩:M.aA),true))))))))))) else ((gP p1).bind fun x73=>((aK9 328 x1.Buckets v8 ([x73])).bind fun x75=>((bX p0).bind fun x85=>(if (!x85)=true then ((bT p0).bind fun x88=>(some (x88,false))) else ((bX (⟨(List.take v8.toNat x1.Buckets++([x73]++List.drop v8.toNat x1.Buckets))⟩:M.aA)).bind fun x90=>(if (!x90)=true then ((bT p0).bind fun x93=>(some (x93,false))) else (some ((⟨(List.take v8.toNat x1.Buckets++([x73]++List.drop v8.toNat x1.Buckets))⟩:M.aA),true))))))))
def mC (p0:M.aA) (p1:M.aC):Option (M.aA×Bool):=
 (bT p0).bind fun x1=>((gN p0 p1.Site p1.Top).bind fun x3=>(if (decide (x3≥0))=true then ((gP p1).bind fun x6=>((idx x1.Buckets x3).bind fun x8=>((bX p0).bind fun x21=>(if (!x21)=true then ((bT p0).bind fun x24=>(some (x24,false))) else ((bX (⟨(List.set x1.Buckets x3.toNat x6)⟩:M.aA)).bind fun x26=>(if (!x26)=true then ((bT p0).bind fun x29=>(some (x29,false))) else (some ((⟨(List.set x1.Buckets x3.toNat x6)⟩:M.aA),true)))))))) else (iM p0 p1 x1 fuel 0)))
def sS (p0:M.World) (p1:ByteArray) (p2:ByteArray) (p3:List M.Instr):Option (M.World×Int×Bool):=
 (iF p0).bind fun x1=>((kY p0).bind fun x3=>(if (!x3)=true then (some (x1,0,false)) else ((iW p1).bind fun x6=>(if (decide (x6<0))=true then (some (x1,0,false)) else ((iW p2).bind fun x9=>(if (decide (x9<0))=true then (some (x1,0,false)) else ((iB x1 p1 p2).bind fun x12=>(if x12.2=true then ((vA p0 p1).bind fun x18=>((kW x12.1.Registration x18 p0.Online).bind fun x20=>((mD p0.NextPage p1 p2 x20 p3).bind fun x22=>((jS x12.1.Caches x18 x20 (⟨#[105,110,100,101,120]⟩:ByteArray) p0.Online).bind fun x24=>((oE x22.1 (⟨#[105,110,100,101,120]⟩:ByteArray) x24).bind fun x26=>(if (x20==0)=true then (some (x1,0,false)) else (if (!x22.2)=true then (some (x1,0,false)) else (if (!x26.2)=true then (some (x1,0,false)) else ((mC x1.aA (⟨x12.1.Site,x12.1.Top,x12.1.Registration,x12.1.Caches,x12.1.bC,x12.1.aD,p0.Now,x12.1.Persistent⟩:M.aC)).bind fun x54=>((app 144 x1.Pages ([x26.1])).bind fun x56=>(if (!x54.2)=true then ((iF p0).bind fun x75=>(some (x75,0,false))) else ((kY (⟨x1.Now,x1.Online,x1.Device,x54.1,(x1.Pages++[x26.1]),(i64.wrap (x1.NextPage+1)),x1.Locks,x1.Channel,x1.Sites,x1.Servers⟩:M.World)).bind fun x77=>(if (!x77)=true then ((iF p0).bind fun x80=>(some (x80,0,false))) else (some ((⟨x1.Now,x1.Online,x1.Device,x54.1,(x1.Pages++[x26.1]),(i64.wrap (x1.NextPage+1)),x1.Locks,x1.Channel,x1.Sites,x1.Servers⟩:M.World),x26.1.Id,true))))))))))))))) else ((vD p0).bind fun x82=>((wW p1 p2 x82).bind fun x84=>((vA p0 p1).bind fun x86=>((kW x84.1.Registration x86 p0.Online).bind fun x88=>((mD p0.NextPage p1 p2 x88 p3).bind fun x90=>((jS x84.1.Caches x86 x88 (⟨#[105,110,100,101,120]⟩:ByteArray) p0.Online).bind fun x122=>((oE x90.1 (⟨#[105,110,100,101,120]⟩:ByteArray) x122).bind fun x124=>(if (x88==0)=true then (some (x1,0,false)) else (if (!x90.2)=true then (some (x1,0,false)) else (if (!x124.2)=true then (some (x1,0,false)) else ((mC x1.aA (⟨x84.1.Site,x84.1.Top,x84.1.Registration,x84.1.Caches,x84.1.bC,x84.1.aD,p0.Now,x84.1.Persistent⟩:M.aC)).bind fun x129=>((app 144 x1.Pages ([x124.1])).bind fun x131=>(if (!x129.2)=true then ((iF p0).bind fun x150=>(some (x150,0,false))) else ((kY (⟨x1.Now,x1.Online,x1.Device,x129.1,(x1.Pages++[x124.1]),(i64.wrap (x1.NextPage+1)),x1.Locks,x1.Channel,x1.Sites,x1.Servers⟩:M.World)).bind fun x152=>(if (!x152)=true then ((iF p0).bind fun x155=>(some (x155,0,false))) else (some ((⟨x1.Now,x1.Online,x1.Device,x129.1,(x1.Pages++[x124.1]),(i64.wrap (x1.NextPage+1)),x1.Locks,x1.Channel,x1.Sites,x1.Servers⟩:M.World),x124.1.Id,true)))))))))))))))))))))))))
def lH (p0:M.Registration) (p1:M.Registration):Option Bool:=
 if (!(p0.Site.toList==p1.Site.toList))=true then (some false) else (if (p0.Installing != p1.Installing)=true then (some false) else (if (p0.Waiting != p1.Waiting)=true then (some false) else (if (p0.Active != p1.Active)=true then (some false) else (some true))))
def nG (p0:List Int) (p1:List Int):Nat→Int→Option Bool
 | 0,_=>none
 | nL1+1,v5=>if (decide (v5<(List.length p0:Int)))=true then ((idx p0 v5).bind fun x7=>((idx p1 v5).bind fun x12=>(if (x7 != x12)=true then (some false) else (nG p0 p1 nL1 (i64.wrap (v5+1)))))) else (some true)
def xU (p0:List Int) (p1:List Int):Option Bool:=
 if ((List.length p0:Int) != (List.length p1:Int))=true then (some false) else (nG p0 p1 fuel 0)
def tZ (p0:M.Response) (p1:M.Response):Option Bool:=
 if (p0.Type_ != p1.Type_)=true then (some false) else (if (p0.Status != p1.Status)=true then (some false) else (if (p0.Version != p1.Version)=true then (some false) else ((xU p0.Body p1.Body).bind fun x4=>(if (!x4)=true then (some false) else (if (!(p0.Shares==p1.Shares))=true then (some false) else (some true))))))
def zF (p0:M.Cached) (p1:M.Cached):Option Bool:=
 if (!(p0.Site.toList==p1.Site.toList))=true then (some false) else (if (!(p0.Path.toList==p1.Path.toList))=true then (some false) else ((tZ p0.Response p1.Response).bind fun x3=>(if (!x3)=true then (some false) else (some true))))
def kM (p0:List M.Cached) (p1:List M.Cached):Nat→Int→Option Bool
 | 0,_=>none
 | nL1+1,v5=>if (decide (v5<(List.length p0:Int)))=true then ((idx p0 v5).bind fun x7=>((idx p1 v5).bind fun x12=>((zF x7 x12).bind fun x17=>(if (!x17)=true then (some false) else (kM p0 p1 nL1 (i64.wrap (v5+1))))))) else (some true)
def wN (p0:List M.Cached) (p1:List M.Cached):Option Bool:=
 if ((List.length p0:Int) != (List.length p1:Int))=true then (some false) else (kM p0 p1 fuel 0)
def aA3 (p0:M.Cache) (p1:M.Cache):Option Bool:=
 if (p0.Version != p1.Version)=true then (some false) else ((wN p0.Entries p1.Entries).bind fun x2=>(if (!x2)=true then (some false) else (some true)))
def lT (p0:List M.Cache) (p1:List M.Cache):Nat→Int→Option Bool
 | 0,_=>none
 | nL1+1,v5=>if (decide (v5<(List.length p0:Int)))=true then ((idx p0 v5).bind fun x7=>((idx p1 v5).bind fun x12=>((aA3 x7 x12).bind fun x17=>(if (!x17)=true then (some false) else (lT p0 p1 nL1 (i64.wrap (v5+1))))))) else (some true)
def zM (p0:List M.Cache) (p1:List M.Cache):Option Bool:=
 if ((List.length p0:Int) != (List.length p1:Int))=true then (some false) else (lT p0 p1 fuel 0)
def tH (p0:M.aO) (p1:M.aO):Option Bool:=
 (zM p0.Caches p1.Caches).bind fun x1=>(if (!x1)=true then (some false) else (some true))
def aBV (p0:M.Key) (p1:M.Key):Option Bool:=
 if (p0.Kind != p1.Kind)=true then (some false) else (if (p0.N != p1.N)=true then (some false) else (if (!(p0.Text.toList==p1.Text.toList))=true then (some false) else (some true)))
def aAW (p0:M.Field) (p1:M.Field):Option Bool:=
 if (!(p0.Name.toList==p1.Name.toList))=true then (some false) else (if (p0.N != p1.N)=true then (some false) else (some true))
def lO (p0:List M.Field) (p1:List M.Field):Nat→Int→Option Bool
 | 0,_=>none
 | nL1+1,v5=>if (decide (v5<(List.length p0:Int)))=true then ((idx p0 v5).bind fun x7=>((idx p1 v5).bind fun x12=>((aAW x7 x12).bind fun x17=>(if (!x17)=true then (some false) else (lO p0 p1 nL1 (i64.wrap (v5+1))))))) else (some true)
def zP (p0:List M.Field) (p1:List M.Field):Option Bool:=
 if ((List.length p0:Int) != (List.length p1:Int))=true then (some false) else (lO p0 p1 fuel 0)
def zQ (p0:M.aW) (p1:M.aW):Option Bool:=
 (zP p0.Fields p1.Fields).bind fun x1=>(if (!x1)=true then (some false) else (some true))
def aBf (p0:M.Item) (p1:M.Item):Option Bool:=
 (aBV p0.Key p1.Key).bind fun x1=>(if (!x1)=true then (some false) else ((zQ p0.aW p1.aW).bind fun x4=>(if (!x4)=true then (some false) else (some true))))
def nD (p0:List M.Item) (p1:List M.Item):Nat→Int→Option Bool
 | 0,_=>none
 | nL1+1,v5=>if (decide (v5<(List.length p0:Int)))=true then ((idx p0 v5).bind fun x7=>((idx p1 v5).bind fun x12=>((aBf x7 x12).bind fun x17=>(if (!x17)=true then (some false) else (nD p0 p1 nL1 (i64.wrap (v5+1))))))) else (some true)
def aA6 (p0:List M.Item) (p1:List M.Item):Option Bool:=
 if ((List.length p0:Int) != (List.length p1:Int))=true then (some false) else (nD p0 p1 fuel 0)
def rZ (p0:M.aH) (p1:M.aH):Option Bool:=
 if (!(p0.Name.toList==p1.Name.toList))=true then (some false) else ((aA6 p0.Items p1.Items).bind fun x2=>(if (!x2)=true then (some false) else (if (p0.Auto != p1.Auto)=true then (some false) else (some true))))
def lM (p0:List M.aH) (p1:List M.aH):Nat→Int→Option Bool
 | 0,_=>none
 | nL1+1,v5=>if (decide (v5<(List.length p0:Int)))=true then ((idx p0 v5).bind fun x7=>((idx p1 v5).bind fun x12=>((rZ x7 x12).bind fun x17=>(if (!x17)=true then (some false) else (lM p0 p1 nL1 (i64.wrap (v5+1))))))) else (some true)
def yK (p0:List M.aH) (p1:List M.aH):Option Bool:=
 if ((List.length p0:Int) != (List.length p1:Int))=true then (some false) else (lM p0 p1 fuel 0)
def uE (p0:M.aE) (p1:M.aE):Option Bool:=
 if (!(p0.aH.toList==p1.aH.toList))=true then (some false) else (if (!(p0.Field.toList==p1.Field.toList))=true then (some false) else (some true))
def iU (p0:List M.aE) (p1:List M.aE):Nat→Int→Option Bool
 | 0,_=>none
 | nL1+1,v5=>if (decide (v5<(List.length p0:Int)))=true then ((idx p0 v5).bind fun x7=>((idx p1 v5).bind fun x12=>((uE x7 x12).bind fun x17=>(if (!x17)=true then (some false) else (iU p0 p1 nL1 (i64.wrap (v5+1))))))) else (some true)
def pU (p0:List M.aE) (p1:List M.aE):Option Bool:=
 if ((List.length p0:Int) != (List.length p1:Int))=true then (some false) else (iU p0 p1 fuel 0)
def uL (p0:M.Database) (p1:M.Database):Option Bool:=
 if (!(p0.Name.toList==p1.Name.toList))=true then (some false) else (if (p0.Version != p1.Version)=true then (some false) else ((yK p0.Stores p1.Stores).bind fun x3=>(if (!x3)=true then (some false) else ((pU p0.Unique p1.Unique).bind fun x6=>(if (!x6)=true then (some false) else (some true))))))
def aB2 (p0:M.bC) (p1:M.bC):Option Bool:=
 (uL p0.Base p1.Base).bind fun x1=>(if (!x1)=true then (some false) else ((xU p0.Log p1.Log).bind fun x4=>(if (!x4)=true then (some false) else (if (p0.Count != p1.Count)=true then (some false) else (some true)))))
def aAb (p0:M.aZ) (p1:M.aZ):Option Bool:=
 if (p0.Device != p1.Device)=true then (some false) else (if (p0.Seq != p1.Seq)=true then (some false) else ((aBV p0.Key p1.Key).bind fun x3=>(if (!x3)=true then (some false) else (if (!(p0.Field.toList==p1.Field.toList))=true then (some false) else (if (p0.N != p1.N)=true then (some false) else (some true))))))
def lX (p0:List M.aZ) (p1:List M.aZ):Nat→Int→Option Bool
 | 0,_=>none
 | nL1+1,v5=>if (decide (v5<(List.length p0:Int)))=true then ((idx p0 v5).bind fun x7=>((idx p1 v5).bind fun x12=>((aAb x7 x12).bind fun x17=>(if (!x17)=true then (some false) else (lX p0 p1 nL1 (i64.wrap (v5+1))))))) else (some true)
def uN (p0:List M.aZ) (p1:List M.aZ):Option Bool:=
 if ((List.length p0:Int) != (List.length p1:Int))=true then (some false) else (lX p0 p1 fuel 0)
def zT (p0:M.aR) (p1:M.aR):Option Bool:=
 if (p0.Device != p1.Device)=true then (some false) else (if (p0.Next != p1.Next)=true then (some false) else ((uN p0.Writes p1.Writes).bind fun x3=>(if (!x3)=true then (some false) else (some true))))
def aBk (p0:M.Sync) (p1:M.Sync):Option Bool:=
 (zT p0.aR p1.aR).bind fun x1=>(if (!x1)=true then (some false) else (if (p0.Tries != p1.Tries)=true then (some false) else (if (p0.WaitUntil != p1.WaitUntil)=true then (some false) else (some true))))
def wS (p0:M.aD) (p1:M.aD):Option Bool:=
 (rZ p0.Base p1.Base).bind fun x1=>(if (!x1)=true then (some false) else (if (p0.Seen != p1.Seen)=true then (some false) else ((aBk p0.Sync p1.Sync).bind fun x5=>(if (!x5)=true then (some false) else (some true)))))
def yT (p0:M.aC) (p1:M.aC):Option Bool:=
 if (!(p0.Site.toList==p1.Site.toList))=true then (some false) else (if (!(p0.Top.toList==p1.Top.toList))=true then (some false) else ((lH p0.Registration p1.Registration).bind fun x3=>(if (!x3)=true then (some false) else ((tH p0.Caches p1.Caches).bind fun x6=>(if (!x6)=true then (some false) else ((aB2 p0.bC p1.bC).bind fun x9=>(if (!x9)=true then (some false) else ((wS p0.aD p1.aD).bind fun x12=>(if (!x12)=true then (some false) else (if (p0.LastUsed != p1.LastUsed)=true then (some false) else (if (!(p0.Persistent==p1.Persistent))=true then (some false) else (some true))))))))))))
def kE (p0:List M.aC) (p1:List M.aC):Nat→Int→Option Bool
 | 0,_=>none
 | nL1+1,v5=>if (decide (v5<(List.length p0:Int)))=true then ((idx p0 v5).bind fun x7=>((idx p1 v5).bind fun x12=>((yT x7 x12).bind fun x17=>(if (!x17)=true then (some false) else (kE p0 p1 nL1 (i64.wrap (v5+1))))))) else (some true)
def xD (p0:List M.aC) (p1:List M.aC):Option Bool:=
 if ((List.length p0:Int) != (List.length p1:Int))=true then (some false) else (kE p0 p1 fuel 0)
def xC (p0:M.aA) (p1:M.aA):Option Bool:=
 (xD p0.Buckets p1.Buckets).bind fun x1=>(if (!x1)=true then (some false) else (some true))
def yI (p0:M.aK) (p1:M.aK):Option Bool:=
 if (!(p0.Path.toList==p1.Path.toList))=true then (some false) else (if (p0.Version != p1.Version)=true then (some false) else (some true))
def kR (p0:List M.aK) (p1:List M.aK):Nat→Int→Option Bool
 | 0,_=>none
 | nL1+1,v5=>if (decide (v5<(List.length p0:Int)))=true then ((idx p0 v5).bind fun x7=>((idx p1 v5).bind fun x12=>((yI x7 x12).bind fun x17=>(if (!x17)=true then (some false) else (kR p0 p1 nL1 (i64.wrap (v5+1))))))) else (some true)
def xF (p0:List M.aK) (p1:List M.aK):Option Bool:=
 if ((List.length p0:Int) != (List.length p1:Int))=true then (some false) else (kR p0 p1 fuel 0)
def aAU (p0:M.Instr) (p1:M.Instr):Option Bool:=
 if (p0.Kind != p1.Kind)=true then (some false) else (if (p0.R != p1.R)=true then (some false) else (if (p0.N != p1.N)=true then (some false) else (if (!(p0.Text.toList==p1.Text.toList))=true then (some false) else (some true))))
def lR (p0:List M.Instr) (p1:List M.Instr):Nat→Int→Option Bool
 | 0,_=>none
 | nL1+1,v5=>if (decide (v5<(List.length p0:Int)))=true then ((idx p0 v5).bind fun x7=>((idx p1 v5).bind fun x12=>((aAU x7 x12).bind fun x17=>(if (!x17)=true then (some false) else (lR p0 p1 nL1 (i64.wrap (v5+1))))))) else (some true)
def tP (p0:List M.Instr) (p1:List M.Instr):Option Bool:=
 if ((List.length p0:Int) != (List.length p1:Int))=true then (some false) else (lR p0 p1 fuel 0)
def oP (p0:List Int) (p1:List Int):Nat→Int→Option Bool
 | 0,_=>none
 | nL1+1,v5=>if (decide (v5<(List.length p0:Int)))=true then ((idx p0 v5).bind fun x7=>((idx p1 v5).bind fun x12=>(if (x7 != x12)=true then (some false) else (oP p0 p1 nL1 (i64.wrap (v5+1)))))) else (some true)
def aB3 (p0:List Int) (p1:List Int):Option Bool:=
 if ((List.length p0:Int) != (List.length p1:Int))=true then (some false) else (oP p0 p1 fuel 0)
def vQ (p0:M.Machine) (p1:M.Machine):Option Bool:=
 (tP p0.Script p1.Script).bind fun x1=>(if (!x1)=true then (some false) else (if (p0.Pc != p1.Pc)=true then (some false) else ((aB3 p0.Regs p1.Regs).bind fun x5=>(if (!x5)=true then (some false) else (if (p0.Steps != p1.Steps)=true then (some false) else (if (!(p0.Done==p1.Done))=true then (some false) else (if (!(p0.Wait==p1.Wait))=true then (some false) else (some true))))))))
def aBs (p0:M.bH) (p1:M.bH):Option Bool:=
 if (p0.Id != p1.Id)=true then (some false) else (if (!(p0.Site.toList==p1.Site.toList))=true then (some false) else (if (!(p0.Top.toList==p1.Top.toList))=true then (some false) else (if (p0.Version != p1.Version)=true then (some false) else ((xF p0.aK p1.aK).bind fun x5=>(if (!x5)=true then (some false) else ((vQ p0.Machine p1.Machine).bind fun x8=>(if (!x8)=true then (some false) else (some true))))))))
def nL (p0:List M.bH) (p1:List M.bH):Nat→Int→Option Bool
 | 0,_=>none
 | nL1+1,v5=>if (decide (v5<(List.length p0:Int)))=true then ((idx p0 v5).bind fun x7=>((idx p1 v5).bind fun x12=>((aBs x7 x12).bind fun x17=>(if (!x17)=true then (some false) else (nL p0 p1 nL1 (i64.wrap (v5+1))))))) else (some true)
def aAr (p0:List M.bH) (p1:List M.bH):Option Bool:=
 if ((List.length p0:Int) != (List.length p1:Int))=true then (some false) else (nL p0 p1 fuel 0)
def aCA (p0:M.cJ) (p1:M.cJ):Option Bool:=
 if (!(p0.Name.toList==p1.Name.toList))=true then (some false) else (if (p0.bH != p1.bH)=true then (some false) else (if (!(p0.Shared==p1.Shared))=true then (some false) else (if (!(p0.Held==p1.Held))=true then (some false) else (some true))))
def nN (p0:List M.cJ) (p1:List M.cJ):Nat→Int→Option Bool
 | 0,_=>none
 | nL1+1,v5=>if (decide (v5<(List.length p0:Int)))=true then ((idx p0 v5).bind fun x7=>((idx p1 v5).bind fun x12=>((aCA x7 x12).bind fun x17=>(if (!x17)=true then (some false) else (nN p0 p1 nL1 (i64.wrap (v5+1))))))) else (some true)
def aAd (p0:List M.cJ) (p1:List M.cJ):Option Bool:=
 if ((List.length p0:Int) != (List.length p1:Int))=true then (some false) else (nN p0 p1 fuel 0)
def pY (p0:M.aQ) (p1:M.aQ):Option Bool:=
 (aAd p0.Locks p1.Locks).bind fun x1=>(if (!x1)=true then (some false) else (some true))
def aCD (p0:M.eU) (p1:M.eU):Option Bool:=
 if (p0.To != p1.To)=true then (some false) else (if (p0.From != p1.From)=true then (some false) else (if (p0.N != p1.N)=true then (some false) else (some true)))
def nQ (p0:List M.eU) (p1:List M.eU):Nat→Int→Option Bool
 | 0,_=>none
 | nL1+1,v5=>if (decide (v5<(List.length p0:Int)))=true then ((idx p0 v5).bind fun x7=>((idx p1 v5).bind fun x12=>((aCD x7 x12).bind fun x17=>(if (!x17)=true then (some false) else (nQ p0 p1 nL1 (i64.wrap (v5+1))))))) else (some true)
def aAz (p0:List M.eU) (p1:List M.eU):Option Bool:=
 if ((List.length p0:Int) != (List.length p1:Int))=true then (some false) else (nQ p0 p1 fuel 0)
def wP (p0:M.Channel) (p1:M.Channel):Option Bool:=
 (aAz p0.Mails p1.Mails).bind fun x1=>(if (!x1)=true then (some false) else (some true))
def kK (p0:List ByteArray) (p1:List ByteArray):Nat→Int→Option Bool
 | 0,_=>none
 | nL1+1,v5=>if (decide (v5<(List.length p0:Int)))=true then ((idx p0 v5).bind fun x7=>((idx p1 v5).bind fun x12=>(if (!(x7.toList==x12.toList))=true then (some false) else (kK p0 p1 nL1 (i64.wrap (v5+1)))))) else (some true)
def xA (p0:List ByteArray) (p1:List ByteArray):Option Bool:=
 if ((List.length p0:Int) != (List.length p1:Int))=true then (some false) else (kK p0 p1 fuel 0)
def aBc (p0:M.Site) (p1:M.Site):Option Bool:=
 if (!(p0.Name.toList==p1.Name.toList))=true then (some false) else (if (p0.Version != p1.Version)=true then (some false) else ((xA p0.Files p1.Files).bind fun x3=>(if (!x3)=true then (some false) else (if (!(p0.Shared==p1.Shared))=true then (some false) else (some true)))))
def nH (p0:List M.Site) (p1:List M.Site):Nat→Int→Option Bool
 | 0,_=>none
 | nL1+1,v5=>if (decide (v5<(List.length p0:Int)))=true then ((idx p0 v5).bind fun x7=>((idx p1 v5).bind fun x12=>((aBc x7 x12).bind fun x17=>(if (!x17)=true then (some false) else (nH p0 p1 nL1 (i64.wrap (v5+1))))))) else (some true)
def aBD (p0:List M.Site) (p1:List M.Site):Option Bool:=
 if ((List.length p0:Int) != (List.length p1:Int))=true then (some false) else (nH p0 p1 fuel 0)
def wB (p0:M.aM) (p1:M.aM):Option Bool:=
 if (p0.Device != p1.Device)=true then (some false) else (if (p0.Seq != p1.Seq)=true then (some false) else (some true))
def jV (p0:List M.aM) (p1:List M.aM):Nat→Int→Option Bool
 | 0,_=>none
 | nL1+1,v5=>if (decide (v5<(List.length p0:Int)))=true then ((idx p0 v5).bind fun x7=>((idx p1 v5).bind fun x12=>((wB x7 x12).bind fun x17=>(if (!x17)=true then (some false) else (jV p0 p1 nL1 (i64.wrap (v5+1))))))) else (some true)
def sV (p0:List M.aM) (p1:List M.aM):Option Bool:=
 if ((List.length p0:Int) != (List.length p1:Int))=true then (some false) else (jV p0 p1 fuel 0)
def yU (p0:M.Server) (p1:M.Server):Option Bool:=
 (rZ p0.aH p1.aH).bind fun x1=>(if (!x1)=true then (some false) else ((sV p0.aM p1.aM).bind fun x4=>(if (!x4)=true then (some false) else ((uN p0.Changes p1.Changes).bind fun x7=>(if (!x7)=true then (some false) else (some true))))))
def kJ (p0:List M.Server) (p1:List M.Server):Nat→Int→Option Bool
 | 0,_=>none
 | nL1+1,v5=>if (decide (v5<(List.length p0:Int)))=true then ((idx p0 v5).bind fun x7=>((idx p1 v5).bind fun x12=>((yU x7 x12).bind fun x17=>(if (!x17)=true then (some false) else (kJ p0 p1 nL1 (i64.wrap (v5+1))))))) else (some true)
def wY (p0:List M.Server) (p1:List M.Server):Option Bool:=
 if ((List.length p0:Int) != (List.length p1:Int))=true then (some false) else (kJ p0 p1 fuel 0)
def mX (p0:M.World) (p1:M.World):Option Bool:=
 if (p0.Now != p1.Now)=true then (some false) else (if (!(p0.Online==p1.Online))=true then (some false) else (if (p0.Device != p1.Device)=true then (some false) else ((xC p0.aA p1.aA).bind fun x4=>(if (!x4)=true then (some false) else ((aAr p0.Pages p1.Pages).bind fun x7=>(if (!x7)=true then (some false) else (if (p0.NextPage != p1.NextPage)=true then (some false) else ((pY p0.Locks p1.Locks).bind fun x11=>(if (!x11)=true then (some false) else ((wP p0.Channel p1.Channel).bind fun x14=>(if (!x14)=true then (some false) else ((aBD p0.Sites p1.Sites).bind fun x17=>(if (!x17)=true then (some false) else ((wY p0.Servers p1.Servers).bind fun x20=>(if (!x20)=true then (some false) else (some true))))))))))))))))
def lW  : Nat→Int→ByteArray→Option ByteArray
 | 0,_,_=>none
 | nL1+1,v0,v3=>if (decide (v0>0))=true then ((toStr ([(IntKind.u8.wrap (i64.wrap (48+(Int.tmod v0 10))))])).bind fun x6=>((cat (aDL ([(IntKind.u8.wrap (i64.wrap (48+(Int.tmod v0 10))))])) v3).bind fun x8=>(lW nL1 (i64.wrap (Int.tdiv v0 10)) ((aDL ([(IntKind.u8.wrap (i64.wrap (48+(Int.tmod v0 10))))]))++v3)))) else ((cat (⟨#[109]⟩:ByteArray) v3).bind fun x13=>(some ((⟨#[109]⟩:ByteArray)++v3)))
def aJ (p0:Int):Option ByteArray:=
 if (decide (p0≤0))=true then (some (⟨#[109,48]⟩:ByteArray)) else (lW fuel p0 (⟨#[]⟩:ByteArray))
def dY  : Nat→Int→Int→List Int→Option (List Int×Int)
 | 0,_,_,_=>none
 | nL1+1,v1,v5,r99=>if (decide (v5<(List.length r99:Int)))=true then ((idx r99 v5).bind fun x8=>((some (List.set r99 v5.toNat (IntKind.u8.wrap v1))).bind fun y13=>(dY nL1 (i64.wrap (v1+1)) (i64.wrap (v5+1)) y13))) else (some (r99,v1))
def pC (p0:List Int) (p1:Int):Option (List Int×Int):=
 dY fuel p1 0 p0
def cQ  : Nat→Int→Int→List M.Cached→Option (List M.Cached×Int)
 | 0,_,_,_=>none
 | nL1+1,v1,v5,r99=>if (decide (v5<(List.length r99:Int)))=true then ((aJ v1).bind fun x8=>((idx r99 v5).bind fun x10=>((some (List.set r99 v5.toNat (⟨x8,x10.Path,x10.Response⟩:M.Cached))).bind fun y15=>((aJ (i64.wrap (v1+1))).bind fun x23=>((idx y15 v5).bind fun x25=>((some (List.set y15 v5.toNat (⟨x25.Site,x23,x25.Response⟩:M.Cached))).bind fun y30=>((idx y30 v5).bind fun x38=>((some (List.set y30 v5.toNat (⟨x38.Site,x38.Path,(⟨(i64.wrap ((i64.wrap (v1+1))+1)),x38.Response.Status,x38.Response.Version,x38.Response.Body,x38.Response.Shares⟩:M.Response)⟩:M.Cached))).bind fun y43=>((idx y43 v5).bind fun x51=>((some (List.set y43 v5.toNat (⟨x51.Site,x51.Path,(⟨x51.Response.Type_,(i64.wrap ((i64.wrap ((i64.wrap (v1+1))+1))+1)),x51.Response.Version,x51.Response.Body,x51.Response.Shares⟩:M.Response)⟩:M.Cached))).bind fun y56=>((idx y56 v5).bind fun x64=>((some (List.set y56 v5.toNat (⟨x64.Site,x64.Path,(⟨x64.Response.Type_,x64.Response.Status,(i64.wrap ((i64.wrap ((i64.wrap ((i64.wrap (v1+1))+1))+1))+1)),x64.Response.Body,x64.Response.Shares⟩:M.Response)⟩:M.Cached))).bind fun y69=>((idx y69 v5).bind fun x77=>((pC x77.Response.Body (i64.wrap ((i64.wrap ((i64.wrap ((i64.wrap ((i64.wrap (v1+1))+1))+1))+1))+1))).bind fun x82=>((some (List.set y69 v5.toNat (⟨x77.Site,x77.Path,(⟨x77.Response.Type_,x77.Response.Status,x77.Response.Version,x82.1,x77.Response.Shares⟩:M.Response)⟩:M.Cached))).bind fun y84=>((idx y84 v5).bind fun x92=>((some (List.set y84 v5.toNat (⟨x92.Site,x92.Path,(⟨x92.Response.Type_,x92.Response.Status,x92.Response.Version,x92.Response.Body,((Int.tmod x82.2 3)==0)⟩:M.Response)⟩:M.Cached))).bind fun y97=>(cQ nL1 (i64.wrap (x82.2+1)) (i64.wrap (v5+1)) y97)))))))))))))))))) else (some (r99,v1))
def pN (p0:List M.Cached) (p1:Int):Option (List M.Cached×Int):=
 cQ fuel p1 0 p0
def dI  : Nat→Int→Int→List M.Cache→Option (List M.Cache×Int)
 | 0,_,_,_=>none
 | nL1+1,v1,v5,r99=>if (decide (v5<(List.length r99:Int)))=true then ((idx r99 v5).bind fun x8=>((some (List.set r99 v5.toNat (⟨v1,x8.Entries⟩:M.Cache))).bind fun y13=>((idx y13 v5).bind fun x21=>((pN x21.Entries (i64.wrap (v1+1))).bind fun x26=>((some (List.set y13 v5.toNat (⟨x21.Version,x26.1⟩:M.Cache))).bind fun y28=>(dI nL1 x26.2 (i64.wrap (v5+1)) y28)))))) else (some (r99,v1))
def uP (p0:List M.Cache) (p1:Int):Option (List M.Cache×Int):=
 dI fuel p1 0 p0
def dE  : Nat→Int→Int→List M.Field→Option (List M.Field×Int)
 | 0,_,_,_=>none
 | nL1+1,v1,v5,r99=>if (decide (v5<(List.length r99:Int)))=true then ((aJ v1).bind fun x8=>((idx r99 v5).bind fun x10=>((some (List.set r99 v5.toNat (⟨x8,x10.N⟩:M.Field))).bind fun y15=>((idx y15 v5).bind fun x23=>((some (List.set y15 v5.toNat (⟨x23.Name,(i64.wrap (v1+1))⟩:M.Field))).bind fun y28=>(dE nL1 (i64.wrap ((i64.wrap (v1+1))+1)) (i64.wrap (v5+1)) y28)))))) else (some (r99,v1))
def uG (p0:List M.Field) (p1:Int):Option (List M.Field×Int):=
 dE fuel p1 0 p0
def dW  : Nat→Int→Int→List M.Item→Option (List M.Item×Int)
 | 0,_,_,_=>none
 | nL1+1,v1,v5,r99=>if (decide (v5<(List.length r99:Int)))=true then ((idx r99 v5).bind fun x8=>((some (List.set r99 v5.toNat (⟨(⟨v1,x8.Key.N,x8.Key.Text⟩:M.Key),x8.aW⟩:M.Item))).bind fun y13=>((idx y13 v5).bind fun x21=>((some (List.set y13 v5.toNat (⟨(⟨x21.Key.Kind,(i64.wrap (v1+1)),x21.Key.Text⟩:M.Key),x21.aW⟩:M.Item))).bind fun y26=>((aJ (i64.wrap ((i64.wrap (v1+1))+1))).bind fun x34=>((idx y26 v5).bind fun x36=>((some (List.set y26 v5.toNat (⟨(⟨x36.Key.Kind,x36.Key.N,x34⟩:M.Key),x36.aW⟩:M.Item))).bind fun y41=>((idx y41 v5).bind fun x49=>((uG x49.aW.Fields (i64.wrap ((i64.wrap ((i64.wrap (v1+1))+1))+1))).bind fun x54=>((some (List.set y41 v5.toNat (⟨x49.Key,(⟨x54.1⟩:M.aW)⟩:M.Item))).bind fun y56=>(dW nL1 x54.2 (i64.wrap (v5+1)) y56))))))))))) else (some (r99,v1))
def mF (p0:List M.Item) (p1:Int):Option (List M.Item×Int):=
 dW fuel p1 0 p0
def dH  : Nat→Int→Int→List M.aH→Option (List M.aH×Int)
 | 0,_,_,_=>none
 | nL1+1,v1,v5,r99=>if (decide (v5<(List.length r99:Int)))=true then ((aJ v1).bind fun x8=>((idx r99 v5).bind fun x10=>((some (List.set r99 v5.toNat (⟨x8,x10.Items,x10.Auto⟩:M.aH))).bind fun y15=>((idx y15 v5).bind fun x23=>((mF x23.Items (i64.wrap (v1+1))).bind fun x28=>((some (List.set y15 v5.toNat (⟨x23.Name,x28.1,x23.Auto⟩:M.aH))).bind fun y30=>((idx y30 v5).bind fun x38=>((some (List.set y30 v5.toNat (⟨x38.Name,x38.Items,x28.2⟩:M.aH))).bind fun y43=>(dH nL1 (i64.wrap (x28.2+1)) (i64.wrap (v5+1)) y43))))))))) else (some (r99,v1))
def tA (p0:List M.aH) (p1:Int):Option (List M.aH×Int):=
 dH fuel p1 0 p0
def bY  : Nat→Int→Int→List M.aE→Option (List M.aE×Int)
 | 0,_,_,_=>none
 | nL1+1,v1,v5,r99=>if (decide (v5<(List.length r99:Int)))=true then ((aJ v1).bind fun x8=>((idx r99 v5).bind fun x10=>((some (List.set r99 v5.toNat (⟨x8,x10.Field⟩:M.aE))).bind fun y15=>((aJ (i64.wrap (v1+1))).bind fun x23=>((idx y15 v5).bind fun x25=>((some (List.set y15 v5.toNat (⟨x25.aH,x23⟩:M.aE))).bind fun y30=>(bY nL1 (i64.wrap ((i64.wrap (v1+1))+1)) (i64.wrap (v5+1)) y30))))))) else (some (r99,v1))
def mQ (p0:List M.aE) (p1:Int):Option (List M.aE×Int):=
 bY fuel p1 0 p0
def dG  : Nat→Int→Int→List M.aZ→Option (List M.aZ×Int)
 | 0,_,_,_=>none
 | nL1+1,v1,v5,r99=>if (decide (v5<(List.length r99:Int)))=true then ((idx r99 v5).bind fun x8=>((some (List.set r99 v5.toNat (⟨v1,x8.Seq,x8.Key,x8.Field,x8.N⟩:M.aZ))).bind fun y13=>((idx y13 v5).bind fun x21=>((some (List.set y13 v5.toNat (⟨x21.Device,(i64.wrap (v1+1)),x21.Key,x21.Field,x21.N⟩:M.aZ))).bind fun y26=>((idx y26 v5).bind fun x34=>((some (List.set y26 v5.toNat (⟨x34.Device,x34.Seq,(⟨(i64.wrap ((i64.wrap (v1+1))+1)),x34.Key.N,x34.Key.Text⟩:M.Key),x34.Field,x34.N⟩:M.aZ))).bind fun y39=>((idx y39 v5).bind fun x47=>((some (List.set y39 v5.toNat (⟨x47.Device,x47.Seq,(⟨x47.Key.Kind,(i64.wrap ((i64.wrap ((i64.wrap (v1+1))+1))+1)),x47.Key.Text⟩:M.Key),x47.Field,x47.N⟩:M.aZ))).bind fun y52=>((aJ (i64.wrap ((i64.wrap ((i64.wrap ((i64.wrap (v1+1))+1))+1))+1))).bind fun x60=>((idx y52 v5).bind fun x62=>((some (List.set y52 v5.toNat (⟨x62.Device,x62.Seq,(⟨x62.Key.Kind,x62.Key.N,x60⟩:M.Key),x62.Field,x62.N⟩:M.aZ))).bind fun y67=>((aJ (i64.wrap ((i64.wrap ((i64.wrap ((i64.wrap ((i64.wrap (v1+1))+1))+1))+1))+1))).bind fun x75=>((idx y67 v5).bind fun x77=>((some (List.set y67 v5.toNat (⟨x77.Device,x77.Seq,x77.Key,x75,x77.N⟩:M.aZ))).bind fun y82=>((idx y82 v5).bind fun x90=>((some (List.set y82 v5.toNat (⟨x90.Device,x90.Seq,x90.Key,x90.Field,(i64.wrap ((i64.wrap ((i64.wrap ((i64.wrap ((i64.wrap ((i64.wrap (v1+1))+1))+1))+1))+1))+1))⟩:M.aZ))).bind fun y95=>(dG nL1 (i64.wrap ((i64.wrap ((i64.wrap ((i64.wrap ((i64.wrap ((i64.wrap ((i64.wrap (v1+1))+1))+1))+1))+1))+1))+1)) (i64.wrap (v5+1)) y95))))))))))))))))) else (some (r99,v1))
def nF (p0:List M.aZ) (p1:Int):Option (List M.aZ×Int):=
 dG fuel p1 0 p0
def cV  : Nat→Int→Int→List M.aC→Option (List M.aC×Int)
 | 0,_,_,_=>none
 | nL1+1,v1,v5,r99=>if (decide (v5<(List.length r99:Int)))=true then ((aJ v1).bind fun x8=>((idx r99 v5).bind fun x10=>((some (List.set r99 v5.toNat (⟨x8,x10.Top,x10.Registration,x10.Caches,x10.bC,x10.aD,x10.LastUsed,x10.Persistent⟩:M.aC))).bind fun y15=>((aJ (i64.wrap (v1+1))).bind fun x23=>((idx y15 v5).bind fun x25=>((some (List.set y15 v5.toNat (⟨x25.Site,x23,x25.Registration,x25.Caches,x25.bC,x25.aD,x25.LastUsed,x25.Persistent⟩:M.aC))).bind fun y30=>((aJ (i64.wrap ((i64.wrap (v1+1))+1))).bind fun x38=>((idx y30 v5).bind fun x40=>((some (List.set y30 v5.toNat (⟨x40.Site,x40.Top,(⟨x38,x40.Registration.Installing,x40.Registration.Waiting,x40.Registration.Active⟩:M.Registration),x40.Caches,x40.bC,x40.aD,x40.LastUsed,x40.Persistent⟩:M.aC))).bind fun y45=>((idx y45 v5).bind fun x53=>((some (List.set y45 v5.toNat (⟨x53.Site,x53.Top,(⟨x53.Registration.Site,(i64.wrap ((i64.wrap ((i64.wrap (v1+1))+1))+1)),x53.Registration.Waiting,x53.Registration.Active⟩:M.Registration),x53.Caches,x53.bC,x53.aD,x53.LastUsed,x53.Persistent⟩:M.aC))).bind fun y58=>((idx y58 v5).bind fun x66=>((some (List.set y58 v5.toNat (⟨x66.Site,x66.Top,(⟨x66.Registration.Site,x66.Registration.Installing,(i64.wrap ((i64.wrap ((i64.wrap ((i64.wrap (v1+1))+1))+1))+1)),x66.Registration.Active⟩:M.Registration),x66.Caches,x66.bC,x66.aD,x66.LastUsed,x66.Persistent⟩:M.aC))).bind fun y71=>((idx y71 v5).bind fun x79=>((some (List.set y71 v5.toNat (⟨x79.Site,x79.Top,(⟨x79.Registration.Site,x79.Registration.Installing,x79.Registration.Waiting,(i64.wrap ((i64.wrap ((i64.wrap ((i64.wrap ((i64.wrap (v1+1))+1))+1))+1))+1))⟩:M.Registration),x79.Caches,x79.bC,x79.aD,x79.LastUsed,x79.Persistent⟩:M.aC))).bind fun y84=>((idx y84 v5).bind fun x92=>((uP x92.Caches.Caches (i64.wrap ((i64.wrap ((i64.wrap ((i64.wrap ((i64.wrap ((i64.wrap (v1+1))+1))+1))+1))+1))+1))).bind fun x97=>((some (List.set y84 v5.toNat (⟨x92.Site,x92.Top,x92.Registration,(⟨x97.1⟩:M.aO),x92.bC,x92.aD,x92.LastUsed,x92.Persistent⟩:M.aC))).bind fun y99=>((aJ x97.2).bind fun x107=>((idx y99 v5).bind fun x109=>((some (List.set y99 v5.toNat (⟨x109.Site,x109.Top,x109.Registration,x109.Caches,(⟨(⟨x107,x109.bC.Base.Version,x109.bC.Base.Stores,x109.bC.Base.Unique⟩:M.Database),x109.bC.Log,x109.bC.Count⟩:M.bC),x109.aD,x109.LastUsed,x109.Persistent⟩:M.aC))).bind fun y114=>((idx y114 v5).bind fun x122=>((some (List.set y114 v5.toNat (⟨x122.Site,x122.Top,x122.Registration,x122.Caches,(⟨(⟨x122.bC.Base.Name,(i64.wrap (x97.2+1)),x122.bC.Base.Stores,x122.bC.Base.Unique⟩:M.Database),x122.bC.Log,x122.bC.Count⟩:M.bC),x122.aD,x122.LastUsed,x122.Persistent⟩:M.aC))).bind fun y127=>((idx y127 v5).bind fun x135=>((tA x135.bC.Base.Stores (i64.wrap ((i64.wrap (x97.2+1))+1))).bind fun x140=>((some (List.set y127 v5.toNat (⟨x135.Site,x135.Top,x135.Registration,x135.Caches,(⟨(⟨x135.bC.Base.Name,x135.bC.Base.Version,x140.1,x135.bC.Base.Unique⟩:M.Database),x135.bC.Log,x135.bC.Count⟩:M.bC),x135.aD,x135.LastUsed,x135.Persistent⟩:M.aC))).bind fun y142=>((idx y142 v5).bind fun x150=>((mQ x150.bC.Base.Unique x140.2).bind fun x155=>((some (List.set y142 v5.toNat (⟨x150.Site,x150.Top,x150.Registration,x150.Caches,(⟨(⟨x150.bC.Base.Name,x150.bC.Base.Version,x150.bC.Base.Stores,x155.1⟩:M.Database),x150.bC.Log,x150.bC.Count⟩:M.bC),x150.aD,x150.LastUsed,x150.Persistent⟩:M.aC))).bind fun y157=>((idx y157 v5).bind fun x165=>((pC x165.bC.Log x155.2).bind fun x170=>((some (List.set y157 v5.toNat (⟨x165.Site,x165.Top,x165.Registration,x165.Caches,(⟨x165.bC.Base,x170.1,x165.bC.Count⟩:M.bC),x165.aD,x165.LastUsed,x165.Persistent⟩:M.aC))).bind fun y172=>((idx y172 v5).bind fun x180=>((some (List.set y172 v5.toNat (⟨x180.Site,x180.Top,x180.Registration,x180.Caches,(⟨x180.bC.Base,x180.bC.Log,x170.2⟩:M.bC),x180.aD,x180.LastUsed,x180.Persistent⟩:M.aC))).bind fun y185=>((aJ (i64.wrap (x170.2+1))).bind fun x193=>((idx y185 v5).bind fun x195=>((some (List.set y185 v5.toNat (⟨x195.Site,x195.Top,x195.Registration,x195.Caches,x195.bC,(⟨(⟨x193,x195.aD.Base.Items,x195.aD.Base.Auto⟩:M.aH),x195.aD.Seen,x195.aD.Sync⟩:M.aD),x195.LastUsed,x195.Persistent⟩:M.aC))).bind fun y200=>((idx y200 v5).bind fun x208=>((mF x208.aD.Base.Items (i64.wrap ((i64.wrap (x170.2+1))+1))).bind fun x213=>((some (List.set y200 v5.toNat (⟨x208.Site,x208.Top,x208.Registration,x208.Caches,x208.bC,(⟨(⟨x208.aD.Base.Name,x213.1,x208.aD.Base.Auto⟩:M.aH),x208.aD.Seen,x208.aD.Sync⟩:M.aD),x208.LastUsed,x208.Persistent⟩:M.aC))).bind fun y215=>((idx y215 v5).bind fun x223=>((some (List.set y215 v5.toNat (⟨x223.Site,x223.Top,x223.Registration,x223.Caches,x223.bC,(⟨(⟨x223.aD.Base.Name,x223.aD.Base.Items,x213.2⟩:M.aH),x223.aD.Seen,x223.aD.Sync⟩:M.aD),x223.LastUsed,x223.Persistent⟩:M.aC))).bind fun y228=>((idx y228 v5).bind fun x236=>((some (List.set y228 v5.toNat (⟨x236.Site,x236.Top,x236.Registration,x236.Caches,x236.bC,(⟨x236.aD.Base,(i64.wrap (x213.2+1)),x236.aD.Sync⟩:M.aD),x236.LastUsed,x236.Persistent⟩:M.aC))).bind fun y241=>((idx y241 v5).bind fun x249=>((some (List.set y241 v5.toNat (⟨x249.Site,x249.Top,x249.Registration,x249.Caches,x249.bC,(⟨x249.aD.Base,x249.aD.Seen,(⟨(⟨(i64.wrap ((i64.wrap (x213.2+1))+1)),x249.aD.Sync.aR.Next,x249.aD.Sync.aR.Writes⟩:M.aR),x249.aD.Sync.Tries,x249.aD.Sync.WaitUntil⟩:M.Sync)⟩:M.aD),x249.LastUsed,x249.Persistent⟩:M.aC))).bind fun y254=>((idx y254 v5).bind fun x262=>((some (List.set y254 v5.toNat (⟨x262.Site,x262.Top,x262.Registration,x262.Caches,x262.bC,(⟨x262.aD.Base,x262.aD.Seen,(⟨(⟨x262.aD.Sync.aR.Device,(i64.wrap ((i64.wrap ((i64.wrap (x213.2+1))+1))+1)),x262.aD.Sync.aR.Writes⟩:M.aR),x262.aD.Sync.Tries,x262.aD.Sync.WaitUntil⟩:M.Sync)⟩:M.aD),x262.LastUsed,x262.Persistent⟩:M.aC))).bind fun y267=>((idx y267 v5).bind fun x275=>((nF x275.aD.Sync.aR.Writes (i64.wrap ((i64.wrap ((i64.wrap ((i64.wrap (x213.2+1))+1))+1))+1))).bind fun x280=>((some (List.set y267 v5.toNat (⟨x275.Site,x275.Top,x275.Registration,x275.Caches,x275.bC,(⟨x275.aD.Base,x275.aD.Seen,(⟨(⟨x275.aD.Sync.aR.Device,x275.aD.Sync.aR.Next,x280.1⟩:M.aR),x275.aD.Sync.Tries,x275.aD.Sync.WaitUntil⟩:M.Sync)⟩:M.aD),x275.LastUsed,x275.Persistent⟩:M.aC))).bind fun y282=>((idx y282 v5).bind fun x290=>((some (List.set y282 v5.toNat (⟨x290.Site,x290.Top,x290.Registration,x290.Caches,x290.bC,(⟨x290.aD.Base,x290.aD.Seen,(⟨x290.aD.Sync.aR,x280.2,x290.aD.Sync.WaitUntil⟩:M.Sync)⟩:M.aD),x290.LastUsed,x290.Persistent⟩:M.aC))).bind fun y295=>((idx y295 v5).bind fun x303=>((some (List.set y295 v5.toNat (⟨x303.Site,x303.Top,x303.Registration,x303.Caches,x303.bC,(⟨x303.aD.Base,x303.aD.Seen,(⟨x303.aD.Sync.aR,x303.aD.Sync.Tries,(i64.wrap (x280.2+1))⟩:M.Sync)⟩:M.aD),x303.LastUsed,x303.Persistent⟩:M.aC))).bind fun y308=>((idx y308 v5).bind fun x316=>((some (List.set y308 v5.toNat (⟨x316.Site,x316.Top,x316.Registration,x316.Caches,x316.bC,x316.aD,(i64.wrap ((i64.wrap (x280.2+1))+1)),x316.Persistent⟩:M.aC))).bind fun y321=>((idx y321 v5).bind fun x329=>((some (List.set y321 v5.toNat (⟨x329.Site,x329.Top,x329.Registration,x329.Caches,x329.bC,x329.aD,x329.LastUsed,((Int.tmod (i64.wrap ((i64.wrap ((i64.wrap (x280.2+1))+1))+1)) 3)==0)⟩:M.aC))).bind fun y334=>(cV nL1 (i64.wrap ((i64.wrap ((i64.wrap ((i64.wrap (x280.2+1))+1))+1))+1)) (i64.wrap (v5+1)) y334)))))))))))))))))))))))))))))))))))))))))))))))))))))))))))) else (some (r99,v1))
def rH (p0:List M.aC) (p1:Int):Option (List M.aC×Int):=
 cV fuel p1 0 p0
def yG (p0:M.aA) (p1:Int):Option (List M.aC×Int):=
 (rH p0.Buckets p1).bind fun x1=>(some (x1.1,x1.2))
def cP  : Nat→Int→Int→List M.aK→Option (List M.aK×Int)
 | 0,_,_,_=>none
 | nL1+1,v1,v5,r99=>if (decide (v5<(List.length r99:Int)))=true then ((aJ v1).bind fun x8=>((idx r99 v5).bind fun x10=>((some (List.set r99 v5.toNat (⟨x8,x10.Version⟩:M.aK))).bind fun y15=>((idx y15 v5).bind fun x23=>((some (List.set y15 v5.toNat (⟨x23.Path,(i64.wrap (v1+1))⟩:M.aK))).bind fun y28=>(cP nL1 (i64.wrap ((i64.wrap (v1+1))+1)) (i64.wrap (v5+1)) y28)))))) else (some (r99,v1))
def rF (p0:List M.aK) (p1:Int):Option (List M.aK×Int):=
 cP fuel p1 0 p0
def dD  : Nat→Int→Int→List M.Instr→Option (List M.Instr×Int)
 | 0,_,_,_=>none
 | nL1+1,v1,v5,r99=>if (decide (v5<(List.length r99:Int)))=true then ((idx r99 v5).bind fun x8=>((some (List.set r99 v5.toNat (⟨v1,x8.R,x8.N,x8.Text⟩:M.Instr))).bind fun y13=>((idx y13 v5).bind fun x21=>((some (List.set y13 v5.toNat (⟨x21.Kind,(i64.wrap (v1+1)),x21.N,x21.Text⟩:M.Instr))).bind fun y26=>((idx y26 v5).bind fun x34=>((some (List.set y26 v5.toNat (⟨x34.Kind,x34.R,(i64.wrap ((i64.wrap (v1+1))+1)),x34.Text⟩:M.Instr))).bind fun y39=>((aJ (i64.wrap ((i64.wrap ((i64.wrap (v1+1))+1))+1))).bind fun x47=>((idx y39 v5).bind fun x49=>((some (List.set y39 v5.toNat (⟨x49.Kind,x49.R,x49.N,x47⟩:M.Instr))).bind fun y54=>(dD nL1 (i64.wrap ((i64.wrap ((i64.wrap ((i64.wrap (v1+1))+1))+1))+1)) (i64.wrap (v5+1)) y54)))))))))) else (some (r99,v1))
def nO (p0:List M.Instr) (p1:Int):Option (List M.Instr×Int):=
 dD fuel p1 0 p0
def eV  : Nat→Int→Int→List Int→Option (List Int×Int)
 | 0,_,_,_=>none
 | nL1+1,v1,v5,r99=>if (decide (v5<(List.length r99:Int)))=true then ((idx r99 v5).bind fun x8=>((some (List.set r99 v5.toNat v1)).bind fun y13=>(eV nL1 (i64.wrap (v1+1)) (i64.wrap (v5+1)) y13))) else (some (r99,v1))
def zH (p0:List Int) (p1:Int):Option (List Int×Int):=
 eV fuel p1 0 p0
def dU  : Nat→Int→Int→List M.bH→Option (List M.bH×Int)
 | 0,_,_,_=>none
 | nL1+1,v1,v5,r99=>if (decide (v5<(List.length r99:Int)))=true then ((idx r99 v5).bind fun x8=>((some (List.set r99 v5.toNat (⟨v1,x8.Site,x8.Top,x8.Version,x8.aK,x8.Machine⟩:M.bH))).bind fun y13=>((aJ (i64.wrap (v1+1))).bind fun x21=>((idx y13 v5).bind fun x23=>((some (List.set y13 v5.toNat (⟨x23.Id,x21,x23.Top,x23.Version,x23.aK,x23.Machine⟩:M.bH))).bind fun y28=>((aJ (i64.wrap ((i64.wrap (v1+1))+1))).bind fun x36=>((idx y28 v5).bind fun x38=>((some (List.set y28 v5.toNat (⟨x38.Id,x38.Site,x36,x38.Version,x38.aK,x38.Machine⟩:M.bH))).bind fun y43=>((idx y43 v5).bind fun x51=>((some (List.set y43 v5.toNat (⟨x51.Id,x51.Site,x51.Top,(i64.wrap ((i64.wrap ((i64.wrap (v1+1))+1))+1)),x51.aK,x51.Machine⟩:M.bH))).bind fun y56=>((idx y56 v5).bind fun x64=>((rF x64.aK (i64.wrap ((i64.wrap ((i64.wrap ((i64.wrap (v1+1))+1))+1))+1))).bind fun x69=>((some (List.set y56 v5.toNat (⟨x64.Id,x64.Site,x64.Top,x64.Version,x69.1,x64.Machine⟩:M.bH))).bind fun y71=>((idx y71 v5).bind fun x79=>((nO x79.Machine.Script x69.2).bind fun x84=>((some (List.set y71 v5.toNat (⟨x79.Id,x79.Site,x79.Top,x79.Version,x79.aK,(⟨x84.1,x79.Machine.Pc,x79.Machine.Regs,x79.Machine.Steps,x79.Machine.Done,x79.Machine.Wait⟩:M.Machine)⟩:M.bH))).bind fun y86=>((idx y86 v5).bind fun x94=>((some (List.set y86 v5.toNat (⟨x94.Id,x94.Site,x94.Top,x94.Version,x94.aK,(⟨x94.Machine.Script,x84.2,x94.Machine.Regs,x94.Machine.Steps,x94.Machine.Done,x94.Machine.Wait⟩:M.Machine)⟩:M.bH))).bind fun y99=>((idx y99 v5).bind fun x107=>((zH x107.Machine.Regs (i64.wrap (x84.2+1))).bind fun x112=>((some (List.set y99 v5.toNat (⟨x107.Id,x107.Site,x107.Top,x107.Version,x107.aK,(⟨x107.Machine.Script,x107.Machine.Pc,x112.1,x107.Machine.Steps,x107.Machine.Done,x107.Machine.Wait⟩:M.Machine)⟩:M.bH))).bind fun y114=>((idx y114 v5).bind fun x122=>((some (List.set y114 v5.toNat (⟨x122.Id,x122.Site,x122.Top,x122.Version,x122.aK,(⟨x122.Machine.Script,x122.Machine.Pc,x122.Machine.Regs,x112.2,x122.Machine.Done,x122.Machine.Wait⟩:M.Machine)⟩:M.bH))).bind fun y127=>((idx y127 v5).bind fun x135=>((some (List.set y127 v5.toNat (⟨x135.Id,x135.Site,x135.Top,x135.Version,x135.aK,(⟨x135.Machine.Script,x135.Machine.Pc,x135.Machine.Regs,x135.Machine.Steps,((Int.tmod (i64.wrap (x112.2+1)) 3)==0),x135.Machine.Wait⟩:M.Machine)⟩:M.bH))).bind fun y140=>((idx y140 v5).bind fun x148=>((some (List.set y140 v5.toNat (⟨x148.Id,x148.Site,x148.Top,x148.Version,x148.aK,(⟨x148.Machine.Script,x148.Machine.Pc,x148.Machine.Regs,x148.Machine.Steps,x148.Machine.Done,((Int.tmod (i64.wrap ((i64.wrap (x112.2+1))+1)) 3)==0)⟩:M.Machine)⟩:M.bH))).bind fun y153=>(dU nL1 (i64.wrap ((i64.wrap ((i64.wrap (x112.2+1))+1))+1)) (i64.wrap (v5+1)) y153)))))))))))))))))))))))))))) else (some (r99,v1))
def vO (p0:List M.bH) (p1:Int):Option (List M.bH×Int):=
 dU fuel p1 0 p0
def dS  : Nat→Int→Int→List M.cJ→Option (List M.cJ×Int)
 | 0,_,_,_=>none
 | nL1+1,v1,v5,r99=>if (decide (v5<(List.length r99:Int)))=true then ((aJ v1).bind fun x8=>((idx r99 v5).bind fun x10=>((some (List.set r99 v5.toNat (⟨x8,x10.bH,x10.Shared,x10.Held⟩:M.cJ))).bind fun y15=>((idx y15 v5).bind fun x23=>((some (List.set y15 v5.toNat (⟨x23.Name,(i64.wrap (v1+1)),x23.Shared,x23.Held⟩:M.cJ))).bind fun y28=>((idx y28 v5).bind fun x36=>((some (List.set y28 v5.toNat (⟨x36.Name,x36.bH,((Int.tmod (i64.wrap ((i64.wrap (v1+1))+1)) 3)==0),x36.Held⟩:M.cJ))).bind fun y41=>((idx y41 v5).bind fun x49=>((some (List.set y41 v5.toNat (⟨x49.Name,x49.bH,x49.Shared,((Int.tmod (i64.wrap ((i64.wrap ((i64.wrap (v1+1))+1))+1)) 3)==0)⟩:M.cJ))).bind fun y54=>(dS nL1 (i64.wrap ((i64.wrap ((i64.wrap ((i64.wrap (v1+1))+1))+1))+1)) (i64.wrap (v5+1)) y54)))))))))) else (some (r99,v1))
def wR (p0:List M.cJ) (p1:Int):Option (List M.cJ×Int):=
 dS fuel p1 0 p0
def sD (p0:M.aQ) (p1:Int):Option (List M.cJ×Int):=
 (wR p0.Locks p1).bind fun x1=>(some (x1.1,x1.2))
def dQ  : Nat→Int→Int→List M.eU→Option (List M.eU×Int)
 | 0,_,_,_=>none
 | nL1+1,v1,v5,r99=>if (decide (v5<(List.length r99:Int)))=true then ((idx r99 v5).bind fun x8=>((some (List.set r99 v5.toNat (⟨v1,x8.From,x8.N⟩:M.eU))).bind fun y13=>((idx y13 v5).bind fun x21=>((some (List.set y13 v5.toNat (⟨x21.To,(i64.wrap (v1+1)),x21.N⟩:M.eU))).bind fun y26=>((idx y26 v5).bind fun x34=>((some (List.set y26 v5.toNat (⟨x34.To,x34.From,(i64.wrap ((i64.wrap (v1+1))+1))⟩:M.eU))).bind fun y39=>(dQ nL1 (i64.wrap ((i64.wrap ((i64.wrap (v1+1))+1))+1)) (i64.wrap (v5+1)) y39))))))) else (some (r99,v1))
def wT (p0:List M.eU) (p1:Int):Option (List M.eU×Int):=
 dQ fuel p1 0 p0
def yB (p0:M.Channel) (p1:Int):Option (List M.eU×Int):=
 (wT p0.Mails p1).bind fun x1=>(some (x1.1,x1.2))
def cU  : Nat→Int→Int→List ByteArray→Option (List ByteArray×Int)
 | 0,_,_,_=>none
 | nL1+1,v1,v5,r99=>if (decide (v5<(List.length r99:Int)))=true then ((aJ v1).bind fun x8=>((idx r99 v5).bind fun x10=>((some (List.set r99 v5.toNat x8)).bind fun y15=>(cU nL1 (i64.wrap (v1+1)) (i64.wrap (v5+1)) y15)))) else (some (r99,v1))
def pG (p0:List ByteArray) (p1:Int):Option (List ByteArray×Int):=
 cU fuel p1 0 p0
def dX  : Nat→Int→Int→List M.Site→Option (List M.Site×Int)
 | 0,_,_,_=>none
 | nL1+1,v1,v5,r99=>if (decide (v5<(List.length r99:Int)))=true then ((aJ v1).bind fun x8=>((idx r99 v5).bind fun x10=>((some (List.set r99 v5.toNat (⟨x8,x10.Version,x10.Files,x10.Shared⟩:M.Site))).bind fun y15=>((idx y15 v5).bind fun x23=>((some (List.set y15 v5.toNat (⟨x23.Name,(i64.wrap (v1+1)),x23.Files,x23.Shared⟩:M.Site))).bind fun y28=>((idx y28 v5).bind fun x36=>((pG x36.Files (i64.wrap ((i64.wrap (v1+1))+1))).bind fun x41=>((some (List.set y28 v5.toNat (⟨x36.Name,x36.Version,x41.1,x36.Shared⟩:M.Site))).bind fun y43=>((idx y43 v5).bind fun x51=>((some (List.set y43 v5.toNat (⟨x51.Name,x51.Version,x51.Files,((Int.tmod x41.2 3)==0)⟩:M.Site))).bind fun y56=>(dX nL1 (i64.wrap (x41.2+1)) (i64.wrap (v5+1)) y56))))))))))) else (some (r99,v1))
def wL (p0:List M.Site) (p1:Int):Option (List M.Site×Int):=
 dX fuel p1 0 p0
def cH  : Nat→Int→Int→List M.aM→Option (List M.aM×Int)
 | 0,_,_,_=>none
 | nL1+1,v1,v5,r99=>if (decide (v5<(List.length r99:Int)))=true then ((idx r99 v5).bind fun x8=>((some (List.set r99 v5.toNat (⟨v1,x8.Seq⟩:M.aM))).bind fun y13=>((idx y13 v5).bind fun x21=>((some (List.set y13 v5.toNat (⟨x21.Device,(i64.wrap (v1+1))⟩:M.aM))).bind fun y26=>(cH nL1 (i64.wrap ((i64.wrap (v1+1))+1)) (i64.wrap (v5+1)) y26))))) else (some (r99,v1))
def oA (p0:List M.aM) (p1:Int):Option (List M.aM×Int):=
 cH fuel p1 0 p0
def cN  : Nat→Int→Int→List M.Server→Option (List M.Server×Int)
 | 0,_,_,_=>none
 | nL1+1,v1,v5,r99=>if (decide (v5<(List.length r99:Int)))=true then ((aJ v1).bind fun x8=>((idx r99 v5).bind fun x10=>((some (List.set r99 v5.toNat (⟨(⟨x8,x10.aH.Items,x10.aH.Auto⟩:M.aH),x10.aM,x10.Changes⟩:M.Server))).bind fun y15=>((idx y15 v5).bind fun x23=>((mF x23.aH.Items (i64.wrap (v1+1))).bind fun x28=>((some (List.set y15 v5.toNat (⟨(⟨x23.aH.Name,x28.1,x23.aH.Auto⟩:M.aH),x23.aM,x23.Changes⟩:M.Server))).bind fun y30=>((idx y30 v5).bind fun x38=>((some (List.set y30 v5.toNat (⟨(⟨x38.aH.Name,x38.aH.Items,x28.2⟩:M.aH),x38.aM,x38.Changes⟩:M.Server))).bind fun y43=>((idx y43 v5).bind fun x51=>((oA x51.aM (i64.wrap (x28.2+1))).bind fun x56=>((some (List.set y43 v5.toNat (⟨x51.aH,x56.1,x51.Changes⟩:M.Server))).bind fun y58=>((idx y58 v5).bind fun x66=>((nF x66.Changes x56.2).bind fun x71=>((some (List.set y58 v5.toNat (⟨x66.aH,x66.aM,x71.1⟩:M.Server))).bind fun y73=>(cN nL1 x71.2 (i64.wrap (v5+1)) y73))))))))))))))) else (some (r99,v1))
def pW (p0:List M.Server) (p1:Int):Option (List M.Server×Int):=
 cN fuel p1 0 p0
def oU (p0:M.World) (p1:Int):Option (List M.aC×List M.bH×List M.cJ×List M.eU×List M.Site×List M.Server×Int):=
 (yG p0.aA p1).bind fun x1=>((vO p0.Pages x1.2).bind fun x8=>((sD p0.Locks x8.2).bind fun x15=>((yB p0.Channel x15.2).bind fun x22=>((wL p0.Sites x22.2).bind fun x29=>((pW p0.Servers x29.2).bind fun x36=>(some (x1.1,x8.1,x15.1,x22.1,x29.1,x36.1,x36.2)))))))
def fI (p0:List Int):Nat→Int→Int→Option Int
 | 0,_,_=>none
 | nL1+1,v1,v5=>if (decide (v5<(List.length p0:Int)))=true then ((idx p0 v5).bind fun x6=>(if (x6 != (IntKind.u8.wrap v1))=true then (some (-1)) else (fI p0 nL1 (i64.wrap (v1+1)) (i64.wrap (v5+1))))) else (some v1)
def oO (p0:List Int) (p1:Int):Option Int:=
 fI p0 fuel p1 0
def dO (p0:List M.Cached):Nat→Int→Int→Option Int
 | 0,_,_=>none
 | nL1+1,v1,v5=>if (decide (v5<(List.length p0:Int)))=true then ((idx p0 v5).bind fun x6=>((aJ v1).bind fun x11=>(if (!(x6.Site.toList==x11.toList))=true then (some (-1)) else ((aJ (i64.wrap (v1+1))).bind fun x14=>(if (!(x6.Path.toList==x14.toList))=true then (some (-1)) else (if (x6.Response.Type_ != (i64.wrap ((i64.wrap (v1+1))+1)))=true then (some (-1)) else (if (x6.Response.Status != (i64.wrap ((i64.wrap ((i64.wrap (v1+1))+1))+1)))=true then (some (-1)) else (if (x6.Response.Version != (i64.wrap ((i64.wrap ((i64.wrap ((i64.wrap (v1+1))+1))+1))+1)))=true then (some (-1)) else ((oO x6.Response.Body (i64.wrap ((i64.wrap ((i64.wrap ((i64.wrap ((i64.wrap (v1+1))+1))+1))+1))+1))).bind fun x20=>(if (decide (x20<0))=true then (some (-1)) else (if (!(x6.Response.Shares==((Int.tmod x20 3)==0)))=true then (some (-1)) else (dO p0 nL1 (i64.wrap (x20+1)) (i64.wrap (v5+1)))))))))))))) else (some v1)
def pF (p0:List M.Cached) (p1:Int):Option Int:=
 dO p0 fuel p1 0
def eG (p0:List M.Cache):Nat→Int→Int→Option Int
 | 0,_,_=>none
 | nL1+1,v1,v5=>if (decide (v5<(List.length p0:Int)))=true then ((idx p0 v5).bind fun x6=>(if (x6.Version != v1)=true then (some (-1)) else ((pF x6.Entries (i64.wrap (v1+1))).bind fun x12=>(if (decide (x12<0))=true then (some (-1)) else (eG p0 nL1 x12 (i64.wrap (v5+1))))))) else (some v1)
def sN (p0:List M.Cache) (p1:Int):Option Int:=
 eG p0 fuel p1 0
def eK (p0:List M.Field):Nat→Int→Int→Option Int
 | 0,_,_=>none
 | nL1+1,v1,v5=>if (decide (v5<(List.length p0:Int)))=true then ((idx p0 v5).bind fun x6=>((aJ v1).bind fun x11=>(if (!(x6.Name.toList==x11.toList))=true then (some (-1)) else (if (x6.N != (i64.wrap (v1+1)))=true then (some (-1)) else (eK p0 nL1 (i64.wrap ((i64.wrap (v1+1))+1)) (i64.wrap (v5+1))))))) else (some v1)
def tE (p0:List M.Field) (p1:Int):Option Int:=
 eK p0 fuel p1 0
def fK (p0:List M.Item):Nat→Int→Int→Option Int
 | 0,_,_=>none
 | nL1+1,v1,v5=>if (decide (v5<(List.length p0:Int)))=true then ((idx p0 v5).bind fun x6=>(if (x6.Key.Kind != v1)=true then (some (-1)) else (if (x6.Key.N != (i64.wrap (v1+1)))=true then (some (-1)) else ((aJ (i64.wrap ((i64.wrap (v1+1))+1))).bind fun x13=>(if (!(x6.Key.Text.toList==x13.toList))=true then (some (-1)) else ((tE x6.aW.Fields (i64.wrap ((i64.wrap ((i64.wrap (v1+1))+1))+1))).bind fun x16=>(if (decide (x16<0))=true then (some (-1)) else (fK p0 nL1 x16 (i64.wrap (v5+1)))))))))) else (some v1)
def mI (p0:List M.Item) (p1:Int):Option Int:=
 fK p0 fuel p1 0
def eH (p0:List M.aH):Nat→Int→Int→Option Int
 | 0,_,_=>none
 | nL1+1,v1,v5=>if (decide (v5<(List.length p0:Int)))=true then ((idx p0 v5).bind fun x6=>((aJ v1).bind fun x11=>(if (!(x6.Name.toList==x11.toList))=true then (some (-1)) else ((mI x6.Items (i64.wrap (v1+1))).bind fun x14=>(if (decide (x14<0))=true then (some (-1)) else (if (x6.Auto != x14)=true then (some (-1)) else (eH p0 nL1 (i64.wrap (x14+1)) (i64.wrap (v5+1))))))))) else (some v1)
def sI (p0:List M.aH) (p1:Int):Option Int:=
 eH p0 fuel p1 0
def cM (p0:List M.aE):Nat→Int→Int→Option Int
 | 0,_,_=>none
 | nL1+1,v1,v5=>if (decide (v5<(List.length p0:Int)))=true then ((idx p0 v5).bind fun x6=>((aJ v1).bind fun x11=>(if (!(x6.aH.toList==x11.toList))=true then (some (-1)) else ((aJ (i64.wrap (v1+1))).bind fun x14=>(if (!(x6.Field.toList==x14.toList))=true then (some (-1)) else (cM p0 nL1 (i64.wrap ((i64.wrap (v1+1))+1)) (i64.wrap (v5+1)))))))) else (some v1)
def mP (p0:List M.aE) (p1:Int):Option Int:=
 cM p0 fuel p1 0
def eE (p0:List M.aZ):Nat→Int→Int→Option Int
 | 0,_,_=>none
 | nL1+1,v1,v5=>if (decide (v5<(List.length p0:Int)))=true then ((idx p0 v5).bind fun x6=>(if (x6.Device != v1)=true then (some (-1)) else (if (x6.Seq != (i64.wrap (v1+1)))=true then (some (-1)) else (if (x6.Key.Kind != (i64.wrap ((i64.wrap (v1+1))+1)))=true then (some (-1)) else (if (x6.Key.N != (i64.wrap ((i64.wrap ((i64.wrap (v1+1))+1))+1)))=true then (some (-1)) else ((aJ (i64.wrap ((i64.wrap ((i64.wrap ((i64.wrap (v1+1))+1))+1))+1))).bind fun x15=>(if (!(x6.Key.Text.toList==x15.toList))=true then (some (-1)) else ((aJ (i64.wrap ((i64.wrap ((i64.wrap ((i64.wrap ((i64.wrap (v1+1))+1))+1))+1))+1))).bind fun x18=>(if (!(x6.Field.toList==x18.toList))=true then (some (-1)) else (if (x6.N != (i64.wrap ((i64.wrap ((i64.wrap ((i64.wrap ((i64.wrap ((i64.wrap (v1+1))+1))+1))+1))+1))+1)))=true then (some (-1)) else (eE p0 nL1 (i64.wrap ((i64.wrap ((i64.wrap ((i64.wrap ((i64.wrap ((i64.wrap ((i64.wrap (v1+1))+1))+1))+1))+1))+1))+1)) (i64.wrap (v5+1))))))))))))) else (some v1)
def nI (p0:List M.aZ) (p1:Int):Option Int:=
 eE p0 fuel p1 0
def cT (p0:List M.aC):Nat→Int→Int→Option Int
 | 0,_,_=>none
 | nL1+1,v1,v5=>if (decide (v5<(List.length p0:Int)))=true then ((idx p0 v5).bind fun x6=>((aJ v1).bind fun x11=>(if (!(x6.Site.toList==x11.toList))=true then (some (-1)) else ((aJ (i64.wrap (v1+1))).bind fun x14=>(if (!(x6.Top.toList==x14.toList))=true then (some (-1)) else ((aJ (i64.wrap ((i64.wrap (v1+1))+1))).bind fun x17=>(if (!(x6.Registration.Site.toList==x17.toList))=true then (some (-1)) else (if (x6.Registration.Installing != (i64.wrap ((i64.wrap ((i64.wrap (v1+1))+1))+1)))=true then (some (-1)) else (if (x6.Registration.Waiting != (i64.wrap ((i64.wrap ((i64.wrap ((i64.wrap (v1+1))+1))+1))+1)))=true then (some (-1)) else (if (x6.Registration.Active != (i64.wrap ((i64.wrap ((i64.wrap ((i64.wrap ((i64.wrap (v1+1))+1))+1))+1))+1)))=true then (some (-1)) else ((sN x6.Caches.Caches (i64.wrap ((i64.wrap ((i64.wrap ((i64.wrap ((i64.wrap ((i64.wrap (v1+1))+1))+1))+1))+1))+1))).bind fun x27=>(if (decide (x27<0))=true then (some (-1)) else ((aJ x27).bind fun x30=>(if (!(x6.bC.Base.Name.toList==x30.toList))=true then (some (-1)) else (if (x6.bC.Base.Version != (i64.wrap (x27+1)))=true then (some (-1)) else ((sI x6.bC.Base.Stores (i64.wrap ((i64.wrap (x27+1))+1))).bind fun x34=>(if (decide (x34<0))=true then (some (-1)) else ((mP x6.bC.Base.Unique x34).bind fun x37=>(if (decide (x37<0))=true then (some (-1)) else ((oO x6.bC.Log x37).bind fun x40=>(if (decide (x40<0))=true then (some (-1)) else (if (x6.bC.Count != x40)=true then (some (-1)) else ((aJ (i64.wrap (x40+1))).bind fun x48=>(if (!(x6.aD.Base.Name.toList==x48.toList))=true then (some (-1)) else ((mI x6.aD.Base.Items (i64.wrap ((i64.wrap (x40+1))+1))).bind fun x51=>(if (decide (x51<0))=true then (some (-1)) else (if (x6.aD.Base.Auto != x51)=true then (some (-1)) else (if (x6.aD.Seen != (i64.wrap (x51+1)))=true then (some (-1)) else (if (x6.aD.Sync.aR.Device != (i64.wrap ((i64.wrap (x51+1))+1)))=true then (some (-1)) else (if (x6.aD.Sync.aR.Next != (i64.wrap ((i64.wrap ((i64.wrap (x51+1))+1))+1)))=true then (some (-1)) else ((nI x6.aD.Sync.aR.Writes (i64.wrap ((i64.wrap ((i64.wrap ((i64.wrap (x51+1))+1))+1))+1))).bind fun x62=>(if (decide (x62<0))=true then (some (-1)) else (if (x6.aD.Sync.Tries != x62)=true then (some (-1)) else (if (x6.aD.Sync.WaitUntil != (i64.wrap (x62+1)))=true then (some (-1)) else (if (x6.LastUsed != (i64.wrap ((i64.wrap (x62+1))+1)))=true then (some (-1)) else (if (!(x6.Persistent==((Int.tmod (i64.wrap ((i64.wrap ((i64.wrap (x62+1))+1))+1)) 3)==0)))=true then (some (-1)) else (cT p0 nL1 (i64.wrap ((i64.wrap ((i64.wrap ((i64.wrap (x62+1))+1))+1))+1)) (i64.wrap (v5+1))))))))))))))))))))))))))))))))))))))) else (some v1)
def pV (p0:List M.aC) (p1:Int):Option Int:=
 cT p0 fuel p1 0
def yA (p0:M.aA) (p1:Int):Option Int:=
 (pV p0.Buckets p1).bind fun x1=>(if (decide (x1<0))=true then (some (-1)) else (some x1))
def dN (p0:List M.aK):Nat→Int→Int→Option Int
 | 0,_,_=>none
 | nL1+1,v1,v5=>if (decide (v5<(List.length p0:Int)))=true then ((idx p0 v5).bind fun x6=>((aJ v1).bind fun x11=>(if (!(x6.Path.toList==x11.toList))=true then (some (-1)) else (if (x6.Version != (i64.wrap (v1+1)))=true then (some (-1)) else (dN p0 nL1 (i64.wrap ((i64.wrap (v1+1))+1)) (i64.wrap (v5+1))))))) else (some v1)
def rA (p0:List M.aK) (p1:Int):Option Int:=
 dN p0 fuel p1 0
def eD (p0:List M.Instr):Nat→Int→Int→Option Int
 | 0,_,_=>none
 | nL1+1,v1,v5=>if (decide (v5<(List.length p0:Int)))=true then ((idx p0 v5).bind fun x6=>(if (x6.Kind != v1)=true then (some (-1)) else (if (x6.R != (i64.wrap (v1+1)))=true then (some (-1)) else (if (x6.N != (i64.wrap ((i64.wrap (v1+1))+1)))=true then (some (-1)) else ((aJ (i64.wrap ((i64.wrap ((i64.wrap (v1+1))+1))+1))).bind fun x14=>(if (!(x6.Text.toList==x14.toList))=true then (some (-1)) else (eD p0 nL1 (i64.wrap ((i64.wrap ((i64.wrap ((i64.wrap (v1+1))+1))+1))+1)) (i64.wrap (v5+1))))))))) else (some v1)
def tV (p0:List M.Instr) (p1:Int):Option Int:=
 eD p0 fuel p1 0
def gA (p0:List Int):Nat→Int→Int→Option Int
 | 0,_,_=>none
 | nL1+1,v1,v5=>if (decide (v5<(List.length p0:Int)))=true then ((idx p0 v5).bind fun x6=>(if (x6 != v1)=true then (some (-1)) else (gA p0 nL1 (i64.wrap (v1+1)) (i64.wrap (v5+1))))) else (some v1)
def zA (p0:List Int) (p1:Int):Option Int:=
 gA p0 fuel p1 0
def dV (p0:List M.bH):Nat→Int→Int→Option Int
 | 0,_,_=>none
 | nL1+1,v1,v5=>if (decide (v5<(List.length p0:Int)))=true then ((idx p0 v5).bind fun x6=>(if (x6.Id != v1)=true then (some (-1)) else ((aJ (i64.wrap (v1+1))).bind fun x12=>(if (!(x6.Site.toList==x12.toList))=true then (some (-1)) else ((aJ (i64.wrap ((i64.wrap (v1+1))+1))).bind fun x15=>(if (!(x6.Top.toList==x15.toList))=true then (some (-1)) else (if (x6.Version != (i64.wrap ((i64.wrap ((i64.wrap (v1+1))+1))+1)))=true then (some (-1)) else ((rA x6.aK (i64.wrap ((i64.wrap ((i64.wrap ((i64.wrap (v1+1))+1))+1))+1))).bind fun x19=>(if (decide (x19<0))=true then (some (-1)) else ((tV x6.Machine.Script x19).bind fun x22=>(if (decide (x22<0))=true then (some (-1)) else (if (x6.Machine.Pc != x22)=true then (some (-1)) else ((zA x6.Machine.Regs (i64.wrap (x22+1))).bind fun x30=>(if (decide (x30<0))=true then (some (-1)) else (if (x6.Machine.Steps != x30)=true then (some (-1)) else (if (!(x6.Machine.Done==((Int.tmod (i64.wrap (x30+1)) 3)==0)))=true then (some (-1)) else (if (!(x6.Machine.Wait==((Int.tmod (i64.wrap ((i64.wrap (x30+1))+1)) 3)==0)))=true then (some (-1)) else (dV p0 nL1 (i64.wrap ((i64.wrap ((i64.wrap (x30+1))+1))+1)) (i64.wrap (v5+1)))))))))))))))))))) else (some v1)
def vT (p0:List M.bH) (p1:Int):Option Int:=
 dV p0 fuel p1 0
def fJ (p0:List M.cJ):Nat→Int→Int→Option Int
 | 0,_,_=>none
 | nL1+1,v1,v5=>if (decide (v5<(List.length p0:Int)))=true then ((idx p0 v5).bind fun x6=>((aJ v1).bind fun x11=>(if (!(x6.Name.toList==x11.toList))=true then (some (-1)) else (if (x6.bH != (i64.wrap (v1+1)))=true then (some (-1)) else (if (!(x6.Shared==((Int.tmod (i64.wrap ((i64.wrap (v1+1))+1)) 3)==0)))=true then (some (-1)) else (if (!(x6.Held==((Int.tmod (i64.wrap ((i64.wrap ((i64.wrap (v1+1))+1))+1)) 3)==0)))=true then (some (-1)) else (fJ p0 nL1 (i64.wrap ((i64.wrap ((i64.wrap ((i64.wrap (v1+1))+1))+1))+1)) (i64.wrap (v5+1))))))))) else (some v1)
def wQ (p0:List M.cJ) (p1:Int):Option Int:=
 fJ p0 fuel p1 0
def sE (p0:M.aQ) (p1:Int):Option Int:=
 (wQ p0.Locks p1).bind fun x1=>(if (decide (x1<0))=true then (some (-1)) else (some x1))
def fN (p0:List M.eU):Nat→Int→Int→Option Int
 | 0,_,_=>none
 | nL1+1,v1,v5=>if (decide (v5<(List.length p0:Int)))=true then ((idx p0 v5).bind fun x6=>(if (x6.To != v1)=true then (some (-1)) else (if (x6.From != (i64.wrap (v1+1)))=true then (some (-1)) else (if (x6.N != (i64.wrap ((i64.wrap (v1+1))+1)))=true then (some (-1)) else (fN p0 nL1 (i64.wrap ((i64.wrap ((i64.wrap (v1+1))+1))+1)) (i64.wrap (v5+1))))))) else (some v1)
def wX (p0:List M.eU) (p1:Int):Option Int:=
 fN p0 fuel p1 0
def yE (p0:M.Channel) (p1:Int):Option Int:=
 (wX p0.Mails p1).bind fun x1=>(if (decide (x1<0))=true then (some (-1)) else (some x1))
def dM (p0:List ByteArray):Nat→Int→Int→Option Int
 | 0,_,_=>none
 | nL1+1,v1,v5=>if (decide (v5<(List.length p0:Int)))=true then ((idx p0 v5).bind fun x6=>((aJ v1).bind fun x11=>(if (!(x6.toList==x11.toList))=true then (some (-1)) else (dM p0 nL1 (i64.wrap (v1+1)) (i64.wrap (v5+1)))))) else (some v1)
def pM (p0:List ByteArray) (p1:Int):Option Int:=
 dM p0 fuel p1 0
def fC (p0:List M.Site):Nat→Int→Int→Option Int
 | 0,_,_=>none
 | nL1+1,v1,v5=>if (decide (v5<(List.length p0:Int)))=true then ((idx p0 v5).bind fun x6=>((aJ v1).bind fun x11=>(if (!(x6.Name.toList==x11.toList))=true then (some (-1)) else (if (x6.Version != (i64.wrap (v1+1)))=true then (some (-1)) else ((pM x6.Files (i64.wrap ((i64.wrap (v1+1))+1))).bind fun x15=>(if (decide (x15<0))=true then (some (-1)) else (if (!(x6.Shared==((Int.tmod x15 3)==0)))=true then (some (-1)) else (fC p0 nL1 (i64.wrap (x15+1)) (i64.wrap (v5+1)))))))))) else (some v1)
def xP (p0:List M.Site) (p1:Int):Option Int:=
 fC p0 fuel p1 0
def dB (p0:List M.aM):Nat→Int→Int→Option Int
 | 0,_,_=>none
 | nL1+1,v1,v5=>if (decide (v5<(List.length p0:Int)))=true then ((idx p0 v5).bind fun x6=>(if (x6.Device != v1)=true then (some (-1)) else (if (x6.Seq != (i64.wrap (v1+1)))=true then (some (-1)) else (dB p0 nL1 (i64.wrap ((i64.wrap (v1+1))+1)) (i64.wrap (v5+1)))))) else (some v1)
def nZ (p0:List M.aM) (p1:Int):Option Int:=
 dB p0 fuel p1 0
def cR (p0:List M.Server):Nat→Int→Int→Option Int
 | 0,_,_=>none
 | nL1+1,v1,v5=>if (decide (v5<(List.length p0:Int)))=true then ((idx p0 v5).bind fun x6=>((aJ v1).bind fun x11=>(if (!(x6.aH.Name.toList==x11.toList))=true then (some (-1)) else ((mI x6.aH.Items (i64.wrap (v1+1))).bind fun x14=>(if (decide (x14<0))=true then (some (-1)) else (if (x6.aH.Auto != x14)=true then (some (-1)) else ((nZ x6.aM (i64.wrap (x14+1))).bind fun x18=>(if (decide (x18<0))=true then (some (-1)) else ((nI x6.Changes x18).bind fun x21=>(if (decide (x21<0))=true then (some (-1)) else (cR p0 nL1 x21 (i64.wrap (v5+1))))))))))))) else (some v1)
def rJ (p0:List M.Server) (p1:Int):Option Int:=
 cR p0 fuel p1 0
def pD (p0:M.World) (p1:Int):Option Int:=
 (yA p0.aA p1).bind fun x1=>(if (decide (x1<0))=true then (some (-1)) else ((vT p0.Pages x1).bind fun x4=>(if (decide (x4<0))=true then (some (-1)) else ((sE p0.Locks x4).bind fun x7=>(if (decide (x7<0))=true then (some (-1)) else ((yE p0.Channel x7).bind fun x10=>(if (decide (x10<0))=true then (some (-1)) else ((xP p0.Sites x10).bind fun x13=>(if (decide (x13<0))=true then (some (-1)) else ((rJ p0.Servers x13).bind fun x16=>(if (decide (x16<0))=true then (some (-1)) else (some x16))))))))))))
def oK (p0:M.World) (p1:ByteArray) (p2:ByteArray) (p3:List M.Instr):Option Bool:=
 if (decide ((p1.size:Int)>1048576))=true then (some true) else (if (decide ((p2.size:Int)>1048576))=true then (some true) else ((aAo p0 1048576).bind fun x3=>(if (decide (x3<0))=true then (some true) else ((tQ p3 x3).bind fun x6=>(if (decide (x6<0))=true then (some true) else ((mZ p0).bind fun x9=>((jT p3).bind fun x11=>((yN x9 p1 p2 x11).bind fun x13=>((mZ p0).bind fun x15=>((jT p3).bind fun x17=>((sS x15 p1 p2 x17).bind fun x19=>((mX x19.1 x13.1).bind fun x21=>(if (!x21)=true then (some false) else (if (x19.2.1 != x13.2.1)=true then (some false) else (if (!(x19.2.2==x13.2.2))=true then (some false) else ((mZ p0).bind fun x62=>((mX x15 x62).bind fun x64=>(if (!x64)=true then (some false) else ((jT p3).bind fun x67=>((tP x17 x67).bind fun x69=>(if (!x69)=true then (some false) else ((oU x15 1).bind fun x72=>((nO x17 x72.2.2.2.2.2.2).bind fun x103=>(if (decide (x103.2<0))=true then (some false) else ((mX x19.1 x13.1).bind fun x133=>(if (!x133)=true then (some false) else ((oU x19.1 1).bind fun x136=>((pD (⟨x19.1.Now,x19.1.Online,x19.1.Device,(⟨x136.1⟩:M.aA),x136.2.1,x19.1.NextPage,(⟨x136.2.2.1⟩:M.aQ),(⟨x136.2.2.2.1⟩:M.Channel),x136.2.2.2.2.1,x136.2.2.2.2.2.1⟩:M.World) 1).bind fun x163=>(if (decide (x163<0))=true then (some false) else (if (x163 != x136.2.2.2.2.2.2)=true then (some false) else ((mZ p0).bind fun x167=>((jT p3).bind fun x169=>((sS x167 p1 p2 x169).bind fun x171=>((mX x171.1 x13.1).bind fun x173=>(if (!x173)=true then (some false) else (if (x171.2.1 != x13.2.1)=true then (some false) else (if (!(x171.2.2==x13.2.2))=true then (some false) else ((pD (⟨x19.1.Now,x19.1.Online,x19.1.Device,(⟨x136.1⟩:M.aA),x136.2.1,x19.1.NextPage,(⟨x136.2.2.1⟩:M.aQ),(⟨x136.2.2.2.1⟩:M.Channel),x136.2.2.2.2.1,x136.2.2.2.2.2.1⟩:M.World) 1).bind fun x178=>(if (decide (x178<0))=true then (some false) else (if (x178 != x136.2.2.2.2.2.2)=true then (some false) else (some true)))))))))))))))))))))))))))))))))))))))))
end Go.Proofs.YtimblbmbfdopgaaGreat.gen
