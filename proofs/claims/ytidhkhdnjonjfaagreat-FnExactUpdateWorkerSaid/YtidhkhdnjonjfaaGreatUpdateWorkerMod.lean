/-
  Helper text. No conditions.
-/
import Derived.Test.YtidhkhdnjonjfaaGreatShS
set_option linter.unusedVariables false
set_option linter.unusedSimpArgs false
namespace Go.Proofs.YtidhkhdnjonjfaaGreat.gen
open Go Go.Sh
open Go.IntKind (i64)
structure M.Registration where
 Site:ByteArray
 Installing:Int
 Waiting:Int
 Active:Int
def M.Registration.en (x:M.Registration):List D:=[.str x.Site,.int .i64 x.Installing,.int .i64 x.Waiting,.int .i64 x.Active]
theorem M.Registration.en.fl (l:List M.Registration):(List.map M.Registration.en l).all (fun y=>y.all D.flat)=true:=aF3 (fun _=>rfl) l
structure M.Response where
 Type_:Int
 Status:Int
 Version:Int
 Body:List Int
 Shares:Bool
def M.Response.en (x:M.Response):List D:=[.int .i64 x.Type_,.int .i64 x.Status,.int .i64 x.Version,.sl (List.map enB x.Body),.bool x.Shares]
structure M.Cached where
 Site:ByteArray
 Path:ByteArray
 Response:M.Response
def M.Cached.en (x:M.Cached):List D:=[.str x.Site,.str x.Path,.int .i64 x.Response.Type_,.int .i64 x.Response.Status,.int .i64 x.Response.Version,.sl (List.map enB x.Response.Body),.bool x.Response.Shares]
structure M.Cache where
 Version:Int
 Entries:List M.Cached
def M.Cache.en (x:M.Cache):List D:=[.int .i64 x.Version,.sl (List.map M.Cached.en x.Entries)]
structure M.aA where
 Caches:List M.Cache
def M.aA.en (x:M.aA):List D:=[.sl (List.map M.Cache.en x.Caches)]
structure M.Key where
 Kind:Int
 N:Int
 Text:ByteArray
def M.Key.en (x:M.Key):List D:=[.int .i64 x.Kind,.int .i64 x.N,.str x.Text]
theorem M.Key.en.fl (l:List M.Key):(List.map M.Key.en l).all (fun y=>y.all D.flat)=true:=aF3 (fun _=>rfl) l
structure M.Field where
 Name:ByteArray
 N:Int
def M.Field.en (x:M.Field):List D:=[.str x.Name,.int .i64 x.N]
theorem M.Field.en.fl (l:List M.Field):(List.map M.Field.en l).all (fun y=>y.all D.flat)=true:=aF3 (fun _=>rfl) l
structure M.aU where
 Fields:List M.Field
def M.aU.en (x:M.aU):List D:=[.sl (List.map M.Field.en x.Fields)]
structure M.Item where
 Key:M.Key
 aU:M.aU
def M.Item.en (x:M.Item):List D:=[.int .i64 x.Key.Kind,.int .i64 x.Key.N,.str x.Key.Text,.sl (List.map M.Field.en x.aU.Fields)]
structure M.aJ where
 Name:ByteArray
 Items:List M.Item
 Auto:Int
def M.aJ.en (x:M.aJ):List D:=[.str x.Name,.sl (List.map M.Item.en x.Items),.int .i64 x.Auto]
structure M.aD where
 aJ:ByteArray
 Field:ByteArray
def M.aD.en (x:M.aD):List D:=[.str x.aJ,.str x.Field]
theorem M.aD.en.fl (l:List M.aD):(List.map M.aD.en l).all (fun y=>y.all D.flat)=true:=aF3 (fun _=>rfl) l
structure M.Database where
 Name:ByteArray
 Version:Int
 Stores:List M.aJ
 Unique:List M.aD
def M.Database.en (x:M.Database):List D:=[.str x.Name,.int .i64 x.Version,.sl (List.map M.aJ.en x.Stores),.sl (List.map M.aD.en x.Unique)]
structure M.bB where
 Base:M.Database
 Log:List Int
 Count:Int
def M.bB.en (x:M.bB):List D:=[.str x.Base.Name,.int .i64 x.Base.Version,.sl (List.map M.aJ.en x.Base.Stores),.sl (List.map M.aD.en x.Base.Unique),.sl (List.map enB x.Log),.int .i64 x.Count]
structure M.aW where
 Device:Int
 Seq:Int
 Key:M.Key
 Field:ByteArray
 N:Int
def M.aW.en (x:M.aW):List D:=[.int .i64 x.Device,.int .i64 x.Seq,.int .i64 x.Key.Kind,.int .i64 x.Key.N,.str x.Key.Text,.str x.Field,.int .i64 x.N]
theorem M.aW.en.fl (l:List M.aW):(List.map M.aW.en l).all (fun y=>y.all D.flat)=true:=aF3 (fun _=>rfl) l
structure M.aV where
 Device:Int
 Next:Int
 Writes:List M.aW
def M.aV.en (x:M.aV):List D:=[.int .i64 x.Device,.int .i64 x.Next,.sl (List.map M.aW.en x.Writes)]
structure M.Sync where
 aV:M.aV
 Tries:Int
 WaitUntil:Int
def M.Sync.en (x:M.Sync):List D:=[.int .i64 x.aV.Device,.int .i64 x.aV.Next,.sl (List.map M.aW.en x.aV.Writes),.int .i64 x.Tries,.int .i64 x.WaitUntil]
structure M.aE where
 Base:M.aJ
 Seen:Int
 Sync:M.Sync
def M.aE.en (x:M.aE):List D:=[.str x.Base.Name,.sl (List.map M.Item.en x.Base.Items),.int .i64 x.Base.Auto,.int .i64 x.Seen,.int .i64 x.Sync.aV.Device,.int .i64 x.Sync.aV.Next,.sl (List.map M.aW.en x.Sync.aV.Writes),.int .i64 x.Sync.Tries,.int .i64 x.Sync.WaitUntil]
structure M.Bucket where
 Site:ByteArray
 Top:ByteArray
 Registration:M.Registration
 Caches:M.aA
 bB:M.bB
 aE:M.aE
 LastUsed:Int
 Persistent:Bool
def M.Bucket.en (x:M.Bucket):List D:=[.str x.Site,.str x.Top,.str x.Registration.Site,.int .i64 x.Registration.Installing,.int .i64 x.Registration.Waiting,.int .i64 x.Registration.Active,.sl (List.map M.Cache.en x.Caches.Caches),.str x.bB.Base.Name,.int .i64 x.bB.Base.Version,.sl (List.map M.aJ.en x.bB.Base.Stores),.sl (List.map M.aD.en x.bB.Base.Unique),.sl (List.map enB x.bB.Log),.int .i64 x.bB.Count,.str x.aE.Base.Name,.sl (List.map M.Item.en x.aE.Base.Items),.int .i64 x.aE.Base.Auto,.int .i64 x.aE.Seen,.int .i64 x.aE.Sync.aV.Device,.int .i64 x.aE.Sync.aV.Next,.sl (List.map M.aW.en x.aE.Sync.aV.Writes),.int .i64 x.aE.Sync.Tries,.int .i64 x.aE.Sync.WaitUntil,.int .i64 x.LastUsed,.bool x.Persistent]
structure M.aC where
 Buckets:List M.Bucket
def M.aC.en (x:M.aC):List D:=[.sl (List.map M.Bucket.en x.Buckets)]
structure M.aN where
 Path:ByteArray
 Version:Int
def M.aN.en (x:M.aN):List D:=[.str x.Path,.int .i64 x.Version]
theorem M.aN.en.fl (l:List M.aN):(List.map M.aN.en l).all (fun y=>y.all D.flat)=true:=aF3 (fun _=>rfl) l
structure M.Instr where
 Kind:Int
 R:Int
 N:Int
 Text:ByteArray
def M.Instr.en (x:M.Instr):List D:=[.int .i64 x.Kind,.int .i64 x.R,.int .i64 x.N,.str x.Text]
theorem M.Instr.en.fl (l:List M.Instr):(List.map M.Instr.en l).all (fun y=>y.all D.flat)=true:=aF3 (fun _=>rfl) l
structure M.Machine where
 Script:List M.Instr
 Pc:Int
 Regs:List Int
 Steps:Int
 Done:Bool
 Wait:Bool
def M.Machine.en (x:M.Machine):List D:=[.sl (List.map M.Instr.en x.Script),.int .i64 x.Pc,.sl (List.map enI x.Regs),.int .i64 x.Steps,.bool x.Done,.bool x.Wait]
structure M.bJ where
 Id:Int
 Site:ByteArray
 Top:ByteArray
 Version:Int
 aN:List M.aN
 Machine:M.Machine
def M.bJ.en (x:M.bJ):List D:=[.int .i64 x.Id,.str x.Site,.str x.Top,.int .i64 x.Version,.sl (List.map M.aN.en x.aN),.sl (List.map M.Instr.en x.Machine.Script),.int .i64 x.Machine.Pc,.sl (List.map enI x.Machine.Regs),.int .i64 x.Machine.Steps,.bool x.Machine.Done,.bool x.Machine.Wait]
structure M.dA where
 Name:ByteArray
 bJ:Int
 Shared:Bool
 Held:Bool
def M.dA.en (x:M.dA):List D:=[.str x.Name,.int .i64 x.bJ,.bool x.Shared,.bool x.Held]
theorem M.dA.en.fl (l:List M.dA):(List.map M.dA.en l).all (fun y=>y.all D.flat)=true:=aF3 (fun _=>rfl) l
structure M.aP where
 Locks:List M.dA
def M.aP.en (x:M.aP):List D:=[.sl (List.map M.dA.en x.Locks)]
structure M.fW where
 To:Int
 From:Int
 N:Int
def M.fW.en (x:M.fW):List D:=[.int .i64 x.To,.int .i64 x.From,.int .i64 x.N]
theorem M.fW.en.fl (l:List M.fW):(List.map M.fW.en l).all (fun y=>y.all D.flat)=true:=aF3 (fun _=>rfl) l
structure M.Channel where
 Mails:List M.fW
def M.Channel.en (x:M.Channel):List D:=[.sl (List.map M.fW.en x.Mails)]
structure M.Site where
 Name:ByteArray
 Version:Int
 Files:List ByteArray
 Shared:Bool
def M.Site.en (x:M.Site):List D:=[.str x.Name,.int .i64 x.Version,.sl (List.map enS x.Files),.bool x.Shared]
structure M.aK where
 Device:Int
 Seq:Int
def M.aK.en (x:M.aK):List D:=[.int .i64 x.Device,.int .i64 x.Seq]
theorem M.aK.en.fl (l:List M.aK):(List.map M.aK.en l).all (fun y=>y.all D.flat)=true:=aF3 (fun _=>rfl) l
structure M.Server where
 aJ:M.aJ
 aK:List M.aK
 Changes:List M.aW
def M.Server.en (x:M.Server):List D:=[.str x.aJ.Name,.sl (List.map M.Item.en x.aJ.Items),.int .i64 x.aJ.Auto,.sl (List.map M.aK.en x.aK),.sl (List.map M.aW.en x.Changes)]
structure M.World where
 Now:Int
 Online:Bool
 Device:Int
 aC:M.aC
 Pages:List M.bJ
 NextPage:Int
 Locks:M.aP
 Channel:M.Channel
 Sites:List M.Site
 Servers:List M.Server
def M.World.en (x:M.World):List D:=[.int .i64 x.Now,.bool x.Online,.int .i64 x.Device,.sl (List.map M.Bucket.en x.aC.Buckets),.sl (List.map M.bJ.en x.Pages),.int .i64 x.NextPage,.sl (List.map M.dA.en x.Locks.Locks),.sl (List.map M.fW.en x.Channel.Mails),.sl (List.map M.Site.en x.Sites),.sl (List.map M.Server.en x.Servers)]
def lG (p0:M.Registration) (p1:Int):Option Int:=
 if (decide ((i64.wrap (p1-(p0.Site.size:Int)))<0))=true then (some (-1)) else (some (i64.wrap (p1-(p0.Site.size:Int))))
def xV (p0:List Int) (p1:Int):Option Int:=
 if (decide ((i64.wrap (p1-(List.length p0:Int)))<0))=true then (some (-1)) else (some (i64.wrap (p1-(List.length p0:Int))))
def tW (p0:M.Response) (p1:Int):Option Int:=
 (xV p0.Body p1).bind fun x1=>(if (decide (x1<0))=true then (some (-1)) else (some x1))
def yY (p0:M.Cached) (p1:Int):Option Int:=
 if (decide ((i64.wrap (p1-(p0.Site.size:Int)))<0))=true then (some (-1)) else (if (decide ((i64.wrap ((i64.wrap (p1-(p0.Site.size:Int)))-(p0.Path.size:Int)))<0))=true then (some (-1)) else ((tW p0.Response (i64.wrap ((i64.wrap (p1-(p0.Site.size:Int)))-(p0.Path.size:Int)))).bind fun x3=>(if (decide (x3<0))=true then (some (-1)) else (some x3))))
def uX (p0:List M.Cached):Nat→Int→Int→Option Int
 | 0,_,_=>none
 | nL1+1,v1,v5=>if (decide (v5<(List.length p0:Int)))=true then ((idx p0 v5).bind fun x7=>((yY x7 v1).bind fun x12=>(if (decide (x12<0))=true then (some (-1)) else (uX p0 nL1 x12 (i64.wrap (v5+1)))))) else (some v1)
def wI (p0:List M.Cached) (p1:Int):Option Int:=
 if (decide ((i64.wrap (p1-(List.length p0:Int)))<0))=true then (some (-1)) else (uX p0 fuel (i64.wrap (p1-(List.length p0:Int))) 0)
def aA8 (p0:M.Cache) (p1:Int):Option Int:=
 (wI p0.Entries p1).bind fun x1=>(if (decide (x1<0))=true then (some (-1)) else (some x1))
def yN (p0:List M.Cache):Nat→Int→Int→Option Int
 | 0,_,_=>none
 | nL1+1,v1,v5=>if (decide (v5<(List.length p0:Int)))=true then ((idx p0 v5).bind fun x7=>((aA8 x7 v1).bind fun x12=>(if (decide (x12<0))=true then (some (-1)) else (yN p0 nL1 x12 (i64.wrap (v5+1)))))) else (some v1)
def aAG (p0:List M.Cache) (p1:Int):Option Int:=
 if (decide ((i64.wrap (p1-(List.length p0:Int)))<0))=true then (some (-1)) else (yN p0 fuel (i64.wrap (p1-(List.length p0:Int))) 0)
def uR (p0:M.aA) (p1:Int):Option Int:=
 (aAG p0.Caches p1).bind fun x1=>(if (decide (x1<0))=true then (some (-1)) else (some x1))
def aBW (p0:M.Key) (p1:Int):Option Int:=
 if (decide ((i64.wrap (p1-(p0.Text.size:Int)))<0))=true then (some (-1)) else (some (i64.wrap (p1-(p0.Text.size:Int))))
def aAz (p0:M.Field) (p1:Int):Option Int:=
 if (decide ((i64.wrap (p1-(p0.Name.size:Int)))<0))=true then (some (-1)) else (some (i64.wrap (p1-(p0.Name.size:Int))))
def yI (p0:List M.Field):Nat→Int→Int→Option Int
 | 0,_,_=>none
 | nL1+1,v1,v5=>if (decide (v5<(List.length p0:Int)))=true then ((idx p0 v5).bind fun x7=>((aAz x7 v1).bind fun x12=>(if (decide (x12<0))=true then (some (-1)) else (yI p0 nL1 x12 (i64.wrap (v5+1)))))) else (some v1)
def yW (p0:List M.Field) (p1:Int):Option Int:=
 if (decide ((i64.wrap (p1-(List.length p0:Int)))<0))=true then (some (-1)) else (yI p0 fuel (i64.wrap (p1-(List.length p0:Int))) 0)
def aAF (p0:M.aU) (p1:Int):Option Int:=
 (yW p0.Fields p1).bind fun x1=>(if (decide (x1<0))=true then (some (-1)) else (some x1))
def aB5 (p0:M.Item) (p1:Int):Option Int:=
 (aBW p0.Key p1).bind fun x1=>(if (decide (x1<0))=true then (some (-1)) else ((aAF p0.aU x1).bind fun x4=>(if (decide (x4<0))=true then (some (-1)) else (some x4))))
def aAT (p0:List M.Item):Nat→Int→Int→Option Int
 | 0,_,_=>none
 | nL1+1,v1,v5=>if (decide (v5<(List.length p0:Int)))=true then ((idx p0 v5).bind fun x7=>((aB5 x7 v1).bind fun x12=>(if (decide (x12<0))=true then (some (-1)) else (aAT p0 nL1 x12 (i64.wrap (v5+1)))))) else (some v1)
def aBG (p0:List M.Item) (p1:Int):Option Int:=
 if (decide ((i64.wrap (p1-(List.length p0:Int)))<0))=true then (some (-1)) else (aAT p0 fuel (i64.wrap (p1-(List.length p0:Int))) 0)
def sC (p0:M.aJ) (p1:Int):Option Int:=
 if (decide ((i64.wrap (p1-(p0.Name.size:Int)))<0))=true then (some (-1)) else ((aBG p0.Items (i64.wrap (p1-(p0.Name.size:Int)))).bind fun x2=>(if (decide (x2<0))=true then (some (-1)) else (some x2)))
def yO (p0:List M.aJ):Nat→Int→Int→Option Int
 | 0,_,_=>none
 | nL1+1,v1,v5=>if (decide (v5<(List.length p0:Int)))=true then ((idx p0 v5).bind fun x7=>((sC x7 v1).bind fun x12=>(if (decide (x12<0))=true then (some (-1)) else (yO p0 nL1 x12 (i64.wrap (v5+1)))))) else (some v1)
def zR (p0:List M.aJ) (p1:Int):Option Int:=
 if (decide ((i64.wrap (p1-(List.length p0:Int)))<0))=true then (some (-1)) else (yO p0 fuel (i64.wrap (p1-(List.length p0:Int))) 0)
def sY (p0:M.aD) (p1:Int):Option Int:=
 if (decide ((i64.wrap (p1-(p0.aJ.size:Int)))<0))=true then (some (-1)) else (if (decide ((i64.wrap ((i64.wrap (p1-(p0.aJ.size:Int)))-(p0.Field.size:Int)))<0))=true then (some (-1)) else (some (i64.wrap ((i64.wrap (p1-(p0.aJ.size:Int)))-(p0.Field.size:Int)))))
def pR (p0:List M.aD):Nat→Int→Int→Option Int
 | 0,_,_=>none
 | nL1+1,v1,v5=>if (decide (v5<(List.length p0:Int)))=true then ((idx p0 v5).bind fun x7=>((sY x7 v1).bind fun x12=>(if (decide (x12<0))=true then (some (-1)) else (pR p0 nL1 x12 (i64.wrap (v5+1)))))) else (some v1)
def rA (p0:List M.aD) (p1:Int):Option Int:=
 if (decide ((i64.wrap (p1-(List.length p0:Int)))<0))=true then (some (-1)) else (pR p0 fuel (i64.wrap (p1-(List.length p0:Int))) 0)
def uK (p0:M.Database) (p1:Int):Option Int:=
 if (decide ((i64.wrap (p1-(p0.Name.size:Int)))<0))=true then (some (-1)) else ((zR p0.Stores (i64.wrap (p1-(p0.Name.size:Int)))).bind fun x2=>(if (decide (x2<0))=true then (some (-1)) else ((rA p0.Unique x2).bind fun x5=>(if (decide (x5<0))=true then (some (-1)) else (some x5)))))
def aBb (p0:M.bB) (p1:Int):Option Int:=
 (uK p0.Base p1).bind fun x1=>(if (decide (x1<0))=true then (some (-1)) else ((xV p0.Log x1).bind fun x4=>(if (decide (x4<0))=true then (some (-1)) else (some x4))))
def aA6 (p0:M.aW) (p1:Int):Option Int:=
 (aBW p0.Key p1).bind fun x1=>(if (decide (x1<0))=true then (some (-1)) else (if (decide ((i64.wrap (x1-(p0.Field.size:Int)))<0))=true then (some (-1)) else (some (i64.wrap (x1-(p0.Field.size:Int))))))
def yJ (p0:List M.aW):Nat→Int→Int→Option Int
 | 0,_,_=>none
 | nL1+1,v1,v5=>if (decide (v5<(List.length p0:Int)))=true then ((idx p0 v5).bind fun x7=>((aA6 x7 v1).bind fun x12=>(if (decide (x12<0))=true then (some (-1)) else (yJ p0 nL1 x12 (i64.wrap (v5+1)))))) else (some v1)
def tX (p0:List M.aW) (p1:Int):Option Int:=
 if (decide ((i64.wrap (p1-(List.length p0:Int)))<0))=true then (some (-1)) else (yJ p0 fuel (i64.wrap (p1-(List.length p0:Int))) 0)
def zK (p0:M.aV) (p1:Int):Option Int:=
 (tX p0.Writes p1).bind fun x1=>(if (decide (x1<0))=true then (some (-1)) else (some x1))
def aCK (p0:M.Sync) (p1:Int):Option Int:=
 (zK p0.aV p1).bind fun x1=>(if (decide (x1<0))=true then (some (-1)) else (some x1))
def xN (p0:M.aE) (p1:Int):Option Int:=
 (sC p0.Base p1).bind fun x1=>(if (decide (x1<0))=true then (some (-1)) else ((aCK p0.Sync x1).bind fun x4=>(if (decide (x4<0))=true then (some (-1)) else (some x4))))
def aAI (p0:M.Bucket) (p1:Int):Option Int:=
 if (decide ((i64.wrap (p1-(p0.Site.size:Int)))<0))=true then (some (-1)) else (if (decide ((i64.wrap ((i64.wrap (p1-(p0.Site.size:Int)))-(p0.Top.size:Int)))<0))=true then (some (-1)) else ((lG p0.Registration (i64.wrap ((i64.wrap (p1-(p0.Site.size:Int)))-(p0.Top.size:Int)))).bind fun x3=>(if (decide (x3<0))=true then (some (-1)) else ((uR p0.Caches x3).bind fun x6=>(if (decide (x6<0))=true then (some (-1)) else ((aBb p0.bB x6).bind fun x9=>(if (decide (x9<0))=true then (some (-1)) else ((xN p0.aE x9).bind fun x12=>(if (decide (x12<0))=true then (some (-1)) else (some x12))))))))))
def vN (p0:List M.Bucket):Nat→Int→Int→Option Int
 | 0,_,_=>none
 | nL1+1,v1,v5=>if (decide (v5<(List.length p0:Int)))=true then ((idx p0 v5).bind fun x7=>((aAI x7 v1).bind fun x12=>(if (decide (x12<0))=true then (some (-1)) else (vN p0 nL1 x12 (i64.wrap (v5+1)))))) else (some v1)
def wL (p0:List M.Bucket) (p1:Int):Option Int:=
 if (decide ((i64.wrap (p1-(List.length p0:Int)))<0))=true then (some (-1)) else (vN p0 fuel (i64.wrap (p1-(List.length p0:Int))) 0)
def wA (p0:M.aC) (p1:Int):Option Int:=
 (wL p0.Buckets p1).bind fun x1=>(if (decide (x1<0))=true then (some (-1)) else (some x1))
def yZ (p0:M.aN) (p1:Int):Option Int:=
 if (decide ((i64.wrap (p1-(p0.Path.size:Int)))<0))=true then (some (-1)) else (some (i64.wrap (p1-(p0.Path.size:Int))))
def vM (p0:List M.aN):Nat→Int→Int→Option Int
 | 0,_,_=>none
 | nL1+1,v1,v5=>if (decide (v5<(List.length p0:Int)))=true then ((idx p0 v5).bind fun x7=>((yZ x7 v1).bind fun x12=>(if (decide (x12<0))=true then (some (-1)) else (vM p0 nL1 x12 (i64.wrap (v5+1)))))) else (some v1)
def wN (p0:List M.aN) (p1:Int):Option Int:=
 if (decide ((i64.wrap (p1-(List.length p0:Int)))<0))=true then (some (-1)) else (vM p0 fuel (i64.wrap (p1-(List.length p0:Int))) 0)
def aAb (p0:M.Instr) (p1:Int):Option Int:=
 if (decide ((i64.wrap (p1-(p0.Text.size:Int)))<0))=true then (some (-1)) else (some (i64.wrap (p1-(p0.Text.size:Int))))
def yQ (p0:List M.Instr):Nat→Int→Int→Option Int
 | 0,_,_=>none
 | nL1+1,v1,v5=>if (decide (v5<(List.length p0:Int)))=true then ((idx p0 v5).bind fun x7=>((aAb x7 v1).bind fun x12=>(if (decide (x12<0))=true then (some (-1)) else (yQ p0 nL1 x12 (i64.wrap (v5+1)))))) else (some v1)
def zX (p0:List M.Instr) (p1:Int):Option Int:=
 if (decide ((i64.wrap (p1-(List.length p0:Int)))<0))=true then (some (-1)) else (yQ p0 fuel (i64.wrap (p1-(List.length p0:Int))) 0)
def aCC (p0:List Int) (p1:Int):Option Int:=
 if (decide ((i64.wrap (p1-(List.length p0:Int)))<0))=true then (some (-1)) else (some (i64.wrap (p1-(List.length p0:Int))))
def xP (p0:M.Machine) (p1:Int):Option Int:=
 (zX p0.Script p1).bind fun x1=>(if (decide (x1<0))=true then (some (-1)) else ((aCC p0.Regs x1).bind fun x4=>(if (decide (x4<0))=true then (some (-1)) else (some x4))))
def aB9 (p0:M.bJ) (p1:Int):Option Int:=
 if (decide ((i64.wrap (p1-(p0.Site.size:Int)))<0))=true then (some (-1)) else (if (decide ((i64.wrap ((i64.wrap (p1-(p0.Site.size:Int)))-(p0.Top.size:Int)))<0))=true then (some (-1)) else ((wN p0.aN (i64.wrap ((i64.wrap (p1-(p0.Site.size:Int)))-(p0.Top.size:Int)))).bind fun x3=>(if (decide (x3<0))=true then (some (-1)) else ((xP p0.Machine x3).bind fun x6=>(if (decide (x6<0))=true then (some (-1)) else (some x6))))))
def aAU (p0:List M.bJ):Nat→Int→Int→Option Int
 | 0,_,_=>none
 | nL1+1,v1,v5=>if (decide (v5<(List.length p0:Int)))=true then ((idx p0 v5).bind fun x7=>((aB9 x7 v1).bind fun x12=>(if (decide (x12<0))=true then (some (-1)) else (aAU p0 nL1 x12 (i64.wrap (v5+1)))))) else (some v1)
def aAs (p0:List M.bJ) (p1:Int):Option Int:=
 if (decide ((i64.wrap (p1-(List.length p0:Int)))<0))=true then (some (-1)) else (aAU p0 fuel (i64.wrap (p1-(List.length p0:Int))) 0)
def aCN (p0:M.dA) (p1:Int):Option Int:=
 if (decide ((i64.wrap (p1-(p0.Name.size:Int)))<0))=true then (some (-1)) else (some (i64.wrap (p1-(p0.Name.size:Int))))
def aAS (p0:List M.dA):Nat→Int→Int→Option Int
 | 0,_,_=>none
 | nL1+1,v1,v5=>if (decide (v5<(List.length p0:Int)))=true then ((idx p0 v5).bind fun x7=>((aCN x7 v1).bind fun x12=>(if (decide (x12<0))=true then (some (-1)) else (aAS p0 nL1 x12 (i64.wrap (v5+1)))))) else (some v1)
def aAm (p0:List M.dA) (p1:Int):Option Int:=
 if (decide ((i64.wrap (p1-(List.length p0:Int)))<0))=true then (some (-1)) else (aAS p0 fuel (i64.wrap (p1-(List.length p0:Int))) 0)
def rD (p0:M.aP) (p1:Int):Option Int:=
 (aAm p0.Locks p1).bind fun x1=>(if (decide (x1<0))=true then (some (-1)) else (some x1))
def aA0 (p0:List M.fW) (p1:Int):Option Int:=
 if (decide ((i64.wrap (p1-(List.length p0:Int)))<0))=true then (some (-1)) else (some (i64.wrap (p1-(List.length p0:Int))))
def xL (p0:M.Channel) (p1:Int):Option Int:=
 (aA0 p0.Mails p1).bind fun x1=>(if (decide (x1<0))=true then (some (-1)) else (some x1))
def vJ (p0:List ByteArray):Nat→Int→Int→Option Int
 | 0,_,_=>none
 | nL1+1,v1,v5=>if (decide (v5<(List.length p0:Int)))=true then ((idx p0 v5).bind fun x7=>(if (decide ((i64.wrap (v1-(x7.size:Int)))<0))=true then (some (-1)) else (vJ p0 nL1 (i64.wrap (v1-(x7.size:Int))) (i64.wrap (v5+1))))) else (some v1)
def vQ (p0:List ByteArray) (p1:Int):Option Int:=
 if (decide ((i64.wrap (p1-(List.length p0:Int)))<0))=true then (some (-1)) else (vJ p0 fuel (i64.wrap (p1-(List.length p0:Int))) 0)
def aBj (p0:M.Site) (p1:Int):Option Int:=
 if (decide ((i64.wrap (p1-(p0.Name.size:Int)))<0))=true then (some (-1)) else ((vQ p0.Files (i64.wrap (p1-(p0.Name.size:Int)))).bind fun x2=>(if (decide (x2<0))=true then (some (-1)) else (some x2)))
def aAR (p0:List M.Site):Nat→Int→Int→Option Int
 | 0,_,_=>none
 | nL1+1,v1,v5=>if (decide (v5<(List.length p0:Int)))=true then ((idx p0 v5).bind fun x7=>((aBj x7 v1).bind fun x12=>(if (decide (x12<0))=true then (some (-1)) else (aAR p0 nL1 x12 (i64.wrap (v5+1)))))) else (some v1)
def aBK (p0:List M.Site) (p1:Int):Option Int:=
 if (decide ((i64.wrap (p1-(List.length p0:Int)))<0))=true then (some (-1)) else (aAR p0 fuel (i64.wrap (p1-(List.length p0:Int))) 0)
def tV (p0:List M.aK) (p1:Int):Option Int:=
 if (decide ((i64.wrap (p1-(List.length p0:Int)))<0))=true then (some (-1)) else (some (i64.wrap (p1-(List.length p0:Int))))
def yU (p0:M.Server) (p1:Int):Option Int:=
 (sC p0.aJ p1).bind fun x1=>(if (decide (x1<0))=true then (some (-1)) else ((tV p0.aK x1).bind fun x4=>(if (decide (x4<0))=true then (some (-1)) else ((tX p0.Changes x4).bind fun x7=>(if (decide (x7<0))=true then (some (-1)) else (some x7))))))
def uY (p0:List M.Server):Nat→Int→Int→Option Int
 | 0,_,_=>none
 | nL1+1,v1,v5=>if (decide (v5<(List.length p0:Int)))=true then ((idx p0 v5).bind fun x7=>((yU x7 v1).bind fun x12=>(if (decide (x12<0))=true then (some (-1)) else (uY p0 nL1 x12 (i64.wrap (v5+1)))))) else (some v1)
def xT (p0:List M.Server) (p1:Int):Option Int:=
 if (decide ((i64.wrap (p1-(List.length p0:Int)))<0))=true then (some (-1)) else (uY p0 fuel (i64.wrap (p1-(List.length p0:Int))) 0)
def aAv (p0:M.World) (p1:Int):Option Int:=
 (wA p0.aC p1).bind fun x1=>(if (decide (x1<0))=true then (some (-1)) else ((aAs p0.Pages x1).bind fun x4=>(if (decide (x4<0))=true then (some (-1)) else ((rD p0.Locks x4).bind fun x7=>(if (decide (x7<0))=true then (some (-1)) else ((xL p0.Channel x7).bind fun x10=>(if (decide (x10<0))=true then (some (-1)) else ((aBK p0.Sites x10).bind fun x13=>(if (decide (x13<0))=true then (some (-1)) else ((xT p0.Servers x13).bind fun x16=>(if (decide (x16<0))=true then (some (-1)) else (some x16))))))))))))
def lN (p0:M.Registration):Option M.Registration:=
 some p0
def nU (p0:List Int):Nat→Int→List Int→Option (List Int)
 | 0,_,_=>none
 | nL1+1,v4,r7=>if (decide (v4<(List.length p0:Int)))=true then ((idx p0 v4).bind fun x13=>((idx r7 v4).bind fun x18=>(nU p0 nL1 (i64.wrap (v4+1)) (List.set r7 v4.toNat x13)))) else (some r7)
def xZ (p0:List Int):Option (List Int):=
 (mkL 1 (List.length p0:Int) 0).bind fun x1=>(nU p0 fuel 0 (List.replicate (List.length p0:Int).toNat 0))
def tM (p0:M.Response):Option M.Response:=
 (xZ p0.Body).bind fun x1=>(some (⟨p0.Type_,p0.Status,p0.Version,x1,p0.Shares⟩:M.Response))
def zN (p0:M.Cached):Option M.Cached:=
 (tM p0.Response).bind fun x1=>(some (⟨p0.Site,p0.Path,x1⟩:M.Cached))
def kJ (p0:List M.Cached):Nat→Int→List M.Cached→Option (List M.Cached)
 | 0,_,_=>none
 | nL1+1,v4,r7=>if (decide (v4<(List.length p0:Int)))=true then ((idx p0 v4).bind fun x13=>((zN x13).bind fun x18=>((idx r7 v4).bind fun x20=>(kJ p0 nL1 (i64.wrap (v4+1)) (List.set r7 v4.toNat x18))))) else (some r7)
def xC (p0:List M.Cached):Option (List M.Cached):=
 (mkL 88 (List.length p0:Int) (⟨(⟨#[]⟩:ByteArray),(⟨#[]⟩:ByteArray),(⟨0,0,0,([]:List Int),false⟩:M.Response)⟩:M.Cached)).bind fun x1=>(kJ p0 fuel 0 (List.replicate (List.length p0:Int).toNat (⟨(⟨#[]⟩:ByteArray),(⟨#[]⟩:ByteArray),(⟨0,0,0,([]:List Int),false⟩:M.Response)⟩:M.Cached)))
def aAk (p0:M.Cache):Option M.Cache:=
 (xC p0.Entries).bind fun x1=>(some (⟨p0.Version,x1⟩:M.Cache))
def mF (p0:List M.Cache):Nat→Int→List M.Cache→Option (List M.Cache)
 | 0,_,_=>none
 | nL1+1,v4,r7=>if (decide (v4<(List.length p0:Int)))=true then ((idx p0 v4).bind fun x13=>((aAk x13).bind fun x18=>((idx r7 v4).bind fun x20=>(mF p0 nL1 (i64.wrap (v4+1)) (List.set r7 v4.toNat x18))))) else (some r7)
def zW (p0:List M.Cache):Option (List M.Cache):=
 (mkL 32 (List.length p0:Int) (⟨0,([]:List M.Cached)⟩:M.Cache)).bind fun x1=>(mF p0 fuel 0 (List.replicate (List.length p0:Int).toNat (⟨0,([]:List M.Cached)⟩:M.Cache)))
def tT (p0:M.aA):Option M.aA:=
 (zW p0.Caches).bind fun x1=>(some (⟨x1⟩:M.aA))
def aBT (p0:M.Key):Option M.Key:=
 some p0
def aA9 (p0:M.Field):Option M.Field:=
 some p0
def lR (p0:List M.Field):Nat→Int→List M.Field→Option (List M.Field)
 | 0,_,_=>none
 | nL1+1,v4,r7=>if (decide (v4<(List.length p0:Int)))=true then ((idx p0 v4).bind fun x13=>((aA9 x13).bind fun x18=>((idx r7 v4).bind fun x20=>(lR p0 nL1 (i64.wrap (v4+1)) (List.set r7 v4.toNat x18))))) else (some r7)
def aAJ (p0:List M.Field):Option (List M.Field):=
 (mkL 24 (List.length p0:Int) (⟨(⟨#[]⟩:ByteArray),0⟩:M.Field)).bind fun x1=>(lR p0 fuel 0 (List.replicate (List.length p0:Int).toNat (⟨(⟨#[]⟩:ByteArray),0⟩:M.Field)))
def zL (p0:M.aU):Option M.aU:=
 (aAJ p0.Fields).bind fun x1=>(some (⟨x1⟩:M.aU))
def aBc (p0:M.Item):Option M.Item:=
 (aBT p0.Key).bind fun x1=>((zL p0.aU).bind fun x3=>(some (⟨x1,x3⟩:M.Item)))
def nW (p0:List M.Item):Nat→Int→List M.Item→Option (List M.Item)
 | 0,_,_=>none
 | nL1+1,v4,r7=>if (decide (v4<(List.length p0:Int)))=true then ((idx p0 v4).bind fun x13=>((aBc x13).bind fun x18=>((idx r7 v4).bind fun x20=>(nW p0 nL1 (i64.wrap (v4+1)) (List.set r7 v4.toNat x18))))) else (some r7)
def aAj (p0:List M.Item):Option (List M.Item):=
 (mkL 56 (List.length p0:Int) (⟨(⟨0,0,(⟨#[]⟩:ByteArray)⟩:M.Key),(⟨([]:List M.Field)⟩:M.aU)⟩:M.Item)).bind fun x1=>(nW p0 fuel 0 (List.replicate (List.length p0:Int).toNat (⟨(⟨0,0,(⟨#[]⟩:ByteArray)⟩:M.Key),(⟨([]:List M.Field)⟩:M.aU)⟩:M.Item)))
def sM (p0:M.aJ):Option M.aJ:=
 (aAj p0.Items).bind fun x1=>(some (⟨p0.Name,x1,p0.Auto⟩:M.aJ))
def mB (p0:List M.aJ):Nat→Int→List M.aJ→Option (List M.aJ)
 | 0,_,_=>none
 | nL1+1,v4,r7=>if (decide (v4<(List.length p0:Int)))=true then ((idx p0 v4).bind fun x13=>((sM x13).bind fun x18=>((idx r7 v4).bind fun x20=>(mB p0 nL1 (i64.wrap (v4+1)) (List.set r7 v4.toNat x18))))) else (some r7)
def zC (p0:List M.aJ):Option (List M.aJ):=
 (mkL 48 (List.length p0:Int) (⟨(⟨#[]⟩:ByteArray),([]:List M.Item),0⟩:M.aJ)).bind fun x1=>(mB p0 fuel 0 (List.replicate (List.length p0:Int).toNat (⟨(⟨#[]⟩:ByteArray),([]:List M.Item),0⟩:M.aJ)))
def uM (p0:M.aD):Option M.aD:=
 some p0
def jB (p0:List M.aD):Nat→Int→List M.aD→Option (List M.aD)
 | 0,_,_=>none
 | nL1+1,v4,r7=>if (decide (v4<(List.length p0:Int)))=true then ((idx p0 v4).bind fun x13=>((uM x13).bind fun x18=>((idx r7 v4).bind fun x20=>(jB p0 nL1 (i64.wrap (v4+1)) (List.set r7 v4.toNat x18))))) else (some r7)
def rL (p0:List M.aD):Option (List M.aD):=
 (mkL 32 (List.length p0:Int) (⟨(⟨#[]⟩:ByteArray),(⟨#[]⟩:ByteArray)⟩:M.aD)).bind fun x1=>(jB p0 fuel 0 (List.replicate (List.length p0:Int).toNat (⟨(⟨#[]⟩:ByteArray),(⟨#[]⟩:ByteArray)⟩:M.aD)))
def sV (p0:M.Database):Option M.Database:=
 (zC p0.Stores).bind fun x1=>((rL p0.Unique).bind fun x3=>(some (⟨p0.Name,p0.Version,x1,x3⟩:M.Database)))
def aCH (p0:M.bB):Option M.bB:=
 (sV p0.Base).bind fun x1=>((xZ p0.Log).bind fun x3=>(some (⟨x1,x3,p0.Count⟩:M.bB)))
def aAx (p0:M.aW):Option M.aW:=
 (aBT p0.Key).bind fun x1=>(some (⟨p0.Device,p0.Seq,x1,p0.Field,p0.N⟩:M.aW))
def mG (p0:List M.aW):Nat→Int→List M.aW→Option (List M.aW)
 | 0,_,_=>none
 | nL1+1,v4,r7=>if (decide (v4<(List.length p0:Int)))=true then ((idx p0 v4).bind fun x13=>((aAx x13).bind fun x18=>((idx r7 v4).bind fun x20=>(mG p0 nL1 (i64.wrap (v4+1)) (List.set r7 v4.toNat x18))))) else (some r7)
def uB (p0:List M.aW):Option (List M.aW):=
 (mkL 72 (List.length p0:Int) (⟨0,0,(⟨0,0,(⟨#[]⟩:ByteArray)⟩:M.Key),(⟨#[]⟩:ByteArray),0⟩:M.aW)).bind fun x1=>(mG p0 fuel 0 (List.replicate (List.length p0:Int).toNat (⟨0,0,(⟨0,0,(⟨#[]⟩:ByteArray)⟩:M.Key),(⟨#[]⟩:ByteArray),0⟩:M.aW)))
def yX (p0:M.aV):Option M.aV:=
 (uB p0.Writes).bind fun x1=>(some (⟨p0.Device,p0.Next,x1⟩:M.aV))
def aCB (p0:M.Sync):Option M.Sync:=
 (yX p0.aV).bind fun x1=>(some (⟨x1,p0.Tries,p0.WaitUntil⟩:M.Sync))
def xD (p0:M.aE):Option M.aE:=
 (sM p0.Base).bind fun x1=>((aCB p0.Sync).bind fun x3=>(some (⟨x1,p0.Seen,x3⟩:M.aE)))
def zY (p0:M.Bucket):Option M.Bucket:=
 (lN p0.Registration).bind fun x1=>((tT p0.Caches).bind fun x3=>((aCH p0.bB).bind fun x5=>((xD p0.aE).bind fun x7=>(some (⟨p0.Site,p0.Top,x1,x3,x5,x7,p0.LastUsed,p0.Persistent⟩:M.Bucket)))))
def kW (p0:List M.Bucket):Nat→Int→List M.Bucket→Option (List M.Bucket)
 | 0,_,_=>none
 | nL1+1,v4,r7=>if (decide (v4<(List.length p0:Int)))=true then ((idx p0 v4).bind fun x13=>((zY x13).bind fun x18=>((idx r7 v4).bind fun x20=>(kW p0 nL1 (i64.wrap (v4+1)) (List.set r7 v4.toNat x18))))) else (some r7)
def xS (p0:List M.Bucket):Option (List M.Bucket):=
 (mkL 328 (List.length p0:Int) (⟨(⟨#[]⟩:ByteArray),(⟨#[]⟩:ByteArray),(⟨(⟨#[]⟩:ByteArray),0,0,0⟩:M.Registration),(⟨([]:List M.Cache)⟩:M.aA),(⟨(⟨(⟨#[]⟩:ByteArray),0,([]:List M.aJ),([]:List M.aD)⟩:M.Database),([]:List Int),0⟩:M.bB),(⟨(⟨(⟨#[]⟩:ByteArray),([]:List M.Item),0⟩:M.aJ),0,(⟨(⟨0,0,([]:List M.aW)⟩:M.aV),0,0⟩:M.Sync)⟩:M.aE),0,false⟩:M.Bucket)).bind fun x1=>(kW p0 fuel 0 (List.replicate (List.length p0:Int).toNat (⟨(⟨#[]⟩:ByteArray),(⟨#[]⟩:ByteArray),(⟨(⟨#[]⟩:ByteArray),0,0,0⟩:M.Registration),(⟨([]:List M.Cache)⟩:M.aA),(⟨(⟨(⟨#[]⟩:ByteArray),0,([]:List M.aJ),([]:List M.aD)⟩:M.Database),([]:List Int),0⟩:M.bB),(⟨(⟨(⟨#[]⟩:ByteArray),([]:List M.Item),0⟩:M.aJ),0,(⟨(⟨0,0,([]:List M.aW)⟩:M.aV),0,0⟩:M.Sync)⟩:M.aE),0,false⟩:M.Bucket)))
def wS (p0:M.aC):Option M.aC:=
 (xS p0.Buckets).bind fun x1=>(some (⟨x1⟩:M.aC))
def yS (p0:M.aN):Option M.aN:=
 some p0
def kV (p0:List M.aN):Nat→Int→List M.aN→Option (List M.aN)
 | 0,_,_=>none
 | nL1+1,v4,r7=>if (decide (v4<(List.length p0:Int)))=true then ((idx p0 v4).bind fun x13=>((yS x13).bind fun x18=>((idx r7 v4).bind fun x20=>(kV p0 nL1 (i64.wrap (v4+1)) (List.set r7 v4.toNat x18))))) else (some r7)
def wO (p0:List M.aN):Option (List M.aN):=
 (mkL 24 (List.length p0:Int) (⟨(⟨#[]⟩:ByteArray),0⟩:M.aN)).bind fun x1=>(kV p0 fuel 0 (List.replicate (List.length p0:Int).toNat (⟨(⟨#[]⟩:ByteArray),0⟩:M.aN)))
def aBA (p0:M.Instr):Option M.Instr:=
 some p0
def lQ (p0:List M.Instr):Nat→Int→List M.Instr→Option (List M.Instr)
 | 0,_,_=>none
 | nL1+1,v4,r7=>if (decide (v4<(List.length p0:Int)))=true then ((idx p0 v4).bind fun x13=>((aBA x13).bind fun x18=>((idx r7 v4).bind fun x20=>(lQ p0 nL1 (i64.wrap (v4+1)) (List.set r7 v4.toNat x18))))) else (some r7)
def aAK (p0:List M.Instr):Option (List M.Instr):=
 (mkL 40 (List.length p0:Int) (⟨0,0,0,(⟨#[]⟩:ByteArray)⟩:M.Instr)).bind fun x1=>(lQ p0 fuel 0 (List.replicate (List.length p0:Int).toNat (⟨0,0,0,(⟨#[]⟩:ByteArray)⟩:M.Instr)))
def pJ (p0:List Int):Nat→Int→List Int→Option (List Int)
 | 0,_,_=>none
 | nL1+1,v4,r7=>if (decide (v4<(List.length p0:Int)))=true then ((idx p0 v4).bind fun x13=>((idx r7 v4).bind fun x18=>(pJ p0 nL1 (i64.wrap (v4+1)) (List.set r7 v4.toNat x13)))) else (some r7)
def aBp (p0:List Int):Option (List Int):=
 (mkL 8 (List.length p0:Int) 0).bind fun x1=>(pJ p0 fuel 0 (List.replicate (List.length p0:Int).toNat 0))
def wJ (p0:M.Machine):Option M.Machine:=
 (aAK p0.Script).bind fun x1=>((aBp p0.Regs).bind fun x3=>(some (⟨x1,p0.Pc,x3,p0.Steps,p0.Done,p0.Wait⟩:M.Machine)))
def aBf (p0:M.bJ):Option M.bJ:=
 (wO p0.aN).bind fun x1=>((wJ p0.Machine).bind fun x3=>(some (⟨p0.Id,p0.Site,p0.Top,p0.Version,x1,x3⟩:M.bJ)))
def nR (p0:List M.bJ):Nat→Int→List M.bJ→Option (List M.bJ)
 | 0,_,_=>none
 | nL1+1,v4,r7=>if (decide (v4<(List.length p0:Int)))=true then ((idx p0 v4).bind fun x13=>((aBf x13).bind fun x18=>((idx r7 v4).bind fun x20=>(nR p0 nL1 (i64.wrap (v4+1)) (List.set r7 v4.toNat x18))))) else (some r7)
def aAu (p0:List M.bJ):Option (List M.bJ):=
 (mkL 144 (List.length p0:Int) (⟨0,(⟨#[]⟩:ByteArray),(⟨#[]⟩:ByteArray),0,([]:List M.aN),(⟨([]:List M.Instr),0,([]:List Int),0,false,false⟩:M.Machine)⟩:M.bJ)).bind fun x1=>(nR p0 fuel 0 (List.replicate (List.length p0:Int).toNat (⟨0,(⟨#[]⟩:ByteArray),(⟨#[]⟩:ByteArray),0,([]:List M.aN),(⟨([]:List M.Instr),0,([]:List Int),0,false,false⟩:M.Machine)⟩:M.bJ)))
def aBs (p0:M.dA):Option M.dA:=
 some p0
def nH (p0:List M.dA):Nat→Int→List M.dA→Option (List M.dA)
 | 0,_,_=>none
 | nL1+1,v4,r7=>if (decide (v4<(List.length p0:Int)))=true then ((idx p0 v4).bind fun x13=>((aBs x13).bind fun x18=>((idx r7 v4).bind fun x20=>(nH p0 nL1 (i64.wrap (v4+1)) (List.set r7 v4.toNat x18))))) else (some r7)
def aAl (p0:List M.dA):Option (List M.dA):=
 (mkL 32 (List.length p0:Int) (⟨(⟨#[]⟩:ByteArray),0,false,false⟩:M.dA)).bind fun x1=>(nH p0 fuel 0 (List.replicate (List.length p0:Int).toNat (⟨(⟨#[]⟩:ByteArray),0,false,false⟩:M.dA)))
def rE (p0:M.aP):Option M.aP:=
 (aAl p0.Locks).bind fun x1=>(some (⟨x1⟩:M.aP))
def aB3 (p0:M.fW):Option M.fW:=
 some p0
def nJ (p0:List M.fW):Nat→Int→List M.fW→Option (List M.fW)
 | 0,_,_=>none
 | nL1+1,v4,r7=>if (decide (v4<(List.length p0:Int)))=true then ((idx p0 v4).bind fun x13=>((aB3 x13).bind fun x18=>((idx r7 v4).bind fun x20=>(nJ p0 nL1 (i64.wrap (v4+1)) (List.set r7 v4.toNat x18))))) else (some r7)
def aAe (p0:List M.fW):Option (List M.fW):=
 (mkL 24 (List.length p0:Int) (⟨0,0,0⟩:M.fW)).bind fun x1=>(nJ p0 fuel 0 (List.replicate (List.length p0:Int).toNat (⟨0,0,0⟩:M.fW)))
def wC (p0:M.Channel):Option M.Channel:=
 (aAe p0.Mails).bind fun x1=>(some (⟨x1⟩:M.Channel))
def kL (p0:List ByteArray):Nat→Int→List ByteArray→Option (List ByteArray)
 | 0,_,_=>none
 | nL1+1,v4,r7=>if (decide (v4<(List.length p0:Int)))=true then ((idx p0 v4).bind fun x13=>((idx r7 v4).bind fun x18=>(kL p0 nL1 (i64.wrap (v4+1)) (List.set r7 v4.toNat x13)))) else (some r7)
def xO (p0:List ByteArray):Option (List ByteArray):=
 (mkL 16 (List.length p0:Int) (⟨#[]⟩:ByteArray)).bind fun x1=>(kL p0 fuel 0 (List.replicate (List.length p0:Int).toNat (⟨#[]⟩:ByteArray)))
def aBz (p0:M.Site):Option M.Site:=
 (xO p0.Files).bind fun x1=>(some (⟨p0.Name,p0.Version,x1,p0.Shared⟩:M.Site))
def nS (p0:List M.Site):Nat→Int→List M.Site→Option (List M.Site)
 | 0,_,_=>none
 | nL1+1,v4,r7=>if (decide (v4<(List.length p0:Int)))=true then ((idx p0 v4).bind fun x13=>((aBz x13).bind fun x18=>((idx r7 v4).bind fun x20=>(nS p0 nL1 (i64.wrap (v4+1)) (List.set r7 v4.toNat x18))))) else (some r7)
def aA1 (p0:List M.Site):Option (List M.Site):=
 (mkL 56 (List.length p0:Int) (⟨(⟨#[]⟩:ByteArray),0,([]:List ByteArray),false⟩:M.Site)).bind fun x1=>(nS p0 fuel 0 (List.replicate (List.length p0:Int).toNat (⟨(⟨#[]⟩:ByteArray),0,([]:List ByteArray),false⟩:M.Site)))
def xI (p0:M.aK):Option M.aK:=
 some p0
def jZ (p0:List M.aK):Nat→Int→List M.aK→Option (List M.aK)
 | 0,_,_=>none
 | nL1+1,v4,r7=>if (decide (v4<(List.length p0:Int)))=true then ((idx p0 v4).bind fun x13=>((xI x13).bind fun x18=>((idx r7 v4).bind fun x20=>(jZ p0 nL1 (i64.wrap (v4+1)) (List.set r7 v4.toNat x18))))) else (some r7)
def uD (p0:List M.aK):Option (List M.aK):=
 (mkL 16 (List.length p0:Int) (⟨0,0⟩:M.aK)).bind fun x1=>(jZ p0 fuel 0 (List.replicate (List.length p0:Int).toNat (⟨0,0⟩:M.aK)))
def aAH (p0:M.Server):Option M.Server:=
 (sM p0.aJ).bind fun x1=>((uD p0.aK).bind fun x3=>((uB p0.Changes).bind fun x5=>(some (⟨x1,x3,x5⟩:M.Server))))
def kR (p0:List M.Server):Nat→Int→List M.Server→Option (List M.Server)
 | 0,_,_=>none
 | nL1+1,v4,r7=>if (decide (v4<(List.length p0:Int)))=true then ((idx p0 v4).bind fun x13=>((aAH x13).bind fun x18=>((idx r7 v4).bind fun x20=>(kR p0 nL1 (i64.wrap (v4+1)) (List.set r7 v4.toNat x18))))) else (some r7)
def wP (p0:List M.Server):Option (List M.Server):=
 (mkL 96 (List.length p0:Int) (⟨(⟨(⟨#[]⟩:ByteArray),([]:List M.Item),0⟩:M.aJ),([]:List M.aK),([]:List M.aW)⟩:M.Server)).bind fun x1=>(kR p0 fuel 0 (List.replicate (List.length p0:Int).toNat (⟨(⟨(⟨#[]⟩:ByteArray),([]:List M.Item),0⟩:M.aJ),([]:List M.aK),([]:List M.aW)⟩:M.Server)))
def nG (p0:M.World):Option M.World:=
 (wS p0.aC).bind fun x1=>((aAu p0.Pages).bind fun x3=>((rE p0.Locks).bind fun x5=>((wC p0.Channel).bind fun x7=>((aA1 p0.Sites).bind fun x9=>((wP p0.Servers).bind fun x11=>(some (⟨p0.Now,p0.Online,p0.Device,x1,x3,p0.NextPage,x5,x7,x9,x11⟩:M.World)))))))
def fZ (p0:M.aC) (p1:ByteArray) (p2:ByteArray):Nat→Int→Option Int
 | 0,_=>none
 | nL1+1,v7=>if (decide (v7<(List.length p0.Buckets:Int)))=true then ((idx p0.Buckets v7).bind fun x8=>(if (x8.Site.toList==p1.toList)=true then (if (x8.Top.toList==p2.toList)=true then (some v7) else (fZ p0 p1 p2 nL1 (i64.wrap (v7+1)))) else (fZ p0 p1 p2 nL1 (i64.wrap (v7+1))))) else (some (-1))
def jN (p0:M.aC) (p1:ByteArray) (p2:ByteArray):Option Int:=
 fZ p0 p1 p2 fuel 0
def tK  : Option (List ByteArray):=
 some ([(⟨#[98,97,110,107]⟩:ByteArray),(⟨#[110,101,119,115]⟩:ByteArray),(⟨#[115,104,111,112]⟩:ByteArray)])
def iB (p0:ByteArray) (x1:(List ByteArray)):Nat→Int→Option Int
 | 0,_=>none
 | nL1+1,v4=>if (decide (v4<(List.length x1:Int)))=true then ((idx x1 v4).bind fun x9=>(if (x9.toList==p0.toList)=true then (some v4) else (iB p0 x1 nL1 (i64.wrap (v4+1))))) else (some (-1))
def uQ (p0:ByteArray):Option Int:=
 (tK).bind fun x1=>(iB p0 x1 fuel 0)
def bF (p0:Int) (p1:Int) (p2:Int):Option Bool:=
 if (decide (p0≥p1))=true then (some (decide (p0≤p2))) else (some false)
def kD (p0:ByteArray):Nat→Int→Option Bool
 | 0,_=>none
 | nL1+1,v3=>if (decide (v3<(p0.size:Int)))=true then ((aQg p0 v3).bind fun x5=>(if (decide ((x5.toNat:Int)<97))=true then (some false) else (if (decide ((x5.toNat:Int)>122))=true then (some false) else (kD p0 nL1 (i64.wrap (v3+1)))))) else ((bF (p0.size:Int) 1 8).bind fun x11=>(some x11))
def cP (p0:ByteArray):Option Bool:=
 kD p0 fuel 0
def iM (p0:M.Site):Nat→Int→Option Bool
 | 0,_=>none
 | nL1+1,v3=>if (decide (v3<(List.length p0.Files:Int)))=true then ((idx p0.Files v3).bind fun x6=>((cP x6).bind fun x11=>(if (!x11)=true then (some false) else (if (decide (v3>0))=true then ((idx p0.Files (i64.wrap (v3-1))).bind fun x15=>(if (!(Op.bytesLess x15.toList x6.toList))=true then (some false) else (iM p0 nL1 (i64.wrap (v3+1))))) else (iM p0 nL1 (i64.wrap (v3+1))))))) else ((cP p0.Name).bind fun x21=>(if x21=true then ((bF p0.Version 1 1000000000000).bind fun x24=>(if x24=true then ((bF (List.length p0.Files:Int) 1 6).bind fun x27=>(some x27)) else (some false))) else (some false)))
def vF (p0:M.Site):Option Bool:=
 iM p0 fuel 0
def gW (p0:ByteArray):Nat→Int→Option Bool
 | 0,_=>none
 | nL1+1,v3=>if (decide (v3<(p0.size:Int)))=true then ((aQg p0 v3).bind fun x5=>(if (decide ((x5.toNat:Int)<97))=true then (if (decide ((x5.toNat:Int)<48))=true then (some false) else (if (decide ((x5.toNat:Int)>57))=true then (some false) else (gW p0 nL1 (i64.wrap (v3+1))))) else (if (decide ((x5.toNat:Int)>122))=true then (if (decide ((x5.toNat:Int)<48))=true then (some false) else (if (decide ((x5.toNat:Int)>57))=true then (some false) else (gW p0 nL1 (i64.wrap (v3+1))))) else (gW p0 nL1 (i64.wrap (v3+1)))))) else (some (decide ((p0.size:Int)≤12)))
def aAM (p0:ByteArray):Option Bool:=
 gW p0 fuel 0
def pO (p0:M.Key):Option Bool:=
 (bF p0.Kind 1 3).bind fun x1=>(if x1=true then ((bF p0.N (-1000000000000) 1000000000000).bind fun x4=>(if x4=true then (if (p0.Kind != 2)=true then ((aAM p0.Text).bind fun x8=>(if x8=true then (if (p0.Kind != 1)=true then (some true) else (some (p0.Text.toList==(⟨#[]⟩:ByteArray).toList))) else (some false))) else (if (p0.N==0)=true then ((aAM p0.Text).bind fun x13=>(if x13=true then (if (p0.Kind != 1)=true then (some true) else (some (p0.Text.toList==(⟨#[]⟩:ByteArray).toList))) else (some false))) else (some false))) else (some false))) else (some false))
def kB (p0:M.aW):Option Bool:=
 (bF p0.Device 1 1000000).bind fun x1=>(if x1=true then ((bF p0.Seq 1 1000000).bind fun x4=>(if x4=true then ((pO p0.Key).bind fun x7=>(if x7=true then ((cP p0.Field).bind fun x10=>(if x10=true then ((bF p0.N 0 1000000000).bind fun x13=>(some x13)) else (some false))) else (some false))) else (some false))) else (some false))
def gH (p0:M.aU):Nat→Int→Option Bool
 | 0,_=>none
 | nL1+1,v3=>if (decide (v3<(List.length p0.Fields:Int)))=true then ((idx p0.Fields v3).bind fun x6=>((cP x6.Name).bind fun x11=>(if (!x11)=true then (some false) else ((bF x6.N 0 1000000000).bind fun x14=>(if (!x14)=true then (some false) else (if (decide (v3>0))=true then ((idx p0.Fields (i64.wrap (v3-1))).bind fun x18=>(if (!(Op.bytesLess x18.Name.toList x6.Name.toList))=true then (some false) else (gH p0 nL1 (i64.wrap (v3+1))))) else (gH p0 nL1 (i64.wrap (v3+1))))))))) else (some (decide ((List.length p0.Fields:Int)≤6)))
def uO (p0:M.aU):Option Bool:=
 gH p0 fuel 0
def aAO (p0:Bool) (p1:Bool):Option Int:=
 if p0=true then (some (-1)) else (if p1=true then (some 1) else (some 0))
def mC (p0:M.Key) (p1:M.Key):Option Int:=
 (pO p0).bind fun x1=>(if (!x1)=true then (some 0) else ((pO p1).bind fun x4=>(if (!x4)=true then (some 0) else (if (p0.Kind != p1.Kind)=true then ((aAO (decide (p0.Kind<p1.Kind)) true).bind fun x8=>(some x8)) else (if (p0.N != p1.N)=true then ((aAO (decide (p0.N<p1.N)) true).bind fun x11=>(some x11)) else ((aAO (Op.bytesLess p0.Text.toList p1.Text.toList) (!(Op.bytesLess p0.Text.toList p1.Text.toList||p0.Text.toList==p1.Text.toList))).bind fun x13=>(some x13)))))))
def hM (p0:M.aJ):Nat→Int→Option Bool
 | 0,_=>none
 | nL1+1,v3=>if (decide (v3<(List.length p0.Items:Int)))=true then ((idx p0.Items v3).bind fun x6=>((pO x6.Key).bind fun x11=>(if (!x11)=true then (some false) else ((uO x6.aU).bind fun x14=>(if (!x14)=true then (some false) else (if (decide (v3>0))=true then ((idx p0.Items (i64.wrap (v3-1))).bind fun x18=>((mC x18.Key x6.Key).bind fun x23=>(if (decide (x23≥0))=true then (some false) else (hM p0 nL1 (i64.wrap (v3+1)))))) else (hM p0 nL1 (i64.wrap (v3+1))))))))) else ((cP p0.Name).bind fun x26=>(if x26=true then (if (decide ((List.length p0.Items:Int)≤16))=true then ((bF p0.Auto 0 1000000).bind fun x30=>(some x30)) else (some false)) else (some false)))
def sJ (p0:M.aJ):Option Bool:=
 hM p0 fuel 0
def iE (p0:M.Server):Nat→Int→Option Bool
 | 0,_=>none
 | nL2+1,v4=>if (decide (v4<(List.length p0.Changes:Int)))=true then ((idx p0.Changes v4).bind fun x29=>((kB x29).bind fun x34=>(if (!x34)=true then (some false) else (iE p0 nL2 (i64.wrap (v4+1)))))) else ((sJ p0.aJ).bind fun x37=>(if x37=true then (if (p0.aJ.Name.toList==(⟨#[110,111,116,101,115]⟩:ByteArray).toList)=true then (some (decide ((List.length p0.aK:Int)≤60))) else (some false)) else (some false)))
def gJ (p0:M.Server):Nat→Int→Option Bool
 | 0,_=>none
 | nL1+1,v3=>if (decide (v3<(List.length p0.aK:Int)))=true then ((idx p0.aK v3).bind fun x6=>((bF x6.Device 1 1000000).bind fun x11=>(if (!x11)=true then (some false) else ((bF x6.Seq 0 1000000).bind fun x14=>(if (!x14)=true then (some false) else (if (decide (v3>0))=true then ((idx p0.aK (i64.wrap (v3-1))).bind fun x18=>(if (decide (x18.Device≥x6.Device))=true then (some false) else (gJ p0 nL1 (i64.wrap (v3+1))))) else (gJ p0 nL1 (i64.wrap (v3+1))))))))) else (iE p0 fuel 0)
def aAD (p0:M.Server):Option Bool:=
 gJ p0 fuel 0
def mI (p0:M.bJ):Nat→Int→Option Bool
 | 0,_=>none
 | nL1+1,v3=>if (decide (v3<(List.length p0.aN:Int)))=true then ((idx p0.aN v3).bind fun x6=>((cP x6.Path).bind fun x11=>(if (!x11)=true then (some false) else (if (x6.Version != p0.Version)=true then (some false) else (mI p0 nL1 (i64.wrap (v3+1))))))) else ((bF p0.Id 1 1000000000000).bind fun x15=>(if x15=true then ((cP p0.Site).bind fun x18=>(if x18=true then ((cP p0.Top).bind fun x21=>(if x21=true then ((bF p0.Version 1 1000000000000).bind fun x24=>(if x24=true then (some (decide ((List.length p0.aN:Int)≤8))) else (some false))) else (some false))) else (some false))) else (some false)))
def aCP (p0:M.bJ):Option Bool:=
 mI p0 fuel 0
def bL (p0:M.Registration):Nat→Int→Int→Option Bool
 | 0,_,_=>none
 | nL1+1,v3,v5=>if (decide (v5<((3:Nat):Int)))=true then ((idx ([p0.Active,p0.Waiting,p0.Installing]) v5).bind fun x15=>((bF x15 0 1000000000000).bind fun x20=>(if (!x20)=true then (some false) else (if (x15 != 0)=true then (if (decide (x15≤v3))=true then (some false) else (bL p0 nL1 x15 (i64.wrap (v5+1)))) else (bL p0 nL1 v3 (i64.wrap (v5+1))))))) else ((cP p0.Site).bind fun x25=>(some x25))
def cT (p0:M.Registration):Option Bool:=
 bL p0 fuel 0 0
def tY (p0:M.Response):Option Bool:=
 (bF p0.Type_ 1 4).bind fun x1=>(if x1=true then ((bF p0.Status 0 999).bind fun x4=>(if x4=true then ((bF p0.Version 0 1000000000000).bind fun x7=>(if x7=true then (some (decide ((List.length p0.Body:Int)≤60))) else (some false))) else (some false))) else (some false))
def fY (p0:List M.Cached) (v3:Int) (x5:M.Cached) (k20:Int→Option Bool):Nat→Int→Option Bool
 | 0,_=>none
 | nL2+1,v4_L2=>if (decide (v4_L2<v3))=true then ((idx p0 v4_L2).bind fun x26=>(if (x26.Site.toList==x5.Site.toList)=true then (if (x26.Path.toList==x5.Path.toList)=true then (some false) else (fY p0 v3 x5 k20 nL2 (i64.wrap (v4_L2+1)))) else (fY p0 v3 x5 k20 nL2 (i64.wrap (v4_L2+1))))) else (k20 v4_L2)
def eO (p0:List M.Cached):Nat→Int→Option Bool
 | 0,_=>none
 | nL1+1,v3=>if (decide (v3<(List.length p0:Int)))=true then ((idx p0 v3).bind fun x5=>((cP x5.Site).bind fun x10=>(if (!x10)=true then (some false) else ((cP x5.Path).bind fun x13=>(if (!x13)=true then (some false) else ((tY x5.Response).bind fun x16=>(if (!x16)=true then (some false) else (fY p0 v3 x5 (fun (v4_L2:Int)=>eO p0 nL1 (i64.wrap (v3+1))) fuel 0)))))))) else (some (decide ((List.length p0:Int)≤12)))
def nL (p0:List M.Cached):Option Bool:=
 eO p0 fuel 0
def eL (p0:M.aA):Nat→Int→Option Bool
 | 0,_=>none
 | nL1+1,v3=>if (decide (v3<(List.length p0.Caches:Int)))=true then ((idx p0.Caches v3).bind fun x6=>((bF x6.Version 1 1000000000000).bind fun x11=>(if (!x11)=true then (some false) else (if (decide (v3>0))=true then ((idx p0.Caches (i64.wrap (v3-1))).bind fun x15=>(if (decide (x15.Version≥x6.Version))=true then (some false) else ((nL x6.Entries).bind fun x21=>(if (!x21)=true then (some false) else (eL p0 nL1 (i64.wrap (v3+1))))))) else ((nL x6.Entries).bind fun x24=>(if (!x24)=true then (some false) else (eL p0 nL1 (i64.wrap (v3+1))))))))) else (some (decide ((List.length p0.Caches:Int)≤4)))
def bY (p0:M.aA):Option Bool:=
 eL p0 fuel 0
def iZ (p0:M.Database) (p1:ByteArray):Nat→Int→Option Int
 | 0,_=>none
 | nL1+1,v5=>if (decide (v5<(List.length p0.Stores:Int)))=true then ((idx p0.Stores v5).bind fun x7=>(if (x7.Name.toList==p1.toList)=true then (some v5) else (iZ p0 p1 nL1 (i64.wrap (v5+1))))) else (some (-1))
def wB (p0:M.Database) (p1:ByteArray):Option Int:=
 iZ p0 p1 fuel 0
def lZ (p0:M.aU) (p1:ByteArray):Nat→Int→Option (Int×Bool)
 | 0,_=>none
 | nL1+1,v6=>if (decide (v6<(List.length p0.Fields:Int)))=true then ((idx p0.Fields v6).bind fun x7=>(if (x7.Name.toList==p1.toList)=true then (some (x7.N,true)) else (lZ p0 p1 nL1 (i64.wrap (v6+1))))) else (some (0,false))
def lJ (p0:M.aU) (p1:ByteArray):Option (Int×Bool):=
 lZ p0 p1 fuel 0
def aCO (p0:M.Item) (p1:M.Item) (p2:ByteArray):Option Bool:=
 (lJ p0.aU p2).bind fun x1=>((lJ p1.aU p2).bind fun x3=>(if (decide (x1.1<x3.1))=true then (some true) else (if (x1.1==x3.1)=true then ((mC p0.Key p1.Key).bind fun x7=>(some (decide (x7<0)))) else (some false))))
def aBw (p0:M.aU):Option M.aU:=
 (app 24 ([]:List M.Field) p0.Fields).bind fun x1=>(some p0)
def aAQ (p0:M.Item):Option M.Item:=
 (aBw p0.aU).bind fun x1=>(some (⟨p0.Key,x1⟩:M.Item))
def kI (p1:ByteArray) (r50000:List M.Item) (x15:M.Item) (k24:Int→Option (List M.Item)):Nat→Int→Option (List M.Item)
 | 0,_=>none
 | nL2+1,v9_L2=>if (decide (v9_L2>0))=true then ((idx r50000 (i64.wrap (v9_L2-1))).bind fun x34=>((aCO x15 x34 p1).bind fun x39=>(if x39=true then (kI p1 r50000 x15 k24 nL2 (i64.wrap (v9_L2-1))) else (k24 v9_L2)))) else (k24 v9_L2)
def jF (p0:M.aJ) (p1:ByteArray):Nat→Int→List M.Item→Option (List M.Item)
 | 0,_,_=>none
 | nL1+1,v6,r50000=>if (decide (v6<(List.length p0.Items:Int)))=true then ((idx p0.Items v6).bind fun x15=>((lJ x15.aU p1).bind fun x20=>(if (!x20.2)=true then (jF p0 p1 nL1 (i64.wrap (v6+1)) r50000) else (kI p1 r50000 x15 (fun (v9_L2:Int)=>(aEx r50000 v9_L2).bind fun x79=>((app 56 ([]:List M.Item) (List.take v9_L2.toNat r50000)).bind fun x81=>((aAQ x15).bind fun x93=>((app 56 (List.take v9_L2.toNat r50000) ([x93])).bind fun x95=>((app 56 ((List.take v9_L2.toNat r50000)++[x93]) (List.drop v9_L2.toNat r50000)).bind fun x107=>(jF p0 p1 nL1 (i64.wrap (v6+1)) (((List.take v9_L2.toNat r50000)++[x93])++(List.drop v9_L2.toNat r50000)))))))) fuel (List.length r50000:Int))))) else (some r50000)
def aA4 (p0:M.aJ) (p1:ByteArray):Option (List M.Item):=
 jF p0 p1 fuel 0 ([]:List M.Item)
def jL (p1:ByteArray) (x1:(List M.Item)):Nat→Int→Option (M.Key×M.Key×Bool)
 | 0,_=>none
 | nL1+1,v8=>if (decide (v8<(List.length x1:Int)))=true then ((idx x1 (i64.wrap (v8-1))).bind fun x13=>((lJ x13.aU p1).bind fun x18=>((idx x1 v8).bind fun x20=>((lJ x20.aU p1).bind fun x25=>(if (x18.1==x25.1)=true then (some (x13.Key,x20.Key,true)) else (jL p1 x1 nL1 (i64.wrap (v8+1)))))))) else (some ((⟨0,0,(⟨#[]⟩:ByteArray)⟩:M.Key),(⟨0,0,(⟨#[]⟩:ByteArray)⟩:M.Key),false))
def pT (p0:M.aJ) (p1:ByteArray):Option (M.Key×M.Key×Bool):=
 (aA4 p0 p1).bind fun x1=>(jL p1 x1 fuel 1)
def fX (p0:M.Database) (v4:Int) (x26:M.aD) (k46:Int→Option Bool):Nat→Int→Option Bool
 | 0,_=>none
 | nL3+1,v9_L3=>if (decide (v9_L3<v4))=true then ((idx p0.Unique v9_L3).bind fun x53=>(if ((x53.aJ.toList==x26.aJ.toList)&&(x53.Field.toList==x26.Field.toList))=true then (some false) else (fX p0 v4 x26 k46 nL3 (i64.wrap (v9_L3+1))))) else (k46 v9_L3)
def eS (p0:M.Database):Nat→Int→Option Bool
 | 0,_=>none
 | nL2+1,v4=>if (decide (v4<(List.length p0.Unique:Int)))=true then ((idx p0.Unique v4).bind fun x26=>((wB p0 x26.aJ).bind fun x31=>(if (decide (x31<0))=true then (some false) else ((cP x26.Field).bind fun x34=>(if (!x34)=true then (some false) else ((idx p0.Stores x31).bind fun x37=>((pT x37 x26.Field).bind fun x42=>(if x42.2.2=true then (some false) else (fX p0 v4 x26 (fun (v9_L3:Int)=>eS p0 nL2 (i64.wrap (v4+1))) fuel 0))))))))) else ((cP p0.Name).bind fun x59=>(if x59=true then ((bF p0.Version 0 1000).bind fun x62=>(if x62=true then (if (decide ((List.length p0.Stores:Int)≤4))=true then (some (decide ((List.length p0.Unique:Int)≤4))) else (some false)) else (some false))) else (some false)))
def eR (p0:M.Database):Nat→Int→Option Bool
 | 0,_=>none
 | nL1+1,v3=>if (decide (v3<(List.length p0.Stores:Int)))=true then ((idx p0.Stores v3).bind fun x6=>((sJ x6).bind fun x11=>(if (!x11)=true then (some false) else (if (decide (v3>0))=true then ((idx p0.Stores (i64.wrap (v3-1))).bind fun x15=>(if (!(Op.bytesLess x15.Name.toList x6.Name.toList))=true then (some false) else (eR p0 nL1 (i64.wrap (v3+1))))) else (eR p0 nL1 (i64.wrap (v3+1))))))) else (eS p0 fuel 0)
def tE (p0:M.Database):Option Bool:=
 eR p0 fuel 0
def jS (p0:M.aV):Nat→Int→Option Bool
 | 0,_=>none
 | nL1+1,v4=>if (decide (v4<(List.length p0.Writes:Int)))=true then ((idx p0.Writes v4).bind fun x14=>((kB x14).bind fun x19=>(if (!x19)=true then (some false) else (if (x14.Device != p0.Device)=true then (some false) else (if (x14.Seq != (i64.wrap ((i64.wrap (p0.Next-(List.length p0.Writes:Int)))+v4)))=true then (some false) else (jS p0 nL1 (i64.wrap (v4+1)))))))) else (some true)
def aAA (p0:M.aV):Option Bool:=
 (bF p0.Device 1 1000000).bind fun x1=>(if (!x1)=true then (some false) else ((bF p0.Next 1 1000000).bind fun x4=>(if (!x4)=true then (some false) else (if (decide ((List.length p0.Writes:Int)>20))=true then (some false) else (jS p0 fuel 0)))))
def wK (p0:M.aE):Option Bool:=
 (sJ p0.Base).bind fun x1=>(if x1=true then (if (p0.Base.Name.toList==(⟨#[110,111,116,101,115]⟩:ByteArray).toList)=true then ((bF p0.Seen 0 1000000000000).bind fun x5=>(if x5=true then ((aAA p0.Sync.aV).bind fun x8=>(some x8)) else (some false))) else (some false)) else (some false))
def tN (p0:M.Response) (p1:Bool):Option Int:=
 if p1=true then (some 76) else (some (i64.wrap (16+(List.length p0.Body:Int))))
def iA (p0:M.aA) (v4:Int) (k8:Int→Int→Option Int):Nat→Int→Int→Option Int
 | 0,_,_=>none
 | nL2+1,v3_L2,v5_L2=>(idx p0.Caches v4).bind fun x15=>(if (decide (v5_L2<(List.length x15.Entries:Int)))=true then ((idx x15.Entries v5_L2).bind fun x21=>((tN x21.Response (x21.Response.Type_==3)).bind fun x26=>(iA p0 v4 k8 nL2 (i64.wrap (v3_L2+x26)) (i64.wrap (v5_L2+1))))) else (k8 v3_L2 v5_L2))
def eH (p0:M.aA):Nat→Int→Int→Option Int
 | 0,_,_=>none
 | nL1+1,v3,v4=>if (decide (v4<(List.length p0.Caches:Int)))=true then (iA p0 v4 (fun (v3_L2:Int) (v5_L2:Int)=>eH p0 nL1 v3_L2 (i64.wrap (v4+1))) fuel v3 0) else (some v3)
def tD (p0:M.aA):Option Int:=
 eH p0 fuel 0 0
def dB (p0:M.Key):Nat→Int→List Int→Option (List Int)
 | 0,_,_=>none
 | nL1+1,v4,r12=>if (decide (v4≥0))=true then (if (p0.Kind != 2)=true then (if (decide (0≤(i64.wrap (8*v4))))=true then ((app 1 r12 ([(IntKind.u8.wrap (i64.wrap (BitVec.ofInt (IntKind.i64.bits) (Int.fdiv (i64.wrap (p0.N+1000000000000)) (2^(min (i64.wrap (8*v4)).toNat IntKind.i64.bits)))&&&BitVec.ofInt (IntKind.i64.bits) 255).toNat))])).bind fun x18=>(dB p0 nL1 (i64.wrap (v4-1)) (r12++[(IntKind.u8.wrap (i64.wrap (BitVec.ofInt (IntKind.i64.bits) (Int.fdiv (i64.wrap (p0.N+1000000000000)) (2^(min (i64.wrap (8*v4)).toNat IntKind.i64.bits)))&&&BitVec.ofInt (IntKind.i64.bits) 255).toNat))]))) else none) else ((app 1 r12 (fJ p0.Text)).bind fun x26=>(some (r12++(fJ p0.Text))))) else ((app 1 r12 (fJ p0.Text)).bind fun x28=>(some (r12++(fJ p0.Text))))
def wG (p0:M.Key):Option (List Int):=
 (pO p0).bind fun x1=>(if (!x1)=true then (some ([]:List Int)) else (dB p0 fuel 5 ([(IntKind.u8.wrap p0.Kind)])))
def fT  : Nat→Int→List Int→Option (List Int)
 | 0,_,_=>none
 | nL1+1,v1,r6=>if (decide (v1>127))=true then ((app 1 r6 ([(IntKind.u8.wrap (i64.wrap (BitVec.ofInt (IntKind.i64.bits) (i64.wrap (BitVec.ofInt (IntKind.i64.bits) v1&&&BitVec.ofInt (IntKind.i64.bits) 127).toNat)|||BitVec.ofInt (IntKind.i64.bits) 128).toNat))])).bind fun x15=>(fT nL1 (Int.fdiv v1 (2^(min (7:Int).toNat IntKind.i64.bits))) (r6++[(IntKind.u8.wrap (i64.wrap (BitVec.ofInt (IntKind.i64.bits) (i64.wrap (BitVec.ofInt (IntKind.i64.bits) v1&&&BitVec.ofInt (IntKind.i64.bits) 127).toNat)|||BitVec.ofInt (IntKind.i64.bits) 128).toNat))]))) else ((app 1 r6 ([(IntKind.u8.wrap v1)])).bind fun x21=>(some (r6++[(IntKind.u8.wrap v1)])))
def iC (p0:List Int) (p1:Int):Option (List Int):=
 (app 1 ([]:List Int) p0).bind fun x1=>((bF p1 0 1000000000000).bind fun x7=>(if (!x7)=true then (some p0) else (fT fuel p1 p0)))
def pS (p0:List Int) (p1:List Int):Option (List Int):=
 (iC p0 (List.length p1:Int)).bind fun x1=>((app 1 x1 p1).bind fun x3=>(some (x1++p1)))
def gE (p0:M.aU):Nat→Int→List Int→Option (List Int)
 | 0,_,_=>none
 | nL1+1,v4,r50000=>if (decide (v4<(List.length p0.Fields:Int)))=true then ((idx p0.Fields v4).bind fun x18=>((pS r50000 (fJ x18.Name)).bind fun x23=>((iC x23 x18.N).bind fun x25=>(gE p0 nL1 (i64.wrap (v4+1)) x25)))) else (some r50000)
def oN (p0:M.aU):Option (List Int):=
 (uO p0).bind fun x1=>(if (!x1)=true then (some ([]:List Int)) else ((iC ([]:List Int) (List.length p0.Fields:Int)).bind fun x4=>(gE p0 fuel 0 x4)))
def iS (p0:M.aJ):Nat→Int→Int→Option Int
 | 0,_,_=>none
 | nL1+1,v3,v4=>if (decide (v4<(List.length p0.Items:Int)))=true then ((idx p0.Items v4).bind fun x7=>((wG x7.Key).bind fun x12=>((oN x7.aU).bind fun x14=>(iS p0 nL1 (i64.wrap ((i64.wrap (v3+(List.length x12:Int)))+(List.length x14:Int))) (i64.wrap (v4+1)))))) else (some v3)
def pI (p0:M.aJ):Option Int:=
 iS p0 fuel 0 0
def gD (p0:M.Database):Nat→Int→Int→Option Int
 | 0,_,_=>none
 | nL1+1,v3,v4=>if (decide (v4<(List.length p0.Stores:Int)))=true then ((idx p0.Stores v4).bind fun x7=>((pI x7).bind fun x12=>(gD p0 nL1 (i64.wrap (v3+x12)) (i64.wrap (v4+1))))) else (some v3)
def oL (p0:M.Database):Option Int:=
 gD p0 fuel 0 0
def aCE (p0:M.bB):Option Int:=
 (oL p0.Base).bind fun x1=>(some (i64.wrap (x1+(List.length p0.Log:Int))))
def aBH (p0:M.Bucket):Option Int:=
 (tD p0.Caches).bind fun x1=>((aCE p0.bB).bind fun x3=>((pI p0.aE.Base).bind fun x5=>(some (i64.wrap ((i64.wrap ((i64.wrap (x1+x3))+x5))+(i64.wrap (40*(List.length p0.aE.Sync.aV.Writes:Int))))))))
def lK (p0:M.Bucket):Option Bool:=
 (cP p0.Site).bind fun x1=>(if x1=true then ((cP p0.Top).bind fun x4=>(if x4=true then ((cT p0.Registration).bind fun x7=>(if x7=true then (if (p0.Registration.Site.toList==p0.Site.toList)=true then ((bY p0.Caches).bind fun x11=>(if x11=true then ((tE p0.bB.Base).bind fun x14=>(if x14=true then ((wK p0.aE).bind fun x17=>(if x17=true then ((bF p0.LastUsed 0 1000000000000).bind fun x20=>(if x20=true then ((aBH p0).bind fun x23=>(some (decide (x23≤2500)))) else (some false))) else (some false))) else (some false))) else (some false))) else (some false)) else (some false))) else (some false))) else (some false))
def xY (p0:M.Bucket) (p1:ByteArray) (p2:ByteArray):Option Bool:=
 if (Op.bytesLess p0.Site.toList p1.toList)=true then (some true) else (if (p0.Site.toList==p1.toList)=true then (some (Op.bytesLess p0.Top.toList p2.toList)) else (some false))
def fS (p0:M.aC):Nat→Int→Option Bool
 | 0,_=>none
 | nL1+1,v3=>if (decide (v3<(List.length p0.Buckets:Int)))=true then ((idx p0.Buckets v3).bind fun x6=>((lK x6).bind fun x11=>(if (!x11)=true then (some false) else (if (decide (v3>0))=true then ((idx p0.Buckets (i64.wrap (v3-1))).bind fun x15=>((xY x15 x6.Site x6.Top).bind fun x20=>(if (!x20)=true then (some false) else (fS p0 nL1 (i64.wrap (v3+1)))))) else (fS p0 nL1 (i64.wrap (v3+1))))))) else (some (decide ((List.length p0.Buckets:Int)≤9)))
def bZ (p0:M.aC):Option Bool:=
 fS p0 fuel 0
def dJ (p0:ByteArray):Nat→Int→Option Bool
 | 0,_=>none
 | nL1+1,v3=>if (decide (v3<(p0.size:Int)))=true then ((aQg p0 v3).bind fun x5=>(if (decide ((x5.toNat:Int)<97))=true then (if ((x5.toNat:Int) != 47)=true then (some false) else (dJ p0 nL1 (i64.wrap (v3+1)))) else (if (decide ((x5.toNat:Int)>122))=true then (if ((x5.toNat:Int) != 47)=true then (some false) else (dJ p0 nL1 (i64.wrap (v3+1)))) else (dJ p0 nL1 (i64.wrap (v3+1)))))) else ((bF (p0.size:Int) 1 30).bind fun x13=>(some x13))
def sU (p0:ByteArray):Option Bool:=
 dJ p0 fuel 0
def cF (p0:M.aP) (v3:Int) (x6:M.dA) (k18:Int→Option Bool):Nat→Int→Option Bool
 | 0,_=>none
 | nL2+1,v5_L2=>if (decide (v5_L2<v3))=true then ((idx p0.Locks v5_L2).bind fun x27=>(if x6.Held=true then (if (x27.Name.toList==x6.Name.toList)=true then (if (!x27.Held)=true then (some false) else (if (!x6.Shared)=true then (some false) else (if (!x27.Shared)=true then (some false) else (cF p0 v3 x6 k18 nL2 (i64.wrap (v5_L2+1)))))) else (cF p0 v3 x6 k18 nL2 (i64.wrap (v5_L2+1)))) else (cF p0 v3 x6 k18 nL2 (i64.wrap (v5_L2+1))))) else (k18 v5_L2)
def fG (p0:M.aP):Nat→Int→Option Bool
 | 0,_=>none
 | nL1+1,v3=>if (decide (v3<(List.length p0.Locks:Int)))=true then ((idx p0.Locks v3).bind fun x6=>((sU x6.Name).bind fun x11=>(if (!x11)=true then (some false) else ((bF x6.bJ 1 1000000000000).bind fun x14=>(if (!x14)=true then (some false) else (cF p0 v3 x6 (fun (v5_L2:Int)=>fG p0 nL1 (i64.wrap (v3+1))) fuel 0)))))) else (some (decide ((List.length p0.Locks:Int)≤12)))
def rZ (p0:M.aP):Option Bool:=
 fG p0 fuel 0
def dO (p0:M.World):Nat→Int→Option Bool
 | 0,_=>none
 | nL2+1,v4=>if (decide (v4<(List.length p0.Pages:Int)))=true then ((idx p0.Pages v4).bind fun x38=>((aCP x38).bind fun x43=>(if (!x43)=true then (some false) else (if (decide (x38.Id≥p0.NextPage))=true then (some false) else (if (decide (v4>0))=true then ((idx p0.Pages (i64.wrap (v4-1))).bind fun x48=>(if (decide (x48.Id≥x38.Id))=true then (some false) else ((jN p0.aC x38.Site x38.Top).bind fun x54=>(if (decide (x54<0))=true then (some false) else (dO p0 nL2 (i64.wrap (v4+1))))))) else ((jN p0.aC x38.Site x38.Top).bind fun x57=>(if (decide (x57<0))=true then (some false) else (dO p0 nL2 (i64.wrap (v4+1)))))))))) else ((bF p0.Now 0 999999990000).bind fun x60=>(if x60=true then ((bF p0.Device 1 1000000).bind fun x63=>(if x63=true then ((bZ p0.aC).bind fun x66=>(if x66=true then ((bF p0.NextPage 1 1000000000000).bind fun x69=>(if x69=true then ((rZ p0.Locks).bind fun x72=>(some x72)) else (some false))) else (some false))) else (some false))) else (some false)))
def jH (p0:M.World):Nat→Int→Option Bool
 | 0,_=>none
 | nL1+1,v3=>if (decide (v3<3))=true then ((idx p0.Sites v3).bind fun x9=>((vF x9).bind fun x14=>(if (!x14)=true then (some false) else ((tK).bind fun x17=>((idx x17 v3).bind fun x19=>(if (!(x9.Name.toList==x19.toList))=true then (some false) else ((idx p0.Servers v3).bind fun x25=>((aAD x25).bind fun x30=>(if (!x30)=true then (some false) else (jH p0 nL1 (i64.wrap (v3+1)))))))))))) else (dO p0 fuel 0)
def yB (p0:M.World):Option Bool:=
 if ((List.length p0.Sites:Int) != 3)=true then (some false) else (if ((List.length p0.Servers:Int) != 3)=true then (some false) else (if (decide ((List.length p0.Pages:Int)>6))=true then (some false) else (jH p0 fuel 0)))
def yA (p0:M.Response):Option M.Response:=
 (app 1 ([]:List Int) p0.Body).bind fun x1=>(some p0)
def jR (p0:M.Cache):Nat→Int→List M.Cached→Option M.Cache
 | 0,_,_=>none
 | nL1+1,v4,r50000=>if (decide (v4<(List.length p0.Entries:Int)))=true then ((idx p0.Entries v4).bind fun x11=>((yA x11.Response).bind fun x16=>((app 88 r50000 ([(⟨x11.Site,x11.Path,x16⟩:M.Cached)])).bind fun x18=>(jR p0 nL1 (i64.wrap (v4+1)) (r50000++[(⟨x11.Site,x11.Path,x16⟩:M.Cached)]))))) else (some (⟨p0.Version,r50000⟩:M.Cache))
def zP (p0:M.Cache):Option M.Cache:=
 jR p0 fuel 0 ([]:List M.Cached)
def lA (p0:M.aA):Nat→Int→List M.Cache→Option M.aA
 | 0,_,_=>none
 | nL1+1,v4,r50000=>if (decide (v4<(List.length p0.Caches:Int)))=true then ((idx p0.Caches v4).bind fun x11=>((zP x11).bind fun x16=>((app 32 r50000 ([x16])).bind fun x18=>(lA p0 nL1 (i64.wrap (v4+1)) (r50000++[x16]))))) else (some (⟨r50000⟩:M.aA))
def bH (p0:M.aA):Option M.aA:=
 lA p0 fuel 0 ([]:List M.Cache)
def mL (p0:M.aJ):Nat→Int→List M.Item→Option M.aJ
 | 0,_,_=>none
 | nL1+1,v4,r50000=>if (decide (v4<(List.length p0.Items:Int)))=true then ((idx p0.Items v4).bind fun x11=>((aAQ x11).bind fun x16=>((app 56 r50000 ([x16])).bind fun x18=>(mL p0 nL1 (i64.wrap (v4+1)) (r50000++[x16]))))) else (some (⟨p0.Name,r50000,p0.Auto⟩:M.aJ))
def vA (p0:M.aJ):Option M.aJ:=
 mL p0 fuel 0 ([]:List M.Item)
def mP (p0:M.Database):Nat→Int→List M.aJ→Option M.Database
 | 0,_,_=>none
 | nL1+1,v4,r50000=>if (decide (v4<(List.length p0.Stores:Int)))=true then ((idx p0.Stores v4).bind fun x22=>((vA x22).bind fun x27=>((app 48 r50000 ([x27])).bind fun x29=>(mP p0 nL1 (i64.wrap (v4+1)) (r50000++[x27]))))) else (some (⟨p0.Name,p0.Version,r50000,p0.Unique⟩:M.Database))
def aBo (p0:M.Database):Option M.Database:=
 (app 32 ([]:List M.aD) p0.Unique).bind fun x1=>(mP p0 fuel 0 ([]:List M.aJ))
def aAh (p0:M.bB):Option M.bB:=
 (aBo p0.Base).bind fun x1=>((app 1 ([]:List Int) p0.Log).bind fun x3=>(some (⟨x1,p0.Log,p0.Count⟩:M.bB)))
def aBD (p0:M.aV):Option M.aV:=
 (app 72 ([]:List M.aW) p0.Writes).bind fun x1=>(some p0)
def aAp (p0:M.Sync):Option M.Sync:=
 (aBD p0.aV).bind fun x1=>(some (⟨x1,p0.Tries,p0.WaitUntil⟩:M.Sync))
def aBJ (p0:M.aE):Option M.aE:=
 (vA p0.Base).bind fun x1=>((aAp p0.Sync).bind fun x3=>(some (⟨x1,p0.Seen,x3⟩:M.aE)))
def gV (p0:M.Bucket):Option M.Bucket:=
 (bH p0.Caches).bind fun x1=>((aAh p0.bB).bind fun x3=>((aBJ p0.aE).bind fun x5=>(some (⟨p0.Site,p0.Top,p0.Registration,x1,x3,x5,p0.LastUsed,p0.Persistent⟩:M.Bucket))))
def kK (p0:M.aC):Nat→Int→List M.Bucket→Option M.aC
 | 0,_,_=>none
 | nL1+1,v4,r50000=>if (decide (v4<(List.length p0.Buckets:Int)))=true then ((idx p0.Buckets v4).bind fun x11=>((gV x11).bind fun x16=>((app 328 r50000 ([x16])).bind fun x18=>(kK p0 nL1 (i64.wrap (v4+1)) (r50000++[x16]))))) else (some (⟨r50000⟩:M.aC))
def fD (p0:M.aC):Option M.aC:=
 kK p0 fuel 0 ([]:List M.Bucket)
def wT (p0:List M.Instr):Option (List M.Instr):=
 (app 40 ([]:List M.Instr) p0).bind fun x1=>(some p0)
def aA3 (p0:M.Machine):Option M.Machine:=
 (wT p0.Script).bind fun x1=>((app 8 ([]:List Int) p0.Regs).bind fun x3=>(some (⟨x1,p0.Pc,p0.Regs,p0.Steps,p0.Done,p0.Wait⟩:M.Machine)))
def aAr (p0:M.bJ):Option M.bJ:=
 (app 24 ([]:List M.aN) p0.aN).bind fun x1=>((aA3 p0.Machine).bind fun x11=>(some (⟨p0.Id,p0.Site,p0.Top,p0.Version,p0.aN,x11⟩:M.bJ)))
def yE (p0:M.aP):Option M.aP:=
 (app 32 ([]:List M.dA) p0.Locks).bind fun x1=>(some p0)
def yD (p0:M.Channel):Option M.Channel:=
 (app 24 ([]:List M.fW) p0.Mails).bind fun x1=>(some p0)
def aA5 (p0:M.Site):Option M.Site:=
 (app 16 ([]:List ByteArray) p0.Files).bind fun x1=>(some p0)
def aAw (p0:M.Server):Option M.Server:=
 (vA p0.aJ).bind fun x1=>((app 16 ([]:List M.aK) p0.aK).bind fun x3=>((app 72 ([]:List M.aW) p0.Changes).bind fun x5=>(some (⟨x1,p0.aK,p0.Changes⟩:M.Server))))
def hD (p0:M.World) (x1:M.aC) (r12:List M.bJ) (x42:M.aP) (x44:M.Channel) (r40:List M.Site):Nat→Int→List M.Server→Option M.World
 | 0,_,_=>none
 | nL3+1,v6,r60=>if (decide (v6<(List.length p0.Servers:Int)))=true then ((idx p0.Servers v6).bind fun x122=>((aAw x122).bind fun x127=>((app 96 r60 ([x127])).bind fun x129=>(hD p0 x1 r12 x42 x44 r40 nL3 (i64.wrap (v6+1)) (r60++[x127]))))) else (some (⟨p0.Now,p0.Online,p0.Device,x1,r12,p0.NextPage,x42,x44,r40,r60⟩:M.World))
def hJ (p0:M.World) (x1:M.aC) (r12:List M.bJ) (x42:M.aP) (x44:M.Channel):Nat→Int→List M.Site→Option M.World
 | 0,_,_=>none
 | nL2+1,v5,r40=>if (decide (v5<(List.length p0.Sites:Int)))=true then ((idx p0.Sites v5).bind fun x72=>((aA5 x72).bind fun x77=>((app 56 r40 ([x77])).bind fun x79=>(hJ p0 x1 r12 x42 x44 nL2 (i64.wrap (v5+1)) (r40++[x77]))))) else (hD p0 x1 r12 x42 x44 r40 fuel 0 ([]:List M.Server))
def jJ (p0:M.World) (x1:M.aC):Nat→Int→List M.bJ→Option M.World
 | 0,_,_=>none
 | nL1+1,v4,r12=>if (decide (v4<(List.length p0.Pages:Int)))=true then ((idx p0.Pages v4).bind fun x23=>((aAr x23).bind fun x28=>((app 144 r12 ([x28])).bind fun x30=>(jJ p0 x1 nL1 (i64.wrap (v4+1)) (r12++[x28]))))) else ((yE p0.Locks).bind fun x42=>((yD p0.Channel).bind fun x44=>(hJ p0 x1 r12 x42 x44 fuel 0 ([]:List M.Site))))
def jQ (p0:M.World):Option M.World:=
 (fD p0.aC).bind fun x1=>(jJ p0 x1 fuel 0 ([]:List M.bJ))
def oJ (p0:M.Registration) (p1:Int):Option (M.Registration×Bool):=
 (cT p0).bind fun x1=>(if (!x1)=true then (some (p0,false)) else ((cT (⟨p0.Site,p1,p0.Waiting,p0.Active⟩:M.Registration)).bind fun x4=>(if (!x4)=true then (some (p0,false)) else (if (decide (p1<1))=true then (some (p0,false)) else (if (p0.Installing != 0)=true then (some (p0,false)) else (some ((⟨p0.Site,p1,p0.Waiting,p0.Active⟩:M.Registration),true)))))))
def yF (p0:Int) (p1:Int):Option Int:=
 if (decide (p1>p0))=true then (some p1) else (some p0)
def mY (p0:M.Registration):Option Int:=
 (yF p0.Waiting p0.Installing).bind fun x1=>((yF p0.Active x1).bind fun x3=>(some x3))
def jA (p0:M.aA) (p1:Int) (x1:M.aA):Nat→Int→Option (M.aA×Bool)
 | 0,_=>none
 | nL1+1,v7=>if (decide (v7<(List.length p0.Caches:Int)))=true then ((idx p0.Caches v7).bind fun x14=>(if (decide (x14.Version<p1))=true then (jA p0 p1 x1 nL1 (i64.wrap (v7+1))) else ((aEx x1.Caches v7).bind fun x20=>((app 32 ([]:List M.Cache) (List.take v7.toNat x1.Caches)).bind fun x22=>((app 32 (List.take v7.toNat x1.Caches) ([(⟨p1,([]:List M.Cached)⟩:M.Cache)])).bind fun x36=>((app 32 ((List.take v7.toNat x1.Caches)++[(⟨p1,([]:List M.Cached)⟩:M.Cache)]) (List.drop v7.toNat x1.Caches)).bind fun x49=>((bY p0).bind fun x59=>(if (!x59)=true then ((bH p0).bind fun x62=>(some (x62,false))) else ((bY (⟨(((List.take v7.toNat x1.Caches)++[(⟨p1,([]:List M.Cached)⟩:M.Cache)])++(List.drop v7.toNat x1.Caches))⟩:M.aA)).bind fun x64=>(if (!x64)=true then ((bH p0).bind fun x67=>(some (x67,false))) else (some ((⟨(((List.take v7.toNat x1.Caches)++[(⟨p1,([]:List M.Cached)⟩:M.Cache)])++(List.drop v7.toNat x1.Caches))⟩:M.aA),true)))))))))))) else ((aEx x1.Caches v7).bind fun x69=>((app 32 ([]:List M.Cache) (List.take v7.toNat x1.Caches)).bind fun x71=>((app 32 (List.take v7.toNat x1.Caches) ([(⟨p1,([]:List M.Cached)⟩:M.Cache)])).bind fun x85=>((app 32 ((List.take v7.toNat x1.Caches)++[(⟨p1,([]:List M.Cached)⟩:M.Cache)]) (List.drop v7.toNat x1.Caches)).bind fun x98=>((bY p0).bind fun x108=>(if (!x108)=true then ((bH p0).bind fun x111=>(some (x111,false))) else ((bY (⟨(((List.take v7.toNat x1.Caches)++[(⟨p1,([]:List M.Cached)⟩:M.Cache)])++(List.drop v7.toNat x1.Caches))⟩:M.aA)).bind fun x113=>(if (!x113)=true then ((bH p0).bind fun x116=>(some (x116,false))) else (some ((⟨(((List.take v7.toNat x1.Caches)++[(⟨p1,([]:List M.Cached)⟩:M.Cache)])++(List.drop v7.toNat x1.Caches))⟩:M.aA),true))))))))))
def xR (p0:M.aA) (p1:Int):Option (M.aA×Bool):=
 (bH p0).bind fun x1=>(jA p0 p1 x1 fuel 0)
def jY (p0:M.Site) (p1:Int):Option Bool:=
 (vF p0).bind fun x1=>(if x1=true then ((yF 1 (i64.wrap ((i64.wrap (p0.Version-2))+1))).bind fun x4=>((bF p1 x4 p0.Version).bind fun x6=>(some x6))) else (some false))
def sP  : Option M.Response:=
 some (⟨4,0,0,([]:List Int),false⟩:M.Response)
def kP (p0:M.Site) (p1:ByteArray):Nat→Int→Option Bool
 | 0,_=>none
 | nL1+1,v5=>if (decide (v5<(List.length p0.Files:Int)))=true then ((idx p0.Files v5).bind fun x7=>(if (x7.toList==p1.toList)=true then (some true) else (kP p0 p1 nL1 (i64.wrap (v5+1))))) else (some false)
def aAf (p0:M.Site) (p1:ByteArray):Option Bool:=
 kP p0 p1 fuel 0
def gQ (p0:List Int):Nat→Int→List Int→Option (List Int)
 | 0,_,_=>none
 | nL1+1,v4,r7=>if (decide (v4<(List.length p0:Int)))=true then ((idx p0 v4).bind fun x11=>((app 8 r7 ([(i64.wrap x11)])).bind fun x16=>(gQ p0 nL1 (i64.wrap (v4+1)) (r7++[(i64.wrap x11)])))) else (some r7)
def sA (p0:List Int):Option (List Int):=
 gQ p0 fuel 0 ([(List.length p0:Int)])
def aDe (p0:Int) (p1:Int):Option Int:=
 (bF p1 1 1000000000000).bind fun x1=>(if (!x1)=true then (some 0) else (if (decide (p1=0))=true then none else (some (Int.tmod (i64.wrap ((Int.tmod p0 p1)+p1)) p1))))
def sH (p0:List Int):Nat→Int→Int→Option Int
 | 0,_,_=>none
 | nL1+1,v3,v4=>if (decide (v4<(List.length p0:Int)))=true then ((idx p0 v4).bind fun x6=>((aDe x6 2147483647).bind fun x11=>(sH p0 nL1 (Int.tmod (i64.wrap ((i64.wrap ((i64.wrap (v3*1000003))+x11))+13)) 2147483647) (i64.wrap (v4+1))))) else (some v3)
def aDB (p0:List Int):Option Int:=
 sH p0 fuel 11 0
def pF (p0:Int) (p1:List Int):Option Int:=
 (app 8 ([p0]) p1).bind fun x1=>((app 8 ([p0]++p1) ([p0])).bind fun x3=>((aDB (([p0]++p1)++[p0])).bind fun x5=>(some x5)))
def gY (p0:Int) (p1:ByteArray):Option Int:=
 (sA (fJ p1)).bind fun x1=>((pF p0 x1).bind fun x3=>((yF 1 x3).bind fun x5=>(some x5)))
def pB (x5:Int):Nat→Int→List Int→Option (List Int)
 | 0,_,_=>none
 | nL1+1,v9,r19=>if (decide (v9≥0))=true then (if (decide (0≤(i64.wrap (8*v9))))=true then ((app 1 r19 ([(IntKind.u8.wrap (i64.wrap (BitVec.ofInt (IntKind.i64.bits) (Int.fdiv x5 (2^(min (i64.wrap (8*v9)).toNat IntKind.i64.bits)))&&&BitVec.ofInt (IntKind.i64.bits) 255).toNat))])).bind fun x20=>(pB x5 nL1 (i64.wrap (v9-1)) (r19++[(IntKind.u8.wrap (i64.wrap (BitVec.ofInt (IntKind.i64.bits) (Int.fdiv x5 (2^(min (i64.wrap (8*v9)).toNat IntKind.i64.bits)))&&&BitVec.ofInt (IntKind.i64.bits) 255).toNat))]))) else none) else (some r19)
def aBx (p0:M.Site) (p1:ByteArray) (p2:Int):Option (List Int):=
 (gY 107 p0.Name).bind fun x1=>((gY 109 p1).bind fun x3=>((pF (i64.wrap (1+p2)) ([103,x1,x3])).bind fun x5=>(pB x5 fuel 5 ([]:List Int))))
def mO (p0:M.Site) (p1:ByteArray) (p2:Int):Option M.Response:=
 (vF p0).bind fun x1=>(if (!x1)=true then ((sP).bind fun x4=>(some x4)) else ((jY p0 p2).bind fun x6=>(if (!x6)=true then (some (⟨1,404,p0.Version,([]:List Int),false⟩:M.Response)) else ((aAf p0 p1).bind fun x9=>(if (!x9)=true then (some (⟨1,404,p0.Version,([]:List Int),false⟩:M.Response)) else ((aBx p0 p1 p2).bind fun x12=>(some (⟨1,200,p2,x12,p0.Shared⟩:M.Response))))))))
def iO (p0:M.aA) (p1:Int):Nat→Int→Option Int
 | 0,_=>none
 | nL1+1,v5=>if (decide (v5<(List.length p0.Caches:Int)))=true then ((idx p0.Caches v5).bind fun x7=>(if (x7.Version==p1)=true then (some v5) else (iO p0 p1 nL1 (i64.wrap (v5+1))))) else (some (-1))
def pN (p0:M.aA) (p1:Int):Option Int:=
 iO p0 p1 fuel 0
def jO (p0:M.Cache) (p1:ByteArray) (p2:ByteArray):Nat→Int→Option Int
 | 0,_=>none
 | nL1+1,v7=>if (decide (v7<(List.length p0.Entries:Int)))=true then ((idx p0.Entries v7).bind fun x8=>(if (x8.Site.toList==p1.toList)=true then (if (x8.Path.toList==p2.toList)=true then (some v7) else (jO p0 p1 p2 nL1 (i64.wrap (v7+1)))) else (jO p0 p1 p2 nL1 (i64.wrap (v7+1))))) else (some (-1))
def aAd (p0:M.Cache) (p1:ByteArray) (p2:ByteArray):Option Int:=
 jO p0 p1 p2 fuel 0
def mT (p0:M.aA) (p1:Int) (p2:ByteArray) (p3:ByteArray) (p4:M.Response):Option (M.aA×Bool):=
 (bH p0).bind fun x1=>((pN p0 p1).bind fun x3=>(if (decide (x3<0))=true then (some (x1,false)) else ((yA p4).bind fun x6=>((idx x1.Caches x3).bind fun x8=>((aAd x8 p2 p3).bind fun x13=>(if (decide (x13≥0))=true then ((idx x8.Entries x13).bind fun x32=>((bY p0).bind fun x45=>(if (!x45)=true then ((bH p0).bind fun x48=>(some (x48,false))) else ((bY (⟨(List.set x1.Caches x3.toNat (⟨x8.Version,(List.set x8.Entries x13.toNat (⟨p2,p3,x6⟩:M.Cached))⟩:M.Cache))⟩:M.aA)).bind fun x50=>(if (!x50)=true then ((bH p0).bind fun x53=>(some (x53,false))) else (some ((⟨(List.set x1.Caches x3.toNat (⟨x8.Version,(List.set x8.Entries x13.toNat (⟨p2,p3,x6⟩:M.Cached))⟩:M.Cache))⟩:M.aA),true))))))) else ((app 88 x8.Entries ([(⟨p2,p3,x6⟩:M.Cached)])).bind fun x70=>((bY p0).bind fun x80=>(if (!x80)=true then ((bH p0).bind fun x83=>(some (x83,false))) else ((bY (⟨(List.set x1.Caches x3.toNat (⟨x8.Version,(x8.Entries++[(⟨p2,p3,x6⟩:M.Cached)])⟩:M.Cache))⟩:M.aA)).bind fun x85=>(if (!x85)=true then ((bH p0).bind fun x88=>(some (x88,false))) else (some ((⟨(List.set x1.Caches x3.toNat (⟨x8.Version,(x8.Entries++[(⟨p2,p3,x6⟩:M.Cached)])⟩:M.Cache))⟩:M.aA),true)))))))))))))
def iI (p0:M.aA) (p1:M.Site) (p2:Int):Nat→Int→List M.Cache→Option (M.aA×Bool)
 | 0,_,_=>none
 | nL1+1,v12,r50000=>if (decide (v12<(List.length p1.Files:Int)))=true then ((idx p1.Files v12).bind fun x27=>((mO p1 x27 p2).bind fun x32=>((mT (⟨r50000⟩:M.aA) p2 p1.Name x27 x32).bind fun x34=>(if (!x34.2)=true then ((bH p0).bind fun x37=>(some (x37,false))) else (iI p0 p1 p2 nL1 (i64.wrap (v12+1)) x34.1.Caches))))) else (some ((⟨r50000⟩:M.aA),true))
def oK (p0:M.aA) (p1:M.Site) (p2:Int) (p3:Bool):Option (M.aA×Bool):=
 (xR p0 p2).bind fun x1=>(if (!x1.2)=true then ((bH p0).bind fun x4=>(some (x4,false))) else (if (!p3)=true then ((bH p0).bind fun x7=>(some (x7,false))) else ((jY p1 p2).bind fun x9=>(if (!x9)=true then ((bH p0).bind fun x12=>(some (x12,false))) else (iI p0 p1 p2 fuel 0 x1.1.Caches)))))
def tB (p0:M.Registration) (p1:Bool):Option (M.Registration×Int):=
 (cT p0).bind fun x1=>(if (!x1)=true then (some (p0,0)) else (if (p0.Installing==0)=true then (some (p0,0)) else (if (!p1)=true then (some ((⟨p0.Site,0,p0.Waiting,p0.Active⟩:M.Registration),p0.Installing)) else (some ((⟨p0.Site,0,p0.Installing,p0.Active⟩:M.Registration),p0.Waiting)))))
def wZ (p0:M.aA) (p1:Int):Option (M.aA×Bool):=
 (bH p0).bind fun x1=>((pN p0 p1).bind fun x3=>(if (decide (x3<0))=true then (some (x1,false)) else ((aEx x1.Caches x3).bind fun x6=>((aKq x1.Caches (i64.wrap (x3+1))).bind fun x8=>((app 32 (List.take x3.toNat x1.Caches) (List.drop (i64.wrap (x3+1)).toNat x1.Caches)).bind fun x10=>(some ((⟨((List.take x3.toNat x1.Caches)++(List.drop (i64.wrap (x3+1)).toNat x1.Caches))⟩:M.aA),true)))))))
def mM (p0:M.Bucket) (p1:M.Bucket):Option (M.Bucket×Bool):=
 (lK p0).bind fun x1=>(if (!x1)=true then ((gV p0).bind fun x4=>(some (x4,false))) else ((lK p1).bind fun x6=>(if (!x6)=true then ((gV p0).bind fun x9=>(some (x9,false))) else (some (p1,true)))))
def nA (p0:M.Bucket) (p1:M.aA) (p2:M.Registration):Option (M.Bucket×Bool):=
 (gV p0).bind fun x1=>((bH p1).bind fun x3=>((mM p0 (⟨x1.Site,x1.Top,p2,x3,x1.bB,x1.aE,x1.LastUsed,x1.Persistent⟩:M.Bucket)).bind fun x5=>(if x5.2=true then (some ((⟨x1.Site,x1.Top,p2,x3,x1.bB,x1.aE,x1.LastUsed,x1.Persistent⟩:M.Bucket),true)) else (some (x5.1,false)))))
def iW (p0:M.aC) (p1:M.Bucket) (x1:M.aC):Nat→Int→Option (M.aC×Bool)
 | 0,_=>none
 | nL1+1,v8=>if (decide (v8<(List.length p0.Buckets:Int)))=true then ((idx p0.Buckets v8).bind fun x43=>((xY x43 p1.Site p1.Top).bind fun x48=>(if x48=true then (iW p0 p1 x1 nL1 (i64.wrap (v8+1))) else ((aEx x1.Buckets v8).bind fun x51=>((app 328 ([]:List M.Bucket) (List.take v8.toNat x1.Buckets)).bind fun x53=>((gV p1).bind fun x68=>((app 328 (List.take v8.toNat x1.Buckets) ([x68])).bind fun x70=>((app 328 ((List.take v8.toNat x1.Buckets)++[x68]) (List.drop v8.toNat x1.Buckets)).bind fun x83=>((bZ p0).bind fun x93=>(if (!x93)=true then ((fD p0).bind fun x96=>(some (x96,false))) else ((bZ (⟨(((List.take v8.toNat x1.Buckets)++[x68])++(List.drop v8.toNat x1.Buckets))⟩:M.aC)).bind fun x98=>(if (!x98)=true then ((fD p0).bind fun x101=>(some (x101,false))) else (some ((⟨(((List.take v8.toNat x1.Buckets)++[x68])++(List.drop v8.toNat x1.Buckets))⟩:M.aC),true)))))))))))))) else ((aEx x1.Buckets v8).bind fun x103=>((app 328 ([]:List M.Bucket) (List.take v8.toNat x1.Buckets)).bind fun x105=>((gV p1).bind fun x120=>((app 328 (List.take v8.toNat x1.Buckets) ([x120])).bind fun x122=>((app 328 ((List.take v8.toNat x1.Buckets)++[x120]) (List.drop v8.toNat x1.Buckets)).bind fun x135=>((bZ p0).bind fun x145=>(if (!x145)=true then ((fD p0).bind fun x148=>(some (x148,false))) else ((bZ (⟨(((List.take v8.toNat x1.Buckets)++[x120])++(List.drop v8.toNat x1.Buckets))⟩:M.aC)).bind fun x150=>(if (!x150)=true then ((fD p0).bind fun x153=>(some (x153,false))) else (some ((⟨(((List.take v8.toNat x1.Buckets)++[x120])++(List.drop v8.toNat x1.Buckets))⟩:M.aC),true)))))))))))
def vX (p0:M.aC) (p1:M.Bucket):Option (M.aC×Bool):=
 (fD p0).bind fun x1=>((jN p0 p1.Site p1.Top).bind fun x3=>(if (decide (x3≥0))=true then ((gV p1).bind fun x6=>((idx x1.Buckets x3).bind fun x8=>((bZ p0).bind fun x21=>(if (!x21)=true then ((fD p0).bind fun x24=>(some (x24,false))) else ((bZ (⟨(List.set x1.Buckets x3.toNat x6)⟩:M.aC)).bind fun x26=>(if (!x26)=true then ((fD p0).bind fun x29=>(some (x29,false))) else (some ((⟨(List.set x1.Buckets x3.toNat x6)⟩:M.aC),true)))))))) else (iW p0 p1 x1 fuel 0)))
def aB1 (p0:M.World) (p1:M.Bucket) (p2:Bool):Option (M.World×Bool):=
 (jQ p0).bind fun x1=>((vX p0.aC p1).bind fun x3=>(if (!p2)=true then (some (x1,false)) else (if (!x3.2)=true then (some (x1,false)) else (some ((⟨x1.Now,x1.Online,x1.Device,x3.1,x1.Pages,x1.NextPage,x1.Locks,x1.Channel,x1.Sites,x1.Servers⟩:M.World),true)))))
def nY (p0:M.World) (p1:ByteArray) (p2:ByteArray):Option (M.World×Bool):=
 (jN p0.aC p1 p2).bind fun x1=>((uQ p1).bind fun x3=>((yB p0).bind fun x5=>(if (!x5)=true then ((jQ p0).bind fun x8=>(some (x8,false))) else (if (decide (x1<0))=true then ((jQ p0).bind fun x11=>(some (x11,false))) else (if (decide (x3<0))=true then ((jQ p0).bind fun x14=>(some (x14,false))) else ((idx p0.aC.Buckets x1).bind fun x16=>((idx p0.Sites x3).bind fun x21=>((oJ x16.Registration x21.Version).bind fun x26=>(if (!x26.2)=true then ((jQ p0).bind fun x29=>(some (x29,false))) else ((mY x16.Registration).bind fun x31=>(if (decide (x21.Version≤x31))=true then ((jQ p0).bind fun x34=>(some (x34,false))) else ((oK x16.Caches x21 x21.Version p0.Online).bind fun x36=>((tB x26.1 x36.2).bind fun x51=>((wZ x36.1 x51.2).bind fun x53=>((nA x16 x53.1 x51.1).bind fun x55=>((aB1 p0 x55.1 x55.2).bind fun x57=>(if x57.2=true then (some (x57.1,x36.2)) else (some (x57.1,false)))))))))))))))))))
def kC (p0:List Int):Option (List Int):=
 (app 1 ([]:List Int) p0).bind fun x1=>(some p0)
def iU (p0:M.Response):Option M.Response:=
 (kC p0.Body).bind fun x1=>(some (⟨p0.Type_,p0.Status,p0.Version,x1,p0.Shares⟩:M.Response))
def gA (x11:M.Cache) (k17:Int→List M.Cached→Option M.aA):Nat→Int→List M.Cached→Option M.aA
 | 0,_,_=>none
 | nL2+1,v23_L2,r50000_L2=>if (decide (v23_L2<(List.length x11.Entries:Int)))=true then ((idx x11.Entries v23_L2).bind fun x34=>((iU x34.Response).bind fun x39=>((app 88 r50000_L2 ([(⟨x34.Site,x34.Path,x39⟩:M.Cached)])).bind fun x41=>(gA x11 k17 nL2 (i64.wrap (v23_L2+1)) (r50000_L2++[(⟨x34.Site,x34.Path,x39⟩:M.Cached)]))))) else (k17 v23_L2 r50000_L2)
def eG (p0:M.aA):Nat→Int→List M.Cache→Option M.aA
 | 0,_,_=>none
 | nL1+1,v13,r50100=>if (decide (v13<(List.length p0.Caches:Int)))=true then ((idx p0.Caches v13).bind fun x11=>(gA x11 (fun (v23_L2:Int) (r50000_L2:List M.Cached)=>(app 32 r50100 ([(⟨x11.Version,r50000_L2⟩:M.Cache)])).bind fun x58=>(eG p0 nL1 (i64.wrap (v13+1)) (r50100++[(⟨x11.Version,r50000_L2⟩:M.Cache)]))) fuel 0 ([]:List M.Cached))) else (some (⟨r50100⟩:M.aA))
def bD (p0:M.aA):Option M.aA:=
 eG p0 fuel 0 ([]:List M.Cache)
def tU (p0:M.aU):Option M.aU:=
 (app 24 ([]:List M.Field) p0.Fields).bind fun x1=>(some p0)
def uF (p0:M.Item):Option M.Item:=
 (tU p0.aU).bind fun x1=>(some (⟨p0.Key,x1⟩:M.Item))
def iP (p0:M.aJ):Nat→Int→List M.Item→Option M.aJ
 | 0,_,_=>none
 | nL1+1,v14,r50000=>if (decide (v14<(List.length p0.Items:Int)))=true then ((idx p0.Items v14).bind fun x11=>((uF x11).bind fun x16=>((app 56 r50000 ([x16])).bind fun x18=>(iP p0 nL1 (i64.wrap (v14+1)) (r50000++[x16]))))) else (some (⟨p0.Name,r50000,p0.Auto⟩:M.aJ))
def mN (p0:M.aJ):Option M.aJ:=
 iP p0 fuel 0 ([]:List M.Item)
def gC (p0:M.Database):Nat→Int→List M.aJ→Option M.Database
 | 0,_,_=>none
 | nL1+1,v18,r50000=>if (decide (v18<(List.length p0.Stores:Int)))=true then ((idx p0.Stores v18).bind fun x22=>((mN x22).bind fun x27=>((app 48 r50000 ([x27])).bind fun x29=>(gC p0 nL1 (i64.wrap (v18+1)) (r50000++[x27]))))) else (some (⟨p0.Name,p0.Version,r50000,p0.Unique⟩:M.Database))
def oO (p0:M.Database):Option M.Database:=
 (app 32 ([]:List M.aD) p0.Unique).bind fun x1=>(gC p0 fuel 0 ([]:List M.aJ))
def zG (p0:M.bB):Option M.bB:=
 (oO p0.Base).bind fun x1=>((kC p0.Log).bind fun x3=>(some (⟨x1,x3,p0.Count⟩:M.bB)))
def uH (p0:M.aV):Option M.aV:=
 (app 72 ([]:List M.aW) p0.Writes).bind fun x1=>(some p0)
def aAC (p0:M.Sync):Option M.Sync:=
 (uH p0.aV).bind fun x1=>(some (⟨x1,p0.Tries,p0.WaitUntil⟩:M.Sync))
def rR (p0:M.aE):Option M.aE:=
 (mN p0.Base).bind fun x1=>((aAC p0.Sync).bind fun x3=>(some (⟨x1,p0.Seen,x3⟩:M.aE)))
def dP (p0:M.Bucket):Option M.Bucket:=
 (bD p0.Caches).bind fun x1=>((zG p0.bB).bind fun x3=>((rR p0.aE).bind fun x5=>(some (⟨p0.Site,p0.Top,p0.Registration,x1,x3,x5,p0.LastUsed,p0.Persistent⟩:M.Bucket))))
def gP (p0:M.aC):Nat→Int→List M.Bucket→Option M.aC
 | 0,_,_=>none
 | nL1+1,v10,r50000=>if (decide (v10<(List.length p0.Buckets:Int)))=true then ((idx p0.Buckets v10).bind fun x11=>((dP x11).bind fun x16=>((app 328 r50000 ([x16])).bind fun x18=>(gP p0 nL1 (i64.wrap (v10+1)) (r50000++[x16]))))) else (some (⟨r50000⟩:M.aC))
def bU (p0:M.aC):Option M.aC:=
 gP p0 fuel 0 ([]:List M.Bucket)
def rN (p0:M.Machine):Option M.Machine:=
 (app 40 ([]:List M.Instr) p0.Script).bind fun x1=>((app 8 ([]:List Int) p0.Regs).bind fun x11=>(some p0))
def aAL (p0:M.bJ):Option M.bJ:=
 (app 24 ([]:List M.aN) p0.aN).bind fun x1=>((rN p0.Machine).bind fun x9=>(some (⟨p0.Id,p0.Site,p0.Top,p0.Version,p0.aN,x9⟩:M.bJ)))
def iX (p0:List M.bJ):Nat→Int→List M.bJ→Option (List M.bJ)
 | 0,_,_=>none
 | nL1+1,v9,r6=>if (decide (v9<(List.length p0:Int)))=true then ((idx p0 v9).bind fun x12=>((aAL x12).bind fun x17=>((app 144 r6 ([x17])).bind fun x19=>(iX p0 nL1 (i64.wrap (v9+1)) (r6++[x17]))))) else (some r6)
def vW (p0:List M.bJ):Option (List M.bJ):=
 iX p0 fuel 0 ([]:List M.bJ)
def vZ (p0:M.aP):Option M.aP:=
 (app 32 ([]:List M.dA) p0.Locks).bind fun x1=>(some p0)
def rQ (p0:M.Channel):Option M.Channel:=
 (app 24 ([]:List M.fW) p0.Mails).bind fun x1=>(some p0)
def zT (p0:M.Site):Option M.Site:=
 (app 16 ([]:List ByteArray) p0.Files).bind fun x1=>(some p0)
def tQ (p0:M.Server):Option M.Server:=
 (mN p0.aJ).bind fun x1=>((app 16 ([]:List M.aK) p0.aK).bind fun x3=>((app 72 ([]:List M.aW) p0.Changes).bind fun x5=>(some (⟨x1,p0.aK,p0.Changes⟩:M.Server))))
def fL (p0:M.World) (x1:M.aC) (x3:(List M.bJ)) (x5:M.aP) (x7:M.Channel) (r50000:List M.Site):Nat→Int→List M.Server→Option M.World
 | 0,_,_=>none
 | nL2+1,v45,r50100=>if (decide (v45<(List.length p0.Servers:Int)))=true then ((idx p0.Servers v45).bind fun x64=>((tQ x64).bind fun x69=>((app 96 r50100 ([x69])).bind fun x71=>(fL p0 x1 x3 x5 x7 r50000 nL2 (i64.wrap (v45+1)) (r50100++[x69]))))) else (some (⟨p0.Now,p0.Online,p0.Device,x1,x3,p0.NextPage,x5,x7,r50000,r50100⟩:M.World))
def gS (p0:M.World) (x1:M.aC) (x3:(List M.bJ)) (x5:M.aP) (x7:M.Channel):Nat→Int→List M.Site→Option M.World
 | 0,_,_=>none
 | nL1+1,v29,r50000=>if (decide (v29<(List.length p0.Sites:Int)))=true then ((idx p0.Sites v29).bind fun x25=>((zT x25).bind fun x30=>((app 56 r50000 ([x30])).bind fun x32=>(gS p0 x1 x3 x5 x7 nL1 (i64.wrap (v29+1)) (r50000++[x30]))))) else (fL p0 x1 x3 x5 x7 r50000 fuel 0 ([]:List M.Server))
def pH (p0:M.World):Option M.World:=
 (bU p0.aC).bind fun x1=>((vW p0.Pages).bind fun x3=>((vZ p0.Locks).bind fun x5=>((rQ p0.Channel).bind fun x7=>(gS p0 x1 x3 x5 x7 fuel 0 ([]:List M.Site)))))
def nZ (p0:M.Bucket) (c0:ByteArray) (c1:ByteArray):Option Bool:=
 if (p0.Site.toList==c0.toList)=true then (some (p0.Top.toList==c1.toList)) else (some false)
def bV (p0:List M.Bucket) (p1:M.Bucket→Option Bool):Nat→Int→Option Int
 | 0,_=>none
 | nL1+1,v8=>if (decide (v8<(List.length p0:Int)))=true then ((idx p0 v8).bind fun x7=>((p1 x7).bind fun x12=>(if x12=true then (some v8) else (bV p0 p1 nL1 (i64.wrap (v8+1)))))) else (some (-1))
def iJ (p0:List M.Bucket) (p1:M.Bucket→Option Bool):Option Int:=
 bV p0 p1 fuel 0
def jD (p0:M.aC) (p1:ByteArray) (p2:ByteArray):Option Int:=
 (iJ p0.Buckets (fun z0=>nZ z0 p1 p2)).bind fun x1=>(some x1)
def aBq (p0:M.World) (p1:ByteArray) (p2:ByteArray):Option (M.Bucket×Bool):=
 (jD p0.aC p1 p2).bind fun x1=>(if (decide (x1<0))=true then (some ((⟨(⟨#[]⟩:ByteArray),(⟨#[]⟩:ByteArray),(⟨(⟨#[]⟩:ByteArray),0,0,0⟩:M.Registration),(⟨([]:List M.Cache)⟩:M.aA),(⟨(⟨(⟨#[]⟩:ByteArray),0,([]:List M.aJ),([]:List M.aD)⟩:M.Database),([]:List Int),0⟩:M.bB),(⟨(⟨(⟨#[]⟩:ByteArray),([]:List M.Item),0⟩:M.aJ),0,(⟨(⟨0,0,([]:List M.aW)⟩:M.aV),0,0⟩:M.Sync)⟩:M.aE),0,false⟩:M.Bucket),false)) else ((idx p0.aC.Buckets x1).bind fun x4=>(some (x4,true))))
def bQ (p0:List ByteArray) (p1:ByteArray):Nat→Int→Option Int
 | 0,_=>none
 | nL1+1,v8=>if (decide (v8<(List.length p0:Int)))=true then ((idx p0 v8).bind fun x7=>(if (p1.toList==x7.toList)=true then (some v8) else (bQ p0 p1 nL1 (i64.wrap (v8+1))))) else (some (-1))
def jK (p0:List ByteArray) (p1:ByteArray):Option Int:=
 bQ p0 p1 fuel 0
def nO (p0:ByteArray):Option Int:=
 (jK ([(⟨#[98,97,110,107]⟩:ByteArray),(⟨#[110,101,119,115]⟩:ByteArray),(⟨#[115,104,111,112]⟩:ByteArray)]) p0).bind fun x1=>(some x1)
def aB4 (p0:M.World) (p1:ByteArray):Option M.Site:=
 (nO p1).bind fun x1=>(if (decide (x1<0))=true then (some (⟨(⟨#[]⟩:ByteArray),0,([]:List ByteArray),false⟩:M.Site)) else (if (decide (x1≥(List.length p0.Sites:Int)))=true then (some (⟨(⟨#[]⟩:ByteArray),0,([]:List ByteArray),false⟩:M.Site)) else ((idx p0.Sites x1).bind fun x5=>(some x5))))
def aZ (p0:Int) (p1:Int) (p2:Int):Option Bool:=
 if (decide (p1≤p0))=true then (some (decide (p0≤p2))) else (some false)
def gX (p0:ByteArray) (p1:Int) (p2:Bool):Nat→Int→Option Bool
 | 0,_=>none
 | nL1+1,v7=>if (decide (v7<(p0.size:Int)))=true then ((aQg p0 v7).bind fun x7=>(if (decide ((x7.toNat:Int)≥97))=true then (if (decide ((x7.toNat:Int)≤122))=true then (gX p0 p1 p2 nL1 (i64.wrap (v7+1))) else (if p2=true then (if (!((x7.toNat:Int)==47))=true then (some false) else (gX p0 p1 p2 nL1 (i64.wrap (v7+1)))) else (some false))) else (if p2=true then (if (!((x7.toNat:Int)==47))=true then (some false) else (gX p0 p1 p2 nL1 (i64.wrap (v7+1)))) else (some false)))) else ((aZ (p0.size:Int) 1 p1).bind fun x17=>(some x17))
def aAN (p0:ByteArray) (p1:Int) (p2:Bool):Option Bool:=
 gX p0 p1 p2 fuel 0
def cE (p0:ByteArray):Option Bool:=
 (aAN p0 8 false).bind fun x1=>(some x1)
def dG (p0:M.Registration):Nat→Int→Int→Option Bool
 | 0,_,_=>none
 | nL1+1,v3,v14=>if (decide (v14<((3:Nat):Int)))=true then ((idx ([p0.Active,p0.Waiting,p0.Installing]) v14).bind fun x18=>((aZ x18 0 1000000000000).bind fun x23=>(if (!x23)=true then (some false) else (if (x18 != 0)=true then (if (decide (x18≤v3))=true then (some false) else (dG p0 nL1 (if x18>v3 then x18 else v3) (i64.wrap (v14+1)))) else (dG p0 nL1 (if x18>v3 then x18 else v3) (i64.wrap (v14+1))))))) else ((cE p0.Site).bind fun x28=>(some x28))
def gT (p0:M.Registration):Option Bool:=
 dG p0 fuel 0 0
def pA (p0:M.Cached) (c0:ByteArray) (c1:ByteArray):Option Bool:=
 if (p0.Site.toList==c0.toList)=true then (some (p0.Path.toList==c1.toList)) else (some false)
def bW (p0:List M.Cached) (p1:M.Cached→Option Bool):Nat→Int→Option Int
 | 0,_=>none
 | nL1+1,v8=>if (decide (v8<(List.length p0:Int)))=true then ((idx p0 v8).bind fun x7=>((p1 x7).bind fun x12=>(if x12=true then (some v8) else (bW p0 p1 nL1 (i64.wrap (v8+1)))))) else (some (-1))
def iK (p0:List M.Cached) (p1:M.Cached→Option Bool):Option Int:=
 bW p0 p1 fuel 0
def lE (p0:M.Cache) (p1:ByteArray) (p2:ByteArray):Option Int:=
 (iK p0.Entries (fun z0=>pA z0 p1 p2)).bind fun x1=>(some x1)
def nI (p0:M.Response):Option Bool:=
 (aZ p0.Type_ 1 4).bind fun x1=>(if x1=true then ((aZ p0.Status 0 999).bind fun x4=>(if x4=true then ((aZ p0.Version 0 1000000000000).bind fun x7=>(if x7=true then (some (decide ((List.length p0.Body:Int)≤60))) else (some false))) else (some false))) else (some false))
def eY (x8:M.Cache) (k25:Int→Option Bool):Nat→Int→Option Bool
 | 0,_=>none
 | nL2+1,v44_L2=>if (decide (v44_L2<(List.length x8.Entries:Int)))=true then ((idx x8.Entries v44_L2).bind fun x38=>((cE x38.Site).bind fun x43=>(if (!x43)=true then (some false) else ((cE x38.Path).bind fun x46=>(if (!x46)=true then (some false) else ((lE x8 x38.Site x38.Path).bind fun x49=>(if (x49 != v44_L2)=true then (some false) else ((nI x38.Response).bind fun x52=>(if (!x52)=true then (some false) else (eY x8 k25 nL2 (i64.wrap (v44_L2+1)))))))))))) else (k25 v44_L2)
def eI (x8:M.Cache) (k57:Int→Option Bool):Nat→Int→Option Bool
 | 0,_=>none
 | nL3+1,v44_L3=>if (decide (v44_L3<(List.length x8.Entries:Int)))=true then ((idx x8.Entries v44_L3).bind fun x70=>((cE x70.Site).bind fun x75=>(if (!x75)=true then (some false) else ((cE x70.Path).bind fun x78=>(if (!x78)=true then (some false) else ((lE x8 x70.Site x70.Path).bind fun x81=>(if (x81 != v44_L3)=true then (some false) else ((nI x70.Response).bind fun x84=>(if (!x84)=true then (some false) else (eI x8 k57 nL3 (i64.wrap (v44_L3+1)))))))))))) else (k57 v44_L3)
def eX (p0:M.aA):Nat→Int→Option Bool
 | 0,_=>none
 | nL1+1,v10=>if (decide (v10<(List.length p0.Caches:Int)))=true then ((idx p0.Caches v10).bind fun x8=>((aZ x8.Version 1 1000000000000).bind fun x13=>(if (!x13)=true then (some false) else (if (decide (v10>0))=true then ((idx p0.Caches (i64.wrap (v10-1))).bind fun x17=>(if (decide (x8.Version≤x17.Version))=true then (some false) else (if (decide ((List.length x8.Entries:Int)>12))=true then (some false) else (eY x8 (fun (v44_L2:Int)=>eX p0 nL1 (i64.wrap (v10+1))) fuel 0)))) else (if (decide ((List.length x8.Entries:Int)>12))=true then (some false) else (eI x8 (fun (v44_L3:Int)=>eX p0 nL1 (i64.wrap (v10+1))) fuel 0)))))) else (some (decide ((List.length p0.Caches:Int)≤4)))
def bX (p0:M.aA):Option Bool:=
 eX p0 fuel 0
def dY (p0:ByteArray):Nat→Int→Option Bool
 | 0,_=>none
 | nL1+1,v3=>if (decide (v3<(p0.size:Int)))=true then ((aQg p0 v3).bind fun x5=>(if (decide ((x5.toNat:Int)≥97))=true then (if (decide ((x5.toNat:Int)≤122))=true then (dY p0 nL1 (i64.wrap (v3+1))) else (if (decide ((x5.toNat:Int)≥48))=true then (if (!(decide ((x5.toNat:Int)≤57)))=true then (some false) else (dY p0 nL1 (i64.wrap (v3+1)))) else (some false))) else (if (decide ((x5.toNat:Int)≥48))=true then (if (!(decide ((x5.toNat:Int)≤57)))=true then (some false) else (dY p0 nL1 (i64.wrap (v3+1)))) else (some false)))) else (some (decide ((p0.size:Int)≤12)))
def vY (p0:ByteArray):Option Bool:=
 dY p0 fuel 0
def pY (p0:M.Key):Option Bool:=
 (aZ p0.Kind 1 3).bind fun x1=>(if (!x1)=true then (some false) else ((aZ p0.N (-1000000000000) 1000000000000).bind fun x4=>(if (!x4)=true then (some false) else ((vY p0.Text).bind fun x7=>(if (!x7)=true then (some false) else (if (p0.Kind==2)=true then (if (!(p0.N != 0))=true then (if (p0.Kind==1)=true then (some (!(!(p0.Text.toList==(⟨#[]⟩:ByteArray).toList)))) else (some true)) else (some false)) else (if (p0.Kind==1)=true then (some (!(!(p0.Text.toList==(⟨#[]⟩:ByteArray).toList)))) else (some true))))))))
def gL (p0:M.aU):Nat→Int→Option Bool
 | 0,_=>none
 | nL1+1,v8=>if (decide (v8<(List.length p0.Fields:Int)))=true then ((idx p0.Fields v8).bind fun x8=>((cE x8.Name).bind fun x13=>(if (!x13)=true then (some false) else ((aZ x8.N 0 1000000000).bind fun x16=>(if (!x16)=true then (some false) else (if (decide (v8>0))=true then ((idx p0.Fields (i64.wrap (v8-1))).bind fun x20=>(if (Op.bytesLess x8.Name.toList x20.Name.toList||x8.Name.toList==x20.Name.toList)=true then (some false) else (gL p0 nL1 (i64.wrap (v8+1))))) else (gL p0 nL1 (i64.wrap (v8+1))))))))) else (some (decide ((List.length p0.Fields:Int)≤6)))
def tH (p0:M.aU):Option Bool:=
 gL p0 fuel 0
def pV (p0:Int) (p1:Int):Option Int:=
 if (decide (p0<p1))=true then (some (-1)) else (if (decide (p0>p1))=true then (some 1) else (some 0))
def kF (p0:ByteArray) (p1:ByteArray):Option Int:=some (Lib.compareBytes p0.data.toList p1.data.toList)
def aAP (p0:ByteArray) (p1:ByteArray):Option Int:=
 (kF p0 p1).bind fun x1=>(some x1)
def lX (p0:M.Key) (p1:M.Key):Option Int:=
 (pY p0).bind fun x1=>(if (!x1)=true then (some 0) else ((pY p1).bind fun x4=>(if (!x4)=true then (some 0) else ((pV p0.Kind p1.Kind).bind fun x7=>(if (x7 != 0)=true then (some x7) else ((pV p0.N p1.N).bind fun x10=>(if (x10 != 0)=true then (some x10) else ((aAP p0.Text p1.Text).bind fun x13=>(some x13)))))))))
def hO (p0:M.aJ):Nat→Int→Option Bool
 | 0,_=>none
 | nL1+1,v8=>if (decide (v8<(List.length p0.Items:Int)))=true then ((idx p0.Items v8).bind fun x8=>((pY x8.Key).bind fun x13=>(if (!x13)=true then (some false) else ((tH x8.aU).bind fun x16=>(if (!x16)=true then (some false) else (if (decide (v8>0))=true then ((idx p0.Items (i64.wrap (v8-1))).bind fun x20=>((lX x20.Key x8.Key).bind fun x25=>(if (decide (x25≥0))=true then (some false) else (hO p0 nL1 (i64.wrap (v8+1)))))) else (hO p0 nL1 (i64.wrap (v8+1))))))))) else ((cE p0.Name).bind fun x28=>(if x28=true then (if (decide ((List.length p0.Items:Int)≤16))=true then ((aZ p0.Auto 0 1000000).bind fun x32=>(some x32)) else (some false)) else (some false)))
def sI (p0:M.aJ):Option Bool:=
 hO p0 fuel 0
def rC (p0:M.aJ) (c0:ByteArray):Option Bool:=
 some (p0.Name.toList==c0.toList)
def cK (p0:List M.aJ) (p1:M.aJ→Option Bool):Nat→Int→Option Int
 | 0,_=>none
 | nL1+1,v8=>if (decide (v8<(List.length p0:Int)))=true then ((idx p0 v8).bind fun x7=>((p1 x7).bind fun x12=>(if x12=true then (some v8) else (cK p0 p1 nL1 (i64.wrap (v8+1)))))) else (some (-1))
def jI (p0:List M.aJ) (p1:M.aJ→Option Bool):Option Int:=
 cK p0 p1 fuel 0
def wF (p0:M.Database) (p1:ByteArray):Option Int:=
 (jI p0.Stores (fun z0=>rC z0 p1)).bind fun x1=>(some x1)
def dN (p0:List M.aD) (p1:M.aD):Nat→Int→Option Int
 | 0,_=>none
 | nL1+1,v8=>if (decide (v8<(List.length p0:Int)))=true then ((idx p0 v8).bind fun x8=>(if ((p1.aJ.toList==x8.aJ.toList)&&(p1.Field.toList==x8.Field.toList))=true then (some v8) else (dN p0 p1 nL1 (i64.wrap (v8+1))))) else (some (-1))
def jU (p0:List M.aD) (p1:M.aD):Option Int:=
 dN p0 p1 fuel 0
def hT (p0:List M.aD) (p1:M.aD):Option Bool:=
 (jU p0 p1).bind fun x1=>(some (decide (x1≥0)))
def vO (p0:M.Field) (c0:ByteArray):Option Bool:=
 some (p0.Name.toList==c0.toList)
def cG (p0:List M.Field) (p1:M.Field→Option Bool):Nat→Int→Option Int
 | 0,_=>none
 | nL1+1,v8=>if (decide (v8<(List.length p0:Int)))=true then ((idx p0 v8).bind fun x7=>((p1 x7).bind fun x12=>(if x12=true then (some v8) else (cG p0 p1 nL1 (i64.wrap (v8+1)))))) else (some (-1))
def jM (p0:List M.Field) (p1:M.Field→Option Bool):Option Int:=
 cG p0 p1 fuel 0
def aCc (p0:M.aU) (p1:ByteArray):Option Int:=
 (jM p0.Fields (fun z0=>vO z0 p1)).bind fun x1=>(some x1)
def jV (p0:M.aU) (p1:ByteArray):Option (Int×Bool):=
 (aCc p0 p1).bind fun x1=>(if (decide (x1<0))=true then (some (0,false)) else ((idx p0.Fields x1).bind fun x4=>(some (x4.N,true))))
def rM (p0:M.Item) (p1:M.Item) (p2:ByteArray):Option Bool:=
 (jV p0.aU p2).bind fun x1=>((jV p1.aU p2).bind fun x3=>(if (decide (x1.1<x3.1))=true then (some true) else (if (x1.1==x3.1)=true then ((lX p0.Key p1.Key).bind fun x7=>(some (decide (x7<0)))) else (some false))))
def kT (p1:ByteArray) (r11:List M.Item) (x15:M.Item) (k24:Int→Option (List M.Item)):Nat→Int→Option (List M.Item)
 | 0,_=>none
 | nL2+1,v10_L2=>if (decide (v10_L2>0))=true then ((idx r11 (i64.wrap (v10_L2-1))).bind fun x36=>((rM x15 x36 p1).bind fun x41=>(if x41=true then (kT p1 r11 x15 k24 nL2 (i64.wrap (v10_L2-1))) else (k24 v10_L2)))) else (k24 v10_L2)
def jC (p0:M.aJ) (p1:ByteArray):Nat→Int→List M.Item→Option (List M.Item)
 | 0,_,_=>none
 | nL1+1,v15,r11=>if (decide (v15<(List.length p0.Items:Int)))=true then ((idx p0.Items v15).bind fun x15=>((jV x15.aU p1).bind fun x20=>(if (!x20.2)=true then (jC p0 p1 nL1 (i64.wrap (v15+1)) r11) else (kT p1 r11 x15 (fun (v10_L2:Int)=>(uF x15).bind fun x55=>((aJi 56 r11 v10_L2 ([x55])).bind fun x57=>(jC p0 p1 nL1 (i64.wrap (v15+1)) (List.take v10_L2.toNat r11++([x55]++List.drop v10_L2.toNat r11))))) fuel (List.length r11:Int))))) else (some r11)
def aAo (p0:M.aJ) (p1:ByteArray):Option (List M.Item):=
 jC p0 p1 fuel 0 ([]:List M.Item)
def fE (p1:ByteArray) (x1:(List M.Item)):Nat→Int→Option (M.Key×M.Key×Bool)
 | 0,_=>none
 | nL1+1,v8=>if (decide (v8<(List.length x1:Int)))=true then ((idx x1 (i64.wrap (v8-1))).bind fun x13=>((jV x13.aU p1).bind fun x18=>((idx x1 v8).bind fun x20=>((jV x20.aU p1).bind fun x25=>(if (x18.1==x25.1)=true then (some (x13.Key,x20.Key,true)) else (fE p1 x1 nL1 (i64.wrap (v8+1)))))))) else (some ((⟨0,0,(⟨#[]⟩:ByteArray)⟩:M.Key),(⟨0,0,(⟨#[]⟩:ByteArray)⟩:M.Key),false))
def iG (p0:M.aJ) (p1:ByteArray):Option (M.Key×M.Key×Bool):=
 (aAo p0 p1).bind fun x1=>(fE p1 x1 fuel 1)
def eW (p0:M.Database):Nat→Int→Option Bool
 | 0,_=>none
 | nL2+1,v64=>if (decide (v64<(List.length p0.Unique:Int)))=true then ((idx p0.Unique v64).bind fun x38=>((wF p0 x38.aJ).bind fun x43=>(if (decide (x43<0))=true then (some false) else ((cE x38.Field).bind fun x46=>(if (!x46)=true then (some false) else ((aEx p0.Unique v64).bind fun x49=>((hT (List.take v64.toNat p0.Unique) x38).bind fun x51=>(if x51=true then (some false) else ((idx p0.Stores x43).bind fun x54=>((iG x54 x38.Field).bind fun x59=>(if x59.2.2=true then (some false) else (eW p0 nL2 (i64.wrap (v64+1)))))))))))))) else (some true)
def eQ (p0:M.Database):Nat→Int→Option Bool
 | 0,_=>none
 | nL1+1,v36=>if (decide (v36<(List.length p0.Stores:Int)))=true then ((idx p0.Stores v36).bind fun x16=>((sI x16).bind fun x21=>(if (!x21)=true then (some false) else (if (decide (v36>0))=true then ((idx p0.Stores (i64.wrap (v36-1))).bind fun x25=>(if (Op.bytesLess x16.Name.toList x25.Name.toList||x16.Name.toList==x25.Name.toList)=true then (some false) else (eQ p0 nL1 (i64.wrap (v36+1))))) else (eQ p0 nL1 (i64.wrap (v36+1))))))) else (eW p0 fuel 0)
def sX (p0:M.Database):Option Bool:=
 (cE p0.Name).bind fun x1=>(if (!x1)=true then (some false) else ((aZ p0.Version 0 1000).bind fun x4=>(if (!x4)=true then (some false) else (if (decide ((List.length p0.Stores:Int)>4))=true then (some false) else (if (decide ((List.length p0.Unique:Int)>4))=true then (some false) else (eQ p0 fuel 0))))))
def jW (p0:M.aW):Option Bool:=
 (aZ p0.Device 1 1000000).bind fun x1=>(if x1=true then ((aZ p0.Seq 1 1000000).bind fun x4=>(if x4=true then ((pY p0.Key).bind fun x7=>(if x7=true then ((cE p0.Field).bind fun x10=>(if x10=true then ((aZ p0.N 0 1000000000).bind fun x13=>(some x13)) else (some false))) else (some false))) else (some false))) else (some false))
def jT (p0:M.aV):Nat→Int→Option Bool
 | 0,_=>none
 | nL1+1,v12=>if (decide (v12<(List.length p0.Writes:Int)))=true then ((idx p0.Writes v12).bind fun x9=>((jW x9).bind fun x14=>(if (!x14)=true then (some false) else (if (x9.Device != p0.Device)=true then (some false) else (if (x9.Seq != (i64.wrap ((i64.wrap (p0.Next-(List.length p0.Writes:Int)))+v12)))=true then (some false) else (jT p0 nL1 (i64.wrap (v12+1)))))))) else ((aZ p0.Device 1 1000000).bind fun x19=>(if x19=true then ((aZ p0.Next 1 1000000).bind fun x22=>(if x22=true then (some (decide ((List.length p0.Writes:Int)≤20))) else (some false))) else (some false)))
def zI (p0:M.aV):Option Bool:=
 jT p0 fuel 0
def xQ (p0:M.aE):Option Bool:=
 (sI p0.Base).bind fun x1=>(if x1=true then (if (p0.Base.Name.toList==(⟨#[110,111,116,101,115]⟩:ByteArray).toList)=true then ((aZ p0.Seen 0 1000000000000).bind fun x5=>(if x5=true then ((zI p0.Sync.aV).bind fun x8=>(some x8)) else (some false))) else (some false)) else (some false))
def uL (p0:M.Response) (p1:Bool):Option Int:=
 if p1=true then (some 76) else (some (i64.wrap (16+(List.length p0.Body:Int))))
def hY (x7:M.Cache) (k13:Int→Int→Option Int):Nat→Int→Int→Option Int
 | 0,_,_=>none
 | nL2+1,v3_L2,v18_L2=>if (decide (v18_L2<(List.length x7.Entries:Int)))=true then ((idx x7.Entries v18_L2).bind fun x23=>((uL x23.Response (x23.Response.Type_==3)).bind fun x28=>(hY x7 k13 nL2 (i64.wrap (v3_L2+x28)) (i64.wrap (v18_L2+1))))) else (k13 v3_L2 v18_L2)
def eV (p0:M.aA):Nat→Int→Int→Option Int
 | 0,_,_=>none
 | nL1+1,v3,v11=>if (decide (v11<(List.length p0.Caches:Int)))=true then ((idx p0.Caches v11).bind fun x7=>(hY x7 (fun (v3_L2:Int) (v18_L2:Int)=>eV p0 nL1 v3_L2 (i64.wrap (v11+1))) fuel v3 0)) else (some v3)
def tZ (p0:M.aA):Option Int:=
 eV p0 fuel 0 0
def fM (p0:M.Key):Nat→Int→List Int→Option (List Int)
 | 0,_,_=>none
 | nL1+1,v4,r12=>if (decide (v4≥0))=true then (if (decide (0≤(i64.wrap (8*v4))))=true then ((app 1 r12 ([(IntKind.u8.wrap (Int.fdiv (i64.wrap (p0.N+1000000000000)) (2^(min (i64.wrap (8*v4)).toNat IntKind.i64.bits))))])).bind fun x18=>(fM p0 nL1 (i64.wrap (v4-1)) (r12++[(IntKind.u8.wrap (Int.fdiv (i64.wrap (p0.N+1000000000000)) (2^(min (i64.wrap (8*v4)).toNat IntKind.i64.bits))))]))) else none) else ((app 1 r12 (fJ p0.Text)).bind fun x26=>(some (r12++fJ p0.Text)))
def xG (p0:M.Key):Option (List Int):=
 (pY p0).bind fun x1=>(if (!x1)=true then (some ([]:List Int)) else (if (p0.Kind != 2)=true then (fM p0 fuel 5 ([(IntKind.u8.wrap p0.Kind)])) else ((app 1 ([(IntKind.u8.wrap p0.Kind)]) (fJ p0.Text)).bind fun x28=>(some ([(IntKind.u8.wrap p0.Kind)]++fJ p0.Text)))))
def fN  : Nat→Int→List Int→Option (List Int)
 | 0,_,_=>none
 | nL1+1,v1,r7=>if (decide (v1≥128))=true then ((app 1 r7 ([(IntKind.u8.wrap (i64.wrap ((Int.tmod v1 128)+128)))])).bind fun x11=>(fN nL1 (i64.wrap (Int.tdiv v1 128)) (r7++[(IntKind.u8.wrap (i64.wrap ((Int.tmod v1 128)+128)))]))) else ((app 1 r7 ([(IntKind.u8.wrap v1)])).bind fun x17=>(some (r7++[(IntKind.u8.wrap v1)])))
def hU (p0:List Int) (p1:Int):Option (List Int):=
 (kC p0).bind fun x1=>((aZ p1 0 1000000000000).bind fun x3=>(if (!x3)=true then (some x1) else (fN fuel p1 x1)))
def rP (p0:List Int) (p1:List Int):Option (List Int):=
 (hU p0 (List.length p1:Int)).bind fun x1=>((app 1 x1 p1).bind fun x3=>(some (x1++p1)))
def gG (p0:M.aU):Nat→Int→List Int→Option (List Int)
 | 0,_,_=>none
 | nL1+1,v17,r50000=>if (decide (v17<(List.length p0.Fields:Int)))=true then ((idx p0.Fields v17).bind fun x13=>((rP r50000 (fJ x13.Name)).bind fun x18=>((hU x18 x13.N).bind fun x20=>(gG p0 nL1 (i64.wrap (v17+1)) x20)))) else (some r50000)
def oG (p0:M.aU):Option (List Int):=
 (tH p0).bind fun x1=>(if (!x1)=true then (some ([]:List Int)) else ((hU ([]:List Int) (List.length p0.Fields:Int)).bind fun x4=>(gG p0 fuel 0 x4)))
def iN (p0:M.aJ):Nat→Int→Int→Option Int
 | 0,_,_=>none
 | nL1+1,v3,v9=>if (decide (v9<(List.length p0.Items:Int)))=true then ((idx p0.Items v9).bind fun x7=>((xG x7.Key).bind fun x12=>((oG x7.aU).bind fun x14=>(iN p0 nL1 (i64.wrap (v3+(i64.wrap ((List.length x12:Int)+(List.length x14:Int))))) (i64.wrap (v9+1)))))) else (some v3)
def pC (p0:M.aJ):Option Int:=
 iN p0 fuel 0 0
def gB (p0:M.Database):Nat→Int→Int→Option Int
 | 0,_,_=>none
 | nL1+1,v3,v9=>if (decide (v9<(List.length p0.Stores:Int)))=true then ((idx p0.Stores v9).bind fun x7=>((pC x7).bind fun x12=>(gB p0 nL1 (i64.wrap (v3+x12)) (i64.wrap (v9+1))))) else (some v3)
def oD (p0:M.Database):Option Int:=
 gB p0 fuel 0 0
def aBr (p0:M.bB):Option Int:=
 (oD p0.Base).bind fun x1=>(some (i64.wrap (x1+(List.length p0.Log:Int))))
def aAn (p0:M.Bucket):Option Int:=
 (tZ p0.Caches).bind fun x1=>((aBr p0.bB).bind fun x3=>((pC p0.aE.Base).bind fun x5=>(some (i64.wrap ((i64.wrap ((i64.wrap (x1+x3))+x5))+(i64.wrap (40*(List.length p0.aE.Sync.aV.Writes:Int))))))))
def lI (p0:M.Bucket):Option Bool:=
 (cE p0.Site).bind fun x1=>(if x1=true then ((cE p0.Top).bind fun x4=>(if x4=true then ((gT p0.Registration).bind fun x7=>(if x7=true then (if (p0.Registration.Site.toList==p0.Site.toList)=true then ((bX p0.Caches).bind fun x11=>(if x11=true then ((sX p0.bB.Base).bind fun x14=>(if x14=true then ((xQ p0.aE).bind fun x17=>(if x17=true then ((aZ p0.LastUsed 0 1000000000000).bind fun x20=>(if x20=true then ((aAn p0).bind fun x23=>(some (decide (x23≤2500)))) else (some false))) else (some false))) else (some false))) else (some false))) else (some false)) else (some false))) else (some false))) else (some false))
def kZ (p0:M.Bucket) (p1:M.Bucket):Option Bool:=
 if (Op.bytesLess p0.Site.toList p1.Site.toList)=true then (some true) else (if (p0.Site.toList==p1.Site.toList)=true then (some (Op.bytesLess p0.Top.toList p1.Top.toList)) else (some false))
def fO (p0:M.aC):Nat→Int→Option Bool
 | 0,_=>none
 | nL1+1,v8=>if (decide (v8<(List.length p0.Buckets:Int)))=true then ((idx p0.Buckets v8).bind fun x8=>((lI x8).bind fun x13=>(if (!x13)=true then (some false) else (if (decide (v8>0))=true then ((idx p0.Buckets (i64.wrap (v8-1))).bind fun x17=>((kZ x17 x8).bind fun x22=>(if (!x22)=true then (some false) else (fO p0 nL1 (i64.wrap (v8+1)))))) else (fO p0 nL1 (i64.wrap (v8+1))))))) else (some (decide ((List.length p0.Buckets:Int)≤9)))
def cA (p0:M.aC):Option Bool:=
 fO p0 fuel 0
def tA (p0:ByteArray):Option Bool:=
 (aAN p0 30 true).bind fun x1=>(some x1)
def cH (p0:M.aP) (v10:Int) (x8:M.dA) (k22:Int→Option Bool):Nat→Int→Option Bool
 | 0,_=>none
 | nL2+1,v30_L2=>if (decide (v30_L2<(List.length (List.take v10.toNat p0.Locks):Int)))=true then ((idx (List.take v10.toNat p0.Locks) v30_L2).bind fun x35=>(if (x35.Name.toList==x8.Name.toList)=true then (if x8.Held=true then (if (!x35.Held)=true then (some false) else (if (!x8.Shared)=true then (some false) else (if (!x35.Shared)=true then (some false) else (cH p0 v10 x8 k22 nL2 (i64.wrap (v30_L2+1)))))) else (cH p0 v10 x8 k22 nL2 (i64.wrap (v30_L2+1)))) else (cH p0 v10 x8 k22 nL2 (i64.wrap (v30_L2+1))))) else (k22 v30_L2)
def fH (p0:M.aP):Nat→Int→Option Bool
 | 0,_=>none
 | nL1+1,v10=>if (decide (v10<(List.length p0.Locks:Int)))=true then ((idx p0.Locks v10).bind fun x8=>((tA x8.Name).bind fun x13=>(if (!x13)=true then (some false) else ((aZ x8.bJ 1 1000000000000).bind fun x16=>(if (!x16)=true then (some false) else ((aEx p0.Locks v10).bind fun x19=>(cH p0 v10 x8 (fun (v30_L2:Int)=>fH p0 nL1 (i64.wrap (v10+1))) fuel 0))))))) else (some (decide ((List.length p0.Locks:Int)≤12)))
def pU (p0:M.aP):Option Bool:=
 fH p0 fuel 0
def mQ (p0:M.bJ):Nat→Int→Option Bool
 | 0,_=>none
 | nL1+1,v8=>if (decide (v8<(List.length p0.aN:Int)))=true then ((idx p0.aN v8).bind fun x8=>((cE x8.Path).bind fun x13=>(if (!x13)=true then (some false) else (if (x8.Version != p0.Version)=true then (some false) else (mQ p0 nL1 (i64.wrap (v8+1))))))) else ((aZ p0.Id 1 1000000000000).bind fun x17=>(if x17=true then ((cE p0.Site).bind fun x20=>(if x20=true then ((cE p0.Top).bind fun x23=>(if x23=true then ((aZ p0.Version 1 1000000000000).bind fun x26=>(if x26=true then (some (decide ((List.length p0.aN:Int)≤8))) else (some false))) else (some false))) else (some false))) else (some false)))
def aCM (p0:M.bJ):Option Bool:=
 mQ p0 fuel 0
def iL (p0:M.Site):Nat→Int→Option Bool
 | 0,_=>none
 | nL1+1,v8=>if (decide (v8<(List.length p0.Files:Int)))=true then ((idx p0.Files v8).bind fun x8=>((cE x8).bind fun x13=>(if (!x13)=true then (some false) else (if (decide (v8>0))=true then ((idx p0.Files (i64.wrap (v8-1))).bind fun x17=>(if (Op.bytesLess x8.toList x17.toList||x8.toList==x17.toList)=true then (some false) else (iL p0 nL1 (i64.wrap (v8+1))))) else (iL p0 nL1 (i64.wrap (v8+1))))))) else ((cE p0.Name).bind fun x23=>(if x23=true then ((aZ p0.Version 1 1000000000000).bind fun x26=>(if x26=true then ((aZ (List.length p0.Files:Int) 1 6).bind fun x29=>(some x29)) else (some false))) else (some false)))
def uZ (p0:M.Site):Option Bool:=
 iL p0 fuel 0
def iF (p0:M.Server):Nat→Int→Option Bool
 | 0,_=>none
 | nL2+1,v45=>if (decide (v45<(List.length p0.Changes:Int)))=true then ((idx p0.Changes v45).bind fun x33=>((jW x33).bind fun x38=>(if (!x38)=true then (some false) else (iF p0 nL2 (i64.wrap (v45+1)))))) else ((sI p0.aJ).bind fun x41=>(if x41=true then (if (p0.aJ.Name.toList==(⟨#[110,111,116,101,115]⟩:ByteArray).toList)=true then (some (decide ((List.length p0.aK:Int)≤60))) else (some false)) else (some false)))
def gK (p0:M.Server):Nat→Int→Option Bool
 | 0,_=>none
 | nL1+1,v10=>if (decide (v10<(List.length p0.aK:Int)))=true then ((idx p0.aK v10).bind fun x8=>((aZ x8.Device 1 1000000).bind fun x13=>(if (!x13)=true then (some false) else ((aZ x8.Seq 0 1000000).bind fun x16=>(if (!x16)=true then (some false) else (if (decide (v10>0))=true then ((idx p0.aK (i64.wrap (v10-1))).bind fun x20=>(if (decide (x8.Device≤x20.Device))=true then (some false) else (gK p0 nL1 (i64.wrap (v10+1))))) else (gK p0 nL1 (i64.wrap (v10+1))))))))) else (iF p0 fuel 0)
def zS (p0:M.Server):Option Bool:=
 gK p0 fuel 0
def gZ (p0:M.World):Nat→Int→Option Bool
 | 0,_=>none
 | nL2+1,v101=>if (decide (v101<(List.length p0.Sites:Int)))=true then ((idx p0.Sites v101).bind fun x55=>((uZ x55).bind fun x60=>(if (!x60)=true then (some false) else ((nO x55.Name).bind fun x63=>(if (x63 != v101)=true then (some false) else ((idx p0.Servers v101).bind fun x66=>((zS x66).bind fun x71=>(if (!x71)=true then (some false) else (gZ p0 nL2 (i64.wrap (v101+1))))))))))) else (some true)
def fA (p0:M.World):Nat→Int→Option Bool
 | 0,_=>none
 | nL1+1,v56=>if (decide (v56<(List.length p0.Pages:Int)))=true then ((idx p0.Pages v56).bind fun x26=>((aCM x26).bind fun x31=>(if (!x31)=true then (some false) else (if (decide (x26.Id≥p0.NextPage))=true then (some false) else (if (decide (v56>0))=true then ((idx p0.Pages (i64.wrap (v56-1))).bind fun x36=>(if (decide (x26.Id≤x36.Id))=true then (some false) else ((jD p0.aC x26.Site x26.Top).bind fun x42=>(if (decide (x42<0))=true then (some false) else (fA p0 nL1 (i64.wrap (v56+1))))))) else ((jD p0.aC x26.Site x26.Top).bind fun x45=>(if (decide (x45<0))=true then (some false) else (fA p0 nL1 (i64.wrap (v56+1)))))))))) else (gZ p0 fuel 0)
def xW (p0:M.World):Option Bool:=
 (aZ p0.Now 0 999999990000).bind fun x1=>(if (!x1)=true then (some false) else ((aZ p0.Device 1 1000000).bind fun x4=>(if (!x4)=true then (some false) else ((cA p0.aC).bind fun x7=>(if (!x7)=true then (some false) else (if (decide ((List.length p0.Pages:Int)>6))=true then (some false) else ((aZ p0.NextPage 1 1000000000000).bind fun x11=>(if (!x11)=true then (some false) else ((pU p0.Locks).bind fun x14=>(if (!x14)=true then (some false) else (if ((List.length p0.Sites:Int) != 3)=true then (some false) else (if ((List.length p0.Servers:Int) != 3)=true then (some false) else (fA p0 fuel 0)))))))))))))
def mS (p0:M.Registration):Option Int:=
 some (if p0.Installing>(if p0.Waiting>p0.Active then p0.Waiting else p0.Active) then p0.Installing else (if p0.Waiting>p0.Active then p0.Waiting else p0.Active))
def oA (p0:M.Registration) (p1:Int):Option (M.Registration×Bool):=
 (gT p0).bind fun x1=>(if (!x1)=true then (some (p0,false)) else (if (decide (p1<1))=true then (some (p0,false)) else (if (p0.Installing != 0)=true then (some (p0,false)) else ((gT (⟨p0.Site,p1,p0.Waiting,p0.Active⟩:M.Registration)).bind fun x6=>(if (!x6)=true then (some (p0,false)) else (some ((⟨p0.Site,p1,p0.Waiting,p0.Active⟩:M.Registration),true)))))))
def kA (p0:M.Site) (p1:Int):Option Bool:=
 (uZ p0).bind fun x1=>(if x1=true then (if (decide (p1>(i64.wrap (p0.Version-2))))=true then (if (decide (p1≤p0.Version))=true then (some (decide (p1≥1))) else (some false)) else (some false)) else (some false))
def iQ (p0:M.aA) (p1:Int) (x1:M.aA):Nat→Int→Option (M.aA×Bool)
 | 0,_=>none
 | nL1+1,v7=>if (decide (v7<(List.length x1.Caches:Int)))=true then ((idx x1.Caches v7).bind fun x14=>(if (decide (x14.Version<p1))=true then (iQ p0 p1 x1 nL1 (i64.wrap (v7+1))) else ((aJi 32 x1.Caches v7 ([(⟨p1,([]:List M.Cached)⟩:M.Cache)])).bind fun x20=>((bX p0).bind fun x30=>(if (!x30)=true then ((bD p0).bind fun x33=>(some (x33,false))) else ((bX (⟨(List.take v7.toNat x1.Caches++([(⟨p1,([]:List M.Cached)⟩:M.Cache)]++List.drop v7.toNat x1.Caches))⟩:M.aA)).bind fun x35=>(if (!x35)=true then ((bD p0).bind fun x38=>(some (x38,false))) else (some ((⟨(List.take v7.toNat x1.Caches++([(⟨p1,([]:List M.Cached)⟩:M.Cache)]++List.drop v7.toNat x1.Caches))⟩:M.aA),true))))))))) else ((aJi 32 x1.Caches v7 ([(⟨p1,([]:List M.Cached)⟩:M.Cache)])).bind fun x40=>((bX p0).bind fun x50=>(if (!x50)=true then ((bD p0).bind fun x53=>(some (x53,false))) else ((bX (⟨(List.take v7.toNat x1.Caches++([(⟨p1,([]:List M.Cached)⟩:M.Cache)]++List.drop v7.toNat x1.Caches))⟩:M.aA)).bind fun x55=>(if (!x55)=true then ((bD p0).bind fun x58=>(some (x58,false))) else (some ((⟨(List.take v7.toNat x1.Caches++([(⟨p1,([]:List M.Cached)⟩:M.Cache)]++List.drop v7.toNat x1.Caches))⟩:M.aA),true)))))))
def wH (p0:M.aA) (p1:Int):Option (M.aA×Bool):=
 (bD p0).bind fun x1=>(iQ p0 p1 x1 fuel 0)
def sR  : Option M.Response:=
 some (⟨4,0,0,([]:List Int),false⟩:M.Response)
def lU (p0:List ByteArray) (p1:ByteArray):Option Bool:=
 (jK p0 p1).bind fun x1=>(some (decide (x1≥0)))
def aAq (p0:M.Site) (p1:ByteArray):Option Bool:=
 (lU p0.Files p1).bind fun x1=>(some x1)
def gR (p0:List Int):Nat→Int→List Int→Option (List Int)
 | 0,_,_=>none
 | nL1+1,v11,r8=>if (decide (v11<(List.length p0:Int)))=true then ((idx p0 v11).bind fun x12=>((app 8 r8 ([(i64.wrap x12)])).bind fun x17=>(gR p0 nL1 (i64.wrap (v11+1)) (r8++[(i64.wrap x12)])))) else (some r8)
def rU (p0:List Int):Option (List Int):=
 gR p0 fuel 0 ([(List.length p0:Int)])
def aDx (p0:Int) (p1:Int):Option Int:=
 (aZ p1 1 1000000000000).bind fun x1=>(if (!x1)=true then (some 0) else (if (decide (p1=0))=true then none else (if (decide ((Int.tmod p0 p1)<0))=true then (some (i64.wrap ((Int.tmod p0 p1)+p1))) else (some (Int.tmod p0 p1)))))
def sK (p0:List Int):Nat→Int→Int→Option Int
 | 0,_,_=>none
 | nL1+1,v3,v8=>if (decide (v8<(List.length p0:Int)))=true then ((idx p0 v8).bind fun x7=>((aDx x7 2147483647).bind fun x12=>(sK p0 nL1 (Int.tmod (i64.wrap ((i64.wrap ((i64.wrap (v3*1000003))+x12))+13)) 2147483647) (i64.wrap (v8+1))))) else (some v3)
def aDF (p0:List Int):Option Int:=
 sK p0 fuel 11 0
def pG (p0:Int) (p1:List Int):Option Int:=
 (app 8 ([p0]) p1).bind fun x1=>((app 8 ([p0]++p1) ([p0])).bind fun x3=>((aDF (([p0]++p1)++[p0])).bind fun x5=>(some x5)))
def hP (p0:Int) (p1:ByteArray):Option Int:=
 (rU (fJ p1)).bind fun x1=>((pG p0 x1).bind fun x3=>(if (x3==0)=true then (some 1) else (some x3)))
def eZ (x5:Int):Nat→Int→List Int→Option (List Int)
 | 0,_,_=>none
 | nL1+1,v9,r19=>if (decide (v9≥0))=true then (if (decide (0≤(i64.wrap (8*v9))))=true then ((app 1 r19 ([(IntKind.u8.wrap (Int.fdiv x5 (2^(min (i64.wrap (8*v9)).toNat IntKind.i64.bits))))])).bind fun x20=>(eZ x5 nL1 (i64.wrap (v9-1)) (r19++[(IntKind.u8.wrap (Int.fdiv x5 (2^(min (i64.wrap (8*v9)).toNat IntKind.i64.bits))))]))) else none) else (some r19)
def aCD (p0:M.Site) (p1:ByteArray) (p2:Int):Option (List Int):=
 (hP 107 p0.Name).bind fun x1=>((hP 109 p1).bind fun x3=>((pG (i64.wrap (1+p2)) ([103,x1,x3])).bind fun x5=>(eZ x5 fuel 5 ([]:List Int))))
def pE (p0:M.Site) (p1:ByteArray) (p2:Int):Option M.Response:=
 (uZ p0).bind fun x1=>(if (!x1)=true then ((sR).bind fun x4=>(some x4)) else ((kA p0 p2).bind fun x6=>(if (!x6)=true then (some (⟨1,404,p0.Version,([]:List Int),false⟩:M.Response)) else ((aAq p0 p1).bind fun x9=>(if (!x9)=true then (some (⟨1,404,p0.Version,([]:List Int),false⟩:M.Response)) else ((aCD p0 p1 p2).bind fun x12=>(some (⟨1,200,p2,x12,p0.Shared⟩:M.Response))))))))
def rJ (p0:M.Cache) (c0:Int):Option Bool:=
 some (p0.Version==c0)
def cJ (p0:List M.Cache) (p1:M.Cache→Option Bool):Nat→Int→Option Int
 | 0,_=>none
 | nL1+1,v8=>if (decide (v8<(List.length p0:Int)))=true then ((idx p0 v8).bind fun x7=>((p1 x7).bind fun x12=>(if x12=true then (some v8) else (cJ p0 p1 nL1 (i64.wrap (v8+1)))))) else (some (-1))
def jG (p0:List M.Cache) (p1:M.Cache→Option Bool):Option Int:=
 cJ p0 p1 fuel 0
def pL (p0:M.aA) (p1:Int):Option Int:=
 (jG p0.Caches (fun z0=>rJ z0 p1)).bind fun x1=>(some x1)
def mW (p0:M.aA) (p1:Int) (p2:ByteArray) (p3:ByteArray) (p4:M.Response):Option (M.aA×Bool):=
 (bD p0).bind fun x1=>((pL p0 p1).bind fun x3=>(if (decide (x3<0))=true then (some (x1,false)) else ((idx x1.Caches x3).bind fun x6=>((lE x6 p2 p3).bind fun x11=>(if (decide (x11≥0))=true then ((iU p4).bind fun x29=>((idx x6.Entries x11).bind fun x31=>((bX p0).bind fun x44=>(if (!x44)=true then ((bD p0).bind fun x47=>(some (x47,false))) else ((bX (⟨(List.set x1.Caches x3.toNat (⟨x6.Version,(List.set x6.Entries x11.toNat (⟨x31.Site,x31.Path,x29⟩:M.Cached))⟩:M.Cache))⟩:M.aA)).bind fun x49=>(if (!x49)=true then ((bD p0).bind fun x52=>(some (x52,false))) else (some ((⟨(List.set x1.Caches x3.toNat (⟨x6.Version,(List.set x6.Entries x11.toNat (⟨x31.Site,x31.Path,x29⟩:M.Cached))⟩:M.Cache))⟩:M.aA),true)))))))) else ((iU p4).bind fun x70=>((app 88 x6.Entries ([(⟨p2,p3,x70⟩:M.Cached)])).bind fun x72=>((bX p0).bind fun x82=>(if (!x82)=true then ((bD p0).bind fun x85=>(some (x85,false))) else ((bX (⟨(List.set x1.Caches x3.toNat (⟨x6.Version,(x6.Entries++[(⟨p2,p3,x70⟩:M.Cached)])⟩:M.Cache))⟩:M.aA)).bind fun x87=>(if (!x87)=true then ((bD p0).bind fun x90=>(some (x90,false))) else (some ((⟨(List.set x1.Caches x3.toNat (⟨x6.Version,(x6.Entries++[(⟨p2,p3,x70⟩:M.Cached)])⟩:M.Cache))⟩:M.aA),true)))))))))))))
def dE (p0:M.aA) (p1:M.Site) (p2:Int):Nat→Bool→Int→List M.Cache→Option (M.aA×Bool)
 | 0,_,_,_=>none
 | nL1+1,v11,v33,r50000=>if (decide (v33<(List.length p1.Files:Int)))=true then ((idx p1.Files v33).bind fun x27=>(if v11=true then ((pE p1 x27 p2).bind fun x33=>((mW (⟨r50000⟩:M.aA) p2 p1.Name x27 x33).bind fun x35=>(dE p0 p1 p2 nL1 x35.2 (i64.wrap (v33+1)) x35.1.Caches))) else (dE p0 p1 p2 nL1 v11 (i64.wrap (v33+1)) r50000))) else (if (!v11)=true then ((bD p0).bind fun x38=>(some (x38,false))) else (some ((⟨r50000⟩:M.aA),true)))
def oF (p0:M.aA) (p1:M.Site) (p2:Int) (p3:Bool):Option (M.aA×Bool):=
 if (!p3)=true then ((bD p0).bind fun x2=>(some (x2,false))) else ((kA p1 p2).bind fun x4=>(if (!x4)=true then ((bD p0).bind fun x7=>(some (x7,false))) else ((wH p0 p2).bind fun x9=>(dE p0 p1 p2 fuel x9.2 0 x9.1.Caches))))
def sZ (p0:M.Registration) (p1:Bool):Option (M.Registration×Int):=
 (gT p0).bind fun x1=>(if (!x1)=true then (some (p0,0)) else (if (p0.Installing==0)=true then (some (p0,0)) else (if p1=true then (some ((⟨p0.Site,0,p0.Installing,p0.Active⟩:M.Registration),p0.Waiting)) else (some ((⟨p0.Site,0,p0.Waiting,p0.Active⟩:M.Registration),p0.Installing)))))
def wM (p0:M.aA) (p1:Int):Option (M.aA×Bool):=
 (bD p0).bind fun x1=>((pL p0 p1).bind fun x3=>(if (decide (x3<0))=true then (some (x1,false)) else ((aOv x1.Caches x3 (i64.wrap (x3+1))).bind fun x6=>(some ((⟨(List.take x3.toNat x1.Caches++List.drop (i64.wrap (x3+1)).toNat x1.Caches)⟩:M.aA),true)))))
def mX (p0:M.Bucket) (p1:M.Bucket):Option (M.Bucket×Bool):=
 (lI p0).bind fun x1=>(if (!x1)=true then ((dP p0).bind fun x4=>(some (x4,false))) else ((lI p1).bind fun x6=>(if (!x6)=true then ((dP p0).bind fun x9=>(some (x9,false))) else ((dP p1).bind fun x11=>(some (x11,true))))))
def mZ (p0:M.Bucket) (p1:M.aA) (p2:M.Registration):Option (M.Bucket×Bool):=
 (mX p0 (⟨p0.Site,p0.Top,p2,p1,p0.bB,p0.aE,p0.LastUsed,p0.Persistent⟩:M.Bucket)).bind fun x1=>(some (x1.1,x1.2))
def iT (p0:M.aC) (p1:M.Bucket) (x1:M.aC):Nat→Int→Option (M.aC×Bool)
 | 0,_=>none
 | nL1+1,v8=>if (decide (v8<(List.length x1.Buckets:Int)))=true then ((idx x1.Buckets v8).bind fun x43=>((kZ x43 p1).bind fun x48=>(if x48=true then (iT p0 p1 x1 nL1 (i64.wrap (v8+1))) else ((dP p1).bind fun x51=>((aJi 328 x1.Buckets v8 ([x51])).bind fun x53=>((cA p0).bind fun x63=>(if (!x63)=true then ((bU p0).bind fun x66=>(some (x66,false))) else ((cA (⟨(List.take v8.toNat x1.Buckets++([x51]++List.drop v8.toNat x1.Buckets))⟩:M.aC)).bind fun x68=>(if (!x68)=true then ((bU p0).bind fun x71=>(some (x71,false))) else (some ((⟨(List.take v8.toNat x1.Buckets++([x51]++List.drop v8.toNat x1.Buckets))⟩:M.aC),true))))))))))) else ((dP p1).bind fun x73=>((aJi 328 x1.Buckets v8 ([x73])).bind fun x75=>((cA p0).bind fun x85=>(if (!x85)=true then ((bU p0).bind fun x88=>(some (x88,false))) else ((cA (⟨(List.take v8.toNat x1.Buckets++([x73]++List.drop v8.toNat x1.Buckets))⟩:M.aC)).bind fun x90=>(if (!x90)=true then ((bU p0).bind fun x93=>(some (x93,false))) else (some ((⟨(List.take v8.toNat x1.Buckets++([x73]++List.drop v8.toNat x1.Buckets))⟩:M.aC),true))))))))
def wD (p0:M.aC) (p1:M.Bucket):Option (M.aC×Bool):=
 (bU p0).bind fun x1=>((jD p0 p1.Site p1.Top).bind fun x3=>(if (decide (x3≥0))=true then ((dP p1).bind fun x6=>((idx x1.Buckets x3).bind fun x8=>((cA p0).bind fun x21=>(if (!x21)=true then ((bU p0).bind fun x24=>(some (x24,false))) else ((cA (⟨(List.set x1.Buckets x3.toNat x6)⟩:M.aC)).bind fun x26=>(if (!x26)=true then ((bU p0).bind fun x29=>(some (x29,false))) else (some ((⟨(List.set x1.Buckets x3.toNat x6)⟩:M.aC),true)))))))) else (iT p0 p1 x1 fuel 0)))
def hH (p0:M.World) (p1:M.Bucket) (p2:M.aA) (p3:M.Registration):Option (M.World×Bool):=
 (pH p0).bind fun x1=>((mZ p1 p2 p3).bind fun x3=>((wD x1.aC x3.1).bind fun x5=>(if (!x3.2)=true then (some (x1,false)) else (if (!x5.2)=true then (some (x1,false)) else (some ((⟨x1.Now,x1.Online,x1.Device,x5.1,x1.Pages,x1.NextPage,x1.Locks,x1.Channel,x1.Sites,x1.Servers⟩:M.World),true))))))
def kX (p0:M.World) (p1:ByteArray) (p2:ByteArray):Option (M.World×Bool):=
 (pH p0).bind fun x1=>((aBq p0 p1 p2).bind fun x3=>((aB4 p0 p1).bind fun x5=>((xW p0).bind fun x7=>(if (!x7)=true then (some (x1,false)) else (if (!x3.2)=true then (some (x1,false)) else ((mS x3.1.Registration).bind fun x11=>(if (decide (x5.Version≤x11))=true then (some (x1,false)) else ((oA x3.1.Registration x5.Version).bind fun x14=>(if (!x14.2)=true then (some (x1,false)) else ((oF x3.1.Caches x5 x5.Version p0.Online).bind fun x17=>((sZ x14.1 x17.2).bind fun x40=>(if (x40.2 != 0)=true then ((wM x17.1 x40.2).bind fun x43=>((hH p0 x3.1 x43.1 x40.1).bind fun x45=>(if (!x45.2)=true then (some (x1,false)) else (some (x45.1,x17.2))))) else ((hH p0 x3.1 x17.1 x40.1).bind fun x48=>(if (!x48.2)=true then (some (x1,false)) else (some (x48.1,x17.2))))))))))))))))
def lO (p0:M.Registration) (p1:M.Registration):Option Bool:=
 if (!(p0.Site.toList==p1.Site.toList))=true then (some false) else (if (p0.Installing != p1.Installing)=true then (some false) else (if (p0.Waiting != p1.Waiting)=true then (some false) else (if (p0.Active != p1.Active)=true then (some false) else (some true))))
def nN (p0:List Int) (p1:List Int):Nat→Int→Option Bool
 | 0,_=>none
 | nL1+1,v5=>if (decide (v5<(List.length p0:Int)))=true then ((idx p0 v5).bind fun x7=>((idx p1 v5).bind fun x12=>(if (x7 != x12)=true then (some false) else (nN p0 p1 nL1 (i64.wrap (v5+1)))))) else (some true)
def yC (p0:List Int) (p1:List Int):Option Bool:=
 if ((List.length p0:Int) != (List.length p1:Int))=true then (some false) else (nN p0 p1 fuel 0)
def uC (p0:M.Response) (p1:M.Response):Option Bool:=
 if (p0.Type_ != p1.Type_)=true then (some false) else (if (p0.Status != p1.Status)=true then (some false) else (if (p0.Version != p1.Version)=true then (some false) else ((yC p0.Body p1.Body).bind fun x4=>(if (!x4)=true then (some false) else (if (!(p0.Shares==p1.Shares))=true then (some false) else (some true))))))
def zO (p0:M.Cached) (p1:M.Cached):Option Bool:=
 if (!(p0.Site.toList==p1.Site.toList))=true then (some false) else (if (!(p0.Path.toList==p1.Path.toList))=true then (some false) else ((uC p0.Response p1.Response).bind fun x3=>(if (!x3)=true then (some false) else (some true))))
def kQ (p0:List M.Cached) (p1:List M.Cached):Nat→Int→Option Bool
 | 0,_=>none
 | nL1+1,v5=>if (decide (v5<(List.length p0:Int)))=true then ((idx p0 v5).bind fun x7=>((idx p1 v5).bind fun x12=>((zO x7 x12).bind fun x17=>(if (!x17)=true then (some false) else (kQ p0 p1 nL1 (i64.wrap (v5+1))))))) else (some true)
def wR (p0:List M.Cached) (p1:List M.Cached):Option Bool:=
 if ((List.length p0:Int) != (List.length p1:Int))=true then (some false) else (kQ p0 p1 fuel 0)
def aBC (p0:M.Cache) (p1:M.Cache):Option Bool:=
 if (p0.Version != p1.Version)=true then (some false) else ((wR p0.Entries p1.Entries).bind fun x2=>(if (!x2)=true then (some false) else (some true)))
def mA (p0:List M.Cache) (p1:List M.Cache):Nat→Int→Option Bool
 | 0,_=>none
 | nL1+1,v5=>if (decide (v5<(List.length p0:Int)))=true then ((idx p0 v5).bind fun x7=>((idx p1 v5).bind fun x12=>((aBC x7 x12).bind fun x17=>(if (!x17)=true then (some false) else (mA p0 p1 nL1 (i64.wrap (v5+1))))))) else (some true)
def zV (p0:List M.Cache) (p1:List M.Cache):Option Bool:=
 if ((List.length p0:Int) != (List.length p1:Int))=true then (some false) else (mA p0 p1 fuel 0)
def tR (p0:M.aA) (p1:M.aA):Option Bool:=
 (zV p0.Caches p1.Caches).bind fun x1=>(if (!x1)=true then (some false) else (some true))
def aBU (p0:M.Key) (p1:M.Key):Option Bool:=
 if (p0.Kind != p1.Kind)=true then (some false) else (if (p0.N != p1.N)=true then (some false) else (if (!(p0.Text.toList==p1.Text.toList))=true then (some false) else (some true)))
def aAc (p0:M.Field) (p1:M.Field):Option Bool:=
 if (!(p0.Name.toList==p1.Name.toList))=true then (some false) else (if (p0.N != p1.N)=true then (some false) else (some true))
def lV (p0:List M.Field) (p1:List M.Field):Nat→Int→Option Bool
 | 0,_=>none
 | nL1+1,v5=>if (decide (v5<(List.length p0:Int)))=true then ((idx p0 v5).bind fun x7=>((idx p1 v5).bind fun x12=>((aAc x7 x12).bind fun x17=>(if (!x17)=true then (some false) else (lV p0 p1 nL1 (i64.wrap (v5+1))))))) else (some true)
def zZ (p0:List M.Field) (p1:List M.Field):Option Bool:=
 if ((List.length p0:Int) != (List.length p1:Int))=true then (some false) else (lV p0 p1 fuel 0)
def aAB (p0:M.aU) (p1:M.aU):Option Bool:=
 (zZ p0.Fields p1.Fields).bind fun x1=>(if (!x1)=true then (some false) else (some true))
def aBh (p0:M.Item) (p1:M.Item):Option Bool:=
 (aBU p0.Key p1.Key).bind fun x1=>(if (!x1)=true then (some false) else ((aAB p0.aU p1.aU).bind fun x4=>(if (!x4)=true then (some false) else (some true))))
def nK (p0:List M.Item) (p1:List M.Item):Nat→Int→Option Bool
 | 0,_=>none
 | nL1+1,v5=>if (decide (v5<(List.length p0:Int)))=true then ((idx p0 v5).bind fun x7=>((idx p1 v5).bind fun x12=>((aBh x7 x12).bind fun x17=>(if (!x17)=true then (some false) else (nK p0 p1 nL1 (i64.wrap (v5+1))))))) else (some true)
def aBF (p0:List M.Item) (p1:List M.Item):Option Bool:=
 if ((List.length p0:Int) != (List.length p1:Int))=true then (some false) else (nK p0 p1 fuel 0)
def sL (p0:M.aJ) (p1:M.aJ):Option Bool:=
 if (!(p0.Name.toList==p1.Name.toList))=true then (some false) else ((aBF p0.Items p1.Items).bind fun x2=>(if (!x2)=true then (some false) else (if (p0.Auto != p1.Auto)=true then (some false) else (some true))))
def lS (p0:List M.aJ) (p1:List M.aJ):Nat→Int→Option Bool
 | 0,_=>none
 | nL1+1,v5=>if (decide (v5<(List.length p0:Int)))=true then ((idx p0 v5).bind fun x7=>((idx p1 v5).bind fun x12=>((sL x7 x12).bind fun x17=>(if (!x17)=true then (some false) else (lS p0 p1 nL1 (i64.wrap (v5+1))))))) else (some true)
def yV (p0:List M.aJ) (p1:List M.aJ):Option Bool:=
 if ((List.length p0:Int) != (List.length p1:Int))=true then (some false) else (lS p0 p1 fuel 0)
def uG (p0:M.aD) (p1:M.aD):Option Bool:=
 if (!(p0.aJ.toList==p1.aJ.toList))=true then (some false) else (if (!(p0.Field.toList==p1.Field.toList))=true then (some false) else (some true))
def jE (p0:List M.aD) (p1:List M.aD):Nat→Int→Option Bool
 | 0,_=>none
 | nL1+1,v5=>if (decide (v5<(List.length p0:Int)))=true then ((idx p0 v5).bind fun x7=>((idx p1 v5).bind fun x12=>((uG x7 x12).bind fun x17=>(if (!x17)=true then (some false) else (jE p0 p1 nL1 (i64.wrap (v5+1))))))) else (some true)
def rF (p0:List M.aD) (p1:List M.aD):Option Bool:=
 if ((List.length p0:Int) != (List.length p1:Int))=true then (some false) else (jE p0 p1 fuel 0)
def uN (p0:M.Database) (p1:M.Database):Option Bool:=
 if (!(p0.Name.toList==p1.Name.toList))=true then (some false) else (if (p0.Version != p1.Version)=true then (some false) else ((yV p0.Stores p1.Stores).bind fun x3=>(if (!x3)=true then (some false) else ((rF p0.Unique p1.Unique).bind fun x6=>(if (!x6)=true then (some false) else (some true))))))
def aB6 (p0:M.bB) (p1:M.bB):Option Bool:=
 (uN p0.Base p1.Base).bind fun x1=>(if (!x1)=true then (some false) else ((yC p0.Log p1.Log).bind fun x4=>(if (!x4)=true then (some false) else (if (p0.Count != p1.Count)=true then (some false) else (some true)))))
def aAg (p0:M.aW) (p1:M.aW):Option Bool:=
 if (p0.Device != p1.Device)=true then (some false) else (if (p0.Seq != p1.Seq)=true then (some false) else ((aBU p0.Key p1.Key).bind fun x3=>(if (!x3)=true then (some false) else (if (!(p0.Field.toList==p1.Field.toList))=true then (some false) else (if (p0.N != p1.N)=true then (some false) else (some true))))))
def mE (p0:List M.aW) (p1:List M.aW):Nat→Int→Option Bool
 | 0,_=>none
 | nL1+1,v5=>if (decide (v5<(List.length p0:Int)))=true then ((idx p0 v5).bind fun x7=>((idx p1 v5).bind fun x12=>((aAg x7 x12).bind fun x17=>(if (!x17)=true then (some false) else (mE p0 p1 nL1 (i64.wrap (v5+1))))))) else (some true)
def uP (p0:List M.aW) (p1:List M.aW):Option Bool:=
 if ((List.length p0:Int) != (List.length p1:Int))=true then (some false) else (mE p0 p1 fuel 0)
def aAE (p0:M.aV) (p1:M.aV):Option Bool:=
 if (p0.Device != p1.Device)=true then (some false) else (if (p0.Next != p1.Next)=true then (some false) else ((uP p0.Writes p1.Writes).bind fun x3=>(if (!x3)=true then (some false) else (some true))))
def aBl (p0:M.Sync) (p1:M.Sync):Option Bool:=
 (aAE p0.aV p1.aV).bind fun x1=>(if (!x1)=true then (some false) else (if (p0.Tries != p1.Tries)=true then (some false) else (if (p0.WaitUntil != p1.WaitUntil)=true then (some false) else (some true))))
def xA (p0:M.aE) (p1:M.aE):Option Bool:=
 (sL p0.Base p1.Base).bind fun x1=>(if (!x1)=true then (some false) else (if (p0.Seen != p1.Seen)=true then (some false) else ((aBl p0.Sync p1.Sync).bind fun x5=>(if (!x5)=true then (some false) else (some true)))))
def zD (p0:M.Bucket) (p1:M.Bucket):Option Bool:=
 if (!(p0.Site.toList==p1.Site.toList))=true then (some false) else (if (!(p0.Top.toList==p1.Top.toList))=true then (some false) else ((lO p0.Registration p1.Registration).bind fun x3=>(if (!x3)=true then (some false) else ((tR p0.Caches p1.Caches).bind fun x6=>(if (!x6)=true then (some false) else ((aB6 p0.bB p1.bB).bind fun x9=>(if (!x9)=true then (some false) else ((xA p0.aE p1.aE).bind fun x12=>(if (!x12)=true then (some false) else (if (p0.LastUsed != p1.LastUsed)=true then (some false) else (if (!(p0.Persistent==p1.Persistent))=true then (some false) else (some true))))))))))))
def kH (p0:List M.Bucket) (p1:List M.Bucket):Nat→Int→Option Bool
 | 0,_=>none
 | nL1+1,v5=>if (decide (v5<(List.length p0:Int)))=true then ((idx p0 v5).bind fun x7=>((idx p1 v5).bind fun x12=>((zD x7 x12).bind fun x17=>(if (!x17)=true then (some false) else (kH p0 p1 nL1 (i64.wrap (v5+1))))))) else (some true)
def xK (p0:List M.Bucket) (p1:List M.Bucket):Option Bool:=
 if ((List.length p0:Int) != (List.length p1:Int))=true then (some false) else (kH p0 p1 fuel 0)
def xJ (p0:M.aC) (p1:M.aC):Option Bool:=
 (xK p0.Buckets p1.Buckets).bind fun x1=>(if (!x1)=true then (some false) else (some true))
def yT (p0:M.aN) (p1:M.aN):Option Bool:=
 if (!(p0.Path.toList==p1.Path.toList))=true then (some false) else (if (p0.Version != p1.Version)=true then (some false) else (some true))
def kU (p0:List M.aN) (p1:List M.aN):Nat→Int→Option Bool
 | 0,_=>none
 | nL1+1,v5=>if (decide (v5<(List.length p0:Int)))=true then ((idx p0 v5).bind fun x7=>((idx p1 v5).bind fun x12=>((yT x7 x12).bind fun x17=>(if (!x17)=true then (some false) else (kU p0 p1 nL1 (i64.wrap (v5+1))))))) else (some true)
def xM (p0:List M.aN) (p1:List M.aN):Option Bool:=
 if ((List.length p0:Int) != (List.length p1:Int))=true then (some false) else (kU p0 p1 fuel 0)
def aAa (p0:M.Instr) (p1:M.Instr):Option Bool:=
 if (p0.Kind != p1.Kind)=true then (some false) else (if (p0.R != p1.R)=true then (some false) else (if (p0.N != p1.N)=true then (some false) else (if (!(p0.Text.toList==p1.Text.toList))=true then (some false) else (some true))))
def lY (p0:List M.Instr) (p1:List M.Instr):Nat→Int→Option Bool
 | 0,_=>none
 | nL1+1,v5=>if (decide (v5<(List.length p0:Int)))=true then ((idx p0 v5).bind fun x7=>((idx p1 v5).bind fun x12=>((aAa x7 x12).bind fun x17=>(if (!x17)=true then (some false) else (lY p0 p1 nL1 (i64.wrap (v5+1))))))) else (some true)
def zU (p0:List M.Instr) (p1:List M.Instr):Option Bool:=
 if ((List.length p0:Int) != (List.length p1:Int))=true then (some false) else (lY p0 p1 fuel 0)
def oZ (p0:List Int) (p1:List Int):Nat→Int→Option Bool
 | 0,_=>none
 | nL1+1,v5=>if (decide (v5<(List.length p0:Int)))=true then ((idx p0 v5).bind fun x7=>((idx p1 v5).bind fun x12=>(if (x7 != x12)=true then (some false) else (oZ p0 p1 nL1 (i64.wrap (v5+1)))))) else (some true)
def aB7 (p0:List Int) (p1:List Int):Option Bool:=
 if ((List.length p0:Int) != (List.length p1:Int))=true then (some false) else (oZ p0 p1 fuel 0)
def vU (p0:M.Machine) (p1:M.Machine):Option Bool:=
 (zU p0.Script p1.Script).bind fun x1=>(if (!x1)=true then (some false) else (if (p0.Pc != p1.Pc)=true then (some false) else ((aB7 p0.Regs p1.Regs).bind fun x5=>(if (!x5)=true then (some false) else (if (p0.Steps != p1.Steps)=true then (some false) else (if (!(p0.Done==p1.Done))=true then (some false) else (if (!(p0.Wait==p1.Wait))=true then (some false) else (some true))))))))
def aBu (p0:M.bJ) (p1:M.bJ):Option Bool:=
 if (p0.Id != p1.Id)=true then (some false) else (if (!(p0.Site.toList==p1.Site.toList))=true then (some false) else (if (!(p0.Top.toList==p1.Top.toList))=true then (some false) else (if (p0.Version != p1.Version)=true then (some false) else ((xM p0.aN p1.aN).bind fun x5=>(if (!x5)=true then (some false) else ((vU p0.Machine p1.Machine).bind fun x8=>(if (!x8)=true then (some false) else (some true))))))))
def nT (p0:List M.bJ) (p1:List M.bJ):Nat→Int→Option Bool
 | 0,_=>none
 | nL1+1,v5=>if (decide (v5<(List.length p0:Int)))=true then ((idx p0 v5).bind fun x7=>((idx p1 v5).bind fun x12=>((aBu x7 x12).bind fun x17=>(if (!x17)=true then (some false) else (nT p0 p1 nL1 (i64.wrap (v5+1))))))) else (some true)
def aAy (p0:List M.bJ) (p1:List M.bJ):Option Bool:=
 if ((List.length p0:Int) != (List.length p1:Int))=true then (some false) else (nT p0 p1 fuel 0)
def aCF (p0:M.dA) (p1:M.dA):Option Bool:=
 if (!(p0.Name.toList==p1.Name.toList))=true then (some false) else (if (p0.bJ != p1.bJ)=true then (some false) else (if (!(p0.Shared==p1.Shared))=true then (some false) else (if (!(p0.Held==p1.Held))=true then (some false) else (some true))))
def nV (p0:List M.dA) (p1:List M.dA):Nat→Int→Option Bool
 | 0,_=>none
 | nL1+1,v5=>if (decide (v5<(List.length p0:Int)))=true then ((idx p0 v5).bind fun x7=>((idx p1 v5).bind fun x12=>((aCF x7 x12).bind fun x17=>(if (!x17)=true then (some false) else (nV p0 p1 nL1 (i64.wrap (v5+1))))))) else (some true)
def aAi (p0:List M.dA) (p1:List M.dA):Option Bool:=
 if ((List.length p0:Int) != (List.length p1:Int))=true then (some false) else (nV p0 p1 fuel 0)
def rK (p0:M.aP) (p1:M.aP):Option Bool:=
 (aAi p0.Locks p1.Locks).bind fun x1=>(if (!x1)=true then (some false) else (some true))
def aCI (p0:M.fW) (p1:M.fW):Option Bool:=
 if (p0.To != p1.To)=true then (some false) else (if (p0.From != p1.From)=true then (some false) else (if (p0.N != p1.N)=true then (some false) else (some true)))
def nX (p0:List M.fW) (p1:List M.fW):Nat→Int→Option Bool
 | 0,_=>none
 | nL1+1,v5=>if (decide (v5<(List.length p0:Int)))=true then ((idx p0 v5).bind fun x7=>((idx p1 v5).bind fun x12=>((aCI x7 x12).bind fun x17=>(if (!x17)=true then (some false) else (nX p0 p1 nL1 (i64.wrap (v5+1))))))) else (some true)
def aA7 (p0:List M.fW) (p1:List M.fW):Option Bool:=
 if ((List.length p0:Int) != (List.length p1:Int))=true then (some false) else (nX p0 p1 fuel 0)
def wU (p0:M.Channel) (p1:M.Channel):Option Bool:=
 (aA7 p0.Mails p1.Mails).bind fun x1=>(if (!x1)=true then (some false) else (some true))
def kO (p0:List ByteArray) (p1:List ByteArray):Nat→Int→Option Bool
 | 0,_=>none
 | nL1+1,v5=>if (decide (v5<(List.length p0:Int)))=true then ((idx p0 v5).bind fun x7=>((idx p1 v5).bind fun x12=>(if (!(x7.toList==x12.toList))=true then (some false) else (kO p0 p1 nL1 (i64.wrap (v5+1)))))) else (some true)
def xH (p0:List ByteArray) (p1:List ByteArray):Option Bool:=
 if ((List.length p0:Int) != (List.length p1:Int))=true then (some false) else (kO p0 p1 fuel 0)
def aBe (p0:M.Site) (p1:M.Site):Option Bool:=
 if (!(p0.Name.toList==p1.Name.toList))=true then (some false) else (if (p0.Version != p1.Version)=true then (some false) else ((xH p0.Files p1.Files).bind fun x3=>(if (!x3)=true then (some false) else (if (!(p0.Shared==p1.Shared))=true then (some false) else (some true)))))
def nP (p0:List M.Site) (p1:List M.Site):Nat→Int→Option Bool
 | 0,_=>none
 | nL1+1,v5=>if (decide (v5<(List.length p0:Int)))=true then ((idx p0 v5).bind fun x7=>((idx p1 v5).bind fun x12=>((aBe x7 x12).bind fun x17=>(if (!x17)=true then (some false) else (nP p0 p1 nL1 (i64.wrap (v5+1))))))) else (some true)
def aBL (p0:List M.Site) (p1:List M.Site):Option Bool:=
 if ((List.length p0:Int) != (List.length p1:Int))=true then (some false) else (nP p0 p1 fuel 0)
def wE (p0:M.aK) (p1:M.aK):Option Bool:=
 if (p0.Device != p1.Device)=true then (some false) else (if (p0.Seq != p1.Seq)=true then (some false) else (some true))
def jX (p0:List M.aK) (p1:List M.aK):Nat→Int→Option Bool
 | 0,_=>none
 | nL1+1,v5=>if (decide (v5<(List.length p0:Int)))=true then ((idx p0 v5).bind fun x7=>((idx p1 v5).bind fun x12=>((wE x7 x12).bind fun x17=>(if (!x17)=true then (some false) else (jX p0 p1 nL1 (i64.wrap (v5+1))))))) else (some true)
def tJ (p0:List M.aK) (p1:List M.aK):Option Bool:=
 if ((List.length p0:Int) != (List.length p1:Int))=true then (some false) else (jX p0 p1 fuel 0)
def zE (p0:M.Server) (p1:M.Server):Option Bool:=
 (sL p0.aJ p1.aJ).bind fun x1=>(if (!x1)=true then (some false) else ((tJ p0.aK p1.aK).bind fun x4=>(if (!x4)=true then (some false) else ((uP p0.Changes p1.Changes).bind fun x7=>(if (!x7)=true then (some false) else (some true))))))
def kN (p0:List M.Server) (p1:List M.Server):Nat→Int→Option Bool
 | 0,_=>none
 | nL1+1,v5=>if (decide (v5<(List.length p0:Int)))=true then ((idx p0 v5).bind fun x7=>((idx p1 v5).bind fun x12=>((zE x7 x12).bind fun x17=>(if (!x17)=true then (some false) else (kN p0 p1 nL1 (i64.wrap (v5+1))))))) else (some true)
def xF (p0:List M.Server) (p1:List M.Server):Option Bool:=
 if ((List.length p0:Int) != (List.length p1:Int))=true then (some false) else (kN p0 p1 fuel 0)
def nE (p0:M.World) (p1:M.World):Option Bool:=
 if (p0.Now != p1.Now)=true then (some false) else (if (!(p0.Online==p1.Online))=true then (some false) else (if (p0.Device != p1.Device)=true then (some false) else ((xJ p0.aC p1.aC).bind fun x4=>(if (!x4)=true then (some false) else ((aAy p0.Pages p1.Pages).bind fun x7=>(if (!x7)=true then (some false) else (if (p0.NextPage != p1.NextPage)=true then (some false) else ((rK p0.Locks p1.Locks).bind fun x11=>(if (!x11)=true then (some false) else ((wU p0.Channel p1.Channel).bind fun x14=>(if (!x14)=true then (some false) else ((aBL p0.Sites p1.Sites).bind fun x17=>(if (!x17)=true then (some false) else ((xF p0.Servers p1.Servers).bind fun x20=>(if (!x20)=true then (some false) else (some true))))))))))))))))
def mD  : Nat→Int→ByteArray→Option ByteArray
 | 0,_,_=>none
 | nL1+1,v0,v3=>if (decide (v0>0))=true then ((toStr ([(IntKind.u8.wrap (i64.wrap (48+(Int.tmod v0 10))))])).bind fun x6=>((cat (aDP ([(IntKind.u8.wrap (i64.wrap (48+(Int.tmod v0 10))))])) v3).bind fun x8=>(mD nL1 (i64.wrap (Int.tdiv v0 10)) ((aDP ([(IntKind.u8.wrap (i64.wrap (48+(Int.tmod v0 10))))]))++v3)))) else ((cat (⟨#[109]⟩:ByteArray) v3).bind fun x13=>(some ((⟨#[109]⟩:ByteArray)++v3)))
def aH (p0:Int):Option ByteArray:=
 if (decide (p0≤0))=true then (some (⟨#[109,48]⟩:ByteArray)) else (mD fuel p0 (⟨#[]⟩:ByteArray))
def eE  : Nat→Int→Int→List Int→Option (List Int×Int)
 | 0,_,_,_=>none
 | nL1+1,v1,v5,r99=>if (decide (v5<(List.length r99:Int)))=true then ((idx r99 v5).bind fun x8=>((some (List.set r99 v5.toNat (IntKind.u8.wrap v1))).bind fun y13=>(eE nL1 (i64.wrap (v1+1)) (i64.wrap (v5+1)) y13))) else (some (r99,v1))
def pK (p0:List Int) (p1:Int):Option (List Int×Int):=
 eE fuel p1 0 p0
def cU  : Nat→Int→Int→List M.Cached→Option (List M.Cached×Int)
 | 0,_,_,_=>none
 | nL1+1,v1,v5,r99=>if (decide (v5<(List.length r99:Int)))=true then ((aH v1).bind fun x8=>((idx r99 v5).bind fun x10=>((some (List.set r99 v5.toNat (⟨x8,x10.Path,x10.Response⟩:M.Cached))).bind fun y15=>((aH (i64.wrap (v1+1))).bind fun x23=>((idx y15 v5).bind fun x25=>((some (List.set y15 v5.toNat (⟨x25.Site,x23,x25.Response⟩:M.Cached))).bind fun y30=>((idx y30 v5).bind fun x38=>((some (List.set y30 v5.toNat (⟨x38.Site,x38.Path,(⟨(i64.wrap ((i64.wrap (v1+1))+1)),x38.Response.Status,x38.Response.Version,x38.Response.Body,x38.Response.Shares⟩:M.Response)⟩:M.Cached))).bind fun y43=>((idx y43 v5).bind fun x51=>((some (List.set y43 v5.toNat (⟨x51.Site,x51.Path,(⟨x51.Response.Type_,(i64.wrap ((i64.wrap ((i64.wrap (v1+1))+1))+1)),x51.Response.Version,x51.Response.Body,x51.Response.Shares⟩:M.Response)⟩:M.Cached))).bind fun y56=>((idx y56 v5).bind fun x64=>((some (List.set y56 v5.toNat (⟨x64.Site,x64.Path,(⟨x64.Response.Type_,x64.Response.Status,(i64.wrap ((i64.wrap ((i64.wrap ((i64.wrap (v1+1))+1))+1))+1)),x64.Response.Body,x64.Response.Shares⟩:M.Response)⟩:M.Cached))).bind fun y69=>((idx y69 v5).bind fun x77=>((pK x77.Response.Body (i64.wrap ((i64.wrap ((i64.wrap ((i64.wrap ((i64.wrap (v1+1))+1))+1))+1))+1))).bind fun x82=>((some (List.set y69 v5.toNat (⟨x77.Site,x77.Path,(⟨x77.Response.Type_,x77.Response.Status,x77.Response.Version,x82.1,x77.Response.Shares⟩:M.Response)⟩:M.Cached))).bind fun y84=>((idx y84 v5).bind fun x92=>((some (List.set y84 v5.toNat (⟨x92.Site,x92.Path,(⟨x92.Response.Type_,x92.Response.Status,x92.Response.Version,x92.Response.Body,((Int.tmod x82.2 3)==0)⟩:M.Response)⟩:M.Cached))).bind fun y97=>(cU nL1 (i64.wrap (x82.2+1)) (i64.wrap (v5+1)) y97)))))))))))))))))) else (some (r99,v1))
def pX (p0:List M.Cached) (p1:Int):Option (List M.Cached×Int):=
 cU fuel p1 0 p0
def dM  : Nat→Int→Int→List M.Cache→Option (List M.Cache×Int)
 | 0,_,_,_=>none
 | nL1+1,v1,v5,r99=>if (decide (v5<(List.length r99:Int)))=true then ((idx r99 v5).bind fun x8=>((some (List.set r99 v5.toNat (⟨v1,x8.Entries⟩:M.Cache))).bind fun y13=>((idx y13 v5).bind fun x21=>((pX x21.Entries (i64.wrap (v1+1))).bind fun x26=>((some (List.set y13 v5.toNat (⟨x21.Version,x26.1⟩:M.Cache))).bind fun y28=>(dM nL1 x26.2 (i64.wrap (v5+1)) y28)))))) else (some (r99,v1))
def uS (p0:List M.Cache) (p1:Int):Option (List M.Cache×Int):=
 dM fuel p1 0 p0
def dI  : Nat→Int→Int→List M.Field→Option (List M.Field×Int)
 | 0,_,_,_=>none
 | nL1+1,v1,v5,r99=>if (decide (v5<(List.length r99:Int)))=true then ((aH v1).bind fun x8=>((idx r99 v5).bind fun x10=>((some (List.set r99 v5.toNat (⟨x8,x10.N⟩:M.Field))).bind fun y15=>((idx y15 v5).bind fun x23=>((some (List.set y15 v5.toNat (⟨x23.Name,(i64.wrap (v1+1))⟩:M.Field))).bind fun y28=>(dI nL1 (i64.wrap ((i64.wrap (v1+1))+1)) (i64.wrap (v5+1)) y28)))))) else (some (r99,v1))
def uJ (p0:List M.Field) (p1:Int):Option (List M.Field×Int):=
 dI fuel p1 0 p0
def eC  : Nat→Int→Int→List M.Item→Option (List M.Item×Int)
 | 0,_,_,_=>none
 | nL1+1,v1,v5,r99=>if (decide (v5<(List.length r99:Int)))=true then ((idx r99 v5).bind fun x8=>((some (List.set r99 v5.toNat (⟨(⟨v1,x8.Key.N,x8.Key.Text⟩:M.Key),x8.aU⟩:M.Item))).bind fun y13=>((idx y13 v5).bind fun x21=>((some (List.set y13 v5.toNat (⟨(⟨x21.Key.Kind,(i64.wrap (v1+1)),x21.Key.Text⟩:M.Key),x21.aU⟩:M.Item))).bind fun y26=>((aH (i64.wrap ((i64.wrap (v1+1))+1))).bind fun x34=>((idx y26 v5).bind fun x36=>((some (List.set y26 v5.toNat (⟨(⟨x36.Key.Kind,x36.Key.N,x34⟩:M.Key),x36.aU⟩:M.Item))).bind fun y41=>((idx y41 v5).bind fun x49=>((uJ x49.aU.Fields (i64.wrap ((i64.wrap ((i64.wrap (v1+1))+1))+1))).bind fun x54=>((some (List.set y41 v5.toNat (⟨x49.Key,(⟨x54.1⟩:M.aU)⟩:M.Item))).bind fun y56=>(eC nL1 x54.2 (i64.wrap (v5+1)) y56))))))))))) else (some (r99,v1))
def mJ (p0:List M.Item) (p1:Int):Option (List M.Item×Int):=
 eC fuel p1 0 p0
def dL  : Nat→Int→Int→List M.aJ→Option (List M.aJ×Int)
 | 0,_,_,_=>none
 | nL1+1,v1,v5,r99=>if (decide (v5<(List.length r99:Int)))=true then ((aH v1).bind fun x8=>((idx r99 v5).bind fun x10=>((some (List.set r99 v5.toNat (⟨x8,x10.Items,x10.Auto⟩:M.aJ))).bind fun y15=>((idx y15 v5).bind fun x23=>((mJ x23.Items (i64.wrap (v1+1))).bind fun x28=>((some (List.set y15 v5.toNat (⟨x23.Name,x28.1,x23.Auto⟩:M.aJ))).bind fun y30=>((idx y30 v5).bind fun x38=>((some (List.set y30 v5.toNat (⟨x38.Name,x38.Items,x28.2⟩:M.aJ))).bind fun y43=>(dL nL1 (i64.wrap (x28.2+1)) (i64.wrap (v5+1)) y43))))))))) else (some (r99,v1))
def tL (p0:List M.aJ) (p1:Int):Option (List M.aJ×Int):=
 dL fuel p1 0 p0
def cD  : Nat→Int→Int→List M.aD→Option (List M.aD×Int)
 | 0,_,_,_=>none
 | nL1+1,v1,v5,r99=>if (decide (v5<(List.length r99:Int)))=true then ((aH v1).bind fun x8=>((idx r99 v5).bind fun x10=>((some (List.set r99 v5.toNat (⟨x8,x10.Field⟩:M.aD))).bind fun y15=>((aH (i64.wrap (v1+1))).bind fun x23=>((idx y15 v5).bind fun x25=>((some (List.set y15 v5.toNat (⟨x25.aJ,x23⟩:M.aD))).bind fun y30=>(cD nL1 (i64.wrap ((i64.wrap (v1+1))+1)) (i64.wrap (v5+1)) y30))))))) else (some (r99,v1))
def mV (p0:List M.aD) (p1:Int):Option (List M.aD×Int):=
 cD fuel p1 0 p0
def dK  : Nat→Int→Int→List M.aW→Option (List M.aW×Int)
 | 0,_,_,_=>none
 | nL1+1,v1,v5,r99=>if (decide (v5<(List.length r99:Int)))=true then ((idx r99 v5).bind fun x8=>((some (List.set r99 v5.toNat (⟨v1,x8.Seq,x8.Key,x8.Field,x8.N⟩:M.aW))).bind fun y13=>((idx y13 v5).bind fun x21=>((some (List.set y13 v5.toNat (⟨x21.Device,(i64.wrap (v1+1)),x21.Key,x21.Field,x21.N⟩:M.aW))).bind fun y26=>((idx y26 v5).bind fun x34=>((some (List.set y26 v5.toNat (⟨x34.Device,x34.Seq,(⟨(i64.wrap ((i64.wrap (v1+1))+1)),x34.Key.N,x34.Key.Text⟩:M.Key),x34.Field,x34.N⟩:M.aW))).bind fun y39=>((idx y39 v5).bind fun x47=>((some (List.set y39 v5.toNat (⟨x47.Device,x47.Seq,(⟨x47.Key.Kind,(i64.wrap ((i64.wrap ((i64.wrap (v1+1))+1))+1)),x47.Key.Text⟩:M.Key),x47.Field,x47.N⟩:M.aW))).bind fun y52=>((aH (i64.wrap ((i64.wrap ((i64.wrap ((i64.wrap (v1+1))+1))+1))+1))).bind fun x60=>((idx y52 v5).bind fun x62=>((some (List.set y52 v5.toNat (⟨x62.Device,x62.Seq,(⟨x62.Key.Kind,x62.Key.N,x60⟩:M.Key),x62.Field,x62.N⟩:M.aW))).bind fun y67=>((aH (i64.wrap ((i64.wrap ((i64.wrap ((i64.wrap ((i64.wrap (v1+1))+1))+1))+1))+1))).bind fun x75=>((idx y67 v5).bind fun x77=>((some (List.set y67 v5.toNat (⟨x77.Device,x77.Seq,x77.Key,x75,x77.N⟩:M.aW))).bind fun y82=>((idx y82 v5).bind fun x90=>((some (List.set y82 v5.toNat (⟨x90.Device,x90.Seq,x90.Key,x90.Field,(i64.wrap ((i64.wrap ((i64.wrap ((i64.wrap ((i64.wrap ((i64.wrap (v1+1))+1))+1))+1))+1))+1))⟩:M.aW))).bind fun y95=>(dK nL1 (i64.wrap ((i64.wrap ((i64.wrap ((i64.wrap ((i64.wrap ((i64.wrap ((i64.wrap (v1+1))+1))+1))+1))+1))+1))+1)) (i64.wrap (v5+1)) y95))))))))))))))))) else (some (r99,v1))
def nM (p0:List M.aW) (p1:Int):Option (List M.aW×Int):=
 dK fuel p1 0 p0
def cY  : Nat→Int→Int→List M.Bucket→Option (List M.Bucket×Int)
 | 0,_,_,_=>none
 | nL1+1,v1,v5,r99=>if (decide (v5<(List.length r99:Int)))=true then ((aH v1).bind fun x8=>((idx r99 v5).bind fun x10=>((some (List.set r99 v5.toNat (⟨x8,x10.Top,x10.Registration,x10.Caches,x10.bB,x10.aE,x10.LastUsed,x10.Persistent⟩:M.Bucket))).bind fun y15=>((aH (i64.wrap (v1+1))).bind fun x23=>((idx y15 v5).bind fun x25=>((some (List.set y15 v5.toNat (⟨x25.Site,x23,x25.Registration,x25.Caches,x25.bB,x25.aE,x25.LastUsed,x25.Persistent⟩:M.Bucket))).bind fun y30=>((aH (i64.wrap ((i64.wrap (v1+1))+1))).bind fun x38=>((idx y30 v5).bind fun x40=>((some (List.set y30 v5.toNat (⟨x40.Site,x40.Top,(⟨x38,x40.Registration.Installing,x40.Registration.Waiting,x40.Registration.Active⟩:M.Registration),x40.Caches,x40.bB,x40.aE,x40.LastUsed,x40.Persistent⟩:M.Bucket))).bind fun y45=>((idx y45 v5).bind fun x53=>((some (List.set y45 v5.toNat (⟨x53.Site,x53.Top,(⟨x53.Registration.Site,(i64.wrap ((i64.wrap ((i64.wrap (v1+1))+1))+1)),x53.Registration.Waiting,x53.Registration.Active⟩:M.Registration),x53.Caches,x53.bB,x53.aE,x53.LastUsed,x53.Persistent⟩:M.Bucket))).bind fun y58=>((idx y58 v5).bind fun x66=>((some (List.set y58 v5.toNat (⟨x66.Site,x66.Top,(⟨x66.Registration.Site,x66.Registration.Installing,(i64.wrap ((i64.wrap ((i64.wrap ((i64.wrap (v1+1))+1))+1))+1)),x66.Registration.Active⟩:M.Registration),x66.Caches,x66.bB,x66.aE,x66.LastUsed,x66.Persistent⟩:M.Bucket))).bind fun y71=>((idx y71 v5).bind fun x79=>((some (List.set y71 v5.toNat (⟨x79.Site,x79.Top,(⟨x79.Registration.Site,x79.Registration.Installing,x79.Registration.Waiting,(i64.wrap ((i64.wrap ((i64.wrap ((i64.wrap ((i64.wrap (v1+1))+1))+1))+1))+1))⟩:M.Registration),x79.Caches,x79.bB,x79.aE,x79.LastUsed,x79.Persistent⟩:M.Bucket))).bind fun y84=>((idx y84 v5).bind fun x92=>((uS x92.Caches.Caches (i64.wrap ((i64.wrap ((i64.wrap ((i64.wrap ((i64.wrap ((i64.wrap (v1+1))+1))+1))+1))+1))+1))).bind fun x97=>((some (List.set y84 v5.toNat (⟨x92.Site,x92.Top,x92.Registration,(⟨x97.1⟩:M.aA),x92.bB,x92.aE,x92.LastUsed,x92.Persistent⟩:M.Bucket))).bind fun y99=>((aH x97.2).bind fun x107=>((idx y99 v5).bind fun x109=>((some (List.set y99 v5.toNat (⟨x109.Site,x109.Top,x109.Registration,x109.Caches,(⟨(⟨x107,x109.bB.Base.Version,x109.bB.Base.Stores,x109.bB.Base.Unique⟩:M.Database),x109.bB.Log,x109.bB.Count⟩:M.bB),x109.aE,x109.LastUsed,x109.Persistent⟩:M.Bucket))).bind fun y114=>((idx y114 v5).bind fun x122=>((some (List.set y114 v5.toNat (⟨x122.Site,x122.Top,x122.Registration,x122.Caches,(⟨(⟨x122.bB.Base.Name,(i64.wrap (x97.2+1)),x122.bB.Base.Stores,x122.bB.Base.Unique⟩:M.Database),x122.bB.Log,x122.bB.Count⟩:M.bB),x122.aE,x122.LastUsed,x122.Persistent⟩:M.Bucket))).bind fun y127=>((idx y127 v5).bind fun x135=>((tL x135.bB.Base.Stores (i64.wrap ((i64.wrap (x97.2+1))+1))).bind fun x140=>((some (List.set y127 v5.toNat (⟨x135.Site,x135.Top,x135.Registration,x135.Caches,(⟨(⟨x135.bB.Base.Name,x135.bB.Base.Version,x140.1,x135.bB.Base.Unique⟩:M.Database),x135.bB.Log,x135.bB.Count⟩:M.bB),x135.aE,x135.LastUsed,x135.Persistent⟩:M.Bucket))).bind fun y142=>((idx y142 v5).bind fun x150=>((mV x150.bB.Base.Unique x140.2).bind fun x155=>((some (List.set y142 v5.toNat (⟨x150.Site,x150.Top,x150.Registration,x150.Caches,(⟨(⟨x150.bB.Base.Name,x150.bB.Base.Version,x150.bB.Base.Stores,x155.1⟩:M.Database),x150.bB.Log,x150.bB.Count⟩:M.bB),x150.aE,x150.LastUsed,x150.Persistent⟩:M.Bucket))).bind fun y157=>((idx y157 v5).bind fun x165=>((pK x165.bB.Log x155.2).bind fun x170=>((some (List.set y157 v5.toNat (⟨x165.Site,x165.Top,x165.Registration,x165.Caches,(⟨x165.bB.Base,x170.1,x165.bB.Count⟩:M.bB),x165.aE,x165.LastUsed,x165.Persistent⟩:M.Bucket))).bind fun y172=>((idx y172 v5).bind fun x180=>((some (List.set y172 v5.toNat (⟨x180.Site,x180.Top,x180.Registration,x180.Caches,(⟨x180.bB.Base,x180.bB.Log,x170.2⟩:M.bB),x180.aE,x180.LastUsed,x180.Persistent⟩:M.Bucket))).bind fun y185=>((aH (i64.wrap (x170.2+1))).bind fun x193=>((idx y185 v5).bind fun x195=>((some (List.set y185 v5.toNat (⟨x195.Site,x195.Top,x195.Registration,x195.Caches,x195.bB,(⟨(⟨x193,x195.aE.Base.Items,x195.aE.Base.Auto⟩:M.aJ),x195.aE.Seen,x195.aE.Sync⟩:M.aE),x195.LastUsed,x195.Persistent⟩:M.Bucket))).bind fun y200=>((idx y200 v5).bind fun x208=>((mJ x208.aE.Base.Items (i64.wrap ((i64.wrap (x170.2+1))+1))).bind fun x213=>((some (List.set y200 v5.toNat (⟨x208.Site,x208.Top,x208.Registration,x208.Caches,x208.bB,(⟨(⟨x208.aE.Base.Name,x213.1,x208.aE.Base.Auto⟩:M.aJ),x208.aE.Seen,x208.aE.Sync⟩:M.aE),x208.LastUsed,x208.Persistent⟩:M.Bucket))).bind fun y215=>((idx y215 v5).bind fun x223=>((some (List.set y215 v5.toNat (⟨x223.Site,x223.Top,x223.Registration,x223.Caches,x223.bB,(⟨(⟨x223.aE.Base.Name,x223.aE.Base.Items,x213.2⟩:M.aJ),x223.aE.Seen,x223.aE.Sync⟩:M.aE),x223.LastUsed,x223.Persistent⟩:M.Bucket))).bind fun y228=>((idx y228 v5).bind fun x236=>((some (List.set y228 v5.toNat (⟨x236.Site,x236.Top,x236.Registration,x236.Caches,x236.bB,(⟨x236.aE.Base,(i64.wrap (x213.2+1)),x236.aE.Sync⟩:M.aE),x236.LastUsed,x236.Persistent⟩:M.Bucket))).bind fun y241=>((idx y241 v5).bind fun x249=>((some (List.set y241 v5.toNat (⟨x249.Site,x249.Top,x249.Registration,x249.Caches,x249.bB,(⟨x249.aE.Base,x249.aE.Seen,(⟨(⟨(i64.wrap ((i64.wrap (x213.2+1))+1)),x249.aE.Sync.aV.Next,x249.aE.Sync.aV.Writes⟩:M.aV),x249.aE.Sync.Tries,x249.aE.Sync.WaitUntil⟩:M.Sync)⟩:M.aE),x249.LastUsed,x249.Persistent⟩:M.Bucket))).bind fun y254=>((idx y254 v5).bind fun x262=>((some (List.set y254 v5.toNat (⟨x262.Site,x262.Top,x262.Registration,x262.Caches,x262.bB,(⟨x262.aE.Base,x262.aE.Seen,(⟨(⟨x262.aE.Sync.aV.Device,(i64.wrap ((i64.wrap ((i64.wrap (x213.2+1))+1))+1)),x262.aE.Sync.aV.Writes⟩:M.aV),x262.aE.Sync.Tries,x262.aE.Sync.WaitUntil⟩:M.Sync)⟩:M.aE),x262.LastUsed,x262.Persistent⟩:M.Bucket))).bind fun y267=>((idx y267 v5).bind fun x275=>((nM x275.aE.Sync.aV.Writes (i64.wrap ((i64.wrap ((i64.wrap ((i64.wrap (x213.2+1))+1))+1))+1))).bind fun x280=>((some (List.set y267 v5.toNat (⟨x275.Site,x275.Top,x275.Registration,x275.Caches,x275.bB,(⟨x275.aE.Base,x275.aE.Seen,(⟨(⟨x275.aE.Sync.aV.Device,x275.aE.Sync.aV.Next,x280.1⟩:M.aV),x275.aE.Sync.Tries,x275.aE.Sync.WaitUntil⟩:M.Sync)⟩:M.aE),x275.LastUsed,x275.Persistent⟩:M.Bucket))).bind fun y282=>((idx y282 v5).bind fun x290=>((some (List.set y282 v5.toNat (⟨x290.Site,x290.Top,x290.Registration,x290.Caches,x290.bB,(⟨x290.aE.Base,x290.aE.Seen,(⟨x290.aE.Sync.aV,x280.2,x290.aE.Sync.WaitUntil⟩:M.Sync)⟩:M.aE),x290.LastUsed,x290.Persistent⟩:M.Bucket))).bind fun y295=>((idx y295 v5).bind fun x303=>((some (List.set y295 v5.toNat (⟨x303.Site,x303.Top,x303.Registration,x303.Caches,x303.bB,(⟨x303.aE.Base,x303.aE.Seen,(⟨x303.aE.Sync.aV,x303.aE.Sync.Tries,(i64.wrap (x280.2+1))⟩:M.Sync)⟩:M.aE),x303.LastUsed,x303.Persistent⟩:M.Bucket))).bind fun y308=>((idx y308 v5).bind fun x316=>((some (List.set y308 v5.toNat (⟨x316.Site,x316.Top,x316.Registration,x316.Caches,x316.bB,x316.aE,(i64.wrap ((i64.wrap (x280.2+1))+1)),x316.Persistent⟩:M.Bucket))).bind fun y321=>((idx y321 v5).bind fun x329=>((some (List.set y321 v5.toNat (⟨x329.Site,x329.Top,x329.Registration,x329.Caches,x329.bB,x329.aE,x329.LastUsed,((Int.tmod (i64.wrap ((i64.wrap ((i64.wrap (x280.2+1))+1))+1)) 3)==0)⟩:M.Bucket))).bind fun y334=>(cY nL1 (i64.wrap ((i64.wrap ((i64.wrap ((i64.wrap (x280.2+1))+1))+1))+1)) (i64.wrap (v5+1)) y334)))))))))))))))))))))))))))))))))))))))))))))))))))))))))))) else (some (r99,v1))
def rX (p0:List M.Bucket) (p1:Int):Option (List M.Bucket×Int):=
 cY fuel p1 0 p0
def yR (p0:M.aC) (p1:Int):Option (List M.Bucket×Int):=
 (rX p0.Buckets p1).bind fun x1=>(some (x1.1,x1.2))
def cR  : Nat→Int→Int→List M.aN→Option (List M.aN×Int)
 | 0,_,_,_=>none
 | nL1+1,v1,v5,r99=>if (decide (v5<(List.length r99:Int)))=true then ((aH v1).bind fun x8=>((idx r99 v5).bind fun x10=>((some (List.set r99 v5.toNat (⟨x8,x10.Version⟩:M.aN))).bind fun y15=>((idx y15 v5).bind fun x23=>((some (List.set y15 v5.toNat (⟨x23.Path,(i64.wrap (v1+1))⟩:M.aN))).bind fun y28=>(cR nL1 (i64.wrap ((i64.wrap (v1+1))+1)) (i64.wrap (v5+1)) y28)))))) else (some (r99,v1))
def rT (p0:List M.aN) (p1:Int):Option (List M.aN×Int):=
 cR fuel p1 0 p0
def dH  : Nat→Int→Int→List M.Instr→Option (List M.Instr×Int)
 | 0,_,_,_=>none
 | nL1+1,v1,v5,r99=>if (decide (v5<(List.length r99:Int)))=true then ((idx r99 v5).bind fun x8=>((some (List.set r99 v5.toNat (⟨v1,x8.R,x8.N,x8.Text⟩:M.Instr))).bind fun y13=>((idx y13 v5).bind fun x21=>((some (List.set y13 v5.toNat (⟨x21.Kind,(i64.wrap (v1+1)),x21.N,x21.Text⟩:M.Instr))).bind fun y26=>((idx y26 v5).bind fun x34=>((some (List.set y26 v5.toNat (⟨x34.Kind,x34.R,(i64.wrap ((i64.wrap (v1+1))+1)),x34.Text⟩:M.Instr))).bind fun y39=>((aH (i64.wrap ((i64.wrap ((i64.wrap (v1+1))+1))+1))).bind fun x47=>((idx y39 v5).bind fun x49=>((some (List.set y39 v5.toNat (⟨x49.Kind,x49.R,x49.N,x47⟩:M.Instr))).bind fun y54=>(dH nL1 (i64.wrap ((i64.wrap ((i64.wrap ((i64.wrap (v1+1))+1))+1))+1)) (i64.wrap (v5+1)) y54)))))))))) else (some (r99,v1))
def uI (p0:List M.Instr) (p1:Int):Option (List M.Instr×Int):=
 dH fuel p1 0 p0
def fC  : Nat→Int→Int→List Int→Option (List Int×Int)
 | 0,_,_,_=>none
 | nL1+1,v1,v5,r99=>if (decide (v5<(List.length r99:Int)))=true then ((idx r99 v5).bind fun x8=>((some (List.set r99 v5.toNat v1)).bind fun y13=>(fC nL1 (i64.wrap (v1+1)) (i64.wrap (v5+1)) y13))) else (some (r99,v1))
def zQ (p0:List Int) (p1:Int):Option (List Int×Int):=
 fC fuel p1 0 p0
def eA  : Nat→Int→Int→List M.bJ→Option (List M.bJ×Int)
 | 0,_,_,_=>none
 | nL1+1,v1,v5,r99=>if (decide (v5<(List.length r99:Int)))=true then ((idx r99 v5).bind fun x8=>((some (List.set r99 v5.toNat (⟨v1,x8.Site,x8.Top,x8.Version,x8.aN,x8.Machine⟩:M.bJ))).bind fun y13=>((aH (i64.wrap (v1+1))).bind fun x21=>((idx y13 v5).bind fun x23=>((some (List.set y13 v5.toNat (⟨x23.Id,x21,x23.Top,x23.Version,x23.aN,x23.Machine⟩:M.bJ))).bind fun y28=>((aH (i64.wrap ((i64.wrap (v1+1))+1))).bind fun x36=>((idx y28 v5).bind fun x38=>((some (List.set y28 v5.toNat (⟨x38.Id,x38.Site,x36,x38.Version,x38.aN,x38.Machine⟩:M.bJ))).bind fun y43=>((idx y43 v5).bind fun x51=>((some (List.set y43 v5.toNat (⟨x51.Id,x51.Site,x51.Top,(i64.wrap ((i64.wrap ((i64.wrap (v1+1))+1))+1)),x51.aN,x51.Machine⟩:M.bJ))).bind fun y56=>((idx y56 v5).bind fun x64=>((rT x64.aN (i64.wrap ((i64.wrap ((i64.wrap ((i64.wrap (v1+1))+1))+1))+1))).bind fun x69=>((some (List.set y56 v5.toNat (⟨x64.Id,x64.Site,x64.Top,x64.Version,x69.1,x64.Machine⟩:M.bJ))).bind fun y71=>((idx y71 v5).bind fun x79=>((uI x79.Machine.Script x69.2).bind fun x84=>((some (List.set y71 v5.toNat (⟨x79.Id,x79.Site,x79.Top,x79.Version,x79.aN,(⟨x84.1,x79.Machine.Pc,x79.Machine.Regs,x79.Machine.Steps,x79.Machine.Done,x79.Machine.Wait⟩:M.Machine)⟩:M.bJ))).bind fun y86=>((idx y86 v5).bind fun x94=>((some (List.set y86 v5.toNat (⟨x94.Id,x94.Site,x94.Top,x94.Version,x94.aN,(⟨x94.Machine.Script,x84.2,x94.Machine.Regs,x94.Machine.Steps,x94.Machine.Done,x94.Machine.Wait⟩:M.Machine)⟩:M.bJ))).bind fun y99=>((idx y99 v5).bind fun x107=>((zQ x107.Machine.Regs (i64.wrap (x84.2+1))).bind fun x112=>((some (List.set y99 v5.toNat (⟨x107.Id,x107.Site,x107.Top,x107.Version,x107.aN,(⟨x107.Machine.Script,x107.Machine.Pc,x112.1,x107.Machine.Steps,x107.Machine.Done,x107.Machine.Wait⟩:M.Machine)⟩:M.bJ))).bind fun y114=>((idx y114 v5).bind fun x122=>((some (List.set y114 v5.toNat (⟨x122.Id,x122.Site,x122.Top,x122.Version,x122.aN,(⟨x122.Machine.Script,x122.Machine.Pc,x122.Machine.Regs,x112.2,x122.Machine.Done,x122.Machine.Wait⟩:M.Machine)⟩:M.bJ))).bind fun y127=>((idx y127 v5).bind fun x135=>((some (List.set y127 v5.toNat (⟨x135.Id,x135.Site,x135.Top,x135.Version,x135.aN,(⟨x135.Machine.Script,x135.Machine.Pc,x135.Machine.Regs,x135.Machine.Steps,((Int.tmod (i64.wrap (x112.2+1)) 3)==0),x135.Machine.Wait⟩:M.Machine)⟩:M.bJ))).bind fun y140=>((idx y140 v5).bind fun x148=>((some (List.set y140 v5.toNat (⟨x148.Id,x148.Site,x148.Top,x148.Version,x148.aN,(⟨x148.Machine.Script,x148.Machine.Pc,x148.Machine.Regs,x148.Machine.Steps,x148.Machine.Done,((Int.tmod (i64.wrap ((i64.wrap (x112.2+1))+1)) 3)==0)⟩:M.Machine)⟩:M.bJ))).bind fun y153=>(eA nL1 (i64.wrap ((i64.wrap ((i64.wrap (x112.2+1))+1))+1)) (i64.wrap (v5+1)) y153)))))))))))))))))))))))))))) else (some (r99,v1))
def vT (p0:List M.bJ) (p1:Int):Option (List M.bJ×Int):=
 eA fuel p1 0 p0
def dZ  : Nat→Int→Int→List M.dA→Option (List M.dA×Int)
 | 0,_,_,_=>none
 | nL1+1,v1,v5,r99=>if (decide (v5<(List.length r99:Int)))=true then ((aH v1).bind fun x8=>((idx r99 v5).bind fun x10=>((some (List.set r99 v5.toNat (⟨x8,x10.bJ,x10.Shared,x10.Held⟩:M.dA))).bind fun y15=>((idx y15 v5).bind fun x23=>((some (List.set y15 v5.toNat (⟨x23.Name,(i64.wrap (v1+1)),x23.Shared,x23.Held⟩:M.dA))).bind fun y28=>((idx y28 v5).bind fun x36=>((some (List.set y28 v5.toNat (⟨x36.Name,x36.bJ,((Int.tmod (i64.wrap ((i64.wrap (v1+1))+1)) 3)==0),x36.Held⟩:M.dA))).bind fun y41=>((idx y41 v5).bind fun x49=>((some (List.set y41 v5.toNat (⟨x49.Name,x49.bJ,x49.Shared,((Int.tmod (i64.wrap ((i64.wrap ((i64.wrap (v1+1))+1))+1)) 3)==0)⟩:M.dA))).bind fun y54=>(dZ nL1 (i64.wrap ((i64.wrap ((i64.wrap ((i64.wrap (v1+1))+1))+1))+1)) (i64.wrap (v5+1)) y54)))))))))) else (some (r99,v1))
def wY (p0:List M.dA) (p1:Int):Option (List M.dA×Int):=
 dZ fuel p1 0 p0
def sQ (p0:M.aP) (p1:Int):Option (List M.dA×Int):=
 (wY p0.Locks p1).bind fun x1=>(some (x1.1,x1.2))
def dX  : Nat→Int→Int→List M.fW→Option (List M.fW×Int)
 | 0,_,_,_=>none
 | nL1+1,v1,v5,r99=>if (decide (v5<(List.length r99:Int)))=true then ((idx r99 v5).bind fun x8=>((some (List.set r99 v5.toNat (⟨v1,x8.From,x8.N⟩:M.fW))).bind fun y13=>((idx y13 v5).bind fun x21=>((some (List.set y13 v5.toNat (⟨x21.To,(i64.wrap (v1+1)),x21.N⟩:M.fW))).bind fun y26=>((idx y26 v5).bind fun x34=>((some (List.set y26 v5.toNat (⟨x34.To,x34.From,(i64.wrap ((i64.wrap (v1+1))+1))⟩:M.fW))).bind fun y39=>(dX nL1 (i64.wrap ((i64.wrap ((i64.wrap (v1+1))+1))+1)) (i64.wrap (v5+1)) y39))))))) else (some (r99,v1))
def xB (p0:List M.fW) (p1:Int):Option (List M.fW×Int):=
 dX fuel p1 0 p0
def yM (p0:M.Channel) (p1:Int):Option (List M.fW×Int):=
 (xB p0.Mails p1).bind fun x1=>(some (x1.1,x1.2))
def cX  : Nat→Int→Int→List ByteArray→Option (List ByteArray×Int)
 | 0,_,_,_=>none
 | nL1+1,v1,v5,r99=>if (decide (v5<(List.length r99:Int)))=true then ((aH v1).bind fun x8=>((idx r99 v5).bind fun x10=>((some (List.set r99 v5.toNat x8)).bind fun y15=>(cX nL1 (i64.wrap (v1+1)) (i64.wrap (v5+1)) y15)))) else (some (r99,v1))
def pQ (p0:List ByteArray) (p1:Int):Option (List ByteArray×Int):=
 cX fuel p1 0 p0
def eD  : Nat→Int→Int→List M.Site→Option (List M.Site×Int)
 | 0,_,_,_=>none
 | nL1+1,v1,v5,r99=>if (decide (v5<(List.length r99:Int)))=true then ((aH v1).bind fun x8=>((idx r99 v5).bind fun x10=>((some (List.set r99 v5.toNat (⟨x8,x10.Version,x10.Files,x10.Shared⟩:M.Site))).bind fun y15=>((idx y15 v5).bind fun x23=>((some (List.set y15 v5.toNat (⟨x23.Name,(i64.wrap (v1+1)),x23.Files,x23.Shared⟩:M.Site))).bind fun y28=>((idx y28 v5).bind fun x36=>((pQ x36.Files (i64.wrap ((i64.wrap (v1+1))+1))).bind fun x41=>((some (List.set y28 v5.toNat (⟨x36.Name,x36.Version,x41.1,x36.Shared⟩:M.Site))).bind fun y43=>((idx y43 v5).bind fun x51=>((some (List.set y43 v5.toNat (⟨x51.Name,x51.Version,x51.Files,((Int.tmod x41.2 3)==0)⟩:M.Site))).bind fun y56=>(eD nL1 (i64.wrap (x41.2+1)) (i64.wrap (v5+1)) y56))))))))))) else (some (r99,v1))
def wQ (p0:List M.Site) (p1:Int):Option (List M.Site×Int):=
 eD fuel p1 0 p0
def cM  : Nat→Int→Int→List M.aK→Option (List M.aK×Int)
 | 0,_,_,_=>none
 | nL1+1,v1,v5,r99=>if (decide (v5<(List.length r99:Int)))=true then ((idx r99 v5).bind fun x8=>((some (List.set r99 v5.toNat (⟨v1,x8.Seq⟩:M.aK))).bind fun y13=>((idx y13 v5).bind fun x21=>((some (List.set y13 v5.toNat (⟨x21.Device,(i64.wrap (v1+1))⟩:M.aK))).bind fun y26=>(cM nL1 (i64.wrap ((i64.wrap (v1+1))+1)) (i64.wrap (v5+1)) y26))))) else (some (r99,v1))
def oI (p0:List M.aK) (p1:Int):Option (List M.aK×Int):=
 cM fuel p1 0 p0
def cQ  : Nat→Int→Int→List M.Server→Option (List M.Server×Int)
 | 0,_,_,_=>none
 | nL1+1,v1,v5,r99=>if (decide (v5<(List.length r99:Int)))=true then ((aH v1).bind fun x8=>((idx r99 v5).bind fun x10=>((some (List.set r99 v5.toNat (⟨(⟨x8,x10.aJ.Items,x10.aJ.Auto⟩:M.aJ),x10.aK,x10.Changes⟩:M.Server))).bind fun y15=>((idx y15 v5).bind fun x23=>((mJ x23.aJ.Items (i64.wrap (v1+1))).bind fun x28=>((some (List.set y15 v5.toNat (⟨(⟨x23.aJ.Name,x28.1,x23.aJ.Auto⟩:M.aJ),x23.aK,x23.Changes⟩:M.Server))).bind fun y30=>((idx y30 v5).bind fun x38=>((some (List.set y30 v5.toNat (⟨(⟨x38.aJ.Name,x38.aJ.Items,x28.2⟩:M.aJ),x38.aK,x38.Changes⟩:M.Server))).bind fun y43=>((idx y43 v5).bind fun x51=>((oI x51.aK (i64.wrap (x28.2+1))).bind fun x56=>((some (List.set y43 v5.toNat (⟨x51.aJ,x56.1,x51.Changes⟩:M.Server))).bind fun y58=>((idx y58 v5).bind fun x66=>((nM x66.Changes x56.2).bind fun x71=>((some (List.set y58 v5.toNat (⟨x66.aJ,x66.aK,x71.1⟩:M.Server))).bind fun y73=>(cQ nL1 x71.2 (i64.wrap (v5+1)) y73))))))))))))))) else (some (r99,v1))
def rH (p0:List M.Server) (p1:Int):Option (List M.Server×Int):=
 cQ fuel p1 0 p0
def pD (p0:M.World) (p1:Int):Option (List M.Bucket×List M.bJ×List M.dA×List M.fW×List M.Site×List M.Server×Int):=
 (yR p0.aC p1).bind fun x1=>((vT p0.Pages x1.2).bind fun x8=>((sQ p0.Locks x8.2).bind fun x15=>((yM p0.Channel x15.2).bind fun x22=>((wQ p0.Sites x22.2).bind fun x29=>((rH p0.Servers x29.2).bind fun x36=>(some (x1.1,x8.1,x15.1,x22.1,x29.1,x36.1,x36.2)))))))
def fP (p0:List Int):Nat→Int→Int→Option Int
 | 0,_,_=>none
 | nL1+1,v1,v5=>if (decide (v5<(List.length p0:Int)))=true then ((idx p0 v5).bind fun x6=>(if (x6 != (IntKind.u8.wrap v1))=true then (some (-1)) else (fP p0 nL1 (i64.wrap (v1+1)) (i64.wrap (v5+1))))) else (some v1)
def oY (p0:List Int) (p1:Int):Option Int:=
 fP p0 fuel p1 0
def dU (p0:List M.Cached):Nat→Int→Int→Option Int
 | 0,_,_=>none
 | nL1+1,v1,v5=>if (decide (v5<(List.length p0:Int)))=true then ((idx p0 v5).bind fun x6=>((aH v1).bind fun x11=>(if (!(x6.Site.toList==x11.toList))=true then (some (-1)) else ((aH (i64.wrap (v1+1))).bind fun x14=>(if (!(x6.Path.toList==x14.toList))=true then (some (-1)) else (if (x6.Response.Type_ != (i64.wrap ((i64.wrap (v1+1))+1)))=true then (some (-1)) else (if (x6.Response.Status != (i64.wrap ((i64.wrap ((i64.wrap (v1+1))+1))+1)))=true then (some (-1)) else (if (x6.Response.Version != (i64.wrap ((i64.wrap ((i64.wrap ((i64.wrap (v1+1))+1))+1))+1)))=true then (some (-1)) else ((oY x6.Response.Body (i64.wrap ((i64.wrap ((i64.wrap ((i64.wrap ((i64.wrap (v1+1))+1))+1))+1))+1))).bind fun x20=>(if (decide (x20<0))=true then (some (-1)) else (if (!(x6.Response.Shares==((Int.tmod x20 3)==0)))=true then (some (-1)) else (dU p0 nL1 (i64.wrap (x20+1)) (i64.wrap (v5+1)))))))))))))) else (some v1)
def pP (p0:List M.Cached) (p1:Int):Option Int:=
 dU p0 fuel p1 0
def eM (p0:List M.Cache):Nat→Int→Int→Option Int
 | 0,_,_=>none
 | nL1+1,v1,v5=>if (decide (v5<(List.length p0:Int)))=true then ((idx p0 v5).bind fun x6=>(if (x6.Version != v1)=true then (some (-1)) else ((pP x6.Entries (i64.wrap (v1+1))).bind fun x12=>(if (decide (x12<0))=true then (some (-1)) else (eM p0 nL1 x12 (i64.wrap (v5+1))))))) else (some v1)
def tC (p0:List M.Cache) (p1:Int):Option Int:=
 eM p0 fuel p1 0
def eP (p0:List M.Field):Nat→Int→Int→Option Int
 | 0,_,_=>none
 | nL1+1,v1,v5=>if (decide (v5<(List.length p0:Int)))=true then ((idx p0 v5).bind fun x6=>((aH v1).bind fun x11=>(if (!(x6.Name.toList==x11.toList))=true then (some (-1)) else (if (x6.N != (i64.wrap (v1+1)))=true then (some (-1)) else (eP p0 nL1 (i64.wrap ((i64.wrap (v1+1))+1)) (i64.wrap (v5+1))))))) else (some v1)
def tP (p0:List M.Field) (p1:Int):Option Int:=
 eP p0 fuel p1 0
def fR (p0:List M.Item):Nat→Int→Int→Option Int
 | 0,_,_=>none
 | nL1+1,v1,v5=>if (decide (v5<(List.length p0:Int)))=true then ((idx p0 v5).bind fun x6=>(if (x6.Key.Kind != v1)=true then (some (-1)) else (if (x6.Key.N != (i64.wrap (v1+1)))=true then (some (-1)) else ((aH (i64.wrap ((i64.wrap (v1+1))+1))).bind fun x13=>(if (!(x6.Key.Text.toList==x13.toList))=true then (some (-1)) else ((tP x6.aU.Fields (i64.wrap ((i64.wrap ((i64.wrap (v1+1))+1))+1))).bind fun x16=>(if (decide (x16<0))=true then (some (-1)) else (fR p0 nL1 x16 (i64.wrap (v5+1)))))))))) else (some v1)
def mK (p0:List M.Item) (p1:Int):Option Int:=
 fR p0 fuel p1 0
def eN (p0:List M.aJ):Nat→Int→Int→Option Int
 | 0,_,_=>none
 | nL1+1,v1,v5=>if (decide (v5<(List.length p0:Int)))=true then ((idx p0 v5).bind fun x6=>((aH v1).bind fun x11=>(if (!(x6.Name.toList==x11.toList))=true then (some (-1)) else ((mK x6.Items (i64.wrap (v1+1))).bind fun x14=>(if (decide (x14<0))=true then (some (-1)) else (if (x6.Auto != x14)=true then (some (-1)) else (eN p0 nL1 (i64.wrap (x14+1)) (i64.wrap (v5+1))))))))) else (some v1)
def sW (p0:List M.aJ) (p1:Int):Option Int:=
 eN p0 fuel p1 0
def cO (p0:List M.aD):Nat→Int→Int→Option Int
 | 0,_,_=>none
 | nL1+1,v1,v5=>if (decide (v5<(List.length p0:Int)))=true then ((idx p0 v5).bind fun x6=>((aH v1).bind fun x11=>(if (!(x6.aJ.toList==x11.toList))=true then (some (-1)) else ((aH (i64.wrap (v1+1))).bind fun x14=>(if (!(x6.Field.toList==x14.toList))=true then (some (-1)) else (cO p0 nL1 (i64.wrap ((i64.wrap (v1+1))+1)) (i64.wrap (v5+1)))))))) else (some v1)
def mU (p0:List M.aD) (p1:Int):Option Int:=
 cO p0 fuel p1 0
def eK (p0:List M.aW):Nat→Int→Int→Option Int
 | 0,_,_=>none
 | nL1+1,v1,v5=>if (decide (v5<(List.length p0:Int)))=true then ((idx p0 v5).bind fun x6=>(if (x6.Device != v1)=true then (some (-1)) else (if (x6.Seq != (i64.wrap (v1+1)))=true then (some (-1)) else (if (x6.Key.Kind != (i64.wrap ((i64.wrap (v1+1))+1)))=true then (some (-1)) else (if (x6.Key.N != (i64.wrap ((i64.wrap ((i64.wrap (v1+1))+1))+1)))=true then (some (-1)) else ((aH (i64.wrap ((i64.wrap ((i64.wrap ((i64.wrap (v1+1))+1))+1))+1))).bind fun x15=>(if (!(x6.Key.Text.toList==x15.toList))=true then (some (-1)) else ((aH (i64.wrap ((i64.wrap ((i64.wrap ((i64.wrap ((i64.wrap (v1+1))+1))+1))+1))+1))).bind fun x18=>(if (!(x6.Field.toList==x18.toList))=true then (some (-1)) else (if (x6.N != (i64.wrap ((i64.wrap ((i64.wrap ((i64.wrap ((i64.wrap ((i64.wrap (v1+1))+1))+1))+1))+1))+1)))=true then (some (-1)) else (eK p0 nL1 (i64.wrap ((i64.wrap ((i64.wrap ((i64.wrap ((i64.wrap ((i64.wrap ((i64.wrap (v1+1))+1))+1))+1))+1))+1))+1)) (i64.wrap (v5+1))))))))))))) else (some v1)
def nQ (p0:List M.aW) (p1:Int):Option Int:=
 eK p0 fuel p1 0
def cW (p0:List M.Bucket):Nat→Int→Int→Option Int
 | 0,_,_=>none
 | nL1+1,v1,v5=>if (decide (v5<(List.length p0:Int)))=true then ((idx p0 v5).bind fun x6=>((aH v1).bind fun x11=>(if (!(x6.Site.toList==x11.toList))=true then (some (-1)) else ((aH (i64.wrap (v1+1))).bind fun x14=>(if (!(x6.Top.toList==x14.toList))=true then (some (-1)) else ((aH (i64.wrap ((i64.wrap (v1+1))+1))).bind fun x17=>(if (!(x6.Registration.Site.toList==x17.toList))=true then (some (-1)) else (if (x6.Registration.Installing != (i64.wrap ((i64.wrap ((i64.wrap (v1+1))+1))+1)))=true then (some (-1)) else (if (x6.Registration.Waiting != (i64.wrap ((i64.wrap ((i64.wrap ((i64.wrap (v1+1))+1))+1))+1)))=true then (some (-1)) else (if (x6.Registration.Active != (i64.wrap ((i64.wrap ((i64.wrap ((i64.wrap ((i64.wrap (v1+1))+1))+1))+1))+1)))=true then (some (-1)) else ((tC x6.Caches.Caches (i64.wrap ((i64.wrap ((i64.wrap ((i64.wrap ((i64.wrap ((i64.wrap (v1+1))+1))+1))+1))+1))+1))).bind fun x27=>(if (decide (x27<0))=true then (some (-1)) else ((aH x27).bind fun x30=>(if (!(x6.bB.Base.Name.toList==x30.toList))=true then (some (-1)) else (if (x6.bB.Base.Version != (i64.wrap (x27+1)))=true then (some (-1)) else ((sW x6.bB.Base.Stores (i64.wrap ((i64.wrap (x27+1))+1))).bind fun x34=>(if (decide (x34<0))=true then (some (-1)) else ((mU x6.bB.Base.Unique x34).bind fun x37=>(if (decide (x37<0))=true then (some (-1)) else ((oY x6.bB.Log x37).bind fun x40=>(if (decide (x40<0))=true then (some (-1)) else (if (x6.bB.Count != x40)=true then (some (-1)) else ((aH (i64.wrap (x40+1))).bind fun x48=>(if (!(x6.aE.Base.Name.toList==x48.toList))=true then (some (-1)) else ((mK x6.aE.Base.Items (i64.wrap ((i64.wrap (x40+1))+1))).bind fun x51=>(if (decide (x51<0))=true then (some (-1)) else (if (x6.aE.Base.Auto != x51)=true then (some (-1)) else (if (x6.aE.Seen != (i64.wrap (x51+1)))=true then (some (-1)) else (if (x6.aE.Sync.aV.Device != (i64.wrap ((i64.wrap (x51+1))+1)))=true then (some (-1)) else (if (x6.aE.Sync.aV.Next != (i64.wrap ((i64.wrap ((i64.wrap (x51+1))+1))+1)))=true then (some (-1)) else ((nQ x6.aE.Sync.aV.Writes (i64.wrap ((i64.wrap ((i64.wrap ((i64.wrap (x51+1))+1))+1))+1))).bind fun x62=>(if (decide (x62<0))=true then (some (-1)) else (if (x6.aE.Sync.Tries != x62)=true then (some (-1)) else (if (x6.aE.Sync.WaitUntil != (i64.wrap (x62+1)))=true then (some (-1)) else (if (x6.LastUsed != (i64.wrap ((i64.wrap (x62+1))+1)))=true then (some (-1)) else (if (!(x6.Persistent==((Int.tmod (i64.wrap ((i64.wrap ((i64.wrap (x62+1))+1))+1)) 3)==0)))=true then (some (-1)) else (cW p0 nL1 (i64.wrap ((i64.wrap ((i64.wrap ((i64.wrap (x62+1))+1))+1))+1)) (i64.wrap (v5+1))))))))))))))))))))))))))))))))))))))) else (some v1)
def rG (p0:List M.Bucket) (p1:Int):Option Int:=
 cW p0 fuel p1 0
def yL (p0:M.aC) (p1:Int):Option Int:=
 (rG p0.Buckets p1).bind fun x1=>(if (decide (x1<0))=true then (some (-1)) else (some x1))
def dS (p0:List M.aN):Nat→Int→Int→Option Int
 | 0,_,_=>none
 | nL1+1,v1,v5=>if (decide (v5<(List.length p0:Int)))=true then ((idx p0 v5).bind fun x6=>((aH v1).bind fun x11=>(if (!(x6.Path.toList==x11.toList))=true then (some (-1)) else (if (x6.Version != (i64.wrap (v1+1)))=true then (some (-1)) else (dS p0 nL1 (i64.wrap ((i64.wrap (v1+1))+1)) (i64.wrap (v5+1))))))) else (some v1)
def rO (p0:List M.aN) (p1:Int):Option Int:=
 dS p0 fuel p1 0
def eJ (p0:List M.Instr):Nat→Int→Int→Option Int
 | 0,_,_=>none
 | nL1+1,v1,v5=>if (decide (v5<(List.length p0:Int)))=true then ((idx p0 v5).bind fun x6=>(if (x6.Kind != v1)=true then (some (-1)) else (if (x6.R != (i64.wrap (v1+1)))=true then (some (-1)) else (if (x6.N != (i64.wrap ((i64.wrap (v1+1))+1)))=true then (some (-1)) else ((aH (i64.wrap ((i64.wrap ((i64.wrap (v1+1))+1))+1))).bind fun x14=>(if (!(x6.Text.toList==x14.toList))=true then (some (-1)) else (eJ p0 nL1 (i64.wrap ((i64.wrap ((i64.wrap ((i64.wrap (v1+1))+1))+1))+1)) (i64.wrap (v5+1))))))))) else (some v1)
def uA (p0:List M.Instr) (p1:Int):Option Int:=
 eJ p0 fuel p1 0
def gI (p0:List Int):Nat→Int→Int→Option Int
 | 0,_,_=>none
 | nL1+1,v1,v5=>if (decide (v5<(List.length p0:Int)))=true then ((idx p0 v5).bind fun x6=>(if (x6 != v1)=true then (some (-1)) else (gI p0 nL1 (i64.wrap (v1+1)) (i64.wrap (v5+1))))) else (some v1)
def zM (p0:List Int) (p1:Int):Option Int:=
 gI p0 fuel p1 0
def eB (p0:List M.bJ):Nat→Int→Int→Option Int
 | 0,_,_=>none
 | nL1+1,v1,v5=>if (decide (v5<(List.length p0:Int)))=true then ((idx p0 v5).bind fun x6=>(if (x6.Id != v1)=true then (some (-1)) else ((aH (i64.wrap (v1+1))).bind fun x12=>(if (!(x6.Site.toList==x12.toList))=true then (some (-1)) else ((aH (i64.wrap ((i64.wrap (v1+1))+1))).bind fun x15=>(if (!(x6.Top.toList==x15.toList))=true then (some (-1)) else (if (x6.Version != (i64.wrap ((i64.wrap ((i64.wrap (v1+1))+1))+1)))=true then (some (-1)) else ((rO x6.aN (i64.wrap ((i64.wrap ((i64.wrap ((i64.wrap (v1+1))+1))+1))+1))).bind fun x19=>(if (decide (x19<0))=true then (some (-1)) else ((uA x6.Machine.Script x19).bind fun x22=>(if (decide (x22<0))=true then (some (-1)) else (if (x6.Machine.Pc != x22)=true then (some (-1)) else ((zM x6.Machine.Regs (i64.wrap (x22+1))).bind fun x30=>(if (decide (x30<0))=true then (some (-1)) else (if (x6.Machine.Steps != x30)=true then (some (-1)) else (if (!(x6.Machine.Done==((Int.tmod (i64.wrap (x30+1)) 3)==0)))=true then (some (-1)) else (if (!(x6.Machine.Wait==((Int.tmod (i64.wrap ((i64.wrap (x30+1))+1)) 3)==0)))=true then (some (-1)) else (eB p0 nL1 (i64.wrap ((i64.wrap ((i64.wrap (x30+1))+1))+1)) (i64.wrap (v5+1)))))))))))))))))))) else (some v1)
def vV (p0:List M.bJ) (p1:Int):Option Int:=
 eB p0 fuel p1 0
def fQ (p0:List M.dA):Nat→Int→Int→Option Int
 | 0,_,_=>none
 | nL1+1,v1,v5=>if (decide (v5<(List.length p0:Int)))=true then ((idx p0 v5).bind fun x6=>((aH v1).bind fun x11=>(if (!(x6.Name.toList==x11.toList))=true then (some (-1)) else (if (x6.bJ != (i64.wrap (v1+1)))=true then (some (-1)) else (if (!(x6.Shared==((Int.tmod (i64.wrap ((i64.wrap (v1+1))+1)) 3)==0)))=true then (some (-1)) else (if (!(x6.Held==((Int.tmod (i64.wrap ((i64.wrap ((i64.wrap (v1+1))+1))+1)) 3)==0)))=true then (some (-1)) else (fQ p0 nL1 (i64.wrap ((i64.wrap ((i64.wrap ((i64.wrap (v1+1))+1))+1))+1)) (i64.wrap (v5+1))))))))) else (some v1)
def wW (p0:List M.dA) (p1:Int):Option Int:=
 fQ p0 fuel p1 0
def sS (p0:M.aP) (p1:Int):Option Int:=
 (wW p0.Locks p1).bind fun x1=>(if (decide (x1<0))=true then (some (-1)) else (some x1))
def fU (p0:List M.fW):Nat→Int→Int→Option Int
 | 0,_,_=>none
 | nL1+1,v1,v5=>if (decide (v5<(List.length p0:Int)))=true then ((idx p0 v5).bind fun x6=>(if (x6.To != v1)=true then (some (-1)) else (if (x6.From != (i64.wrap (v1+1)))=true then (some (-1)) else (if (x6.N != (i64.wrap ((i64.wrap (v1+1))+1)))=true then (some (-1)) else (fU p0 nL1 (i64.wrap ((i64.wrap ((i64.wrap (v1+1))+1))+1)) (i64.wrap (v5+1))))))) else (some v1)
def xE (p0:List M.fW) (p1:Int):Option Int:=
 fU p0 fuel p1 0
def yP (p0:M.Channel) (p1:Int):Option Int:=
 (xE p0.Mails p1).bind fun x1=>(if (decide (x1<0))=true then (some (-1)) else (some x1))
def dR (p0:List ByteArray):Nat→Int→Int→Option Int
 | 0,_,_=>none
 | nL1+1,v1,v5=>if (decide (v5<(List.length p0:Int)))=true then ((idx p0 v5).bind fun x6=>((aH v1).bind fun x11=>(if (!(x6.toList==x11.toList))=true then (some (-1)) else (dR p0 nL1 (i64.wrap (v1+1)) (i64.wrap (v5+1)))))) else (some v1)
def pW (p0:List ByteArray) (p1:Int):Option Int:=
 dR p0 fuel p1 0
def fI (p0:List M.Site):Nat→Int→Int→Option Int
 | 0,_,_=>none
 | nL1+1,v1,v5=>if (decide (v5<(List.length p0:Int)))=true then ((idx p0 v5).bind fun x6=>((aH v1).bind fun x11=>(if (!(x6.Name.toList==x11.toList))=true then (some (-1)) else (if (x6.Version != (i64.wrap (v1+1)))=true then (some (-1)) else ((pW x6.Files (i64.wrap ((i64.wrap (v1+1))+1))).bind fun x15=>(if (decide (x15<0))=true then (some (-1)) else (if (!(x6.Shared==((Int.tmod x15 3)==0)))=true then (some (-1)) else (fI p0 nL1 (i64.wrap (x15+1)) (i64.wrap (v5+1)))))))))) else (some v1)
def xU (p0:List M.Site) (p1:Int):Option Int:=
 fI p0 fuel p1 0
def dF (p0:List M.aK):Nat→Int→Int→Option Int
 | 0,_,_=>none
 | nL1+1,v1,v5=>if (decide (v5<(List.length p0:Int)))=true then ((idx p0 v5).bind fun x6=>(if (x6.Device != v1)=true then (some (-1)) else (if (x6.Seq != (i64.wrap (v1+1)))=true then (some (-1)) else (dF p0 nL1 (i64.wrap ((i64.wrap (v1+1))+1)) (i64.wrap (v5+1)))))) else (some v1)
def oH (p0:List M.aK) (p1:Int):Option Int:=
 dF p0 fuel p1 0
def cV (p0:List M.Server):Nat→Int→Int→Option Int
 | 0,_,_=>none
 | nL1+1,v1,v5=>if (decide (v5<(List.length p0:Int)))=true then ((idx p0 v5).bind fun x6=>((aH v1).bind fun x11=>(if (!(x6.aJ.Name.toList==x11.toList))=true then (some (-1)) else ((mK x6.aJ.Items (i64.wrap (v1+1))).bind fun x14=>(if (decide (x14<0))=true then (some (-1)) else (if (x6.aJ.Auto != x14)=true then (some (-1)) else ((oH x6.aK (i64.wrap (x14+1))).bind fun x18=>(if (decide (x18<0))=true then (some (-1)) else ((nQ x6.Changes x18).bind fun x21=>(if (decide (x21<0))=true then (some (-1)) else (cV p0 nL1 x21 (i64.wrap (v5+1))))))))))))) else (some v1)
def rY (p0:List M.Server) (p1:Int):Option Int:=
 cV p0 fuel p1 0
def pM (p0:M.World) (p1:Int):Option Int:=
 (yL p0.aC p1).bind fun x1=>(if (decide (x1<0))=true then (some (-1)) else ((vV p0.Pages x1).bind fun x4=>(if (decide (x4<0))=true then (some (-1)) else ((sS p0.Locks x4).bind fun x7=>(if (decide (x7<0))=true then (some (-1)) else ((yP p0.Channel x7).bind fun x10=>(if (decide (x10<0))=true then (some (-1)) else ((xU p0.Sites x10).bind fun x13=>(if (decide (x13<0))=true then (some (-1)) else ((rY p0.Servers x13).bind fun x16=>(if (decide (x16<0))=true then (some (-1)) else (some x16))))))))))))
def kG (p0:M.World) (p1:ByteArray) (p2:ByteArray):Option Bool:=
 if (decide ((p1.size:Int)>1048576))=true then (some true) else (if (decide ((p2.size:Int)>1048576))=true then (some true) else ((aAv p0 1048576).bind fun x3=>(if (decide (x3<0))=true then (some true) else ((nG p0).bind fun x6=>((nY x6 p1 p2).bind fun x8=>((nG p0).bind fun x10=>((kX x10 p1 p2).bind fun x12=>((nE x12.1 x8.1).bind fun x14=>(if (!x14)=true then (some false) else (if (!(x12.2==x8.2))=true then (some false) else ((nG p0).bind fun x18=>((nE x10 x18).bind fun x20=>(if (!x20)=true then (some false) else ((pD x10 1).bind fun x23=>(if (decide (x23.2.2.2.2.2.2<0))=true then (some false) else ((nE x12.1 x8.1).bind fun x50=>(if (!x50)=true then (some false) else ((pD x12.1 1).bind fun x53=>((pM (⟨x12.1.Now,x12.1.Online,x12.1.Device,(⟨x53.1⟩:M.aC),x53.2.1,x12.1.NextPage,(⟨x53.2.2.1⟩:M.aP),(⟨x53.2.2.2.1⟩:M.Channel),x53.2.2.2.2.1,x53.2.2.2.2.2.1⟩:M.World) 1).bind fun x78=>(if (decide (x78<0))=true then (some false) else (if (x78 != x53.2.2.2.2.2.2)=true then (some false) else ((nG p0).bind fun x82=>((kX x82 p1 p2).bind fun x84=>((nE x84.1 x8.1).bind fun x86=>(if (!x86)=true then (some false) else (if (!(x84.2==x8.2))=true then (some false) else ((pM (⟨x12.1.Now,x12.1.Online,x12.1.Device,(⟨x53.1⟩:M.aC),x53.2.1,x12.1.NextPage,(⟨x53.2.2.1⟩:M.aP),(⟨x53.2.2.2.1⟩:M.Channel),x53.2.2.2.2.1,x53.2.2.2.2.2.1⟩:M.World) 1).bind fun x90=>(if (decide (x90<0))=true then (some false) else (if (x90 != x53.2.2.2.2.2.2)=true then (some false) else (some true))))))))))))))))))))))))))))))
end Go.Proofs.YtidhkhdnjonjfaaGreat.gen
