/-
  Helper text. No conditions.
-/
import Derived.Test.YtidhkhdnjonjfaaGreatReadNoteShT
set_option linter.unusedVariables false
set_option linter.unusedSimpArgs false
namespace Go.Proofs.YtidhkhdnjonjfaaGreat.gen
open Go Go.Sh
open Go.IntKind (i64)
structure M.Registration where
 Site:ByteArray
 Installing:Int
 Waiting:Int
 Active:Int
def M.Registration.en (x:M.Registration):List D:=[.str x.Site,.int .i64 x.Installing,.int .i64 x.Waiting,.int .i64 x.Active]
theorem M.Registration.en.fl (l:List M.Registration):(List.map M.Registration.en l).all (fun y=>y.all D.flat)=true:=aBE (fun _=>rfl) l
structure M.Response where
 Type_:Int
 Status:Int
 Version:Int
 Body:List Int
 Shares:Bool
def M.Response.en (x:M.Response):List D:=[.int .i64 x.Type_,.int .i64 x.Status,.int .i64 x.Version,.sl (List.map enB x.Body),.bool x.Shares]
structure M.Cached where
 Site:ByteArray
 Path:ByteArray
 Response:M.Response
def M.Cached.en (x:M.Cached):List D:=[.str x.Site,.str x.Path,.int .i64 x.Response.Type_,.int .i64 x.Response.Status,.int .i64 x.Response.Version,.sl (List.map enB x.Response.Body),.bool x.Response.Shares]
structure M.Cache where
 Version:Int
 Entries:List M.Cached
def M.Cache.en (x:M.Cache):List D:=[.int .i64 x.Version,.sl (List.map M.Cached.en x.Entries)]
structure M.bF where
 Caches:List M.Cache
def M.bF.en (x:M.bF):List D:=[.sl (List.map M.Cache.en x.Caches)]
structure M.Key where
 Kind:Int
 N:Int
 Text:ByteArray
def M.Key.en (x:M.Key):List D:=[.int .i64 x.Kind,.int .i64 x.N,.str x.Text]
theorem M.Key.en.fl (l:List M.Key):(List.map M.Key.en l).all (fun y=>y.all D.flat)=true:=aBE (fun _=>rfl) l
structure M.Field where
 Name:ByteArray
 N:Int
def M.Field.en (x:M.Field):List D:=[.str x.Name,.int .i64 x.N]
theorem M.Field.en.fl (l:List M.Field):(List.map M.Field.en l).all (fun y=>y.all D.flat)=true:=aBE (fun _=>rfl) l
structure M.aA where
 Fields:List M.Field
def M.aA.en (x:M.aA):List D:=[.sl (List.map M.Field.en x.Fields)]
structure M.Item where
 Key:M.Key
 aA:M.aA
def M.Item.en (x:M.Item):List D:=[.int .i64 x.Key.Kind,.int .i64 x.Key.N,.str x.Key.Text,.sl (List.map M.Field.en x.aA.Fields)]
structure M.aC where
 Name:ByteArray
 Items:List M.Item
 Auto:Int
def M.aC.en (x:M.aC):List D:=[.str x.Name,.sl (List.map M.Item.en x.Items),.int .i64 x.Auto]
structure M.aE where
 aC:ByteArray
 Field:ByteArray
def M.aE.en (x:M.aE):List D:=[.str x.aC,.str x.Field]
theorem M.aE.en.fl (l:List M.aE):(List.map M.aE.en l).all (fun y=>y.all D.flat)=true:=aBE (fun _=>rfl) l
structure M.Database where
 Name:ByteArray
 Version:Int
 Stores:List M.aC
 Unique:List M.aE
def M.Database.en (x:M.Database):List D:=[.str x.Name,.int .i64 x.Version,.sl (List.map M.aC.en x.Stores),.sl (List.map M.aE.en x.Unique)]
structure M.fQ where
 Base:M.Database
 Log:List Int
 Count:Int
def M.fQ.en (x:M.fQ):List D:=[.str x.Base.Name,.int .i64 x.Base.Version,.sl (List.map M.aC.en x.Base.Stores),.sl (List.map M.aE.en x.Base.Unique),.sl (List.map enB x.Log),.int .i64 x.Count]
structure M.bM where
 Device:Int
 Seq:Int
 Key:M.Key
 Field:ByteArray
 N:Int
def M.bM.en (x:M.bM):List D:=[.int .i64 x.Device,.int .i64 x.Seq,.int .i64 x.Key.Kind,.int .i64 x.Key.N,.str x.Key.Text,.str x.Field,.int .i64 x.N]
theorem M.bM.en.fl (l:List M.bM):(List.map M.bM.en l).all (fun y=>y.all D.flat)=true:=aBE (fun _=>rfl) l
structure M.bH where
 Device:Int
 Next:Int
 Writes:List M.bM
def M.bH.en (x:M.bH):List D:=[.int .i64 x.Device,.int .i64 x.Next,.sl (List.map M.bM.en x.Writes)]
structure M.Sync where
 bH:M.bH
 Tries:Int
 WaitUntil:Int
def M.Sync.en (x:M.Sync):List D:=[.int .i64 x.bH.Device,.int .i64 x.bH.Next,.sl (List.map M.bM.en x.bH.Writes),.int .i64 x.Tries,.int .i64 x.WaitUntil]
structure M.aK where
 Base:M.aC
 Seen:Int
 Sync:M.Sync
def M.aK.en (x:M.aK):List D:=[.str x.Base.Name,.sl (List.map M.Item.en x.Base.Items),.int .i64 x.Base.Auto,.int .i64 x.Seen,.int .i64 x.Sync.bH.Device,.int .i64 x.Sync.bH.Next,.sl (List.map M.bM.en x.Sync.bH.Writes),.int .i64 x.Sync.Tries,.int .i64 x.Sync.WaitUntil]
structure M.Bucket where
 Site:ByteArray
 Top:ByteArray
 Registration:M.Registration
 Caches:M.bF
 fQ:M.fQ
 aK:M.aK
 LastUsed:Int
 Persistent:Bool
def M.Bucket.en (x:M.Bucket):List D:=[.str x.Site,.str x.Top,.str x.Registration.Site,.int .i64 x.Registration.Installing,.int .i64 x.Registration.Waiting,.int .i64 x.Registration.Active,.sl (List.map M.Cache.en x.Caches.Caches),.str x.fQ.Base.Name,.int .i64 x.fQ.Base.Version,.sl (List.map M.aC.en x.fQ.Base.Stores),.sl (List.map M.aE.en x.fQ.Base.Unique),.sl (List.map enB x.fQ.Log),.int .i64 x.fQ.Count,.str x.aK.Base.Name,.sl (List.map M.Item.en x.aK.Base.Items),.int .i64 x.aK.Base.Auto,.int .i64 x.aK.Seen,.int .i64 x.aK.Sync.bH.Device,.int .i64 x.aK.Sync.bH.Next,.sl (List.map M.bM.en x.aK.Sync.bH.Writes),.int .i64 x.aK.Sync.Tries,.int .i64 x.aK.Sync.WaitUntil,.int .i64 x.LastUsed,.bool x.Persistent]
structure M.aM where
 Buckets:List M.Bucket
def M.aM.en (x:M.aM):List D:=[.sl (List.map M.Bucket.en x.Buckets)]
structure M.aT where
 Path:ByteArray
 Version:Int
def M.aT.en (x:M.aT):List D:=[.str x.Path,.int .i64 x.Version]
theorem M.aT.en.fl (l:List M.aT):(List.map M.aT.en l).all (fun y=>y.all D.flat)=true:=aBE (fun _=>rfl) l
structure M.Instr where
 Kind:Int
 R:Int
 N:Int
 Text:ByteArray
def M.Instr.en (x:M.Instr):List D:=[.int .i64 x.Kind,.int .i64 x.R,.int .i64 x.N,.str x.Text]
theorem M.Instr.en.fl (l:List M.Instr):(List.map M.Instr.en l).all (fun y=>y.all D.flat)=true:=aBE (fun _=>rfl) l
structure M.Machine where
 Script:List M.Instr
 Pc:Int
 Regs:List Int
 Steps:Int
 Done:Bool
 Wait:Bool
def M.Machine.en (x:M.Machine):List D:=[.sl (List.map M.Instr.en x.Script),.int .i64 x.Pc,.sl (List.map enI x.Regs),.int .i64 x.Steps,.bool x.Done,.bool x.Wait]
structure M.gX where
 Id:Int
 Site:ByteArray
 Top:ByteArray
 Version:Int
 aT:List M.aT
 Machine:M.Machine
def M.gX.en (x:M.gX):List D:=[.int .i64 x.Id,.str x.Site,.str x.Top,.int .i64 x.Version,.sl (List.map M.aT.en x.aT),.sl (List.map M.Instr.en x.Machine.Script),.int .i64 x.Machine.Pc,.sl (List.map enI x.Machine.Regs),.int .i64 x.Machine.Steps,.bool x.Machine.Done,.bool x.Machine.Wait]
structure M.kI where
 Name:ByteArray
 gX:Int
 Shared:Bool
 Held:Bool
def M.kI.en (x:M.kI):List D:=[.str x.Name,.int .i64 x.gX,.bool x.Shared,.bool x.Held]
theorem M.kI.en.fl (l:List M.kI):(List.map M.kI.en l).all (fun y=>y.all D.flat)=true:=aBE (fun _=>rfl) l
structure M.bA where
 Locks:List M.kI
def M.bA.en (x:M.bA):List D:=[.sl (List.map M.kI.en x.Locks)]
structure M.pC where
 To:Int
 From:Int
 N:Int
def M.pC.en (x:M.pC):List D:=[.int .i64 x.To,.int .i64 x.From,.int .i64 x.N]
theorem M.pC.en.fl (l:List M.pC):(List.map M.pC.en l).all (fun y=>y.all D.flat)=true:=aBE (fun _=>rfl) l
structure M.Channel where
 Mails:List M.pC
def M.Channel.en (x:M.Channel):List D:=[.sl (List.map M.pC.en x.Mails)]
structure M.Site where
 Name:ByteArray
 Version:Int
 Files:List ByteArray
 Shared:Bool
def M.Site.en (x:M.Site):List D:=[.str x.Name,.int .i64 x.Version,.sl (List.map enS x.Files),.bool x.Shared]
structure M.aO where
 Device:Int
 Seq:Int
def M.aO.en (x:M.aO):List D:=[.int .i64 x.Device,.int .i64 x.Seq]
theorem M.aO.en.fl (l:List M.aO):(List.map M.aO.en l).all (fun y=>y.all D.flat)=true:=aBE (fun _=>rfl) l
structure M.Server where
 aC:M.aC
 aO:List M.aO
 Changes:List M.bM
def M.Server.en (x:M.Server):List D:=[.str x.aC.Name,.sl (List.map M.Item.en x.aC.Items),.int .i64 x.aC.Auto,.sl (List.map M.aO.en x.aO),.sl (List.map M.bM.en x.Changes)]
structure M.World where
 Now:Int
 Online:Bool
 Device:Int
 aM:M.aM
 Pages:List M.gX
 NextPage:Int
 Locks:M.bA
 Channel:M.Channel
 Sites:List M.Site
 Servers:List M.Server
def M.World.en (x:M.World):List D:=[.int .i64 x.Now,.bool x.Online,.int .i64 x.Device,.sl (List.map M.Bucket.en x.aM.Buckets),.sl (List.map M.gX.en x.Pages),.int .i64 x.NextPage,.sl (List.map M.kI.en x.Locks.Locks),.sl (List.map M.pC.en x.Channel.Mails),.sl (List.map M.Site.en x.Sites),.sl (List.map M.Server.en x.Servers)]
structure M.Op where
 Kind:Int
 aC:ByteArray
 Key:M.Key
 aA:M.aA
 Field:ByteArray
def M.Op.en (x:M.Op):List D:=[.int .i64 x.Kind,.str x.aC,.int .i64 x.Key.Kind,.int .i64 x.Key.N,.str x.Key.Text,.sl (List.map M.Field.en x.aA.Fields),.str x.Field]
structure M.bU where
 HasLow:Bool
 HasHigh:Bool
 Low:M.Key
 High:M.Key
def M.bU.en (x:M.bU):List D:=[.bool x.HasLow,.bool x.HasHigh,.int .i64 x.Low.Kind,.int .i64 x.Low.N,.str x.Low.Text,.int .i64 x.High.Kind,.int .i64 x.High.N,.str x.High.Text]
theorem M.bU.en.fl (l:List M.bU):(List.map M.bU.en l).all (fun y=>y.all D.flat)=true:=aBE (fun _=>rfl) l
def gW (p0:M.Registration) (p1:Int):Option Int:=
 if (decide ((i64.wrap (p1-(p0.Site.size:Int)))<0))=true then (some (-1)) else (some (i64.wrap (p1-(p0.Site.size:Int))))
def oQ (p0:List Int) (p1:Int):Option Int:=
 if (decide ((i64.wrap (p1-(List.length p0:Int)))<0))=true then (some (-1)) else (some (i64.wrap (p1-(List.length p0:Int))))
def mF (p0:M.Response) (p1:Int):Option Int:=
 (oQ p0.Body p1).bind fun x1=>(if (decide (x1<0))=true then (some (-1)) else (some x1))
def pK (p0:M.Cached) (p1:Int):Option Int:=
 if (decide ((i64.wrap (p1-(p0.Site.size:Int)))<0))=true then (some (-1)) else (if (decide ((i64.wrap ((i64.wrap (p1-(p0.Site.size:Int)))-(p0.Path.size:Int)))<0))=true then (some (-1)) else ((mF p0.Response (i64.wrap ((i64.wrap (p1-(p0.Site.size:Int)))-(p0.Path.size:Int)))).bind fun x3=>(if (decide (x3<0))=true then (some (-1)) else (some x3))))
def mW (p0:List M.Cached):Nat→Int→Int→Option Int
 | 0,_,_=>none
 | nL1+1,v1,v5=>if (decide (v5<(List.length p0:Int)))=true then ((idx p0 v5).bind fun x7=>((pK x7 v1).bind fun x12=>(if (decide (x12<0))=true then (some (-1)) else (mW p0 nL1 x12 (i64.wrap (v5+1)))))) else (some v1)
def nM (p0:List M.Cached) (p1:Int):Option Int:=
 if (decide ((i64.wrap (p1-(List.length p0:Int)))<0))=true then (some (-1)) else (mW p0 fuel (i64.wrap (p1-(List.length p0:Int))) 0)
def uE (p0:M.Cache) (p1:Int):Option Int:=
 (nM p0.Entries p1).bind fun x1=>(if (decide (x1<0))=true then (some (-1)) else (some x1))
def oZ (p0:List M.Cache):Nat→Int→Int→Option Int
 | 0,_,_=>none
 | nL1+1,v1,v5=>if (decide (v5<(List.length p0:Int)))=true then ((idx p0 v5).bind fun x7=>((uE x7 v1).bind fun x12=>(if (decide (x12<0))=true then (some (-1)) else (oZ p0 nL1 x12 (i64.wrap (v5+1)))))) else (some v1)
def rQ (p0:List M.Cache) (p1:Int):Option Int:=
 if (decide ((i64.wrap (p1-(List.length p0:Int)))<0))=true then (some (-1)) else (oZ p0 fuel (i64.wrap (p1-(List.length p0:Int))) 0)
def mT (p0:M.bF) (p1:Int):Option Int:=
 (rQ p0.Caches p1).bind fun x1=>(if (decide (x1<0))=true then (some (-1)) else (some x1))
def vG (p0:M.Key) (p1:Int):Option Int:=
 if (decide ((i64.wrap (p1-(p0.Text.size:Int)))<0))=true then (some (-1)) else (some (i64.wrap (p1-(p0.Text.size:Int))))
def tW (p0:M.Field) (p1:Int):Option Int:=
 if (decide ((i64.wrap (p1-(p0.Name.size:Int)))<0))=true then (some (-1)) else (some (i64.wrap (p1-(p0.Name.size:Int))))
def oV (p0:List M.Field):Nat→Int→Int→Option Int
 | 0,_,_=>none
 | nL1+1,v1,v5=>if (decide (v5<(List.length p0:Int)))=true then ((idx p0 v5).bind fun x7=>((tW x7 v1).bind fun x12=>(if (decide (x12<0))=true then (some (-1)) else (oV p0 nL1 x12 (i64.wrap (v5+1)))))) else (some v1)
def pI (p0:List M.Field) (p1:Int):Option Int:=
 if (decide ((i64.wrap (p1-(List.length p0:Int)))<0))=true then (some (-1)) else (oV p0 fuel (i64.wrap (p1-(List.length p0:Int))) 0)
def rP (p0:M.aA) (p1:Int):Option Int:=
 (pI p0.Fields p1).bind fun x1=>(if (decide (x1<0))=true then (some (-1)) else (some x1))
def wD (p0:M.Item) (p1:Int):Option Int:=
 (vG p0.Key p1).bind fun x1=>(if (decide (x1<0))=true then (some (-1)) else ((rP p0.aA x1).bind fun x4=>(if (decide (x4<0))=true then (some (-1)) else (some x4))))
def sL (p0:List M.Item):Nat→Int→Int→Option Int
 | 0,_,_=>none
 | nL1+1,v1,v5=>if (decide (v5<(List.length p0:Int)))=true then ((idx p0 v5).bind fun x7=>((wD x7 v1).bind fun x12=>(if (decide (x12<0))=true then (some (-1)) else (sL p0 nL1 x12 (i64.wrap (v5+1)))))) else (some v1)
def uM (p0:List M.Item) (p1:Int):Option Int:=
 if (decide ((i64.wrap (p1-(List.length p0:Int)))<0))=true then (some (-1)) else (sL p0 fuel (i64.wrap (p1-(List.length p0:Int))) 0)
def lI (p0:M.aC) (p1:Int):Option Int:=
 if (decide ((i64.wrap (p1-(p0.Name.size:Int)))<0))=true then (some (-1)) else ((uM p0.Items (i64.wrap (p1-(p0.Name.size:Int)))).bind fun x2=>(if (decide (x2<0))=true then (some (-1)) else (some x2)))
def pA (p0:List M.aC):Nat→Int→Int→Option Int
 | 0,_,_=>none
 | nL1+1,v1,v5=>if (decide (v5<(List.length p0:Int)))=true then ((idx p0 v5).bind fun x7=>((lI x7 v1).bind fun x12=>(if (decide (x12<0))=true then (some (-1)) else (pA p0 nL1 x12 (i64.wrap (v5+1)))))) else (some v1)
def rE (p0:List M.aC) (p1:Int):Option Int:=
 if (decide ((i64.wrap (p1-(List.length p0:Int)))<0))=true then (some (-1)) else (pA p0 fuel (i64.wrap (p1-(List.length p0:Int))) 0)
def lV (p0:M.aE) (p1:Int):Option Int:=
 if (decide ((i64.wrap (p1-(p0.aC.size:Int)))<0))=true then (some (-1)) else (if (decide ((i64.wrap ((i64.wrap (p1-(p0.aC.size:Int)))-(p0.Field.size:Int)))<0))=true then (some (-1)) else (some (i64.wrap ((i64.wrap (p1-(p0.aC.size:Int)))-(p0.Field.size:Int)))))
def kN (p0:List M.aE):Nat→Int→Int→Option Int
 | 0,_,_=>none
 | nL1+1,v1,v5=>if (decide (v5<(List.length p0:Int)))=true then ((idx p0 v5).bind fun x7=>((lV x7 v1).bind fun x12=>(if (decide (x12<0))=true then (some (-1)) else (kN p0 nL1 x12 (i64.wrap (v5+1)))))) else (some v1)
def kR (p0:List M.aE) (p1:Int):Option Int:=
 if (decide ((i64.wrap (p1-(List.length p0:Int)))<0))=true then (some (-1)) else (kN p0 fuel (i64.wrap (p1-(List.length p0:Int))) 0)
def mN (p0:M.Database) (p1:Int):Option Int:=
 if (decide ((i64.wrap (p1-(p0.Name.size:Int)))<0))=true then (some (-1)) else ((rE p0.Stores (i64.wrap (p1-(p0.Name.size:Int)))).bind fun x2=>(if (decide (x2<0))=true then (some (-1)) else ((kR p0.Unique x2).bind fun x5=>(if (decide (x5<0))=true then (some (-1)) else (some x5)))))
def vJ (p0:M.fQ) (p1:Int):Option Int:=
 (mN p0.Base p1).bind fun x1=>(if (decide (x1<0))=true then (some (-1)) else ((oQ p0.Log x1).bind fun x4=>(if (decide (x4<0))=true then (some (-1)) else (some x4))))
def uC (p0:M.bM) (p1:Int):Option Int:=
 (vG p0.Key p1).bind fun x1=>(if (decide (x1<0))=true then (some (-1)) else (if (decide ((i64.wrap (x1-(p0.Field.size:Int)))<0))=true then (some (-1)) else (some (i64.wrap (x1-(p0.Field.size:Int))))))
def oY (p0:List M.bM):Nat→Int→Int→Option Int
 | 0,_,_=>none
 | nL1+1,v1,v5=>if (decide (v5<(List.length p0:Int)))=true then ((idx p0 v5).bind fun x7=>((uC x7 v1).bind fun x12=>(if (decide (x12<0))=true then (some (-1)) else (oY p0 nL1 x12 (i64.wrap (v5+1)))))) else (some v1)
def mG (p0:List M.bM) (p1:Int):Option Int:=
 if (decide ((i64.wrap (p1-(List.length p0:Int)))<0))=true then (some (-1)) else (oY p0 fuel (i64.wrap (p1-(List.length p0:Int))) 0)
def pX (p0:M.bH) (p1:Int):Option Int:=
 (mG p0.Writes p1).bind fun x1=>(if (decide (x1<0))=true then (some (-1)) else (some x1))
def wP (p0:M.Sync) (p1:Int):Option Int:=
 (pX p0.bH p1).bind fun x1=>(if (decide (x1<0))=true then (some (-1)) else (some x1))
def oI (p0:M.aK) (p1:Int):Option Int:=
 (lI p0.Base p1).bind fun x1=>(if (decide (x1<0))=true then (some (-1)) else ((wP p0.Sync x1).bind fun x4=>(if (decide (x4<0))=true then (some (-1)) else (some x4))))
def rU (p0:M.Bucket) (p1:Int):Option Int:=
 if (decide ((i64.wrap (p1-(p0.Site.size:Int)))<0))=true then (some (-1)) else (if (decide ((i64.wrap ((i64.wrap (p1-(p0.Site.size:Int)))-(p0.Top.size:Int)))<0))=true then (some (-1)) else ((gW p0.Registration (i64.wrap ((i64.wrap (p1-(p0.Site.size:Int)))-(p0.Top.size:Int)))).bind fun x3=>(if (decide (x3<0))=true then (some (-1)) else ((mT p0.Caches x3).bind fun x6=>(if (decide (x6<0))=true then (some (-1)) else ((vJ p0.fQ x6).bind fun x9=>(if (decide (x9<0))=true then (some (-1)) else ((oI p0.aK x9).bind fun x12=>(if (decide (x12<0))=true then (some (-1)) else (some x12))))))))))
def nD (p0:List M.Bucket):Nat→Int→Int→Option Int
 | 0,_,_=>none
 | nL1+1,v1,v5=>if (decide (v5<(List.length p0:Int)))=true then ((idx p0 v5).bind fun x7=>((rU x7 v1).bind fun x12=>(if (decide (x12<0))=true then (some (-1)) else (nD p0 nL1 x12 (i64.wrap (v5+1)))))) else (some v1)
def nP (p0:List M.Bucket) (p1:Int):Option Int:=
 if (decide ((i64.wrap (p1-(List.length p0:Int)))<0))=true then (some (-1)) else (nD p0 fuel (i64.wrap (p1-(List.length p0:Int))) 0)
def nH (p0:M.aM) (p1:Int):Option Int:=
 (nP p0.Buckets p1).bind fun x1=>(if (decide (x1<0))=true then (some (-1)) else (some x1))
def pL (p0:M.aT) (p1:Int):Option Int:=
 if (decide ((i64.wrap (p1-(p0.Path.size:Int)))<0))=true then (some (-1)) else (some (i64.wrap (p1-(p0.Path.size:Int))))
def nC (p0:List M.aT):Nat→Int→Int→Option Int
 | 0,_,_=>none
 | nL1+1,v1,v5=>if (decide (v5<(List.length p0:Int)))=true then ((idx p0 v5).bind fun x7=>((pL x7 v1).bind fun x12=>(if (decide (x12<0))=true then (some (-1)) else (nC p0 nL1 x12 (i64.wrap (v5+1)))))) else (some v1)
def nQ (p0:List M.aT) (p1:Int):Option Int:=
 if (decide ((i64.wrap (p1-(List.length p0:Int)))<0))=true then (some (-1)) else (nC p0 fuel (i64.wrap (p1-(List.length p0:Int))) 0)
def tA (p0:M.Instr) (p1:Int):Option Int:=
 if (decide ((i64.wrap (p1-(p0.Text.size:Int)))<0))=true then (some (-1)) else (some (i64.wrap (p1-(p0.Text.size:Int))))
def pB (p0:List M.Instr):Nat→Int→Int→Option Int
 | 0,_,_=>none
 | nL1+1,v1,v5=>if (decide (v5<(List.length p0:Int)))=true then ((idx p0 v5).bind fun x7=>((tA x7 v1).bind fun x12=>(if (decide (x12<0))=true then (some (-1)) else (pB p0 nL1 x12 (i64.wrap (v5+1)))))) else (some v1)
def rJ (p0:List M.Instr) (p1:Int):Option Int:=
 if (decide ((i64.wrap (p1-(List.length p0:Int)))<0))=true then (some (-1)) else (pB p0 fuel (i64.wrap (p1-(List.length p0:Int))) 0)
def wI (p0:List Int) (p1:Int):Option Int:=
 if (decide ((i64.wrap (p1-(List.length p0:Int)))<0))=true then (some (-1)) else (some (i64.wrap (p1-(List.length p0:Int))))
def oL (p0:M.Machine) (p1:Int):Option Int:=
 (rJ p0.Script p1).bind fun x1=>(if (decide (x1<0))=true then (some (-1)) else ((wI p0.Regs x1).bind fun x4=>(if (decide (x4<0))=true then (some (-1)) else (some x4))))
def sN (p0:M.gX) (p1:Int):Option Int:=
 if (decide ((i64.wrap (p1-(p0.Site.size:Int)))<0))=true then (some (-1)) else (if (decide ((i64.wrap ((i64.wrap (p1-(p0.Site.size:Int)))-(p0.Top.size:Int)))<0))=true then (some (-1)) else ((nQ p0.aT (i64.wrap ((i64.wrap (p1-(p0.Site.size:Int)))-(p0.Top.size:Int)))).bind fun x3=>(if (decide (x3<0))=true then (some (-1)) else ((oL p0.Machine x3).bind fun x6=>(if (decide (x6<0))=true then (some (-1)) else (some x6))))))
def sO (p0:List M.gX):Nat→Int→Int→Option Int
 | 0,_,_=>none
 | nL1+1,v1,v5=>if (decide (v5<(List.length p0:Int)))=true then ((idx p0 v5).bind fun x7=>((sN x7 v1).bind fun x12=>(if (decide (x12<0))=true then (some (-1)) else (sO p0 nL1 x12 (i64.wrap (v5+1)))))) else (some v1)
def tP (p0:List M.gX) (p1:Int):Option Int:=
 if (decide ((i64.wrap (p1-(List.length p0:Int)))<0))=true then (some (-1)) else (sO p0 fuel (i64.wrap (p1-(List.length p0:Int))) 0)
def wQ (p0:M.kI) (p1:Int):Option Int:=
 if (decide ((i64.wrap (p1-(p0.Name.size:Int)))<0))=true then (some (-1)) else (some (i64.wrap (p1-(p0.Name.size:Int))))
def sK (p0:List M.kI):Nat→Int→Int→Option Int
 | 0,_,_=>none
 | nL1+1,v1,v5=>if (decide (v5<(List.length p0:Int)))=true then ((idx p0 v5).bind fun x7=>((wQ x7 v1).bind fun x12=>(if (decide (x12<0))=true then (some (-1)) else (sK p0 nL1 x12 (i64.wrap (v5+1)))))) else (some v1)
def tM (p0:List M.kI) (p1:Int):Option Int:=
 if (decide ((i64.wrap (p1-(List.length p0:Int)))<0))=true then (some (-1)) else (sK p0 fuel (i64.wrap (p1-(List.length p0:Int))) 0)
def kT (p0:M.bA) (p1:Int):Option Int:=
 (tM p0.Locks p1).bind fun x1=>(if (decide (x1<0))=true then (some (-1)) else (some x1))
def tX (p0:List M.pC) (p1:Int):Option Int:=
 if (decide ((i64.wrap (p1-(List.length p0:Int)))<0))=true then (some (-1)) else (some (i64.wrap (p1-(List.length p0:Int))))
def oG (p0:M.Channel) (p1:Int):Option Int:=
 (tX p0.Mails p1).bind fun x1=>(if (decide (x1<0))=true then (some (-1)) else (some x1))
def nB (p0:List ByteArray):Nat→Int→Int→Option Int
 | 0,_,_=>none
 | nL1+1,v1,v5=>if (decide (v5<(List.length p0:Int)))=true then ((idx p0 v5).bind fun x7=>(if (decide ((i64.wrap (v1-(x7.size:Int)))<0))=true then (some (-1)) else (nB p0 nL1 (i64.wrap (v1-(x7.size:Int))) (i64.wrap (v5+1))))) else (some v1)
def nE (p0:List ByteArray) (p1:Int):Option Int:=
 if (decide ((i64.wrap (p1-(List.length p0:Int)))<0))=true then (some (-1)) else (nB p0 fuel (i64.wrap (p1-(List.length p0:Int))) 0)
def vT (p0:M.Site) (p1:Int):Option Int:=
 if (decide ((i64.wrap (p1-(p0.Name.size:Int)))<0))=true then (some (-1)) else ((nE p0.Files (i64.wrap (p1-(p0.Name.size:Int)))).bind fun x2=>(if (decide (x2<0))=true then (some (-1)) else (some x2)))
def sH (p0:List M.Site):Nat→Int→Int→Option Int
 | 0,_,_=>none
 | nL1+1,v1,v5=>if (decide (v5<(List.length p0:Int)))=true then ((idx p0 v5).bind fun x7=>((vT x7 v1).bind fun x12=>(if (decide (x12<0))=true then (some (-1)) else (sH p0 nL1 x12 (i64.wrap (v5+1)))))) else (some v1)
def uO (p0:List M.Site) (p1:Int):Option Int:=
 if (decide ((i64.wrap (p1-(List.length p0:Int)))<0))=true then (some (-1)) else (sH p0 fuel (i64.wrap (p1-(List.length p0:Int))) 0)
def mE (p0:List M.aO) (p1:Int):Option Int:=
 if (decide ((i64.wrap (p1-(List.length p0:Int)))<0))=true then (some (-1)) else (some (i64.wrap (p1-(List.length p0:Int))))
def pG (p0:M.Server) (p1:Int):Option Int:=
 (lI p0.aC p1).bind fun x1=>(if (decide (x1<0))=true then (some (-1)) else ((mE p0.aO x1).bind fun x4=>(if (decide (x4<0))=true then (some (-1)) else ((mG p0.Changes x4).bind fun x7=>(if (decide (x7<0))=true then (some (-1)) else (some x7))))))
def mX (p0:List M.Server):Nat→Int→Int→Option Int
 | 0,_,_=>none
 | nL1+1,v1,v5=>if (decide (v5<(List.length p0:Int)))=true then ((idx p0 v5).bind fun x7=>((pG x7 v1).bind fun x12=>(if (decide (x12<0))=true then (some (-1)) else (mX p0 nL1 x12 (i64.wrap (v5+1)))))) else (some v1)
def oP (p0:List M.Server) (p1:Int):Option Int:=
 if (decide ((i64.wrap (p1-(List.length p0:Int)))<0))=true then (some (-1)) else (mX p0 fuel (i64.wrap (p1-(List.length p0:Int))) 0)
def tT (p0:M.World) (p1:Int):Option Int:=
 (nH p0.aM p1).bind fun x1=>(if (decide (x1<0))=true then (some (-1)) else ((tP p0.Pages x1).bind fun x4=>(if (decide (x4<0))=true then (some (-1)) else ((kT p0.Locks x4).bind fun x7=>(if (decide (x7<0))=true then (some (-1)) else ((oG p0.Channel x7).bind fun x10=>(if (decide (x10<0))=true then (some (-1)) else ((uO p0.Sites x10).bind fun x13=>(if (decide (x13<0))=true then (some (-1)) else ((oP p0.Servers x13).bind fun x16=>(if (decide (x16<0))=true then (some (-1)) else (some x16))))))))))))
def gY (p0:M.Registration):Option M.Registration:=
 some p0
def jI (p0:List Int):Nat→Int→List Int→Option (List Int)
 | 0,_,_=>none
 | nL1+1,v4,r7=>if (decide (v4<(List.length p0:Int)))=true then ((idx p0 v4).bind fun x13=>((idx r7 v4).bind fun x18=>(jI p0 nL1 (i64.wrap (v4+1)) (List.set r7 v4.toNat x13)))) else (some r7)
def oR (p0:List Int):Option (List Int):=
 (mkL 1 (List.length p0:Int) 0).bind fun x1=>(jI p0 fuel 0 (List.replicate (List.length p0:Int).toNat 0))
def lZ (p0:M.Response):Option M.Response:=
 (oR p0.Body).bind fun x1=>(some (⟨p0.Type_,p0.Status,p0.Version,x1,p0.Shares⟩:M.Response))
def rC (p0:M.Cached):Option M.Cached:=
 (lZ p0.Response).bind fun x1=>(some (⟨p0.Site,p0.Path,x1⟩:M.Cached))
def gB (p0:List M.Cached):Nat→Int→List M.Cached→Option (List M.Cached)
 | 0,_,_=>none
 | nL1+1,v4,r7=>if (decide (v4<(List.length p0:Int)))=true then ((idx p0 v4).bind fun x13=>((rC x13).bind fun x18=>((idx r7 v4).bind fun x20=>(gB p0 nL1 (i64.wrap (v4+1)) (List.set r7 v4.toNat x18))))) else (some r7)
def nX (p0:List M.Cached):Option (List M.Cached):=
 (mkL 88 (List.length p0:Int) (⟨(⟨#[]⟩:ByteArray),(⟨#[]⟩:ByteArray),(⟨0,0,0,([]:List Int),false⟩:M.Response)⟩:M.Cached)).bind fun x1=>(gB p0 fuel 0 (List.replicate (List.length p0:Int).toNat (⟨(⟨#[]⟩:ByteArray),(⟨#[]⟩:ByteArray),(⟨0,0,0,([]:List Int),false⟩:M.Response)⟩:M.Cached)))
def tK (p0:M.Cache):Option M.Cache:=
 (nX p0.Entries).bind fun x1=>(some (⟨p0.Version,x1⟩:M.Cache))
def iG (p0:List M.Cache):Nat→Int→List M.Cache→Option (List M.Cache)
 | 0,_,_=>none
 | nL1+1,v4,r7=>if (decide (v4<(List.length p0:Int)))=true then ((idx p0 v4).bind fun x13=>((tK x13).bind fun x18=>((idx r7 v4).bind fun x20=>(iG p0 nL1 (i64.wrap (v4+1)) (List.set r7 v4.toNat x18))))) else (some r7)
def rH (p0:List M.Cache):Option (List M.Cache):=
 (mkL 32 (List.length p0:Int) (⟨0,([]:List M.Cached)⟩:M.Cache)).bind fun x1=>(iG p0 fuel 0 (List.replicate (List.length p0:Int).toNat (⟨0,([]:List M.Cached)⟩:M.Cache)))
def mD (p0:M.bF):Option M.bF:=
 (rH p0.Caches).bind fun x1=>(some (⟨x1⟩:M.bF))
def vC (p0:M.Key):Option M.Key:=
 some p0
def uG (p0:M.Field):Option M.Field:=
 some p0
def hT (p0:List M.Field):Nat→Int→List M.Field→Option (List M.Field)
 | 0,_,_=>none
 | nL1+1,v4,r7=>if (decide (v4<(List.length p0:Int)))=true then ((idx p0 v4).bind fun x13=>((uG x13).bind fun x18=>((idx r7 v4).bind fun x20=>(hT p0 nL1 (i64.wrap (v4+1)) (List.set r7 v4.toNat x18))))) else (some r7)
def rV (p0:List M.Field):Option (List M.Field):=
 (mkL 24 (List.length p0:Int) (⟨(⟨#[]⟩:ByteArray),0⟩:M.Field)).bind fun x1=>(hT p0 fuel 0 (List.replicate (List.length p0:Int).toNat (⟨(⟨#[]⟩:ByteArray),0⟩:M.Field)))
def pY (p0:M.aA):Option M.aA:=
 (rV p0.Fields).bind fun x1=>(some (⟨x1⟩:M.aA))
def vK (p0:M.Item):Option M.Item:=
 (vC p0.Key).bind fun x1=>((pY p0.aA).bind fun x3=>(some (⟨x1,x3⟩:M.Item)))
def jM (p0:List M.Item):Nat→Int→List M.Item→Option (List M.Item)
 | 0,_,_=>none
 | nL1+1,v4,r7=>if (decide (v4<(List.length p0:Int)))=true then ((idx p0 v4).bind fun x13=>((vK x13).bind fun x18=>((idx r7 v4).bind fun x20=>(jM p0 nL1 (i64.wrap (v4+1)) (List.set r7 v4.toNat x18))))) else (some r7)
def tJ (p0:List M.Item):Option (List M.Item):=
 (mkL 56 (List.length p0:Int) (⟨(⟨0,0,(⟨#[]⟩:ByteArray)⟩:M.Key),(⟨([]:List M.Field)⟩:M.aA)⟩:M.Item)).bind fun x1=>(jM p0 fuel 0 (List.replicate (List.length p0:Int).toNat (⟨(⟨0,0,(⟨#[]⟩:ByteArray)⟩:M.Key),(⟨([]:List M.Field)⟩:M.aA)⟩:M.Item)))
def lQ (p0:M.aC):Option M.aC:=
 (tJ p0.Items).bind fun x1=>(some (⟨p0.Name,x1,p0.Auto⟩:M.aC))
def iD (p0:List M.aC):Nat→Int→List M.aC→Option (List M.aC)
 | 0,_,_=>none
 | nL1+1,v4,r7=>if (decide (v4<(List.length p0:Int)))=true then ((idx p0 v4).bind fun x13=>((lQ x13).bind fun x18=>((idx r7 v4).bind fun x20=>(iD p0 nL1 (i64.wrap (v4+1)) (List.set r7 v4.toNat x18))))) else (some r7)
def pQ (p0:List M.aC):Option (List M.aC):=
 (mkL 48 (List.length p0:Int) (⟨(⟨#[]⟩:ByteArray),([]:List M.Item),0⟩:M.aC)).bind fun x1=>(iD p0 fuel 0 (List.replicate (List.length p0:Int).toNat (⟨(⟨#[]⟩:ByteArray),([]:List M.Item),0⟩:M.aC)))
def mO (p0:M.aE):Option M.aE:=
 some p0
def eX (p0:List M.aE):Nat→Int→List M.aE→Option (List M.aE)
 | 0,_,_=>none
 | nL1+1,v4,r7=>if (decide (v4<(List.length p0:Int)))=true then ((idx p0 v4).bind fun x13=>((mO x13).bind fun x18=>((idx r7 v4).bind fun x20=>(eX p0 nL1 (i64.wrap (v4+1)) (List.set r7 v4.toNat x18))))) else (some r7)
def kY (p0:List M.aE):Option (List M.aE):=
 (mkL 32 (List.length p0:Int) (⟨(⟨#[]⟩:ByteArray),(⟨#[]⟩:ByteArray)⟩:M.aE)).bind fun x1=>(eX p0 fuel 0 (List.replicate (List.length p0:Int).toNat (⟨(⟨#[]⟩:ByteArray),(⟨#[]⟩:ByteArray)⟩:M.aE)))
def lT (p0:M.Database):Option M.Database:=
 (pQ p0.Stores).bind fun x1=>((kY p0.Unique).bind fun x3=>(some (⟨p0.Name,p0.Version,x1,x3⟩:M.Database)))
def wM (p0:M.fQ):Option M.fQ:=
 (lT p0.Base).bind fun x1=>((oR p0.Log).bind fun x3=>(some (⟨x1,x3,p0.Count⟩:M.fQ)))
def tU (p0:M.bM):Option M.bM:=
 (vC p0.Key).bind fun x1=>(some (⟨p0.Device,p0.Seq,x1,p0.Field,p0.N⟩:M.bM))
def iJ (p0:List M.bM):Nat→Int→List M.bM→Option (List M.bM)
 | 0,_,_=>none
 | nL1+1,v4,r7=>if (decide (v4<(List.length p0:Int)))=true then ((idx p0 v4).bind fun x13=>((tU x13).bind fun x18=>((idx r7 v4).bind fun x20=>(iJ p0 nL1 (i64.wrap (v4+1)) (List.set r7 v4.toNat x18))))) else (some r7)
def mH (p0:List M.bM):Option (List M.bM):=
 (mkL 72 (List.length p0:Int) (⟨0,0,(⟨0,0,(⟨#[]⟩:ByteArray)⟩:M.Key),(⟨#[]⟩:ByteArray),0⟩:M.bM)).bind fun x1=>(iJ p0 fuel 0 (List.replicate (List.length p0:Int).toNat (⟨0,0,(⟨0,0,(⟨#[]⟩:ByteArray)⟩:M.Key),(⟨#[]⟩:ByteArray),0⟩:M.bM)))
def pJ (p0:M.bH):Option M.bH:=
 (mH p0.Writes).bind fun x1=>(some (⟨p0.Device,p0.Next,x1⟩:M.bH))
def wH (p0:M.Sync):Option M.Sync:=
 (pJ p0.bH).bind fun x1=>(some (⟨x1,p0.Tries,p0.WaitUntil⟩:M.Sync))
def nY (p0:M.aK):Option M.aK:=
 (lQ p0.Base).bind fun x1=>((wH p0.Sync).bind fun x3=>(some (⟨x1,p0.Seen,x3⟩:M.aK)))
def rK (p0:M.Bucket):Option M.Bucket:=
 (gY p0.Registration).bind fun x1=>((mD p0.Caches).bind fun x3=>((wM p0.fQ).bind fun x5=>((nY p0.aK).bind fun x7=>(some (⟨p0.Site,p0.Top,x1,x3,x5,x7,p0.LastUsed,p0.Persistent⟩:M.Bucket)))))
def gQ (p0:List M.Bucket):Nat→Int→List M.Bucket→Option (List M.Bucket)
 | 0,_,_=>none
 | nL1+1,v4,r7=>if (decide (v4<(List.length p0:Int)))=true then ((idx p0 v4).bind fun x13=>((rK x13).bind fun x18=>((idx r7 v4).bind fun x20=>(gQ p0 nL1 (i64.wrap (v4+1)) (List.set r7 v4.toNat x18))))) else (some r7)
def oN (p0:List M.Bucket):Option (List M.Bucket):=
 (mkL 328 (List.length p0:Int) (⟨(⟨#[]⟩:ByteArray),(⟨#[]⟩:ByteArray),(⟨(⟨#[]⟩:ByteArray),0,0,0⟩:M.Registration),(⟨([]:List M.Cache)⟩:M.bF),(⟨(⟨(⟨#[]⟩:ByteArray),0,([]:List M.aC),([]:List M.aE)⟩:M.Database),([]:List Int),0⟩:M.fQ),(⟨(⟨(⟨#[]⟩:ByteArray),([]:List M.Item),0⟩:M.aC),0,(⟨(⟨0,0,([]:List M.bM)⟩:M.bH),0,0⟩:M.Sync)⟩:M.aK),0,false⟩:M.Bucket)).bind fun x1=>(gQ p0 fuel 0 (List.replicate (List.length p0:Int).toNat (⟨(⟨#[]⟩:ByteArray),(⟨#[]⟩:ByteArray),(⟨(⟨#[]⟩:ByteArray),0,0,0⟩:M.Registration),(⟨([]:List M.Cache)⟩:M.bF),(⟨(⟨(⟨#[]⟩:ByteArray),0,([]:List M.aC),([]:List M.aE)⟩:M.Database),([]:List Int),0⟩:M.fQ),(⟨(⟨(⟨#[]⟩:ByteArray),([]:List M.Item),0⟩:M.aC),0,(⟨(⟨0,0,([]:List M.bM)⟩:M.bH),0,0⟩:M.Sync)⟩:M.aK),0,false⟩:M.Bucket)))
def nU (p0:M.aM):Option M.aM:=
 (oN p0.Buckets).bind fun x1=>(some (⟨x1⟩:M.aM))
def pD (p0:M.aT):Option M.aT:=
 some p0
def gP (p0:List M.aT):Nat→Int→List M.aT→Option (List M.aT)
 | 0,_,_=>none
 | nL1+1,v4,r7=>if (decide (v4<(List.length p0:Int)))=true then ((idx p0 v4).bind fun x13=>((pD x13).bind fun x18=>((idx r7 v4).bind fun x20=>(gP p0 nL1 (i64.wrap (v4+1)) (List.set r7 v4.toNat x18))))) else (some r7)
def nR (p0:List M.aT):Option (List M.aT):=
 (mkL 24 (List.length p0:Int) (⟨(⟨#[]⟩:ByteArray),0⟩:M.aT)).bind fun x1=>(gP p0 fuel 0 (List.replicate (List.length p0:Int).toNat (⟨(⟨#[]⟩:ByteArray),0⟩:M.aT)))
def uH (p0:M.Instr):Option M.Instr:=
 some p0
def hP (p0:List M.Instr):Nat→Int→List M.Instr→Option (List M.Instr)
 | 0,_,_=>none
 | nL1+1,v4,r7=>if (decide (v4<(List.length p0:Int)))=true then ((idx p0 v4).bind fun x13=>((uH x13).bind fun x18=>((idx r7 v4).bind fun x20=>(hP p0 nL1 (i64.wrap (v4+1)) (List.set r7 v4.toNat x18))))) else (some r7)
def rX (p0:List M.Instr):Option (List M.Instr):=
 (mkL 40 (List.length p0:Int) (⟨0,0,0,(⟨#[]⟩:ByteArray)⟩:M.Instr)).bind fun x1=>(hP p0 fuel 0 (List.replicate (List.length p0:Int).toNat (⟨0,0,0,(⟨#[]⟩:ByteArray)⟩:M.Instr)))
def kK (p0:List Int):Nat→Int→List Int→Option (List Int)
 | 0,_,_=>none
 | nL1+1,v4,r7=>if (decide (v4<(List.length p0:Int)))=true then ((idx p0 v4).bind fun x13=>((idx r7 v4).bind fun x18=>(kK p0 nL1 (i64.wrap (v4+1)) (List.set r7 v4.toNat x13)))) else (some r7)
def vX (p0:List Int):Option (List Int):=
 (mkL 8 (List.length p0:Int) 0).bind fun x1=>(kK p0 fuel 0 (List.replicate (List.length p0:Int).toNat 0))
def nN (p0:M.Machine):Option M.Machine:=
 (rX p0.Script).bind fun x1=>((vX p0.Regs).bind fun x3=>(some (⟨x1,p0.Pc,x3,p0.Steps,p0.Done,p0.Wait⟩:M.Machine)))
def kO (p0:M.gX):Option M.gX:=
 (nR p0.aT).bind fun x1=>((nN p0.Machine).bind fun x3=>(some (⟨p0.Id,p0.Site,p0.Top,p0.Version,x1,x3⟩:M.gX)))
def jF (p0:List M.gX):Nat→Int→List M.gX→Option (List M.gX)
 | 0,_,_=>none
 | nL1+1,v4,r7=>if (decide (v4<(List.length p0:Int)))=true then ((idx p0 v4).bind fun x13=>((kO x13).bind fun x18=>((idx r7 v4).bind fun x20=>(jF p0 nL1 (i64.wrap (v4+1)) (List.set r7 v4.toNat x18))))) else (some r7)
def tR (p0:List M.gX):Option (List M.gX):=
 (mkL 144 (List.length p0:Int) (⟨0,(⟨#[]⟩:ByteArray),(⟨#[]⟩:ByteArray),0,([]:List M.aT),(⟨([]:List M.Instr),0,([]:List Int),0,false,false⟩:M.Machine)⟩:M.gX)).bind fun x1=>(jF p0 fuel 0 (List.replicate (List.length p0:Int).toNat (⟨0,(⟨#[]⟩:ByteArray),(⟨#[]⟩:ByteArray),0,([]:List M.aT),(⟨([]:List M.Instr),0,([]:List Int),0,false,false⟩:M.Machine)⟩:M.gX)))
def vZ (p0:M.kI):Option M.kI:=
 some p0
def iZ (p0:List M.kI):Nat→Int→List M.kI→Option (List M.kI)
 | 0,_,_=>none
 | nL1+1,v4,r7=>if (decide (v4<(List.length p0:Int)))=true then ((idx p0 v4).bind fun x13=>((vZ x13).bind fun x18=>((idx r7 v4).bind fun x20=>(iZ p0 nL1 (i64.wrap (v4+1)) (List.set r7 v4.toNat x18))))) else (some r7)
def tL (p0:List M.kI):Option (List M.kI):=
 (mkL 32 (List.length p0:Int) (⟨(⟨#[]⟩:ByteArray),0,false,false⟩:M.kI)).bind fun x1=>(iZ p0 fuel 0 (List.replicate (List.length p0:Int).toNat (⟨(⟨#[]⟩:ByteArray),0,false,false⟩:M.kI)))
def kV (p0:M.bA):Option M.bA:=
 (tL p0.Locks).bind fun x1=>(some (⟨x1⟩:M.bA))
def wC (p0:M.pC):Option M.pC:=
 some p0
def jA (p0:List M.pC):Nat→Int→List M.pC→Option (List M.pC)
 | 0,_,_=>none
 | nL1+1,v4,r7=>if (decide (v4<(List.length p0:Int)))=true then ((idx p0 v4).bind fun x13=>((wC x13).bind fun x18=>((idx r7 v4).bind fun x20=>(jA p0 nL1 (i64.wrap (v4+1)) (List.set r7 v4.toNat x18))))) else (some r7)
def tC (p0:List M.pC):Option (List M.pC):=
 (mkL 24 (List.length p0:Int) (⟨0,0,0⟩:M.pC)).bind fun x1=>(jA p0 fuel 0 (List.replicate (List.length p0:Int).toNat (⟨0,0,0⟩:M.pC)))
def nK (p0:M.Channel):Option M.Channel:=
 (tC p0.Mails).bind fun x1=>(some (⟨x1⟩:M.Channel))
def gC (p0:List ByteArray):Nat→Int→List ByteArray→Option (List ByteArray)
 | 0,_,_=>none
 | nL1+1,v4,r7=>if (decide (v4<(List.length p0:Int)))=true then ((idx p0 v4).bind fun x13=>((idx r7 v4).bind fun x18=>(gC p0 nL1 (i64.wrap (v4+1)) (List.set r7 v4.toNat x13)))) else (some r7)
def oK (p0:List ByteArray):Option (List ByteArray):=
 (mkL 16 (List.length p0:Int) (⟨#[]⟩:ByteArray)).bind fun x1=>(gC p0 fuel 0 (List.replicate (List.length p0:Int).toNat (⟨#[]⟩:ByteArray)))
def wA (p0:M.Site):Option M.Site:=
 (oK p0.Files).bind fun x1=>(some (⟨p0.Name,p0.Version,x1,p0.Shared⟩:M.Site))
def jG (p0:List M.Site):Nat→Int→List M.Site→Option (List M.Site)
 | 0,_,_=>none
 | nL1+1,v4,r7=>if (decide (v4<(List.length p0:Int)))=true then ((idx p0 v4).bind fun x13=>((wA x13).bind fun x18=>((idx r7 v4).bind fun x20=>(jG p0 nL1 (i64.wrap (v4+1)) (List.set r7 v4.toNat x18))))) else (some r7)
def tY (p0:List M.Site):Option (List M.Site):=
 (mkL 56 (List.length p0:Int) (⟨(⟨#[]⟩:ByteArray),0,([]:List ByteArray),false⟩:M.Site)).bind fun x1=>(jG p0 fuel 0 (List.replicate (List.length p0:Int).toNat (⟨(⟨#[]⟩:ByteArray),0,([]:List ByteArray),false⟩:M.Site)))
def oD (p0:M.aO):Option M.aO:=
 some p0
def fP (p0:List M.aO):Nat→Int→List M.aO→Option (List M.aO)
 | 0,_,_=>none
 | nL1+1,v4,r7=>if (decide (v4<(List.length p0:Int)))=true then ((idx p0 v4).bind fun x13=>((oD x13).bind fun x18=>((idx r7 v4).bind fun x20=>(fP p0 nL1 (i64.wrap (v4+1)) (List.set r7 v4.toNat x18))))) else (some r7)
def mJ (p0:List M.aO):Option (List M.aO):=
 (mkL 16 (List.length p0:Int) (⟨0,0⟩:M.aO)).bind fun x1=>(fP p0 fuel 0 (List.replicate (List.length p0:Int).toNat (⟨0,0⟩:M.aO)))
def rR (p0:M.Server):Option M.Server:=
 (lQ p0.aC).bind fun x1=>((mJ p0.aO).bind fun x3=>((mH p0.Changes).bind fun x5=>(some (⟨x1,x3,x5⟩:M.Server))))
def gK (p0:List M.Server):Nat→Int→List M.Server→Option (List M.Server)
 | 0,_,_=>none
 | nL1+1,v4,r7=>if (decide (v4<(List.length p0:Int)))=true then ((idx p0 v4).bind fun x13=>((rR x13).bind fun x18=>((idx r7 v4).bind fun x20=>(gK p0 nL1 (i64.wrap (v4+1)) (List.set r7 v4.toNat x18))))) else (some r7)
def nS (p0:List M.Server):Option (List M.Server):=
 (mkL 96 (List.length p0:Int) (⟨(⟨(⟨#[]⟩:ByteArray),([]:List M.Item),0⟩:M.aC),([]:List M.aO),([]:List M.bM)⟩:M.Server)).bind fun x1=>(gK p0 fuel 0 (List.replicate (List.length p0:Int).toNat (⟨(⟨(⟨#[]⟩:ByteArray),([]:List M.Item),0⟩:M.aC),([]:List M.aO),([]:List M.bM)⟩:M.Server)))
def lR (p0:M.World):Option M.World:=
 (nU p0.aM).bind fun x1=>((tR p0.Pages).bind fun x3=>((kV p0.Locks).bind fun x5=>((nK p0.Channel).bind fun x7=>((tY p0.Sites).bind fun x9=>((nS p0.Servers).bind fun x11=>(some (⟨p0.Now,p0.Online,p0.Device,x1,x3,p0.NextPage,x5,x7,x9,x11⟩:M.World)))))))
def dK (p0:M.aM) (p1:ByteArray) (p2:ByteArray):Nat→Int→Option Int
 | 0,_=>none
 | nL1+1,v7=>if (decide (v7<(List.length p0.Buckets:Int)))=true then ((idx p0.Buckets v7).bind fun x8=>(if (x8.Site.toList==p1.toList)=true then (if (x8.Top.toList==p2.toList)=true then (some v7) else (dK p0 p1 p2 nL1 (i64.wrap (v7+1)))) else (dK p0 p1 p2 nL1 (i64.wrap (v7+1))))) else (some (-1))
def mM (p0:M.aM) (p1:ByteArray) (p2:ByteArray):Option Int:=
 dK p0 p1 p2 fuel 0
def bK (p0:M.aA):Option M.aA:=
 (app 24 ([]:List M.Field) p0.Fields).bind fun x1=>(some p0)
def mY (p0:M.Item):Option M.Item:=
 (bK p0.aA).bind fun x1=>(some (⟨p0.Key,x1⟩:M.Item))
def iP (p0:M.aC):Nat→Int→List M.Item→Option M.aC
 | 0,_,_=>none
 | nL1+1,v4,r50000=>if (decide (v4<(List.length p0.Items:Int)))=true then ((idx p0.Items v4).bind fun x11=>((mY x11).bind fun x16=>((app 56 r50000 ([x16])).bind fun x18=>(iP p0 nL1 (i64.wrap (v4+1)) (r50000++[x16]))))) else (some (⟨p0.Name,r50000,p0.Auto⟩:M.aC))
def eB (p0:M.aC):Option M.aC:=
 iP p0 fuel 0 ([]:List M.Item)
def iQ (p0:M.Database):Nat→Int→List M.aC→Option M.Database
 | 0,_,_=>none
 | nL1+1,v4,r50000=>if (decide (v4<(List.length p0.Stores:Int)))=true then ((idx p0.Stores v4).bind fun x22=>((eB x22).bind fun x27=>((app 48 r50000 ([x27])).bind fun x29=>(iQ p0 nL1 (i64.wrap (v4+1)) (r50000++[x27]))))) else (some (⟨p0.Name,p0.Version,r50000,p0.Unique⟩:M.Database))
def gU (p0:M.Database):Option M.Database:=
 (app 32 ([]:List M.aE) p0.Unique).bind fun x1=>(iQ p0 fuel 0 ([]:List M.aC))
def cG (p0:List Int) (p1:Int):Nat→Int→Int→Option (Int×Int×Bool)
 | 0,_,_=>none
 | nL1+1,v7,v8=>if (decide (v8<6))=true then (if (decide (p1<0))=true then (some (0,0,false)) else (if (decide (p1≥(i64.wrap ((List.length p0:Int)-v8))))=true then (some (0,0,false)) else ((idx p0 (i64.wrap (p1+v8))).bind fun x9=>(if (decide (0≤(i64.wrap (7*v8))))=true then (if (decide ((i64.wrap x9)<128))=true then (if ((i64.wrap x9)==0)=true then (if (decide (v8>0))=true then (some (0,0,false)) else (if (decide ((i64.wrap (BitVec.ofInt (IntKind.i64.bits) v7|||BitVec.ofInt (IntKind.i64.bits) (i64.wrap ((i64.wrap (BitVec.ofInt (IntKind.i64.bits) (i64.wrap x9)&&&BitVec.ofInt (IntKind.i64.bits) 127).toNat)*2^(min (i64.wrap (7*v8)).toNat IntKind.i64.bits)))).toNat)>1000000000000))=true then (some (0,0,false)) else (some ((i64.wrap (BitVec.ofInt (IntKind.i64.bits) v7|||BitVec.ofInt (IntKind.i64.bits) (i64.wrap ((i64.wrap (BitVec.ofInt (IntKind.i64.bits) (i64.wrap x9)&&&BitVec.ofInt (IntKind.i64.bits) 127).toNat)*2^(min (i64.wrap (7*v8)).toNat IntKind.i64.bits)))).toNat),(i64.wrap ((i64.wrap (p1+v8))+1)),true)))) else (if (decide ((i64.wrap (BitVec.ofInt (IntKind.i64.bits) v7|||BitVec.ofInt (IntKind.i64.bits) (i64.wrap ((i64.wrap (BitVec.ofInt (IntKind.i64.bits) (i64.wrap x9)&&&BitVec.ofInt (IntKind.i64.bits) 127).toNat)*2^(min (i64.wrap (7*v8)).toNat IntKind.i64.bits)))).toNat)>1000000000000))=true then (some (0,0,false)) else (some ((i64.wrap (BitVec.ofInt (IntKind.i64.bits) v7|||BitVec.ofInt (IntKind.i64.bits) (i64.wrap ((i64.wrap (BitVec.ofInt (IntKind.i64.bits) (i64.wrap x9)&&&BitVec.ofInt (IntKind.i64.bits) 127).toNat)*2^(min (i64.wrap (7*v8)).toNat IntKind.i64.bits)))).toNat),(i64.wrap ((i64.wrap (p1+v8))+1)),true)))) else (cG p0 p1 nL1 (i64.wrap (BitVec.ofInt (IntKind.i64.bits) v7|||BitVec.ofInt (IntKind.i64.bits) (i64.wrap ((i64.wrap (BitVec.ofInt (IntKind.i64.bits) (i64.wrap x9)&&&BitVec.ofInt (IntKind.i64.bits) 127).toNat)*2^(min (i64.wrap (7*v8)).toNat IntKind.i64.bits)))).toNat) (i64.wrap (v8+1)))) else none)))) else (some (0,0,false))
def cY (p0:List Int) (p1:Int):Option (Int×Int×Bool):=
 cG p0 p1 fuel 0 0
def cE (p0:List Int) (p1:Int) (p2:Int):Option ((List Int)×Int×Bool):=
 (cY p0 p1).bind fun x1=>(if (!x1.2.2)=true then (some (([]:List Int),0,false)) else (if (decide (x1.1>p2))=true then (some (([]:List Int),0,false)) else (if (decide (x1.1>(i64.wrap ((List.length p0:Int)-x1.2.1))))=true then (some (([]:List Int),0,false)) else ((aFd p0 x1.2.1 (i64.wrap (x1.2.1+x1.1))).bind fun x6=>((app 1 ([]:List Int) (List.drop x1.2.1.toNat (List.take (i64.wrap (x1.2.1+x1.1)).toNat p0))).bind fun x8=>(some ((List.drop x1.2.1.toNat (List.take (i64.wrap (x1.2.1+x1.1)).toNat p0)),(i64.wrap (x1.2.1+x1.1)),true)))))))
def dR (p0:List Int):Nat→Int→List Int→Option (List Int)
 | 0,_,_=>none
 | nL1+1,v4,r7=>if (decide (v4<(List.length p0:Int)))=true then ((idx p0 v4).bind fun x11=>((app 8 r7 ([(i64.wrap x11)])).bind fun x16=>(dR p0 nL1 (i64.wrap (v4+1)) (r7++[(i64.wrap x11)])))) else (some r7)
def lH (p0:List Int):Option (List Int):=
 dR p0 fuel 0 ([(List.length p0:Int)])
def dW (p0:Int) (p1:Int) (p2:Int):Option Bool:=
 if (decide (p0≥p1))=true then (some (decide (p0≤p2))) else (some false)
def zM (p0:Int) (p1:Int):Option Int:=
 (dW p1 1 1000000000000).bind fun x1=>(if (!x1)=true then (some 0) else (if (decide (p1=0))=true then none else (some (Int.tmod (i64.wrap ((Int.tmod p0 p1)+p1)) p1))))
def lL (p0:List Int):Nat→Int→Int→Option Int
 | 0,_,_=>none
 | nL1+1,v3,v4=>if (decide (v4<(List.length p0:Int)))=true then ((idx p0 v4).bind fun x6=>((zM x6 2147483647).bind fun x11=>(lL p0 nL1 (Int.tmod (i64.wrap ((i64.wrap ((i64.wrap (v3*1000003))+x11))+13)) 2147483647) (i64.wrap (v4+1))))) else (some v3)
def yS (p0:List Int):Option Int:=
 lL p0 fuel 11 0
def pP (p0:Int) (p1:List Int):Option Int:=
 (lH p1).bind fun x1=>((app 8 ([101,p0]) x1).bind fun x3=>((yS ([101,p0]++x1)).bind fun x5=>(some x5)))
def jK (p0:List Int):Nat→Int→List (List Int)→Option ((List (List Int))×Int)
 | 0,_,_=>none
 | nL1+1,v5,r12=>if (decide (v5<(List.length p0:Int)))=true then ((cE p0 v5 4000).bind fun x11=>(if (!x11.2.2)=true then (some (r12,v5)) else ((cY p0 x11.2.1).bind fun x14=>(if (!x14.2.2)=true then (some (r12,v5)) else ((pP (List.length r12:Int) x11.1).bind fun x17=>(if (x14.1 != x17)=true then (some (r12,v5)) else ((app 24 r12 ([x11.1])).bind fun x20=>(jK p0 nL1 x14.2.1 (r12++[x11.1]))))))))) else (some (r12,v5))
def tE (p0:List Int):Option ((List (List Int))×Int):=
 jK p0 fuel 0 ([]:List (List Int))
def dY (p0:ByteArray):Nat→Int→Option Bool
 | 0,_=>none
 | nL1+1,v3=>if (decide (v3<(p0.size:Int)))=true then ((aKt p0 v3).bind fun x5=>(if (decide ((x5.toNat:Int)<97))=true then (if (decide ((x5.toNat:Int)<48))=true then (some false) else (if (decide ((x5.toNat:Int)>57))=true then (some false) else (dY p0 nL1 (i64.wrap (v3+1))))) else (if (decide ((x5.toNat:Int)>122))=true then (if (decide ((x5.toNat:Int)<48))=true then (some false) else (if (decide ((x5.toNat:Int)>57))=true then (some false) else (dY p0 nL1 (i64.wrap (v3+1))))) else (dY p0 nL1 (i64.wrap (v3+1)))))) else (some (decide ((p0.size:Int)≤12)))
def sA (p0:ByteArray):Option Bool:=
 dY p0 fuel 0
def dI (p0:M.Key):Option Bool:=
 (dW p0.Kind 1 3).bind fun x1=>(if x1=true then ((dW p0.N (-1000000000000) 1000000000000).bind fun x4=>(if x4=true then (if (p0.Kind != 2)=true then ((sA p0.Text).bind fun x8=>(if x8=true then (if (p0.Kind != 1)=true then (some true) else (some (p0.Text.toList==(⟨#[]⟩:ByteArray).toList))) else (some false))) else (if (p0.N==0)=true then ((sA p0.Text).bind fun x13=>(if x13=true then (if (p0.Kind != 1)=true then (some true) else (some (p0.Text.toList==(⟨#[]⟩:ByteArray).toList))) else (some false))) else (some false))) else (some false))) else (some false))
def eR (p0:List Int) (x2:Int):Nat→Int→Int→Option (M.Key×Bool)
 | 0,_,_=>none
 | nL1+1,v6,v7=>if (decide (v7<7))=true then ((idx p0 v7).bind fun x18=>(eR p0 x2 nL1 (i64.wrap (BitVec.ofInt (IntKind.i64.bits) (i64.wrap (v6*2^(min (8:Int).toNat IntKind.i64.bits)))|||BitVec.ofInt (IntKind.i64.bits) (i64.wrap x18)).toNat) (i64.wrap (v7+1)))) else ((wK p0 7).bind fun x23=>((toStr (List.drop (7:Int).toNat p0)).bind fun x25=>((dI (⟨(i64.wrap x2),(i64.wrap (v6-1000000000000)),(aN (List.drop (7:Int).toNat p0))⟩:M.Key)).bind fun x27=>(if (!x27)=true then (some ((⟨0,0,(⟨#[]⟩:ByteArray)⟩:M.Key),false)) else (some ((⟨(i64.wrap x2),(i64.wrap (v6-1000000000000)),(aN (List.drop (7:Int).toNat p0))⟩:M.Key),true))))))
def kA (p0:List Int):Option (M.Key×Bool):=
 if ((List.length p0:Int)==0)=true then (some ((⟨0,0,(⟨#[]⟩:ByteArray)⟩:M.Key),false)) else ((idx p0 0).bind fun x2=>(if ((i64.wrap x2) != 2)=true then (if (decide ((List.length p0:Int)<7))=true then (some ((⟨0,0,(⟨#[]⟩:ByteArray)⟩:M.Key),false)) else (eR p0 x2 fuel 0 1)) else ((wK p0 1).bind fun x30=>((toStr (List.drop (1:Int).toNat p0)).bind fun x32=>((dI (⟨(i64.wrap x2),0,(aN (List.drop (1:Int).toNat p0))⟩:M.Key)).bind fun x34=>(if (!x34)=true then (some ((⟨0,0,(⟨#[]⟩:ByteArray)⟩:M.Key),false)) else (some ((⟨(i64.wrap x2),0,(aN (List.drop (1:Int).toNat p0))⟩:M.Key),true))))))))
def fT (p0:ByteArray):Nat→Int→Option Bool
 | 0,_=>none
 | nL1+1,v3=>if (decide (v3<(p0.size:Int)))=true then ((aKt p0 v3).bind fun x5=>(if (decide ((x5.toNat:Int)<97))=true then (some false) else (if (decide ((x5.toNat:Int)>122))=true then (some false) else (fT p0 nL1 (i64.wrap (v3+1)))))) else ((dW (p0.size:Int) 1 8).bind fun x11=>(some x11))
def fL (p0:ByteArray):Option Bool:=
 fT p0 fuel 0
def dP (p0:M.aA):Nat→Int→Option Bool
 | 0,_=>none
 | nL1+1,v3=>if (decide (v3<(List.length p0.Fields:Int)))=true then ((idx p0.Fields v3).bind fun x6=>((fL x6.Name).bind fun x11=>(if (!x11)=true then (some false) else ((dW x6.N 0 1000000000).bind fun x14=>(if (!x14)=true then (some false) else (if (decide (v3>0))=true then ((idx p0.Fields (i64.wrap (v3-1))).bind fun x18=>(if (!(Op.bytesLess x18.Name.toList x6.Name.toList))=true then (some false) else (dP p0 nL1 (i64.wrap (v3+1))))) else (dP p0 nL1 (i64.wrap (v3+1))))))))) else (some (decide ((List.length p0.Fields:Int)≤6)))
def bB (p0:M.aA):Option Bool:=
 dP p0 fuel 0
def iN (p0:List Int) (x1:(Int×Int×Bool)):Nat→Int→Int→List M.Field→Option (M.aA×Int×Bool)
 | 0,_,_,_=>none
 | nL1+1,v8,v11,r50000=>if (decide (v11<x1.1))=true then ((cE p0 v8 8).bind fun x16=>(if (!x16.2.2)=true then (some ((⟨([]:List M.Field)⟩:M.aA),0,false)) else ((cY p0 x16.2.1).bind fun x19=>(if (!x19.2.2)=true then (some ((⟨([]:List M.Field)⟩:M.aA),0,false)) else ((toStr x16.1).bind fun x22=>((app 24 r50000 ([(⟨(aN x16.1),x19.1⟩:M.Field)])).bind fun x24=>(iN p0 x1 nL1 x19.2.1 (i64.wrap (v11+1)) (r50000++[(⟨(aN x16.1),x19.1⟩:M.Field)])))))))) else ((bB (⟨r50000⟩:M.aA)).bind fun x36=>(some ((⟨r50000⟩:M.aA),v8,x36)))
def yE (p0:List Int) (p1:Int):Option (M.aA×Int×Bool):=
 (cY p0 p1).bind fun x1=>(if (!x1.2.2)=true then (some ((⟨([]:List M.Field)⟩:M.aA),0,false)) else (if (decide (x1.1>6))=true then (some ((⟨([]:List M.Field)⟩:M.aA),0,false)) else (iN p0 x1 fuel x1.2.1 0 ([]:List M.Field))))
def gS (p0:List Int):Option (M.aA×Bool):=
 (yE p0 0).bind fun x1=>(if (!x1.2.2)=true then (some ((⟨([]:List M.Field)⟩:M.aA),false)) else (if (x1.2.1 != (List.length p0:Int))=true then (some ((⟨([]:List M.Field)⟩:M.aA),false)) else (some (x1.1,true))))
def vM (p0:List Int) (p1:Int):Option (M.Op×Int×Bool):=
 (cY p0 p1).bind fun x1=>((cE p0 x1.2.1 100).bind fun x3=>((cE p0 x3.2.1 100).bind fun x5=>((cE p0 x5.2.1 200).bind fun x7=>((cE p0 x7.2.1 100).bind fun x9=>(if (!x1.2.2)=true then (some ((⟨0,(⟨#[]⟩:ByteArray),(⟨0,0,(⟨#[]⟩:ByteArray)⟩:M.Key),(⟨([]:List M.Field)⟩:M.aA),(⟨#[]⟩:ByteArray)⟩:M.Op),0,false)) else (if (!x3.2.2)=true then (some ((⟨0,(⟨#[]⟩:ByteArray),(⟨0,0,(⟨#[]⟩:ByteArray)⟩:M.Key),(⟨([]:List M.Field)⟩:M.aA),(⟨#[]⟩:ByteArray)⟩:M.Op),0,false)) else (if (!x5.2.2)=true then (some ((⟨0,(⟨#[]⟩:ByteArray),(⟨0,0,(⟨#[]⟩:ByteArray)⟩:M.Key),(⟨([]:List M.Field)⟩:M.aA),(⟨#[]⟩:ByteArray)⟩:M.Op),0,false)) else (if (!x7.2.2)=true then (some ((⟨0,(⟨#[]⟩:ByteArray),(⟨0,0,(⟨#[]⟩:ByteArray)⟩:M.Key),(⟨([]:List M.Field)⟩:M.aA),(⟨#[]⟩:ByteArray)⟩:M.Op),0,false)) else (if (!x9.2.2)=true then (some ((⟨0,(⟨#[]⟩:ByteArray),(⟨0,0,(⟨#[]⟩:ByteArray)⟩:M.Key),(⟨([]:List M.Field)⟩:M.aA),(⟨#[]⟩:ByteArray)⟩:M.Op),0,false)) else ((toStr x3.1).bind fun x44=>((toStr x9.1).bind fun x46=>((kA x5.1).bind fun x48=>((gS x7.1).bind fun x50=>(some ((⟨x1.1,(aN x3.1),x48.1,x50.1,(aN x9.1)⟩:M.Op),x9.2.1,true)))))))))))))))
def dG  : Nat→Int→List Int→Option (List Int)
 | 0,_,_=>none
 | nL1+1,v1,r6=>if (decide (v1>127))=true then ((app 1 r6 ([(IntKind.u8.wrap (i64.wrap (BitVec.ofInt (IntKind.i64.bits) (i64.wrap (BitVec.ofInt (IntKind.i64.bits) v1&&&BitVec.ofInt (IntKind.i64.bits) 127).toNat)|||BitVec.ofInt (IntKind.i64.bits) 128).toNat))])).bind fun x15=>(dG nL1 (Int.fdiv v1 (2^(min (7:Int).toNat IntKind.i64.bits))) (r6++[(IntKind.u8.wrap (i64.wrap (BitVec.ofInt (IntKind.i64.bits) (i64.wrap (BitVec.ofInt (IntKind.i64.bits) v1&&&BitVec.ofInt (IntKind.i64.bits) 127).toNat)|||BitVec.ofInt (IntKind.i64.bits) 128).toNat))]))) else ((app 1 r6 ([(IntKind.u8.wrap v1)])).bind fun x21=>(some (r6++[(IntKind.u8.wrap v1)])))
def bZ (p0:List Int) (p1:Int):Option (List Int):=
 (app 1 ([]:List Int) p0).bind fun x1=>((dW p1 0 1000000000000).bind fun x7=>(if (!x7)=true then (some p0) else (dG fuel p1 p0)))
def xH (p0:M.Op):Option Bool:=
 (dW p0.Kind 1 6).bind fun x1=>(if x1=true then ((fL p0.aC).bind fun x4=>(if x4=true then (if (p0.Kind==5)=true then ((bB p0.aA).bind fun x8=>(if x8=true then (if (p0.Kind==6)=true then ((fL p0.Field).bind fun x12=>(if x12=true then (some true) else (if (p0.Kind != 6)=true then (some (p0.Field.toList==(⟨#[]⟩:ByteArray).toList)) else (some false)))) else (if (p0.Kind != 6)=true then (some (p0.Field.toList==(⟨#[]⟩:ByteArray).toList)) else (some false))) else (some false))) else ((dI p0.Key).bind fun x17=>(if x17=true then ((bB p0.aA).bind fun x20=>(if x20=true then (if (p0.Kind==6)=true then ((fL p0.Field).bind fun x24=>(if x24=true then (some true) else (if (p0.Kind != 6)=true then (some (p0.Field.toList==(⟨#[]⟩:ByteArray).toList)) else (some false)))) else (if (p0.Kind != 6)=true then (some (p0.Field.toList==(⟨#[]⟩:ByteArray).toList)) else (some false))) else (some false))) else (some false)))) else (some false))) else (some false))
def bQ (p0:List Int) (p1:List Int):Option (List Int):=
 (bZ p0 (List.length p1:Int)).bind fun x1=>((app 1 x1 p1).bind fun x3=>(some (x1++p1)))
def bX (p0:M.Key):Nat→Int→List Int→Option (List Int)
 | 0,_,_=>none
 | nL1+1,v4,r12=>if (decide (v4≥0))=true then (if (p0.Kind != 2)=true then (if (decide (0≤(i64.wrap (8*v4))))=true then ((app 1 r12 ([(IntKind.u8.wrap (i64.wrap (BitVec.ofInt (IntKind.i64.bits) (Int.fdiv (i64.wrap (p0.N+1000000000000)) (2^(min (i64.wrap (8*v4)).toNat IntKind.i64.bits)))&&&BitVec.ofInt (IntKind.i64.bits) 255).toNat))])).bind fun x18=>(bX p0 nL1 (i64.wrap (v4-1)) (r12++[(IntKind.u8.wrap (i64.wrap (BitVec.ofInt (IntKind.i64.bits) (Int.fdiv (i64.wrap (p0.N+1000000000000)) (2^(min (i64.wrap (8*v4)).toNat IntKind.i64.bits)))&&&BitVec.ofInt (IntKind.i64.bits) 255).toNat))]))) else none) else ((app 1 r12 (aV p0.Text)).bind fun x26=>(some (r12++(aV p0.Text))))) else ((app 1 r12 (aV p0.Text)).bind fun x28=>(some (r12++(aV p0.Text))))
def kB (p0:M.Key):Option (List Int):=
 (dI p0).bind fun x1=>(if (!x1)=true then (some ([]:List Int)) else (bX p0 fuel 5 ([(IntKind.u8.wrap p0.Kind)])))
def dN (p0:M.aA):Nat→Int→List Int→Option (List Int)
 | 0,_,_=>none
 | nL1+1,v4,r50000=>if (decide (v4<(List.length p0.Fields:Int)))=true then ((idx p0.Fields v4).bind fun x18=>((bQ r50000 (aV x18.Name)).bind fun x23=>((bZ x23 x18.N).bind fun x25=>(dN p0 nL1 (i64.wrap (v4+1)) x25)))) else (some r50000)
def gT (p0:M.aA):Option (List Int):=
 (bB p0).bind fun x1=>(if (!x1)=true then (some ([]:List Int)) else ((bZ ([]:List Int) (List.length p0.Fields:Int)).bind fun x4=>(dN p0 fuel 0 x4)))
def gL (p0:List M.Op):Nat→Int→List Int→Option (List Int)
 | 0,_,_=>none
 | nL1+1,v4,r50000=>if (decide (v4<(List.length p0:Int)))=true then ((idx p0 v4).bind fun x13=>((xH x13).bind fun x18=>(if (!x18)=true then (some ([]:List Int)) else ((bZ r50000 x13.Kind).bind fun x21=>((bQ x21 (aV x13.aC)).bind fun x23=>((kB x13.Key).bind fun x25=>((bQ x23 x25).bind fun x27=>((gT x13.aA).bind fun x29=>((bQ x27 x29).bind fun x31=>((bQ x31 (aV x13.Field)).bind fun x33=>(gL p0 nL1 (i64.wrap (v4+1)) x33))))))))))) else (if (decide ((List.length p0:Int)>6))=true then (some ([]:List Int)) else (some r50000))
def nI (p0:List M.Op):Option (List Int):=
 (bZ ([]:List Int) (List.length p0:Int)).bind fun x1=>(gL p0 fuel 0 x1)
def mB (p0:List Int) (p1:List Int):Option Bool:=
 (toStr p0).bind fun x1=>((toStr p1).bind fun x3=>(some ((aN p0).toList==(aN p1).toList)))
def eU (p0:List Int) (x1:(Int×Int×Bool)):Nat→Int→Int→List M.Op→Option ((List M.Op)×Bool)
 | 0,_,_,_=>none
 | nL1+1,v5,v8,r25=>if (decide (v8<x1.1))=true then ((vM p0 v5).bind fun x19=>(if (!x19.2.2)=true then (some (([]:List M.Op),false)) else ((app 96 r25 ([x19.1])).bind fun x22=>(eU p0 x1 nL1 x19.2.1 (i64.wrap (v8+1)) (r25++[x19.1]))))) else ((nI r25).bind fun x31=>((mB x31 p0).bind fun x33=>(if (!x33)=true then (some (([]:List M.Op),false)) else (some (r25,true)))))
def jZ (p0:List Int):Option ((List M.Op)×Bool):=
 (cY p0 0).bind fun x1=>(if (!x1.2.2)=true then (some (([]:List M.Op),false)) else (if (decide (x1.1>6))=true then (some (([]:List M.Op),false)) else (eU p0 x1 fuel x1.2.1 0 ([]:List M.Op))))
def sB (p0:Bool) (p1:Bool):Option Int:=
 if p0=true then (some (-1)) else (if p1=true then (some 1) else (some 0))
def aW (p0:M.Key) (p1:M.Key):Option Int:=
 (dI p0).bind fun x1=>(if (!x1)=true then (some 0) else ((dI p1).bind fun x4=>(if (!x4)=true then (some 0) else (if (p0.Kind != p1.Kind)=true then ((sB (decide (p0.Kind<p1.Kind)) true).bind fun x8=>(some x8)) else (if (p0.N != p1.N)=true then ((sB (decide (p0.N<p1.N)) true).bind fun x11=>(some x11)) else ((sB (Op.bytesLess p0.Text.toList p1.Text.toList) (!(Op.bytesLess p0.Text.toList p1.Text.toList||p0.Text.toList==p1.Text.toList))).bind fun x13=>(some x13)))))))
def eD (p0:M.aC):Nat→Int→Option Bool
 | 0,_=>none
 | nL1+1,v3=>if (decide (v3<(List.length p0.Items:Int)))=true then ((idx p0.Items v3).bind fun x6=>((dI x6.Key).bind fun x11=>(if (!x11)=true then (some false) else ((bB x6.aA).bind fun x14=>(if (!x14)=true then (some false) else (if (decide (v3>0))=true then ((idx p0.Items (i64.wrap (v3-1))).bind fun x18=>((aW x18.Key x6.Key).bind fun x23=>(if (decide (x23≥0))=true then (some false) else (eD p0 nL1 (i64.wrap (v3+1)))))) else (eD p0 nL1 (i64.wrap (v3+1))))))))) else ((fL p0.Name).bind fun x26=>(if x26=true then (if (decide ((List.length p0.Items:Int)≤16))=true then ((dW p0.Auto 0 1000000).bind fun x30=>(some x30)) else (some false)) else (some false)))
def lN (p0:M.aC):Option Bool:=
 eD p0 fuel 0
def eV (p0:M.Database) (p1:ByteArray):Nat→Int→Option Int
 | 0,_=>none
 | nL1+1,v5=>if (decide (v5<(List.length p0.Stores:Int)))=true then ((idx p0.Stores v5).bind fun x7=>(if (x7.Name.toList==p1.toList)=true then (some v5) else (eV p0 p1 nL1 (i64.wrap (v5+1))))) else (some (-1))
def fR (p0:M.Database) (p1:ByteArray):Option Int:=
 eV p0 p1 fuel 0
def iB (p0:M.aA) (p1:ByteArray):Nat→Int→Option (Int×Bool)
 | 0,_=>none
 | nL1+1,v6=>if (decide (v6<(List.length p0.Fields:Int)))=true then ((idx p0.Fields v6).bind fun x7=>(if (x7.Name.toList==p1.toList)=true then (some (x7.N,true)) else (iB p0 p1 nL1 (i64.wrap (v6+1))))) else (some (0,false))
def dU (p0:M.aA) (p1:ByteArray):Option (Int×Bool):=
 iB p0 p1 fuel 0
def wR (p0:M.Item) (p1:M.Item) (p2:ByteArray):Option Bool:=
 (dU p0.aA p2).bind fun x1=>((dU p1.aA p2).bind fun x3=>(if (decide (x1.1<x3.1))=true then (some true) else (if (x1.1==x3.1)=true then ((aW p0.Key p1.Key).bind fun x7=>(some (decide (x7<0)))) else (some false))))
def fZ (p1:ByteArray) (r50000:List M.Item) (x15:M.Item) (k24:Int→Option (List M.Item)):Nat→Int→Option (List M.Item)
 | 0,_=>none
 | nL2+1,v9_L2=>if (decide (v9_L2>0))=true then ((idx r50000 (i64.wrap (v9_L2-1))).bind fun x34=>((wR x15 x34 p1).bind fun x39=>(if x39=true then (fZ p1 r50000 x15 k24 nL2 (i64.wrap (v9_L2-1))) else (k24 v9_L2)))) else (k24 v9_L2)
def fA (p0:M.aC) (p1:ByteArray):Nat→Int→List M.Item→Option (List M.Item)
 | 0,_,_=>none
 | nL1+1,v6,r50000=>if (decide (v6<(List.length p0.Items:Int)))=true then ((idx p0.Items v6).bind fun x15=>((dU x15.aA p1).bind fun x20=>(if (!x20.2)=true then (fA p0 p1 nL1 (i64.wrap (v6+1)) r50000) else (fZ p1 r50000 x15 (fun (v9_L2:Int)=>(aAp r50000 v9_L2).bind fun x79=>((app 56 ([]:List M.Item) (List.take v9_L2.toNat r50000)).bind fun x81=>((mY x15).bind fun x93=>((app 56 (List.take v9_L2.toNat r50000) ([x93])).bind fun x95=>((app 56 ((List.take v9_L2.toNat r50000)++[x93]) (List.drop v9_L2.toNat r50000)).bind fun x107=>(fA p0 p1 nL1 (i64.wrap (v6+1)) (((List.take v9_L2.toNat r50000)++[x93])++(List.drop v9_L2.toNat r50000)))))))) fuel (List.length r50000:Int))))) else (some r50000)
def uB (p0:M.aC) (p1:ByteArray):Option (List M.Item):=
 fA p0 p1 fuel 0 ([]:List M.Item)
def fC (p1:ByteArray) (x1:(List M.Item)):Nat→Int→Option (M.Key×M.Key×Bool)
 | 0,_=>none
 | nL1+1,v8=>if (decide (v8<(List.length x1:Int)))=true then ((idx x1 (i64.wrap (v8-1))).bind fun x13=>((dU x13.aA p1).bind fun x18=>((idx x1 v8).bind fun x20=>((dU x20.aA p1).bind fun x25=>(if (x18.1==x25.1)=true then (some (x13.Key,x20.Key,true)) else (fC p1 x1 nL1 (i64.wrap (v8+1)))))))) else (some ((⟨0,0,(⟨#[]⟩:ByteArray)⟩:M.Key),(⟨0,0,(⟨#[]⟩:ByteArray)⟩:M.Key),false))
def kP (p0:M.aC) (p1:ByteArray):Option (M.Key×M.Key×Bool):=
 (uB p0 p1).bind fun x1=>(fC p1 x1 fuel 1)
def dJ (p0:M.Database) (v4:Int) (x26:M.aE) (k46:Int→Option Bool):Nat→Int→Option Bool
 | 0,_=>none
 | nL3+1,v9_L3=>if (decide (v9_L3<v4))=true then ((idx p0.Unique v9_L3).bind fun x53=>(if ((x53.aC.toList==x26.aC.toList)&&(x53.Field.toList==x26.Field.toList))=true then (some false) else (dJ p0 v4 x26 k46 nL3 (i64.wrap (v9_L3+1))))) else (k46 v9_L3)
def cU (p0:M.Database):Nat→Int→Option Bool
 | 0,_=>none
 | nL2+1,v4=>if (decide (v4<(List.length p0.Unique:Int)))=true then ((idx p0.Unique v4).bind fun x26=>((fR p0 x26.aC).bind fun x31=>(if (decide (x31<0))=true then (some false) else ((fL x26.Field).bind fun x34=>(if (!x34)=true then (some false) else ((idx p0.Stores x31).bind fun x37=>((kP x37 x26.Field).bind fun x42=>(if x42.2.2=true then (some false) else (dJ p0 v4 x26 (fun (v9_L3:Int)=>cU p0 nL2 (i64.wrap (v4+1))) fuel 0))))))))) else ((fL p0.Name).bind fun x59=>(if x59=true then ((dW p0.Version 0 1000).bind fun x62=>(if x62=true then (if (decide ((List.length p0.Stores:Int)≤4))=true then (some (decide ((List.length p0.Unique:Int)≤4))) else (some false)) else (some false))) else (some false)))
def cT (p0:M.Database):Nat→Int→Option Bool
 | 0,_=>none
 | nL1+1,v3=>if (decide (v3<(List.length p0.Stores:Int)))=true then ((idx p0.Stores v3).bind fun x6=>((lN x6).bind fun x11=>(if (!x11)=true then (some false) else (if (decide (v3>0))=true then ((idx p0.Stores (i64.wrap (v3-1))).bind fun x15=>(if (!(Op.bytesLess x15.Name.toList x6.Name.toList))=true then (some false) else (cT p0 nL1 (i64.wrap (v3+1))))) else (cT p0 nL1 (i64.wrap (v3+1))))))) else (cU p0 fuel 0)
def gD (p0:M.Database):Option Bool:=
 cT p0 fuel 0
def fN (p0:M.aC) (p1:M.Key):Nat→Int→Option Int
 | 0,_=>none
 | nL1+1,v5=>if (decide (v5<(List.length p0.Items:Int)))=true then ((idx p0.Items v5).bind fun x8=>(if ((x8.Key.Kind==p1.Kind)&&((x8.Key.N==p1.N)&&(x8.Key.Text.toList==p1.Text.toList)))=true then (some v5) else (fN p0 p1 nL1 (i64.wrap (v5+1))))) else (some (-1))
def eM (p0:M.aC) (p1:M.Key):Option Int:=
 fN p0 p1 fuel 0
def gR (p0:M.aC) (p1:M.Key) (p2:M.aA) (x16:M.aC):Nat→Int→Option (M.aC×Bool)
 | 0,_=>none
 | nL1+1,v10=>if (decide (v10<(List.length p0.Items:Int)))=true then ((idx p0.Items v10).bind fun x43=>((aW x43.Key p1).bind fun x48=>(if (decide (x48<0))=true then (gR p0 p1 p2 x16 nL1 (i64.wrap (v10+1))) else ((aAp x16.Items v10).bind fun x51=>((app 56 ([]:List M.Item) (List.take v10.toNat x16.Items)).bind fun x53=>((bK p2).bind fun x70=>((app 56 (List.take v10.toNat x16.Items) ([(⟨p1,x70⟩:M.Item)])).bind fun x72=>((app 56 ((List.take v10.toNat x16.Items)++[(⟨p1,x70⟩:M.Item)]) (List.drop v10.toNat x16.Items)).bind fun x87=>(if (p1.Kind==1)=true then ((dW p1.N (i64.wrap (p0.Auto+1)) 1000000).bind fun x100=>(if x100=true then (some ((⟨x16.Name,(((List.take v10.toNat x16.Items)++[(⟨p1,x70⟩:M.Item)])++(List.drop v10.toNat x16.Items)),p1.N⟩:M.aC),true)) else (some ((⟨x16.Name,(((List.take v10.toNat x16.Items)++[(⟨p1,x70⟩:M.Item)])++(List.drop v10.toNat x16.Items)),x16.Auto⟩:M.aC),true)))) else (some ((⟨x16.Name,(((List.take v10.toNat x16.Items)++[(⟨p1,x70⟩:M.Item)])++(List.drop v10.toNat x16.Items)),x16.Auto⟩:M.aC),true))))))))))) else ((aAp x16.Items v10).bind fun x103=>((app 56 ([]:List M.Item) (List.take v10.toNat x16.Items)).bind fun x105=>((bK p2).bind fun x122=>((app 56 (List.take v10.toNat x16.Items) ([(⟨p1,x122⟩:M.Item)])).bind fun x124=>((app 56 ((List.take v10.toNat x16.Items)++[(⟨p1,x122⟩:M.Item)]) (List.drop v10.toNat x16.Items)).bind fun x139=>(if (p1.Kind==1)=true then ((dW p1.N (i64.wrap (p0.Auto+1)) 1000000).bind fun x152=>(if x152=true then (some ((⟨x16.Name,(((List.take v10.toNat x16.Items)++[(⟨p1,x122⟩:M.Item)])++(List.drop v10.toNat x16.Items)),p1.N⟩:M.aC),true)) else (some ((⟨x16.Name,(((List.take v10.toNat x16.Items)++[(⟨p1,x122⟩:M.Item)])++(List.drop v10.toNat x16.Items)),x16.Auto⟩:M.aC),true)))) else (some ((⟨x16.Name,(((List.take v10.toNat x16.Items)++[(⟨p1,x122⟩:M.Item)])++(List.drop v10.toNat x16.Items)),x16.Auto⟩:M.aC),true))))))))
def iW (p0:M.aC) (p1:M.Key) (p2:M.aA):Option (M.aC×Bool):=
 (lN p0).bind fun x1=>(if (!x1)=true then ((eB p0).bind fun x4=>(some (x4,false))) else ((dI p1).bind fun x6=>(if (!x6)=true then ((eB p0).bind fun x9=>(some (x9,false))) else ((bB p2).bind fun x11=>(if (!x11)=true then ((eB p0).bind fun x14=>(some (x14,false))) else ((eB p0).bind fun x16=>((eM p0 p1).bind fun x18=>(if (decide (x18≥0))=true then ((bK p2).bind fun x21=>((idx x16.Items x18).bind fun x23=>(some ((⟨x16.Name,(List.set x16.Items x18.toNat (⟨x23.Key,x21⟩:M.Item)),x16.Auto⟩:M.aC),true)))) else (if (decide ((List.length p0.Items:Int)≥16))=true then (some (x16,false)) else (gR p0 p1 p2 x16 fuel 0))))))))))
def tQ (p0:M.aC) (p1:M.Key) (p2:M.aA):Option (M.aC×Bool):=
 (eM p0 p1).bind fun x1=>(if (decide (x1≥0))=true then ((eB p0).bind fun x4=>(some (x4,false))) else ((iW p0 p1 p2).bind fun x6=>(some (x6.1,x6.2))))
def oA (p0:M.Key) (p1:M.bU):Option Bool:=
 (dI p0).bind fun x1=>(if (!x1)=true then (some false) else (if p1.HasLow=true then ((dI p1.Low).bind fun x5=>(if (!x5)=true then (some false) else (if p1.HasHigh=true then ((dI p1.High).bind fun x9=>(if (!x9)=true then (some false) else (if (!p1.HasLow)=true then (if (!p1.HasHigh)=true then (some true) else ((aW p0 p1.High).bind fun x14=>(some (decide (x14≤0))))) else ((aW p1.Low p0).bind fun x16=>(if (decide (x16≤0))=true then (if (!p1.HasHigh)=true then (some true) else ((aW p0 p1.High).bind fun x20=>(some (decide (x20≤0))))) else (some false)))))) else (if (!p1.HasLow)=true then (if (!p1.HasHigh)=true then (some true) else ((aW p0 p1.High).bind fun x24=>(some (decide (x24≤0))))) else ((aW p1.Low p0).bind fun x26=>(if (decide (x26≤0))=true then (if (!p1.HasHigh)=true then (some true) else ((aW p0 p1.High).bind fun x30=>(some (decide (x30≤0))))) else (some false))))))) else (if p1.HasHigh=true then ((dI p1.High).bind fun x33=>(if (!x33)=true then (some false) else (if (!p1.HasLow)=true then (if (!p1.HasHigh)=true then (some true) else ((aW p0 p1.High).bind fun x38=>(some (decide (x38≤0))))) else ((aW p1.Low p0).bind fun x40=>(if (decide (x40≤0))=true then (if (!p1.HasHigh)=true then (some true) else ((aW p0 p1.High).bind fun x44=>(some (decide (x44≤0))))) else (some false)))))) else (if (!p1.HasLow)=true then (if (!p1.HasHigh)=true then (some true) else ((aW p0 p1.High).bind fun x48=>(some (decide (x48≤0))))) else ((aW p1.Low p0).bind fun x50=>(if (decide (x50≤0))=true then (if (!p1.HasHigh)=true then (some true) else ((aW p0 p1.High).bind fun x54=>(some (decide (x54≤0))))) else (some false)))))))
def dS (p0:M.aC) (p1:M.bU):Nat→Int→List M.Item→Option (M.aC×Int)
 | 0,_,_=>none
 | nL1+1,v7,r50000=>if (decide (v7<(List.length p0.Items:Int)))=true then ((idx p0.Items v7).bind fun x18=>((oA x18.Key p1).bind fun x23=>(if (!x23)=true then ((mY x18).bind fun x26=>((app 56 r50000 ([x26])).bind fun x28=>(dS p0 p1 nL1 (i64.wrap (v7+1)) (r50000++[x26])))) else (dS p0 p1 nL1 (i64.wrap (v7+1)) r50000)))) else (some ((⟨p0.Name,r50000,p0.Auto⟩:M.aC),(i64.wrap ((List.length p0.Items:Int)-(List.length r50000:Int)))))
def iL (p0:M.aC) (p1:M.bU):Option (M.aC×Int):=
 (lN p0).bind fun x1=>(if (!x1)=true then ((eB p0).bind fun x4=>(some (x4,0))) else (dS p0 p1 fuel 0 ([]:List M.Item)))
def fG (p0:M.aA) (p1:ByteArray) (p2:Int) (x1:M.aA):Nat→Int→Option (M.aA×Bool)
 | 0,_=>none
 | nL1+1,v9=>if (decide (v9<(List.length p0.Fields:Int)))=true then ((idx p0.Fields v9).bind fun x15=>(if (Op.bytesLess x15.Name.toList p1.toList)=true then (fG p0 p1 p2 x1 nL1 (i64.wrap (v9+1))) else (if (x15.Name.toList==p1.toList)=true then ((idx x1.Fields v9).bind fun x22=>((bB p0).bind fun x35=>(if (!x35)=true then ((bK p0).bind fun x38=>(some (x38,false))) else ((bB (⟨(List.set x1.Fields v9.toNat (⟨x22.Name,p2⟩:M.Field))⟩:M.aA)).bind fun x40=>(if (!x40)=true then ((bK p0).bind fun x43=>(some (x43,false))) else (some ((⟨(List.set x1.Fields v9.toNat (⟨x22.Name,p2⟩:M.Field))⟩:M.aA),true))))))) else ((aAp p0.Fields v9).bind fun x45=>((app 24 ([]:List M.Field) (List.take v9.toNat p0.Fields)).bind fun x47=>((app 24 (List.take v9.toNat p0.Fields) ([(⟨p1,p2⟩:M.Field)])).bind fun x49=>((wK p0.Fields v9).bind fun x51=>((app 24 ((List.take v9.toNat p0.Fields)++[(⟨p1,p2⟩:M.Field)]) (List.drop v9.toNat p0.Fields)).bind fun x53=>((bB p0).bind fun x63=>(if (!x63)=true then ((bK p0).bind fun x66=>(some (x66,false))) else ((bB (⟨(((List.take v9.toNat p0.Fields)++[(⟨p1,p2⟩:M.Field)])++(List.drop v9.toNat p0.Fields))⟩:M.aA)).bind fun x68=>(if (!x68)=true then ((bK p0).bind fun x71=>(some (x71,false))) else (some ((⟨(((List.take v9.toNat p0.Fields)++[(⟨p1,p2⟩:M.Field)])++(List.drop v9.toNat p0.Fields))⟩:M.aA),true)))))))))))))) else ((aAp p0.Fields v9).bind fun x73=>((app 24 ([]:List M.Field) (List.take v9.toNat p0.Fields)).bind fun x75=>((app 24 (List.take v9.toNat p0.Fields) ([(⟨p1,p2⟩:M.Field)])).bind fun x77=>((wK p0.Fields v9).bind fun x79=>((app 24 ((List.take v9.toNat p0.Fields)++[(⟨p1,p2⟩:M.Field)]) (List.drop v9.toNat p0.Fields)).bind fun x81=>((bB p0).bind fun x91=>(if (!x91)=true then ((bK p0).bind fun x94=>(some (x94,false))) else ((bB (⟨(((List.take v9.toNat p0.Fields)++[(⟨p1,p2⟩:M.Field)])++(List.drop v9.toNat p0.Fields))⟩:M.aA)).bind fun x96=>(if (!x96)=true then ((bK p0).bind fun x99=>(some (x99,false))) else (some ((⟨(((List.take v9.toNat p0.Fields)++[(⟨p1,p2⟩:M.Field)])++(List.drop v9.toNat p0.Fields))⟩:M.aA),true)))))))))))
def mP (p0:M.aA) (p1:ByteArray) (p2:Int):Option (M.aA×Bool):=
 (bK p0).bind fun x1=>(fG p0 p1 p2 x1 fuel 0)
def xR (p0:M.aC) (p1:M.Key) (p2:ByteArray):Option (M.aC×Int×Bool):=
 (eM p0 p1).bind fun x1=>(if (decide (x1≥0))=true then ((idx p0.Items x1).bind fun x4=>((dU x4.aA p2).bind fun x9=>((mP x4.aA p2 (i64.wrap (x9.1+1))).bind fun x11=>((iW p0 p1 x11.1).bind fun x13=>(if x11.2=true then (some (x13.1,(i64.wrap (x9.1+1)),x13.2)) else (some (x13.1,(i64.wrap (x9.1+1)),false))))))) else ((dU (⟨([]:List M.Field)⟩:M.aA) p2).bind fun x16=>((mP (⟨([]:List M.Field)⟩:M.aA) p2 (i64.wrap (x16.1+1))).bind fun x18=>((iW p0 p1 x18.1).bind fun x20=>(if x18.2=true then (some (x20.1,(i64.wrap (x16.1+1)),x20.2)) else (some (x20.1,(i64.wrap (x16.1+1)),false)))))))
def uA (p0:M.aC) (p1:M.Op):Option (M.aC×Int×Bool):=
 if (p1.Kind==1)=true then ((iW p0 p1.Key p1.aA).bind fun x2=>(some (x2.1,1,x2.2))) else (if (p1.Kind==2)=true then ((tQ p0 p1.Key p1.aA).bind fun x5=>(some (x5.1,1,x5.2))) else (if (p1.Kind==3)=true then ((iL p0 (⟨true,true,p1.Key,p1.Key⟩:M.bU)).bind fun x8=>(some (x8.1,x8.2,true))) else (if (p1.Kind==4)=true then ((eM p0 p1.Key).bind fun x11=>(if (decide (x11<0))=true then ((eB p0).bind fun x14=>(some (x14,(-1),true))) else ((eB p0).bind fun x16=>((idx p0.Items x11).bind fun x18=>(some (x16,(List.length x18.aA.Fields:Int),true)))))) else (if (p1.Kind==5)=true then ((iL p0 (⟨false,false,(⟨0,0,(⟨#[]⟩:ByteArray)⟩:M.Key),(⟨0,0,(⟨#[]⟩:ByteArray)⟩:M.Key)⟩:M.bU)).bind fun x24=>(some (x24.1,x24.2,true))) else ((xR p0 p1.Key p1.Field).bind fun x26=>(some (x26.1,x26.2.1,x26.2.2)))))))
def uX (p0:M.Database) (p1:M.Op):Option (M.Database×Int×Bool):=
 (gU p0).bind fun x1=>((fR p0 p1.aC).bind fun x3=>((gD p0).bind fun x5=>(if (!x5)=true then (some (x1,0,false)) else ((xH p1).bind fun x8=>(if (!x8)=true then (some (x1,0,false)) else (if (decide (x3<0))=true then (some (x1,0,false)) else ((idx p0.Stores x3).bind fun x12=>((uA x12 p1).bind fun x17=>((idx x1.Stores x3).bind fun x19=>(if (!x17.2.2)=true then ((gU p0).bind fun x36=>(some (x36,0,false))) else ((gD (⟨x1.Name,x1.Version,(List.set x1.Stores x3.toNat x17.1),x1.Unique⟩:M.Database)).bind fun x38=>(if (!x38)=true then ((gU p0).bind fun x41=>(some (x41,0,false))) else (some ((⟨x1.Name,x1.Version,(List.set x1.Stores x3.toNat x17.1),x1.Unique⟩:M.Database),x17.2.1,true))))))))))))))
def kC (p0:M.Database) (p1:List M.Op):Nat→Int→ByteArray→Int→List Int→List M.aC→List M.aE→Option (M.Database×(List Int)×Bool)
 | 0,_,_,_,_,_,_=>none
 | nL1+1,v9,w7_0,w7_1,r15,r50000,r50001=>if (decide (v9<(List.length p1:Int)))=true then ((idx p1 v9).bind fun x33=>((uX (⟨w7_0,w7_1,r50000,r50001⟩:M.Database) x33).bind fun x38=>(if (!x38.2.2)=true then ((gU p0).bind fun x41=>(some (x41,([]:List Int),false))) else ((app 8 r15 ([x38.2.1])).bind fun x43=>(kC p0 p1 nL1 (i64.wrap (v9+1)) x38.1.Name x38.1.Version (r15++[x38.2.1]) x38.1.Stores x38.1.Unique))))) else (some ((⟨w7_0,w7_1,r50000,r50001⟩:M.Database),r15,true))
def sS (p0:M.Database) (p1:List M.Op):Option (M.Database×(List Int)×Bool):=
 (gU p0).bind fun x1=>((gD p0).bind fun x15=>(if (!x15)=true then (some (x1,([]:List Int),false)) else (if (decide ((List.length p1:Int)>6))=true then (some (x1,([]:List Int),false)) else (kC p0 p1 fuel 0 x1.Name x1.Version ([]:List Int) x1.Stores x1.Unique))))
def iI (x3:((List (List Int))×Int)):Nat→Int→ByteArray→Int→List M.aC→List M.aE→Option (M.Database×Int)
 | 0,_,_,_,_,_=>none
 | nL1+1,v7,w4_0,w4_1,r50000,r50001=>if (decide (v7<(List.length x3.1:Int)))=true then ((idx x3.1 v7).bind fun x16=>((jZ x16).bind fun x21=>(if (!x21.2)=true then (some ((⟨w4_0,w4_1,r50000,r50001⟩:M.Database),v7)) else ((sS (⟨w4_0,w4_1,r50000,r50001⟩:M.Database) x21.1).bind fun x24=>(iI x3 nL1 (i64.wrap (v7+1)) x24.1.Name x24.1.Version x24.1.Stores x24.1.Unique))))) else (some ((⟨w4_0,w4_1,r50000,r50001⟩:M.Database),(List.length x3.1:Int)))
def pZ (p0:M.fQ):Option (M.Database×Int):=
 (gU p0.Base).bind fun x1=>((tE p0.Log).bind fun x3=>(iI x3 fuel 0 x1.Name x1.Version x1.Stores x1.Unique))
def yF (p0:Int):Option M.Key:=
 some (⟨1,p0,(⟨#[]⟩:ByteArray)⟩:M.Key)
def oJ (p0:M.Bucket) (p1:Int):Option (M.aA×Bool):=
 (pZ p0.fQ).bind fun x1=>((fR x1.1 (⟨#[110,111,116,101,115]⟩:ByteArray)).bind fun x3=>(if (decide (x3<0))=true then (some ((⟨([]:List M.Field)⟩:M.aA),false)) else ((idx x1.1.Stores x3).bind fun x6=>((yF p1).bind fun x11=>((eM x6 x11).bind fun x13=>(if (decide (x13<0))=true then (some ((⟨([]:List M.Field)⟩:M.aA),true)) else ((idx x6.Items x13).bind fun x16=>((bK x16.aA).bind fun x21=>(some (x21,true))))))))))
def aA0 (p0:Int) (p1:Int):Option Int:=
 if (decide (p1<p0))=true then (some p1) else (some p0)
def pT (p0:M.World) (p1:M.gX) (p2:Int) (p3:ByteArray):Option Int:=
 (mM p0.aM p1.Site p1.Top).bind fun x1=>(if (decide (x1<0))=true then (some (-1)) else ((idx p0.aM.Buckets x1).bind fun x4=>((oJ x4 p2).bind fun x9=>((dU x9.1 p3).bind fun x11=>(if (!x11.2)=true then (some (-1)) else ((aA0 1000 x11.1).bind fun x14=>(some x14)))))))
def jO (p0:M.Bucket) (c0:ByteArray) (c1:ByteArray):Option Bool:=
 if (p0.Site.toList==c0.toList)=true then (some (p0.Top.toList==c1.toList)) else (some false)
def bN (p0:List M.Bucket) (p1:M.Bucket→Option Bool):Nat→Int→Option Int
 | 0,_=>none
 | nL1+1,v8=>if (decide (v8<(List.length p0:Int)))=true then ((idx p0 v8).bind fun x7=>((p1 x7).bind fun x12=>(if x12=true then (some v8) else (bN p0 p1 nL1 (i64.wrap (v8+1)))))) else (some (-1))
def eL (p0:List M.Bucket) (p1:M.Bucket→Option Bool):Option Int:=
 bN p0 p1 fuel 0
def lW (p0:M.aM) (p1:ByteArray) (p2:ByteArray):Option Int:=
 (eL p0.Buckets (fun z0=>jO z0 p1 p2)).bind fun x1=>(some x1)
def vY (p0:M.World) (p1:ByteArray) (p2:ByteArray):Option (M.Bucket×Bool):=
 (lW p0.aM p1 p2).bind fun x1=>(if (decide (x1<0))=true then (some ((⟨(⟨#[]⟩:ByteArray),(⟨#[]⟩:ByteArray),(⟨(⟨#[]⟩:ByteArray),0,0,0⟩:M.Registration),(⟨([]:List M.Cache)⟩:M.bF),(⟨(⟨(⟨#[]⟩:ByteArray),0,([]:List M.aC),([]:List M.aE)⟩:M.Database),([]:List Int),0⟩:M.fQ),(⟨(⟨(⟨#[]⟩:ByteArray),([]:List M.Item),0⟩:M.aC),0,(⟨(⟨0,0,([]:List M.bM)⟩:M.bH),0,0⟩:M.Sync)⟩:M.aK),0,false⟩:M.Bucket),false)) else ((idx p0.aM.Buckets x1).bind fun x4=>(some (x4,true))))
def aZ (p0:M.aA):Option M.aA:=
 (app 24 ([]:List M.Field) p0.Fields).bind fun x1=>(some p0)
def mK (p0:M.Item):Option M.Item:=
 (aZ p0.aA).bind fun x1=>(some (⟨p0.Key,x1⟩:M.Item))
def eS (p0:M.aC):Nat→Int→List M.Item→Option M.aC
 | 0,_,_=>none
 | nL1+1,v14,r50000=>if (decide (v14<(List.length p0.Items:Int)))=true then ((idx p0.Items v14).bind fun x11=>((mK x11).bind fun x16=>((app 56 r50000 ([x16])).bind fun x18=>(eS p0 nL1 (i64.wrap (v14+1)) (r50000++[x16]))))) else (some (⟨p0.Name,r50000,p0.Auto⟩:M.aC))
def aP (p0:M.aC):Option M.aC:=
 eS p0 fuel 0 ([]:List M.Item)
def dL (p0:M.Database):Nat→Int→List M.aC→Option M.Database
 | 0,_,_=>none
 | nL1+1,v18,r50000=>if (decide (v18<(List.length p0.Stores:Int)))=true then ((idx p0.Stores v18).bind fun x22=>((aP x22).bind fun x27=>((app 48 r50000 ([x27])).bind fun x29=>(dL p0 nL1 (i64.wrap (v18+1)) (r50000++[x27]))))) else (some (⟨p0.Name,p0.Version,r50000,p0.Unique⟩:M.Database))
def cK (p0:M.Database):Option M.Database:=
 (app 32 ([]:List M.aE) p0.Unique).bind fun x1=>(dL p0 fuel 0 ([]:List M.aC))
def dX (p0:List Int) (p1:Int):Nat→Int→Int→Option (Int×Int×Bool)
 | 0,_,_=>none
 | nL1+1,v7,v8=>if (decide (v8<6))=true then (if (decide ((i64.wrap (p1+v8))<(List.length p0:Int)))=true then ((idx p0 (i64.wrap (p1+v8))).bind fun x10=>(if (decide (0≤(i64.wrap (7*v8))))=true then (if (decide ((i64.wrap x10)<128))=true then (if (decide (v8>0))=true then (if ((i64.wrap x10)==0)=true then (some (0,0,false)) else (if (decide ((i64.wrap (v7+(i64.wrap ((Int.tmod (i64.wrap x10) 128)*2^(min (i64.wrap (7*v8)).toNat IntKind.i64.bits)))))>1000000000000))=true then (some (0,0,false)) else (some ((i64.wrap (v7+(i64.wrap ((Int.tmod (i64.wrap x10) 128)*2^(min (i64.wrap (7*v8)).toNat IntKind.i64.bits))))),(i64.wrap ((i64.wrap (p1+v8))+1)),true)))) else (if (decide ((i64.wrap (v7+(i64.wrap ((Int.tmod (i64.wrap x10) 128)*2^(min (i64.wrap (7*v8)).toNat IntKind.i64.bits)))))>1000000000000))=true then (some (0,0,false)) else (some ((i64.wrap (v7+(i64.wrap ((Int.tmod (i64.wrap x10) 128)*2^(min (i64.wrap (7*v8)).toNat IntKind.i64.bits))))),(i64.wrap ((i64.wrap (p1+v8))+1)),true)))) else (dX p0 p1 nL1 (i64.wrap (v7+(i64.wrap ((Int.tmod (i64.wrap x10) 128)*2^(min (i64.wrap (7*v8)).toNat IntKind.i64.bits))))) (i64.wrap (v8+1)))) else none)) else (some (0,0,false))) else (some (0,0,false))
def cZ (p0:List Int) (p1:Int):Option (Int×Int×Bool):=
 if (decide (p1<0))=true then (some (0,0,false)) else (if (decide (p1≥(List.length p0:Int)))=true then (some (0,0,false)) else (dX p0 p1 fuel 0 0))
def kH (p0:List Int):Option (List Int):=
 (app 1 ([]:List Int) p0).bind fun x1=>(some p0)
def cD (p0:List Int) (p1:Int) (p2:Int):Option ((List Int)×Int×Bool):=
 (cZ p0 p1).bind fun x1=>(if (!x1.2.2)=true then (some (([]:List Int),0,false)) else (if (decide (x1.1>p2))=true then (some (([]:List Int),0,false)) else (if (decide (x1.1>(i64.wrap ((List.length p0:Int)-x1.2.1))))=true then (some (([]:List Int),0,false)) else ((aFd p0 x1.2.1 (i64.wrap (x1.2.1+x1.1))).bind fun x6=>((kH (List.drop x1.2.1.toNat (List.take (i64.wrap (x1.2.1+x1.1)).toNat p0))).bind fun x8=>(some (x8,(i64.wrap (x1.2.1+x1.1)),true)))))))
def dV (p0:List Int):Nat→Int→List Int→Option (List Int)
 | 0,_,_=>none
 | nL1+1,v11,r8=>if (decide (v11<(List.length p0:Int)))=true then ((idx p0 v11).bind fun x12=>((app 8 r8 ([(i64.wrap x12)])).bind fun x17=>(dV p0 nL1 (i64.wrap (v11+1)) (r8++[(i64.wrap x12)])))) else (some r8)
def lE (p0:List Int):Option (List Int):=
 dV p0 fuel 0 ([(List.length p0:Int)])
def cX (p0:Int) (p1:Int) (p2:Int):Option Bool:=
 if (decide (p1≤p0))=true then (some (decide (p0≤p2))) else (some false)
def zZ (p0:Int) (p1:Int):Option Int:=
 (cX p1 1 1000000000000).bind fun x1=>(if (!x1)=true then (some 0) else (if (decide (p1=0))=true then none else (if (decide ((Int.tmod p0 p1)<0))=true then (some (i64.wrap ((Int.tmod p0 p1)+p1))) else (some (Int.tmod p0 p1)))))
def lO (p0:List Int):Nat→Int→Int→Option Int
 | 0,_,_=>none
 | nL1+1,v3,v8=>if (decide (v8<(List.length p0:Int)))=true then ((idx p0 v8).bind fun x7=>((zZ x7 2147483647).bind fun x12=>(lO p0 nL1 (Int.tmod (i64.wrap ((i64.wrap ((i64.wrap (v3*1000003))+x12))+13)) 2147483647) (i64.wrap (v8+1))))) else (some v3)
def yV (p0:List Int):Option Int:=
 lO p0 fuel 11 0
def rT (p0:Int) (p1:List Int):Option Int:=
 (lE p1).bind fun x1=>((app 8 ([101,p0]) x1).bind fun x3=>((yV ([101,p0]++x1)).bind fun x5=>(some x5)))
def jE (p0:List Int):Nat→Int→List (List Int)→Option ((List (List Int))×Int)
 | 0,_,_=>none
 | nL1+1,v5,r12=>(cD p0 v5 4000).bind fun x10=>(if (!x10.2.2)=true then (some (r12,v5)) else ((cZ p0 x10.2.1).bind fun x13=>(if (!x13.2.2)=true then (some (r12,v5)) else ((rT (List.length r12:Int) x10.1).bind fun x16=>(if (x13.1 != x16)=true then (some (r12,v5)) else ((app 24 r12 ([x10.1])).bind fun x19=>(jE p0 nL1 x13.2.1 (r12++[x10.1]))))))))
def tZ (p0:List Int):Option ((List (List Int))×Int):=
 jE p0 fuel 0 ([]:List (List Int))
def cJ (p0:ByteArray):Nat→Int→Option Bool
 | 0,_=>none
 | nL1+1,v3=>if (decide (v3<(p0.size:Int)))=true then ((aKt p0 v3).bind fun x5=>(if (decide ((x5.toNat:Int)≥97))=true then (if (decide ((x5.toNat:Int)≤122))=true then (cJ p0 nL1 (i64.wrap (v3+1))) else (if (decide ((x5.toNat:Int)≥48))=true then (if (!(decide ((x5.toNat:Int)≤57)))=true then (some false) else (cJ p0 nL1 (i64.wrap (v3+1)))) else (some false))) else (if (decide ((x5.toNat:Int)≥48))=true then (if (!(decide ((x5.toNat:Int)≤57)))=true then (some false) else (cJ p0 nL1 (i64.wrap (v3+1)))) else (some false)))) else (some (decide ((p0.size:Int)≤12)))
def nG (p0:ByteArray):Option Bool:=
 cJ p0 fuel 0
def eH (p0:M.Key):Option Bool:=
 (cX p0.Kind 1 3).bind fun x1=>(if (!x1)=true then (some false) else ((cX p0.N (-1000000000000) 1000000000000).bind fun x4=>(if (!x4)=true then (some false) else ((nG p0.Text).bind fun x7=>(if (!x7)=true then (some false) else (if (p0.Kind==2)=true then (if (!(p0.N != 0))=true then (if (p0.Kind==1)=true then (some (!(!(p0.Text.toList==(⟨#[]⟩:ByteArray).toList)))) else (some true)) else (some false)) else (if (p0.Kind==1)=true then (some (!(!(p0.Text.toList==(⟨#[]⟩:ByteArray).toList)))) else (some true))))))))
def dC (p0:M.Key):Nat→Int→List Int→Option (List Int)
 | 0,_,_=>none
 | nL1+1,v4,r12=>if (decide (v4≥0))=true then (if (decide (0≤(i64.wrap (8*v4))))=true then ((app 1 r12 ([(IntKind.u8.wrap (Int.fdiv (i64.wrap (p0.N+1000000000000)) (2^(min (i64.wrap (8*v4)).toNat IntKind.i64.bits))))])).bind fun x18=>(dC p0 nL1 (i64.wrap (v4-1)) (r12++[(IntKind.u8.wrap (Int.fdiv (i64.wrap (p0.N+1000000000000)) (2^(min (i64.wrap (8*v4)).toNat IntKind.i64.bits))))]))) else none) else ((app 1 r12 (aV p0.Text)).bind fun x26=>(some (r12++aV p0.Text)))
def iO (p0:M.Key):Option (List Int):=
 (eH p0).bind fun x1=>(if (!x1)=true then (some ([]:List Int)) else (if (p0.Kind != 2)=true then (dC p0 fuel 5 ([(IntKind.u8.wrap p0.Kind)])) else ((app 1 ([(IntKind.u8.wrap p0.Kind)]) (aV p0.Text)).bind fun x28=>(some ([(IntKind.u8.wrap p0.Kind)]++aV p0.Text)))))
def eJ (p0:List Int) (p1:List Int):Nat→Int→Option Bool
 | 0,_=>none
 | nL1+1,v13=>if (decide (v13<(List.length p0:Int)))=true then ((idx p0 v13).bind fun x8=>((idx p1 v13).bind fun x13=>(if (x8 != x13)=true then (some false) else (eJ p0 p1 nL1 (i64.wrap (v13+1)))))) else (some true)
def jQ (p0:List Int) (p1:List Int):Option Bool:=
 if ((List.length p0:Int) != (List.length p1:Int))=true then (some false) else (eJ p0 p1 fuel 0)
def eW (p0:List Int) (p1:List Int):Option Bool:=
 (jQ p0 p1).bind fun x1=>(some x1)
def eT (p0:List Int) (x2:Int):Nat→Int→Int→Option (M.Key×Bool)
 | 0,_,_=>none
 | nL1+1,v6,v30=>if (decide (v30<(List.length (List.take (6:Int).toNat (List.drop (1:Int).toNat p0)):Int)))=true then ((idx (List.take (6:Int).toNat (List.drop (1:Int).toNat p0)) v30).bind fun x25=>(eT p0 x2 nL1 (i64.wrap ((i64.wrap (v6*2^(min (8:Int).toNat IntKind.i64.bits)))+(i64.wrap x25))) (i64.wrap (v30+1)))) else ((wK (List.drop (1:Int).toNat p0) 6).bind fun x30=>((toStr (List.drop (6:Int).toNat (List.drop (1:Int).toNat p0))).bind fun x32=>((iO (⟨(i64.wrap x2),(i64.wrap (v6-1000000000000)),(aN (List.drop (6:Int).toNat (List.drop (1:Int).toNat p0)))⟩:M.Key)).bind fun x34=>((eW x34 p0).bind fun x36=>(if (!x36)=true then (some ((⟨0,0,(⟨#[]⟩:ByteArray)⟩:M.Key),false)) else (some ((⟨(i64.wrap x2),(i64.wrap (v6-1000000000000)),(aN (List.drop (6:Int).toNat (List.drop (1:Int).toNat p0)))⟩:M.Key),true)))))))
def kL (p0:List Int):Option (M.Key×Bool):=
 if ((List.length p0:Int)==0)=true then (some ((⟨0,0,(⟨#[]⟩:ByteArray)⟩:M.Key),false)) else ((idx p0 0).bind fun x2=>((wK p0 1).bind fun x7=>(if ((i64.wrap x2) != 2)=true then (if (decide ((List.length (List.drop (1:Int).toNat p0):Int)<6))=true then (some ((⟨0,0,(⟨#[]⟩:ByteArray)⟩:M.Key),false)) else ((aAp (List.drop (1:Int).toNat p0) 6).bind fun x11=>(eT p0 x2 fuel 0 0))) else ((toStr (List.drop (1:Int).toNat p0)).bind fun x39=>((iO (⟨(i64.wrap x2),0,(aN (List.drop (1:Int).toNat p0))⟩:M.Key)).bind fun x41=>((eW x41 p0).bind fun x43=>(if (!x43)=true then (some ((⟨0,0,(⟨#[]⟩:ByteArray)⟩:M.Key),false)) else (some ((⟨(i64.wrap x2),0,(aN (List.drop (1:Int).toNat p0))⟩:M.Key),true)))))))))
def dZ (p0:ByteArray) (p1:Int) (p2:Bool):Nat→Int→Option Bool
 | 0,_=>none
 | nL1+1,v7=>if (decide (v7<(p0.size:Int)))=true then ((aKt p0 v7).bind fun x7=>(if (decide ((x7.toNat:Int)≥97))=true then (if (decide ((x7.toNat:Int)≤122))=true then (dZ p0 p1 p2 nL1 (i64.wrap (v7+1))) else (if p2=true then (if (!((x7.toNat:Int)==47))=true then (some false) else (dZ p0 p1 p2 nL1 (i64.wrap (v7+1)))) else (some false))) else (if p2=true then (if (!((x7.toNat:Int)==47))=true then (some false) else (dZ p0 p1 p2 nL1 (i64.wrap (v7+1)))) else (some false)))) else ((cX (p0.size:Int) 1 p1).bind fun x17=>(some x17))
def vU (p0:ByteArray) (p1:Int) (p2:Bool):Option Bool:=
 dZ p0 p1 p2 fuel 0
def fM (p0:ByteArray):Option Bool:=
 (vU p0 8 false).bind fun x1=>(some x1)
def dQ (p0:M.aA):Nat→Int→Option Bool
 | 0,_=>none
 | nL1+1,v8=>if (decide (v8<(List.length p0.Fields:Int)))=true then ((idx p0.Fields v8).bind fun x8=>((fM x8.Name).bind fun x13=>(if (!x13)=true then (some false) else ((cX x8.N 0 1000000000).bind fun x16=>(if (!x16)=true then (some false) else (if (decide (v8>0))=true then ((idx p0.Fields (i64.wrap (v8-1))).bind fun x20=>(if (Op.bytesLess x8.Name.toList x20.Name.toList||x8.Name.toList==x20.Name.toList)=true then (some false) else (dQ p0 nL1 (i64.wrap (v8+1))))) else (dQ p0 nL1 (i64.wrap (v8+1))))))))) else (some (decide ((List.length p0.Fields:Int)≤6)))
def bL (p0:M.aA):Option Bool:=
 dQ p0 fuel 0
def dE  : Nat→Int→List Int→Option (List Int)
 | 0,_,_=>none
 | nL1+1,v1,r7=>if (decide (v1≥128))=true then ((app 1 r7 ([(IntKind.u8.wrap (i64.wrap ((Int.tmod v1 128)+128)))])).bind fun x11=>(dE nL1 (i64.wrap (Int.tdiv v1 128)) (r7++[(IntKind.u8.wrap (i64.wrap ((Int.tmod v1 128)+128)))]))) else ((app 1 r7 ([(IntKind.u8.wrap v1)])).bind fun x17=>(some (r7++[(IntKind.u8.wrap v1)])))
def cQ (p0:List Int) (p1:Int):Option (List Int):=
 (kH p0).bind fun x1=>((cX p1 0 1000000000000).bind fun x3=>(if (!x3)=true then (some x1) else (dE fuel p1 x1)))
def iF (p0:List Int) (p1:List Int):Option (List Int):=
 (cQ p0 (List.length p1:Int)).bind fun x1=>((app 1 x1 p1).bind fun x3=>(some (x1++p1)))
def dO (p0:M.aA):Nat→Int→List Int→Option (List Int)
 | 0,_,_=>none
 | nL1+1,v17,r50000=>if (decide (v17<(List.length p0.Fields:Int)))=true then ((idx p0.Fields v17).bind fun x13=>((iF r50000 (aV x13.Name)).bind fun x18=>((cQ x18 x13.N).bind fun x20=>(dO p0 nL1 (i64.wrap (v17+1)) x20)))) else (some r50000)
def gG (p0:M.aA):Option (List Int):=
 (bL p0).bind fun x1=>(if (!x1)=true then (some ([]:List Int)) else ((cQ ([]:List Int) (List.length p0.Fields:Int)).bind fun x4=>(dO p0 fuel 0 x4)))
def dM (p0:List Int) (x1:(Int×Int×Bool)):Nat→Int→Int→List M.Field→Option (M.aA×Bool)
 | 0,_,_,_=>none
 | nL1+1,v5,v8,r50000=>if (decide (v8<x1.1))=true then ((cD p0 v5 8).bind fun x16=>((cZ p0 x16.2.1).bind fun x18=>(if (!x16.2.2)=true then (some ((⟨([]:List M.Field)⟩:M.aA),false)) else (if (!x18.2.2)=true then (some ((⟨([]:List M.Field)⟩:M.aA),false)) else ((toStr x16.1).bind fun x22=>((app 24 r50000 ([(⟨(aN x16.1),x18.1⟩:M.Field)])).bind fun x24=>(dM p0 x1 nL1 x18.2.1 (i64.wrap (v8+1)) (r50000++[(⟨(aN x16.1),x18.1⟩:M.Field)])))))))) else ((gG (⟨r50000⟩:M.aA)).bind fun x36=>((eW x36 p0).bind fun x38=>(if (!x38)=true then (some ((⟨([]:List M.Field)⟩:M.aA),false)) else (some ((⟨r50000⟩:M.aA),true)))))
def gI (p0:List Int):Option (M.aA×Bool):=
 (cZ p0 0).bind fun x1=>(if (!x1.2.2)=true then (some ((⟨([]:List M.Field)⟩:M.aA),false)) else (if (decide (x1.1>6))=true then (some ((⟨([]:List M.Field)⟩:M.aA),false)) else (dM p0 x1 fuel x1.2.1 0 ([]:List M.Field))))
def wZ (p0:M.Op):Option Bool:=
 (cX p0.Kind 1 6).bind fun x1=>(if (!x1)=true then (some false) else ((fM p0.aC).bind fun x4=>(if (!x4)=true then (some false) else (if (p0.Kind != 5)=true then ((eH p0.Key).bind fun x8=>(if (!x8)=true then (some false) else ((bL p0.aA).bind fun x11=>(if (!x11)=true then (some false) else (if (p0.Kind==6)=true then ((fM p0.Field).bind fun x15=>(some x15)) else (some (p0.Field.toList==(⟨#[]⟩:ByteArray).toList))))))) else ((bL p0.aA).bind fun x17=>(if (!x17)=true then (some false) else (if (p0.Kind==6)=true then ((fM p0.Field).bind fun x21=>(some x21)) else (some (p0.Field.toList==(⟨#[]⟩:ByteArray).toList)))))))))
def kG (p0:List M.Op):Nat→Int→Option Bool
 | 0,_=>none
 | nL1+1,v7=>if (decide (v7<(List.length p0:Int)))=true then ((idx p0 v7).bind fun x7=>((wZ x7).bind fun x12=>(if (!x12)=true then (some false) else (kG p0 nL1 (i64.wrap (v7+1)))))) else (some (decide ((List.length p0:Int)≤6)))
def vV (p0:List M.Op):Option Bool:=
 kG p0 fuel 0
def dF (x13:M.Op) (x20:(List Int)) (x22:(List Int)) (k35:Int→List Int→Option (List Int)):Nat→Int→List Int→Option (List Int)
 | 0,_,_=>none
 | nL2+1,v39_L2,r50000_L2=>if (decide (v39_L2<((4:Nat):Int)))=true then ((idx ([(aV x13.aC),x20,x22,(aV x13.Field)]) v39_L2).bind fun x47=>((iF r50000_L2 x47).bind fun x52=>(dF x13 x20 x22 k35 nL2 (i64.wrap (v39_L2+1)) x52))) else (k35 v39_L2 r50000_L2)
def cN (p0:List M.Op):Nat→Int→List Int→Option (List Int)
 | 0,_,_=>none
 | nL1+1,v17,r50100=>if (decide (v17<(List.length p0:Int)))=true then ((idx p0 v17).bind fun x13=>((cQ r50100 x13.Kind).bind fun x18=>((iO x13.Key).bind fun x20=>((gG x13.aA).bind fun x22=>(dF x13 x20 x22 (fun (v39_L2:Int) (r50000_L2:List Int)=>cN p0 nL1 (i64.wrap (v17+1)) r50000_L2) fuel 0 x18))))) else (some r50100)
def oO (p0:List M.Op):Option (List Int):=
 (vV p0).bind fun x1=>(if (!x1)=true then (some ([]:List Int)) else ((cQ ([]:List Int) (List.length p0:Int)).bind fun x4=>(cN p0 fuel 0 x4)))
def dD (p0:List Int) (x1:(Int×Int×Bool)):Nat→Int→Int→List M.Op→Option ((List M.Op)×Bool)
 | 0,_,_,_=>none
 | nL1+1,v5,v8,r25=>if (decide (v8<x1.1))=true then ((cZ p0 v5).bind fun x19=>(if x19.2.2=true then ((cD p0 x19.2.1 (List.length p0:Int)).bind fun x35=>(if x35.2.2=true then ((cD p0 x35.2.1 (List.length p0:Int)).bind fun x52=>(if x52.2.2=true then ((cD p0 x52.2.1 (List.length p0:Int)).bind fun x70=>(if x70.2.2=true then ((cD p0 x70.2.1 (List.length p0:Int)).bind fun x89=>(if (!x89.2.2)=true then (some (([]:List M.Op),false)) else ((toStr x35.1).bind fun x109=>((kL x52.1).bind fun x111=>((gI x70.1).bind fun x113=>((toStr x89.1).bind fun x115=>((app 96 r25 ([(⟨x19.1,(aN x35.1),x111.1,x113.1,(aN x89.1)⟩:M.Op)])).bind fun x117=>(dD p0 x1 nL1 x89.2.1 (i64.wrap (v8+1)) (r25++[(⟨x19.1,(aN x35.1),x111.1,x113.1,(aN x89.1)⟩:M.Op)]))))))))) else (some (([]:List M.Op),false)))) else (some (([]:List M.Op),false)))) else (some (([]:List M.Op),false)))) else (some (([]:List M.Op),false)))) else ((oO r25).bind fun x266=>((eW x266 p0).bind fun x268=>(if (!x268)=true then (some (([]:List M.Op),false)) else (some (r25,true)))))
def kF (p0:List Int):Option ((List M.Op)×Bool):=
 (cZ p0 0).bind fun x1=>(if (!x1.2.2)=true then (some (([]:List M.Op),false)) else (if (decide (x1.1>6))=true then (some (([]:List M.Op),false)) else (dD p0 x1 fuel x1.2.1 0 ([]:List M.Op))))
def kQ (p0:Int) (p1:Int):Option Int:=
 if (decide (p0<p1))=true then (some (-1)) else (if (decide (p0>p1))=true then (some 1) else (some 0))
def fU (p0:ByteArray) (p1:ByteArray):Option Int:=some (Lib.compareBytes p0.data.toList p1.data.toList)
def sC (p0:ByteArray) (p1:ByteArray):Option Int:=
 (fU p0 p1).bind fun x1=>(some x1)
def cF (p0:M.Key) (p1:M.Key):Option Int:=
 (eH p0).bind fun x1=>(if (!x1)=true then (some 0) else ((eH p1).bind fun x4=>(if (!x4)=true then (some 0) else ((kQ p0.Kind p1.Kind).bind fun x7=>(if (x7 != 0)=true then (some x7) else ((kQ p0.N p1.N).bind fun x10=>(if (x10 != 0)=true then (some x10) else ((sC p0.Text p1.Text).bind fun x13=>(some x13)))))))))
def eE (p0:M.aC):Nat→Int→Option Bool
 | 0,_=>none
 | nL1+1,v8=>if (decide (v8<(List.length p0.Items:Int)))=true then ((idx p0.Items v8).bind fun x8=>((eH x8.Key).bind fun x13=>(if (!x13)=true then (some false) else ((bL x8.aA).bind fun x16=>(if (!x16)=true then (some false) else (if (decide (v8>0))=true then ((idx p0.Items (i64.wrap (v8-1))).bind fun x20=>((cF x20.Key x8.Key).bind fun x25=>(if (decide (x25≥0))=true then (some false) else (eE p0 nL1 (i64.wrap (v8+1)))))) else (eE p0 nL1 (i64.wrap (v8+1))))))))) else ((fM p0.Name).bind fun x28=>(if x28=true then (if (decide ((List.length p0.Items:Int)≤16))=true then ((cX p0.Auto 0 1000000).bind fun x32=>(some x32)) else (some false)) else (some false)))
def bE (p0:M.aC):Option Bool:=
 eE p0 fuel 0
def kS (p0:M.aC) (c0:ByteArray):Option Bool:=
 some (p0.Name.toList==c0.toList)
def bP (p0:List M.aC) (p1:M.aC→Option Bool):Nat→Int→Option Int
 | 0,_=>none
 | nL1+1,v8=>if (decide (v8<(List.length p0:Int)))=true then ((idx p0 v8).bind fun x7=>((p1 x7).bind fun x12=>(if x12=true then (some v8) else (bP p0 p1 nL1 (i64.wrap (v8+1)))))) else (some (-1))
def fB (p0:List M.aC) (p1:M.aC→Option Bool):Option Int:=
 bP p0 p1 fuel 0
def fS (p0:M.Database) (p1:ByteArray):Option Int:=
 (fB p0.Stores (fun z0=>kS z0 p1)).bind fun x1=>(some x1)
def cC (p0:List M.aE) (p1:M.aE):Nat→Int→Option Int
 | 0,_=>none
 | nL1+1,v8=>if (decide (v8<(List.length p0:Int)))=true then ((idx p0 v8).bind fun x8=>(if ((p1.aC.toList==x8.aC.toList)&&(p1.Field.toList==x8.Field.toList))=true then (some v8) else (cC p0 p1 nL1 (i64.wrap (v8+1))))) else (some (-1))
def fH (p0:List M.aE) (p1:M.aE):Option Int:=
 cC p0 p1 fuel 0
def eF (p0:List M.aE) (p1:M.aE):Option Bool:=
 (fH p0 p1).bind fun x1=>(some (decide (x1≥0)))
def jX (p0:M.Field) (c0:ByteArray):Option Bool:=
 some (p0.Name.toList==c0.toList)
def bO (p0:List M.Field) (p1:M.Field→Option Bool):Nat→Int→Option Int
 | 0,_=>none
 | nL1+1,v8=>if (decide (v8<(List.length p0:Int)))=true then ((idx p0 v8).bind fun x7=>((p1 x7).bind fun x12=>(if x12=true then (some v8) else (bO p0 p1 nL1 (i64.wrap (v8+1)))))) else (some (-1))
def fD (p0:List M.Field) (p1:M.Field→Option Bool):Option Int:=
 bO p0 p1 fuel 0
def oT (p0:M.aA) (p1:ByteArray):Option Int:=
 (fD p0.Fields (fun z0=>jX z0 p1)).bind fun x1=>(some x1)
def dH (p0:M.aA) (p1:ByteArray):Option (Int×Bool):=
 (oT p0 p1).bind fun x1=>(if (decide (x1<0))=true then (some (0,false)) else ((idx p0.Fields x1).bind fun x4=>(some (x4.N,true))))
def lA (p0:M.Item) (p1:M.Item) (p2:ByteArray):Option Bool:=
 (dH p0.aA p2).bind fun x1=>((dH p1.aA p2).bind fun x3=>(if (decide (x1.1<x3.1))=true then (some true) else (if (x1.1==x3.1)=true then ((cF p0.Key p1.Key).bind fun x7=>(some (decide (x7<0)))) else (some false))))
def gN (p1:ByteArray) (r11:List M.Item) (x15:M.Item) (k24:Int→Option (List M.Item)):Nat→Int→Option (List M.Item)
 | 0,_=>none
 | nL2+1,v10_L2=>if (decide (v10_L2>0))=true then ((idx r11 (i64.wrap (v10_L2-1))).bind fun x36=>((lA x15 x36 p1).bind fun x41=>(if x41=true then (gN p1 r11 x15 k24 nL2 (i64.wrap (v10_L2-1))) else (k24 v10_L2)))) else (k24 v10_L2)
def eY (p0:M.aC) (p1:ByteArray):Nat→Int→List M.Item→Option (List M.Item)
 | 0,_,_=>none
 | nL1+1,v15,r11=>if (decide (v15<(List.length p0.Items:Int)))=true then ((idx p0.Items v15).bind fun x15=>((dH x15.aA p1).bind fun x20=>(if (!x20.2)=true then (eY p0 p1 nL1 (i64.wrap (v15+1)) r11) else (gN p1 r11 x15 (fun (v10_L2:Int)=>(mK x15).bind fun x55=>((aDU 56 r11 v10_L2 ([x55])).bind fun x57=>(eY p0 p1 nL1 (i64.wrap (v15+1)) (List.take v10_L2.toNat r11++([x55]++List.drop v10_L2.toNat r11))))) fuel (List.length r11:Int))))) else (some r11)
def tO (p0:M.aC) (p1:ByteArray):Option (List M.Item):=
 eY p0 p1 fuel 0 ([]:List M.Item)
def dB (p1:ByteArray) (x1:(List M.Item)):Nat→Int→Option (M.Key×M.Key×Bool)
 | 0,_=>none
 | nL1+1,v8=>if (decide (v8<(List.length x1:Int)))=true then ((idx x1 (i64.wrap (v8-1))).bind fun x13=>((dH x13.aA p1).bind fun x18=>((idx x1 v8).bind fun x20=>((dH x20.aA p1).bind fun x25=>(if (x18.1==x25.1)=true then (some (x13.Key,x20.Key,true)) else (dB p1 x1 nL1 (i64.wrap (v8+1)))))))) else (some ((⟨0,0,(⟨#[]⟩:ByteArray)⟩:M.Key),(⟨0,0,(⟨#[]⟩:ByteArray)⟩:M.Key),false))
def eI (p0:M.aC) (p1:ByteArray):Option (M.Key×M.Key×Bool):=
 (tO p0 p1).bind fun x1=>(dB p1 x1 fuel 1)
def cV (p0:M.Database):Nat→Int→Option Bool
 | 0,_=>none
 | nL2+1,v64=>if (decide (v64<(List.length p0.Unique:Int)))=true then ((idx p0.Unique v64).bind fun x38=>((fS p0 x38.aC).bind fun x43=>(if (decide (x43<0))=true then (some false) else ((fM x38.Field).bind fun x46=>(if (!x46)=true then (some false) else ((aAp p0.Unique v64).bind fun x49=>((eF (List.take v64.toNat p0.Unique) x38).bind fun x51=>(if x51=true then (some false) else ((idx p0.Stores x43).bind fun x54=>((eI x54 x38.Field).bind fun x59=>(if x59.2.2=true then (some false) else (cV p0 nL2 (i64.wrap (v64+1)))))))))))))) else (some true)
def cR (p0:M.Database):Nat→Int→Option Bool
 | 0,_=>none
 | nL1+1,v36=>if (decide (v36<(List.length p0.Stores:Int)))=true then ((idx p0.Stores v36).bind fun x16=>((bE x16).bind fun x21=>(if (!x21)=true then (some false) else (if (decide (v36>0))=true then ((idx p0.Stores (i64.wrap (v36-1))).bind fun x25=>(if (Op.bytesLess x16.Name.toList x25.Name.toList||x16.Name.toList==x25.Name.toList)=true then (some false) else (cR p0 nL1 (i64.wrap (v36+1))))) else (cR p0 nL1 (i64.wrap (v36+1))))))) else (cV p0 fuel 0)
def gA (p0:M.Database):Option Bool:=
 (fM p0.Name).bind fun x1=>(if (!x1)=true then (some false) else ((cX p0.Version 0 1000).bind fun x4=>(if (!x4)=true then (some false) else (if (decide ((List.length p0.Stores:Int)>4))=true then (some false) else (if (decide ((List.length p0.Unique:Int)>4))=true then (some false) else (cR p0 fuel 0))))))
def mR (p0:M.Item) (c0:M.Key):Option Bool:=
 some ((p0.Key.Kind==c0.Kind)&&((p0.Key.N==c0.N)&&(p0.Key.Text.toList==c0.Text.toList)))
def bT (p0:List M.Item) (p1:M.Item→Option Bool):Nat→Int→Option Int
 | 0,_=>none
 | nL1+1,v8=>if (decide (v8<(List.length p0:Int)))=true then ((idx p0 v8).bind fun x7=>((p1 x7).bind fun x12=>(if x12=true then (some v8) else (bT p0 p1 nL1 (i64.wrap (v8+1)))))) else (some (-1))
def eC (p0:List M.Item) (p1:M.Item→Option Bool):Option Int:=
 bT p0 p1 fuel 0
def fI (p0:M.aC) (p1:M.Key):Option Int:=
 (eC p0.Items (fun z0=>mR z0 p1)).bind fun x1=>(some x1)
def gH (p0:M.aC) (p1:M.Key) (p2:M.aA) (x11:M.aC):Nat→Int→Option (M.aC×Bool)
 | 0,_=>none
 | nL1+1,v10=>if (decide (v10<(List.length x11.Items:Int)))=true then ((idx x11.Items v10).bind fun x50=>((cF x50.Key p1).bind fun x55=>(if (decide (x55<0))=true then (gH p0 p1 p2 x11 nL1 (i64.wrap (v10+1))) else ((aZ p2).bind fun x58=>((aDU 56 x11.Items v10 ([(⟨p1,x58⟩:M.Item)])).bind fun x60=>(if (p1.Kind==1)=true then (if (decide (p1.N>x11.Auto))=true then (if (decide (p1.N≤1000000))=true then ((bE (⟨x11.Name,(List.take v10.toNat x11.Items++([(⟨p1,x58⟩:M.Item)]++List.drop v10.toNat x11.Items)),p1.N⟩:M.aC)).bind fun x75=>(if (!x75)=true then ((aP p0).bind fun x78=>(some (x78,false))) else (some ((⟨x11.Name,(List.take v10.toNat x11.Items++([(⟨p1,x58⟩:M.Item)]++List.drop v10.toNat x11.Items)),p1.N⟩:M.aC),true)))) else ((bE (⟨x11.Name,(List.take v10.toNat x11.Items++([(⟨p1,x58⟩:M.Item)]++List.drop v10.toNat x11.Items)),x11.Auto⟩:M.aC)).bind fun x80=>(if (!x80)=true then ((aP p0).bind fun x83=>(some (x83,false))) else (some ((⟨x11.Name,(List.take v10.toNat x11.Items++([(⟨p1,x58⟩:M.Item)]++List.drop v10.toNat x11.Items)),x11.Auto⟩:M.aC),true))))) else ((bE (⟨x11.Name,(List.take v10.toNat x11.Items++([(⟨p1,x58⟩:M.Item)]++List.drop v10.toNat x11.Items)),x11.Auto⟩:M.aC)).bind fun x85=>(if (!x85)=true then ((aP p0).bind fun x88=>(some (x88,false))) else (some ((⟨x11.Name,(List.take v10.toNat x11.Items++([(⟨p1,x58⟩:M.Item)]++List.drop v10.toNat x11.Items)),x11.Auto⟩:M.aC),true))))) else ((bE (⟨x11.Name,(List.take v10.toNat x11.Items++([(⟨p1,x58⟩:M.Item)]++List.drop v10.toNat x11.Items)),x11.Auto⟩:M.aC)).bind fun x90=>(if (!x90)=true then ((aP p0).bind fun x93=>(some (x93,false))) else (some ((⟨x11.Name,(List.take v10.toNat x11.Items++([(⟨p1,x58⟩:M.Item)]++List.drop v10.toNat x11.Items)),x11.Auto⟩:M.aC),true)))))))))) else ((aZ p2).bind fun x95=>((aDU 56 x11.Items v10 ([(⟨p1,x95⟩:M.Item)])).bind fun x97=>(if (p1.Kind==1)=true then (if (decide (p1.N>x11.Auto))=true then (if (decide (p1.N≤1000000))=true then ((bE (⟨x11.Name,(List.take v10.toNat x11.Items++([(⟨p1,x95⟩:M.Item)]++List.drop v10.toNat x11.Items)),p1.N⟩:M.aC)).bind fun x112=>(if (!x112)=true then ((aP p0).bind fun x115=>(some (x115,false))) else (some ((⟨x11.Name,(List.take v10.toNat x11.Items++([(⟨p1,x95⟩:M.Item)]++List.drop v10.toNat x11.Items)),p1.N⟩:M.aC),true)))) else ((bE (⟨x11.Name,(List.take v10.toNat x11.Items++([(⟨p1,x95⟩:M.Item)]++List.drop v10.toNat x11.Items)),x11.Auto⟩:M.aC)).bind fun x117=>(if (!x117)=true then ((aP p0).bind fun x120=>(some (x120,false))) else (some ((⟨x11.Name,(List.take v10.toNat x11.Items++([(⟨p1,x95⟩:M.Item)]++List.drop v10.toNat x11.Items)),x11.Auto⟩:M.aC),true))))) else ((bE (⟨x11.Name,(List.take v10.toNat x11.Items++([(⟨p1,x95⟩:M.Item)]++List.drop v10.toNat x11.Items)),x11.Auto⟩:M.aC)).bind fun x122=>(if (!x122)=true then ((aP p0).bind fun x125=>(some (x125,false))) else (some ((⟨x11.Name,(List.take v10.toNat x11.Items++([(⟨p1,x95⟩:M.Item)]++List.drop v10.toNat x11.Items)),x11.Auto⟩:M.aC),true))))) else ((bE (⟨x11.Name,(List.take v10.toNat x11.Items++([(⟨p1,x95⟩:M.Item)]++List.drop v10.toNat x11.Items)),x11.Auto⟩:M.aC)).bind fun x127=>(if (!x127)=true then ((aP p0).bind fun x130=>(some (x130,false))) else (some ((⟨x11.Name,(List.take v10.toNat x11.Items++([(⟨p1,x95⟩:M.Item)]++List.drop v10.toNat x11.Items)),x11.Auto⟩:M.aC),true)))))))
def iY (p0:M.aC) (p1:M.Key) (p2:M.aA):Option (M.aC×Bool):=
 (bE p0).bind fun x1=>(if (!x1)=true then ((aP p0).bind fun x4=>(some (x4,false))) else ((eH p1).bind fun x6=>(if (!x6)=true then ((aP p0).bind fun x9=>(some (x9,false))) else ((aP p0).bind fun x11=>((fI p0 p1).bind fun x13=>(if (decide (x13≥0))=true then ((aZ p2).bind fun x16=>((idx x11.Items x13).bind fun x18=>((bE (⟨x11.Name,(List.set x11.Items x13.toNat (⟨x18.Key,x16⟩:M.Item)),x11.Auto⟩:M.aC)).bind fun x31=>(if (!x31)=true then ((aP p0).bind fun x34=>(some (x34,false))) else (some ((⟨x11.Name,(List.set x11.Items x13.toNat (⟨x18.Key,x16⟩:M.Item)),x11.Auto⟩:M.aC),true)))))) else (gH p0 p1 p2 x11 fuel 0)))))))
def uJ (p0:M.aC) (p1:M.Key) (p2:M.aA):Option (M.aC×Bool):=
 (fI p0 p1).bind fun x1=>(if (decide (x1≥0))=true then ((aP p0).bind fun x4=>(some (x4,false))) else ((iY p0 p1 p2).bind fun x6=>(some (x6.1,x6.2))))
def nJ (p0:M.Key) (p1:M.bU):Option Bool:=
 (eH p0).bind fun x1=>(if (!x1)=true then (some false) else (if p1.HasLow=true then ((eH p1.Low).bind fun x5=>(if (!x5)=true then (some false) else (if p1.HasHigh=true then ((eH p1.High).bind fun x9=>(if (!x9)=true then (some false) else ((cF p0 p1.Low).bind fun x12=>(if (!(decide (x12<0)))=true then ((cF p0 p1.High).bind fun x15=>(some (!(decide (x15>0))))) else (some false))))) else ((cF p0 p1.Low).bind fun x17=>(if (!(decide (x17<0)))=true then (some true) else (some false)))))) else (if p1.HasHigh=true then ((eH p1.High).bind fun x21=>(if (!x21)=true then (some false) else ((cF p0 p1.High).bind fun x24=>(some (!(decide (x24>0))))))) else (some true))))
def eG (p0:M.Item) (c0:M.bU):Option Bool:=
 (nJ p0.Key c0).bind fun x1=>(some x1)
def cH (p0:M.aC) (p1:M.bU) (x1:M.aC):Nat→Int→Int→List M.Item→Option (M.aC×Int)
 | 0,_,_,_=>none
 | nL1+1,v5,v6,r8=>if (decide (v6<(List.length r8:Int)))=true then ((idx r8 v6).bind fun x42=>((eG x42 p1).bind fun x47=>(if (!x47)=true then ((idx r8 v5).bind fun x50=>(cH p0 p1 x1 nL1 (i64.wrap (v5+1)) (i64.wrap (v6+1)) (List.set r8 v5.toNat x42))) else (cH p0 p1 x1 nL1 v5 (i64.wrap (v6+1)) r8)))) else ((wK r8 v5).bind fun x68=>(some ((⟨x1.Name,(List.take v5.toNat r8),x1.Auto⟩:M.aC),(i64.wrap ((List.length p0.Items:Int)-(List.length (List.take v5.toNat r8):Int))))))
def hM (p0:M.aC) (p1:M.bU):Option (M.aC×Int):=
 (aP p0).bind fun x1=>((bE p0).bind fun x3=>(if (!x3)=true then (some (x1,0)) else ((eC x1.Items (fun z0=>eG z0 p1)).bind fun x17=>(if (x17==(-1))=true then (some (x1,(i64.wrap ((List.length p0.Items:Int)-(List.length x1.Items:Int))))) else (cH p0 p1 x1 fuel x17 (i64.wrap (x17+1)) x1.Items)))))
def fK (p0:M.aA) (p1:ByteArray) (p2:Int) (x1:M.aA):Nat→Int→Option (M.aA×Bool)
 | 0,_=>none
 | nL1+1,v10=>if (decide (v10<(List.length x1.Fields:Int)))=true then ((idx x1.Fields v10).bind fun x41=>(if (Op.bytesLess x41.Name.toList p1.toList)=true then (fK p0 p1 p2 x1 nL1 (i64.wrap (v10+1))) else ((aDU 24 x1.Fields v10 ([(⟨p1,p2⟩:M.Field)])).bind fun x47=>((bL p0).bind fun x57=>(if (!x57)=true then ((aZ p0).bind fun x60=>(some (x60,false))) else ((bL (⟨(List.take v10.toNat x1.Fields++([(⟨p1,p2⟩:M.Field)]++List.drop v10.toNat x1.Fields))⟩:M.aA)).bind fun x62=>(if (!x62)=true then ((aZ p0).bind fun x65=>(some (x65,false))) else (some ((⟨(List.take v10.toNat x1.Fields++([(⟨p1,p2⟩:M.Field)]++List.drop v10.toNat x1.Fields))⟩:M.aA),true))))))))) else ((aDU 24 x1.Fields v10 ([(⟨p1,p2⟩:M.Field)])).bind fun x67=>((bL p0).bind fun x77=>(if (!x77)=true then ((aZ p0).bind fun x80=>(some (x80,false))) else ((bL (⟨(List.take v10.toNat x1.Fields++([(⟨p1,p2⟩:M.Field)]++List.drop v10.toNat x1.Fields))⟩:M.aA)).bind fun x82=>(if (!x82)=true then ((aZ p0).bind fun x85=>(some (x85,false))) else (some ((⟨(List.take v10.toNat x1.Fields++([(⟨p1,p2⟩:M.Field)]++List.drop v10.toNat x1.Fields))⟩:M.aA),true)))))))
def lU (p0:M.aA) (p1:ByteArray) (p2:Int):Option (M.aA×Bool):=
 (aZ p0).bind fun x1=>((oT p0 p1).bind fun x3=>(if (decide (x3≥0))=true then ((idx x1.Fields x3).bind fun x6=>((bL p0).bind fun x19=>(if (!x19)=true then ((aZ p0).bind fun x22=>(some (x22,false))) else ((bL (⟨(List.set x1.Fields x3.toNat (⟨x6.Name,p2⟩:M.Field))⟩:M.aA)).bind fun x24=>(if (!x24)=true then ((aZ p0).bind fun x27=>(some (x27,false))) else (some ((⟨(List.set x1.Fields x3.toNat (⟨x6.Name,p2⟩:M.Field))⟩:M.aA),true))))))) else (fK p0 p1 p2 x1 fuel 0)))
def yW (p0:M.aC) (p1:M.Op):Option (M.aC×Int×Bool):=
 (fI p0 p1.Key).bind fun x1=>(if (p1.Kind==1)=true then ((iY p0 p1.Key p1.aA).bind fun x4=>(some (x4.1,1,x4.2))) else (if (p1.Kind==2)=true then ((uJ p0 p1.Key p1.aA).bind fun x7=>(some (x7.1,1,x7.2))) else (if (p1.Kind==3)=true then ((hM p0 (⟨true,true,p1.Key,p1.Key⟩:M.bU)).bind fun x10=>(some (x10.1,x10.2,true))) else (if (p1.Kind==5)=true then ((hM p0 (⟨false,false,(⟨0,0,(⟨#[]⟩:ByteArray)⟩:M.Key),(⟨0,0,(⟨#[]⟩:ByteArray)⟩:M.Key)⟩:M.bU)).bind fun x13=>(some (x13.1,x13.2,true))) else (if (p1.Kind==4)=true then (if (decide (x1<0))=true then (some (p0,(-1),true)) else ((idx p0.Items x1).bind fun x17=>(some (p0,(List.length x17.aA.Fields:Int),true)))) else (if (decide (x1≥0))=true then ((idx p0.Items x1).bind fun x23=>((dH x23.aA p1.Field).bind fun x28=>((lU x23.aA p1.Field (i64.wrap (x28.1+1))).bind fun x30=>(if (!x30.2)=true then (some (p0,0,false)) else ((iY p0 p1.Key x30.1).bind fun x33=>(some (x33.1,(i64.wrap (x28.1+1)),x33.2))))))) else ((dH (⟨([]:List M.Field)⟩:M.aA) p1.Field).bind fun x43=>((lU (⟨([]:List M.Field)⟩:M.aA) p1.Field (i64.wrap (x43.1+1))).bind fun x45=>(if (!x45.2)=true then (some (p0,0,false)) else ((iY p0 p1.Key x45.1).bind fun x48=>(some (x48.1,(i64.wrap (x43.1+1)),x48.2))))))))))))
def uY (p0:M.Database) (p1:M.Op):Option (M.Database×Int×Bool):=
 (cK p0).bind fun x1=>((fS p0 p1.aC).bind fun x3=>((gA p0).bind fun x5=>(if (!x5)=true then (some (x1,0,false)) else ((wZ p1).bind fun x8=>(if (!x8)=true then (some (x1,0,false)) else (if (decide (x3<0))=true then (some (x1,0,false)) else ((idx x1.Stores x3).bind fun x12=>((yW x12 p1).bind fun x17=>(if (!x17.2.2)=true then ((cK p0).bind fun x31=>(some (x31,0,false))) else ((gA (⟨x1.Name,x1.Version,(List.set x1.Stores x3.toNat x17.1),x1.Unique⟩:M.Database)).bind fun x33=>(if (!x33)=true then ((cK p0).bind fun x36=>(some (x36,0,false))) else (some ((⟨x1.Name,x1.Version,(List.set x1.Stores x3.toNat x17.1),x1.Unique⟩:M.Database),x17.2.1,true)))))))))))))
def iM (p0:M.Database) (p1:List M.Op):Nat→Int→ByteArray→Int→List Int→List M.aC→List M.aE→Option (M.Database×(List Int)×Bool)
 | 0,_,_,_,_,_,_=>none
 | nL1+1,v29,w7_0,w7_1,r16,w7_2,w7_3=>if (decide (v29<(List.length p1:Int)))=true then ((idx p1 v29).bind fun x32=>((uY (⟨w7_0,w7_1,w7_2,w7_3⟩:M.Database) x32).bind fun x37=>(if (!x37.2.2)=true then ((cK p0).bind fun x40=>(some (x40,([]:List Int),false))) else ((app 8 r16 ([x37.2.1])).bind fun x42=>(iM p0 p1 nL1 (i64.wrap (v29+1)) x37.1.Name x37.1.Version (r16++[x37.2.1]) x37.1.Stores x37.1.Unique))))) else (some ((⟨w7_0,w7_1,w7_2,w7_3⟩:M.Database),r16,true))
def rZ (p0:M.Database) (p1:List M.Op):Option (M.Database×(List Int)×Bool):=
 (cK p0).bind fun x1=>((gA p0).bind fun x15=>(if (!x15)=true then (some (x1,([]:List Int),false)) else (if (decide ((List.length p1:Int)>6))=true then (some (x1,([]:List Int),false)) else (iM p0 p1 fuel 0 x1.Name x1.Version ([]:List Int) x1.Stores x1.Unique))))
def fJ (x3:((List (List Int))×Int)):Nat→Int→ByteArray→Int→List M.aC→List M.aE→Option (M.Database×Int)
 | 0,_,_,_,_,_=>none
 | nL1+1,v22,w4_0,w4_1,w4_2,w4_3=>if (decide (v22<(List.length x3.1:Int)))=true then ((idx x3.1 v22).bind fun x16=>((kF x16).bind fun x21=>(if (!x21.2)=true then (some ((⟨w4_0,w4_1,w4_2,w4_3⟩:M.Database),v22)) else ((rZ (⟨w4_0,w4_1,w4_2,w4_3⟩:M.Database) x21.1).bind fun x24=>(fJ x3 nL1 (i64.wrap (v22+1)) x24.1.Name x24.1.Version x24.1.Stores x24.1.Unique))))) else (some ((⟨w4_0,w4_1,w4_2,w4_3⟩:M.Database),(List.length x3.1:Int)))
def pN (p0:M.fQ):Option (M.Database×Int):=
 (cK p0.Base).bind fun x1=>((tZ p0.Log).bind fun x3=>(fJ x3 fuel 0 x1.Name x1.Version x1.Stores x1.Unique))
def uR (p0:Int):Option M.Key:=
 some (⟨1,p0,(⟨#[]⟩:ByteArray)⟩:M.Key)
def wJ (p0:M.Database) (p1:Int):Option (M.aA×Bool×Bool):=
 (fS p0 (⟨#[110,111,116,101,115]⟩:ByteArray)).bind fun x1=>(if (decide (x1<0))=true then (some ((⟨([]:List M.Field)⟩:M.aA),false,false)) else ((idx p0.Stores x1).bind fun x4=>((uR p1).bind fun x9=>((fI x4 x9).bind fun x11=>(if (decide (x11<0))=true then (some ((⟨([]:List M.Field)⟩:M.aA),false,true)) else ((idx x4.Items x11).bind fun x14=>(some (x14.aA,true,true))))))))
def rN (p0:M.World) (p1:M.gX) (p2:Int) (p3:ByteArray):Option Int:=
 (vY p0 p1.Site p1.Top).bind fun x1=>(if (!x1.2)=true then (some (-1)) else ((pN x1.1.fQ).bind fun x4=>((wJ x4.1 p2).bind fun x6=>((dH x6.1 p3).bind fun x8=>(if (!x8.2)=true then (some (-1)) else (some (if 1000<x8.1 then 1000 else x8.1)))))))
def hE (p0:M.Registration) (p1:M.Registration):Option Bool:=
 if (!(p0.Site.toList==p1.Site.toList))=true then (some false) else (if (p0.Installing != p1.Installing)=true then (some false) else (if (p0.Waiting != p1.Waiting)=true then (some false) else (if (p0.Active != p1.Active)=true then (some false) else (some true))))
def jC (p0:List Int) (p1:List Int):Nat→Int→Option Bool
 | 0,_=>none
 | nL1+1,v5=>if (decide (v5<(List.length p0:Int)))=true then ((idx p0 v5).bind fun x7=>((idx p1 v5).bind fun x12=>(if (x7 != x12)=true then (some false) else (jC p0 p1 nL1 (i64.wrap (v5+1)))))) else (some true)
def oS (p0:List Int) (p1:List Int):Option Bool:=
 if ((List.length p0:Int) != (List.length p1:Int))=true then (some false) else (jC p0 p1 fuel 0)
def mI (p0:M.Response) (p1:M.Response):Option Bool:=
 if (p0.Type_ != p1.Type_)=true then (some false) else (if (p0.Status != p1.Status)=true then (some false) else (if (p0.Version != p1.Version)=true then (some false) else ((oS p0.Body p1.Body).bind fun x4=>(if (!x4)=true then (some false) else (if (!(p0.Shares==p1.Shares))=true then (some false) else (some true))))))
def rD (p0:M.Cached) (p1:M.Cached):Option Bool:=
 if (!(p0.Site.toList==p1.Site.toList))=true then (some false) else (if (!(p0.Path.toList==p1.Path.toList))=true then (some false) else ((mI p0.Response p1.Response).bind fun x3=>(if (!x3)=true then (some false) else (some true))))
def gJ (p0:List M.Cached) (p1:List M.Cached):Nat→Int→Option Bool
 | 0,_=>none
 | nL1+1,v5=>if (decide (v5<(List.length p0:Int)))=true then ((idx p0 v5).bind fun x7=>((idx p1 v5).bind fun x12=>((rD x7 x12).bind fun x17=>(if (!x17)=true then (some false) else (gJ p0 p1 nL1 (i64.wrap (v5+1))))))) else (some true)
def nT (p0:List M.Cached) (p1:List M.Cached):Option Bool:=
 if ((List.length p0:Int) != (List.length p1:Int))=true then (some false) else (gJ p0 p1 fuel 0)
def uI (p0:M.Cache) (p1:M.Cache):Option Bool:=
 if (p0.Version != p1.Version)=true then (some false) else ((nT p0.Entries p1.Entries).bind fun x2=>(if (!x2)=true then (some false) else (some true)))
def iC (p0:List M.Cache) (p1:List M.Cache):Nat→Int→Option Bool
 | 0,_=>none
 | nL1+1,v5=>if (decide (v5<(List.length p0:Int)))=true then ((idx p0 v5).bind fun x7=>((idx p1 v5).bind fun x12=>((uI x7 x12).bind fun x17=>(if (!x17)=true then (some false) else (iC p0 p1 nL1 (i64.wrap (v5+1))))))) else (some true)
def rG (p0:List M.Cache) (p1:List M.Cache):Option Bool:=
 if ((List.length p0:Int) != (List.length p1:Int))=true then (some false) else (iC p0 p1 fuel 0)
def mC (p0:M.bF) (p1:M.bF):Option Bool:=
 (rG p0.Caches p1.Caches).bind fun x1=>(if (!x1)=true then (some false) else (some true))
def vE (p0:M.Key) (p1:M.Key):Option Bool:=
 if (p0.Kind != p1.Kind)=true then (some false) else (if (p0.N != p1.N)=true then (some false) else (if (!(p0.Text.toList==p1.Text.toList))=true then (some false) else (some true)))
def tB (p0:M.Field) (p1:M.Field):Option Bool:=
 if (!(p0.Name.toList==p1.Name.toList))=true then (some false) else (if (p0.N != p1.N)=true then (some false) else (some true))
def hZ (p0:List M.Field) (p1:List M.Field):Nat→Int→Option Bool
 | 0,_=>none
 | nL1+1,v5=>if (decide (v5<(List.length p0:Int)))=true then ((idx p0 v5).bind fun x7=>((idx p1 v5).bind fun x12=>((tB x7 x12).bind fun x17=>(if (!x17)=true then (some false) else (hZ p0 p1 nL1 (i64.wrap (v5+1))))))) else (some true)
def rL (p0:List M.Field) (p1:List M.Field):Option Bool:=
 if ((List.length p0:Int) != (List.length p1:Int))=true then (some false) else (hZ p0 p1 fuel 0)
def rM (p0:M.aA) (p1:M.aA):Option Bool:=
 (rL p0.Fields p1.Fields).bind fun x1=>(if (!x1)=true then (some false) else (some true))
def vO (p0:M.Item) (p1:M.Item):Option Bool:=
 (vE p0.Key p1.Key).bind fun x1=>(if (!x1)=true then (some false) else ((rM p0.aA p1.aA).bind fun x4=>(if (!x4)=true then (some false) else (some true))))
def jB (p0:List M.Item) (p1:List M.Item):Nat→Int→Option Bool
 | 0,_=>none
 | nL1+1,v5=>if (decide (v5<(List.length p0:Int)))=true then ((idx p0 v5).bind fun x7=>((idx p1 v5).bind fun x12=>((vO x7 x12).bind fun x17=>(if (!x17)=true then (some false) else (jB p0 p1 nL1 (i64.wrap (v5+1))))))) else (some true)
def uL (p0:List M.Item) (p1:List M.Item):Option Bool:=
 if ((List.length p0:Int) != (List.length p1:Int))=true then (some false) else (jB p0 p1 fuel 0)
def lP (p0:M.aC) (p1:M.aC):Option Bool:=
 if (!(p0.Name.toList==p1.Name.toList))=true then (some false) else ((uL p0.Items p1.Items).bind fun x2=>(if (!x2)=true then (some false) else (if (p0.Auto != p1.Auto)=true then (some false) else (some true))))
def hU (p0:List M.aC) (p1:List M.aC):Nat→Int→Option Bool
 | 0,_=>none
 | nL1+1,v5=>if (decide (v5<(List.length p0:Int)))=true then ((idx p0 v5).bind fun x7=>((idx p1 v5).bind fun x12=>((lP x7 x12).bind fun x17=>(if (!x17)=true then (some false) else (hU p0 p1 nL1 (i64.wrap (v5+1))))))) else (some true)
def pH (p0:List M.aC) (p1:List M.aC):Option Bool:=
 if ((List.length p0:Int) != (List.length p1:Int))=true then (some false) else (hU p0 p1 fuel 0)
def mL (p0:M.aE) (p1:M.aE):Option Bool:=
 if (!(p0.aC.toList==p1.aC.toList))=true then (some false) else (if (!(p0.Field.toList==p1.Field.toList))=true then (some false) else (some true))
def eZ (p0:List M.aE) (p1:List M.aE):Nat→Int→Option Bool
 | 0,_=>none
 | nL1+1,v5=>if (decide (v5<(List.length p0:Int)))=true then ((idx p0 v5).bind fun x7=>((idx p1 v5).bind fun x12=>((mL x7 x12).bind fun x17=>(if (!x17)=true then (some false) else (eZ p0 p1 nL1 (i64.wrap (v5+1))))))) else (some true)
def kW (p0:List M.aE) (p1:List M.aE):Option Bool:=
 if ((List.length p0:Int) != (List.length p1:Int))=true then (some false) else (eZ p0 p1 fuel 0)
def mQ (p0:M.Database) (p1:M.Database):Option Bool:=
 if (!(p0.Name.toList==p1.Name.toList))=true then (some false) else (if (p0.Version != p1.Version)=true then (some false) else ((pH p0.Stores p1.Stores).bind fun x3=>(if (!x3)=true then (some false) else ((kW p0.Unique p1.Unique).bind fun x6=>(if (!x6)=true then (some false) else (some true))))))
def wE (p0:M.fQ) (p1:M.fQ):Option Bool:=
 (mQ p0.Base p1.Base).bind fun x1=>(if (!x1)=true then (some false) else ((oS p0.Log p1.Log).bind fun x4=>(if (!x4)=true then (some false) else (if (p0.Count != p1.Count)=true then (some false) else (some true)))))
def tH (p0:M.bM) (p1:M.bM):Option Bool:=
 if (p0.Device != p1.Device)=true then (some false) else (if (p0.Seq != p1.Seq)=true then (some false) else ((vE p0.Key p1.Key).bind fun x3=>(if (!x3)=true then (some false) else (if (!(p0.Field.toList==p1.Field.toList))=true then (some false) else (if (p0.N != p1.N)=true then (some false) else (some true))))))
def iE (p0:List M.bM) (p1:List M.bM):Nat→Int→Option Bool
 | 0,_=>none
 | nL1+1,v5=>if (decide (v5<(List.length p0:Int)))=true then ((idx p0 v5).bind fun x7=>((idx p1 v5).bind fun x12=>((tH x7 x12).bind fun x17=>(if (!x17)=true then (some false) else (iE p0 p1 nL1 (i64.wrap (v5+1))))))) else (some true)
def mS (p0:List M.bM) (p1:List M.bM):Option Bool:=
 if ((List.length p0:Int) != (List.length p1:Int))=true then (some false) else (iE p0 p1 fuel 0)
def rO (p0:M.bH) (p1:M.bH):Option Bool:=
 if (p0.Device != p1.Device)=true then (some false) else (if (p0.Next != p1.Next)=true then (some false) else ((mS p0.Writes p1.Writes).bind fun x3=>(if (!x3)=true then (some false) else (some true))))
def vW (p0:M.Sync) (p1:M.Sync):Option Bool:=
 (rO p0.bH p1.bH).bind fun x1=>(if (!x1)=true then (some false) else (if (p0.Tries != p1.Tries)=true then (some false) else (if (p0.WaitUntil != p1.WaitUntil)=true then (some false) else (some true))))
def nW (p0:M.aK) (p1:M.aK):Option Bool:=
 (lP p0.Base p1.Base).bind fun x1=>(if (!x1)=true then (some false) else (if (p0.Seen != p1.Seen)=true then (some false) else ((vW p0.Sync p1.Sync).bind fun x5=>(if (!x5)=true then (some false) else (some true)))))
def pR (p0:M.Bucket) (p1:M.Bucket):Option Bool:=
 if (!(p0.Site.toList==p1.Site.toList))=true then (some false) else (if (!(p0.Top.toList==p1.Top.toList))=true then (some false) else ((hE p0.Registration p1.Registration).bind fun x3=>(if (!x3)=true then (some false) else ((mC p0.Caches p1.Caches).bind fun x6=>(if (!x6)=true then (some false) else ((wE p0.fQ p1.fQ).bind fun x9=>(if (!x9)=true then (some false) else ((nW p0.aK p1.aK).bind fun x12=>(if (!x12)=true then (some false) else (if (p0.LastUsed != p1.LastUsed)=true then (some false) else (if (!(p0.Persistent==p1.Persistent))=true then (some false) else (some true))))))))))))
def fY (p0:List M.Bucket) (p1:List M.Bucket):Nat→Int→Option Bool
 | 0,_=>none
 | nL1+1,v5=>if (decide (v5<(List.length p0:Int)))=true then ((idx p0 v5).bind fun x7=>((idx p1 v5).bind fun x12=>((pR x7 x12).bind fun x17=>(if (!x17)=true then (some false) else (fY p0 p1 nL1 (i64.wrap (v5+1))))))) else (some true)
def oF (p0:List M.Bucket) (p1:List M.Bucket):Option Bool:=
 if ((List.length p0:Int) != (List.length p1:Int))=true then (some false) else (fY p0 p1 fuel 0)
def oE (p0:M.aM) (p1:M.aM):Option Bool:=
 (oF p0.Buckets p1.Buckets).bind fun x1=>(if (!x1)=true then (some false) else (some true))
def pE (p0:M.aT) (p1:M.aT):Option Bool:=
 if (!(p0.Path.toList==p1.Path.toList))=true then (some false) else (if (p0.Version != p1.Version)=true then (some false) else (some true))
def gO (p0:List M.aT) (p1:List M.aT):Nat→Int→Option Bool
 | 0,_=>none
 | nL1+1,v5=>if (decide (v5<(List.length p0:Int)))=true then ((idx p0 v5).bind fun x7=>((idx p1 v5).bind fun x12=>((pE x7 x12).bind fun x17=>(if (!x17)=true then (some false) else (gO p0 p1 nL1 (i64.wrap (v5+1))))))) else (some true)
def oH (p0:List M.aT) (p1:List M.aT):Option Bool:=
 if ((List.length p0:Int) != (List.length p1:Int))=true then (some false) else (gO p0 p1 fuel 0)
def sZ (p0:M.Instr) (p1:M.Instr):Option Bool:=
 if (p0.Kind != p1.Kind)=true then (some false) else (if (p0.R != p1.R)=true then (some false) else (if (p0.N != p1.N)=true then (some false) else (if (!(p0.Text.toList==p1.Text.toList))=true then (some false) else (some true))))
def iA (p0:List M.Instr) (p1:List M.Instr):Nat→Int→Option Bool
 | 0,_=>none
 | nL1+1,v5=>if (decide (v5<(List.length p0:Int)))=true then ((idx p0 v5).bind fun x7=>((idx p1 v5).bind fun x12=>((sZ x7 x12).bind fun x17=>(if (!x17)=true then (some false) else (iA p0 p1 nL1 (i64.wrap (v5+1))))))) else (some true)
def rF (p0:List M.Instr) (p1:List M.Instr):Option Bool:=
 if ((List.length p0:Int) != (List.length p1:Int))=true then (some false) else (iA p0 p1 fuel 0)
def kD (p0:List Int) (p1:List Int):Nat→Int→Option Bool
 | 0,_=>none
 | nL1+1,v5=>if (decide (v5<(List.length p0:Int)))=true then ((idx p0 v5).bind fun x7=>((idx p1 v5).bind fun x12=>(if (x7 != x12)=true then (some false) else (kD p0 p1 nL1 (i64.wrap (v5+1)))))) else (some true)
def wF (p0:List Int) (p1:List Int):Option Bool:=
 if ((List.length p0:Int) != (List.length p1:Int))=true then (some false) else (kD p0 p1 fuel 0)
def nF (p0:M.Machine) (p1:M.Machine):Option Bool:=
 (rF p0.Script p1.Script).bind fun x1=>(if (!x1)=true then (some false) else (if (p0.Pc != p1.Pc)=true then (some false) else ((wF p0.Regs p1.Regs).bind fun x5=>(if (!x5)=true then (some false) else (if (p0.Steps != p1.Steps)=true then (some false) else (if (!(p0.Done==p1.Done))=true then (some false) else (if (!(p0.Wait==p1.Wait))=true then (some false) else (some true))))))))
def sE (p0:M.gX) (p1:M.gX):Option Bool:=
 if (p0.Id != p1.Id)=true then (some false) else (if (!(p0.Site.toList==p1.Site.toList))=true then (some false) else (if (!(p0.Top.toList==p1.Top.toList))=true then (some false) else (if (p0.Version != p1.Version)=true then (some false) else ((oH p0.aT p1.aT).bind fun x5=>(if (!x5)=true then (some false) else ((nF p0.Machine p1.Machine).bind fun x8=>(if (!x8)=true then (some false) else (some true))))))))
def jH (p0:List M.gX) (p1:List M.gX):Nat→Int→Option Bool
 | 0,_=>none
 | nL1+1,v5=>if (decide (v5<(List.length p0:Int)))=true then ((idx p0 v5).bind fun x7=>((idx p1 v5).bind fun x12=>((sE x7 x12).bind fun x17=>(if (!x17)=true then (some false) else (jH p0 p1 nL1 (i64.wrap (v5+1))))))) else (some true)
def tV (p0:List M.gX) (p1:List M.gX):Option Bool:=
 if ((List.length p0:Int) != (List.length p1:Int))=true then (some false) else (jH p0 p1 fuel 0)
def wL (p0:M.kI) (p1:M.kI):Option Bool:=
 if (!(p0.Name.toList==p1.Name.toList))=true then (some false) else (if (p0.gX != p1.gX)=true then (some false) else (if (!(p0.Shared==p1.Shared))=true then (some false) else (if (!(p0.Held==p1.Held))=true then (some false) else (some true))))
def jJ (p0:List M.kI) (p1:List M.kI):Nat→Int→Option Bool
 | 0,_=>none
 | nL1+1,v5=>if (decide (v5<(List.length p0:Int)))=true then ((idx p0 v5).bind fun x7=>((idx p1 v5).bind fun x12=>((wL x7 x12).bind fun x17=>(if (!x17)=true then (some false) else (jJ p0 p1 nL1 (i64.wrap (v5+1))))))) else (some true)
def tI (p0:List M.kI) (p1:List M.kI):Option Bool:=
 if ((List.length p0:Int) != (List.length p1:Int))=true then (some false) else (jJ p0 p1 fuel 0)
def kX (p0:M.bA) (p1:M.bA):Option Bool:=
 (tI p0.Locks p1.Locks).bind fun x1=>(if (!x1)=true then (some false) else (some true))
def wN (p0:M.pC) (p1:M.pC):Option Bool:=
 if (p0.To != p1.To)=true then (some false) else (if (p0.From != p1.From)=true then (some false) else (if (p0.N != p1.N)=true then (some false) else (some true)))
def jN (p0:List M.pC) (p1:List M.pC):Nat→Int→Option Bool
 | 0,_=>none
 | nL1+1,v5=>if (decide (v5<(List.length p0:Int)))=true then ((idx p0 v5).bind fun x7=>((idx p1 v5).bind fun x12=>((wN x7 x12).bind fun x17=>(if (!x17)=true then (some false) else (jN p0 p1 nL1 (i64.wrap (v5+1))))))) else (some true)
def uD (p0:List M.pC) (p1:List M.pC):Option Bool:=
 if ((List.length p0:Int) != (List.length p1:Int))=true then (some false) else (jN p0 p1 fuel 0)
def nV (p0:M.Channel) (p1:M.Channel):Option Bool:=
 (uD p0.Mails p1.Mails).bind fun x1=>(if (!x1)=true then (some false) else (some true))
def gF (p0:List ByteArray) (p1:List ByteArray):Nat→Int→Option Bool
 | 0,_=>none
 | nL1+1,v5=>if (decide (v5<(List.length p0:Int)))=true then ((idx p0 v5).bind fun x7=>((idx p1 v5).bind fun x12=>(if (!(x7.toList==x12.toList))=true then (some false) else (gF p0 p1 nL1 (i64.wrap (v5+1)))))) else (some true)
def oC (p0:List ByteArray) (p1:List ByteArray):Option Bool:=
 if ((List.length p0:Int) != (List.length p1:Int))=true then (some false) else (gF p0 p1 fuel 0)
def vN (p0:M.Site) (p1:M.Site):Option Bool:=
 if (!(p0.Name.toList==p1.Name.toList))=true then (some false) else (if (p0.Version != p1.Version)=true then (some false) else ((oC p0.Files p1.Files).bind fun x3=>(if (!x3)=true then (some false) else (if (!(p0.Shared==p1.Shared))=true then (some false) else (some true)))))
def jD (p0:List M.Site) (p1:List M.Site):Nat→Int→Option Bool
 | 0,_=>none
 | nL1+1,v5=>if (decide (v5<(List.length p0:Int)))=true then ((idx p0 v5).bind fun x7=>((idx p1 v5).bind fun x12=>((vN x7 x12).bind fun x17=>(if (!x17)=true then (some false) else (jD p0 p1 nL1 (i64.wrap (v5+1))))))) else (some true)
def uP (p0:List M.Site) (p1:List M.Site):Option Bool:=
 if ((List.length p0:Int) != (List.length p1:Int))=true then (some false) else (jD p0 p1 fuel 0)
def nL (p0:M.aO) (p1:M.aO):Option Bool:=
 if (p0.Device != p1.Device)=true then (some false) else (if (p0.Seq != p1.Seq)=true then (some false) else (some true))
def fO (p0:List M.aO) (p1:List M.aO):Nat→Int→Option Bool
 | 0,_=>none
 | nL1+1,v5=>if (decide (v5<(List.length p0:Int)))=true then ((idx p0 v5).bind fun x7=>((idx p1 v5).bind fun x12=>((nL x7 x12).bind fun x17=>(if (!x17)=true then (some false) else (fO p0 p1 nL1 (i64.wrap (v5+1))))))) else (some true)
def lY (p0:List M.aO) (p1:List M.aO):Option Bool:=
 if ((List.length p0:Int) != (List.length p1:Int))=true then (some false) else (fO p0 p1 fuel 0)
def pS (p0:M.Server) (p1:M.Server):Option Bool:=
 (lP p0.aC p1.aC).bind fun x1=>(if (!x1)=true then (some false) else ((lY p0.aO p1.aO).bind fun x4=>(if (!x4)=true then (some false) else ((mS p0.Changes p1.Changes).bind fun x7=>(if (!x7)=true then (some false) else (some true))))))
def gE (p0:List M.Server) (p1:List M.Server):Nat→Int→Option Bool
 | 0,_=>none
 | nL1+1,v5=>if (decide (v5<(List.length p0:Int)))=true then ((idx p0 v5).bind fun x7=>((idx p1 v5).bind fun x12=>((pS x7 x12).bind fun x17=>(if (!x17)=true then (some false) else (gE p0 p1 nL1 (i64.wrap (v5+1))))))) else (some true)
def nZ (p0:List M.Server) (p1:List M.Server):Option Bool:=
 if ((List.length p0:Int) != (List.length p1:Int))=true then (some false) else (gE p0 p1 fuel 0)
def uF (p0:M.World) (p1:M.World):Option Bool:=
 if (p0.Now != p1.Now)=true then (some false) else (if (!(p0.Online==p1.Online))=true then (some false) else (if (p0.Device != p1.Device)=true then (some false) else ((oE p0.aM p1.aM).bind fun x4=>(if (!x4)=true then (some false) else ((tV p0.Pages p1.Pages).bind fun x7=>(if (!x7)=true then (some false) else (if (p0.NextPage != p1.NextPage)=true then (some false) else ((kX p0.Locks p1.Locks).bind fun x11=>(if (!x11)=true then (some false) else ((nV p0.Channel p1.Channel).bind fun x14=>(if (!x14)=true then (some false) else ((uP p0.Sites p1.Sites).bind fun x17=>(if (!x17)=true then (some false) else ((nZ p0.Servers p1.Servers).bind fun x20=>(if (!x20)=true then (some false) else (some true))))))))))))))))
def jU (p0:M.World) (p1:M.gX) (p2:Int) (p3:ByteArray):Option Bool:=
 if (decide ((p3.size:Int)>1048576))=true then (some true) else ((tT p0 1048576).bind fun x2=>(if (decide (x2<0))=true then (some true) else ((sN p1 x2).bind fun x5=>(if (decide (x5<0))=true then (some true) else ((lR p0).bind fun x8=>((kO p1).bind fun x10=>((pT x8 x10 p2 p3).bind fun x12=>((lR p0).bind fun x14=>((kO p1).bind fun x16=>((rN x14 x16 p2 p3).bind fun x18=>(if (x18 != x12)=true then (some false) else ((lR p0).bind fun x21=>((uF x14 x21).bind fun x23=>(if (!x23)=true then (some false) else ((kO p1).bind fun x26=>((sE x16 x26).bind fun x28=>(if (!x28)=true then (some false) else (some true))))))))))))))))))
end Go.Proofs.YtidhkhdnjonjfaaGreat.gen
