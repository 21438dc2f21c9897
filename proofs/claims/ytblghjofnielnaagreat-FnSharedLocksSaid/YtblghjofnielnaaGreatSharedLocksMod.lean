/-
  Helper text. No conditions.
-/
import Derived.Test.YtblghjofnielnaaGreatShT
namespace Go.Proofs.YtblghjofnielnaaGreat.gen
open Go Go.Sh
open Go.IntKind (i64)
set_option linter.unusedVariables false
set_option linter.unusedSimpArgs false
structure M.Registration where
 Site:ByteArray
 Installing:Int
 Waiting:Int
 Active:Int
def M.Registration.en (x:M.Registration):List D:=[.str x.Site,.int .i64 x.Installing,.int .i64 x.Waiting,.int .i64 x.Active]
theorem M.Registration.en.fl (l:List M.Registration):(List.map M.Registration.en l).all (fun y=>y.all D.flat)=true:=tQ (fun _=>rfl) l
structure M.Response where
 Type_:Int
 Status:Int
 Version:Int
 Body:List Int
 Shares:Bool
def M.Response.en (x:M.Response):List D:=[.int .i64 x.Type_,.int .i64 x.Status,.int .i64 x.Version,.sl (List.map enB x.Body),.bool x.Shares]
structure M.Cached where
 Site:ByteArray
 Path:ByteArray
 Response:M.Response
def M.Cached.en (x:M.Cached):List D:=[.str x.Site,.str x.Path,.int .i64 x.Response.Type_,.int .i64 x.Response.Status,.int .i64 x.Response.Version,.sl (List.map enB x.Response.Body),.bool x.Response.Shares]
structure M.Cache where
 Version:Int
 Entries:List M.Cached
def M.Cache.en (x:M.Cache):List D:=[.int .i64 x.Version,.sl (List.map M.Cached.en x.Entries)]
structure M.aM where
 Caches:List M.Cache
def M.aM.en (x:M.aM):List D:=[.sl (List.map M.Cache.en x.Caches)]
structure M.Key where
 Kind:Int
 N:Int
 Text:ByteArray
def M.Key.en (x:M.Key):List D:=[.int .i64 x.Kind,.int .i64 x.N,.str x.Text]
theorem M.Key.en.fl (l:List M.Key):(List.map M.Key.en l).all (fun y=>y.all D.flat)=true:=tQ (fun _=>rfl) l
structure M.Field where
 Name:ByteArray
 N:Int
def M.Field.en (x:M.Field):List D:=[.str x.Name,.int .i64 x.N]
theorem M.Field.en.fl (l:List M.Field):(List.map M.Field.en l).all (fun y=>y.all D.flat)=true:=tQ (fun _=>rfl) l
structure M.bB where
 Fields:List M.Field
def M.bB.en (x:M.bB):List D:=[.sl (List.map M.Field.en x.Fields)]
structure M.Item where
 Key:M.Key
 bB:M.bB
def M.Item.en (x:M.Item):List D:=[.int .i64 x.Key.Kind,.int .i64 x.Key.N,.str x.Key.Text,.sl (List.map M.Field.en x.bB.Fields)]
structure M.aP where
 Name:ByteArray
 Items:List M.Item
 Auto:Int
def M.aP.en (x:M.aP):List D:=[.str x.Name,.sl (List.map M.Item.en x.Items),.int .i64 x.Auto]
structure M.aU where
 aP:ByteArray
 Field:ByteArray
def M.aU.en (x:M.aU):List D:=[.str x.aP,.str x.Field]
theorem M.aU.en.fl (l:List M.aU):(List.map M.aU.en l).all (fun y=>y.all D.flat)=true:=tQ (fun _=>rfl) l
structure M.Database where
 Name:ByteArray
 Version:Int
 Stores:List M.aP
 Unique:List M.aU
def M.Database.en (x:M.Database):List D:=[.str x.Name,.int .i64 x.Version,.sl (List.map M.aP.en x.Stores),.sl (List.map M.aU.en x.Unique)]
structure M.pC where
 Base:M.Database
 Log:List Int
 Count:Int
def M.pC.en (x:M.pC):List D:=[.str x.Base.Name,.int .i64 x.Base.Version,.sl (List.map M.aP.en x.Base.Stores),.sl (List.map M.aU.en x.Base.Unique),.sl (List.map enB x.Log),.int .i64 x.Count]
structure M.iB where
 Device:Int
 Seq:Int
 Key:M.Key
 Field:ByteArray
 N:Int
def M.iB.en (x:M.iB):List D:=[.int .i64 x.Device,.int .i64 x.Seq,.int .i64 x.Key.Kind,.int .i64 x.Key.N,.str x.Key.Text,.str x.Field,.int .i64 x.N]
theorem M.iB.en.fl (l:List M.iB):(List.map M.iB.en l).all (fun y=>y.all D.flat)=true:=tQ (fun _=>rfl) l
structure M.bE where
 Device:Int
 Next:Int
 Writes:List M.iB
def M.bE.en (x:M.bE):List D:=[.int .i64 x.Device,.int .i64 x.Next,.sl (List.map M.iB.en x.Writes)]
structure M.Sync where
 bE:M.bE
 Tries:Int
 WaitUntil:Int
def M.Sync.en (x:M.Sync):List D:=[.int .i64 x.bE.Device,.int .i64 x.bE.Next,.sl (List.map M.iB.en x.bE.Writes),.int .i64 x.Tries,.int .i64 x.WaitUntil]
structure M.aV where
 Base:M.aP
 Seen:Int
 Sync:M.Sync
def M.aV.en (x:M.aV):List D:=[.str x.Base.Name,.sl (List.map M.Item.en x.Base.Items),.int .i64 x.Base.Auto,.int .i64 x.Seen,.int .i64 x.Sync.bE.Device,.int .i64 x.Sync.bE.Next,.sl (List.map M.iB.en x.Sync.bE.Writes),.int .i64 x.Sync.Tries,.int .i64 x.Sync.WaitUntil]
structure M.aJ where
 Site:ByteArray
 Top:ByteArray
 Registration:M.Registration
 Caches:M.aM
 pC:M.pC
 aV:M.aV
 LastUsed:Int
 Persistent:Bool
def M.aJ.en (x:M.aJ):List D:=[.str x.Site,.str x.Top,.str x.Registration.Site,.int .i64 x.Registration.Installing,.int .i64 x.Registration.Waiting,.int .i64 x.Registration.Active,.sl (List.map M.Cache.en x.Caches.Caches),.str x.pC.Base.Name,.int .i64 x.pC.Base.Version,.sl (List.map M.aP.en x.pC.Base.Stores),.sl (List.map M.aU.en x.pC.Base.Unique),.sl (List.map enB x.pC.Log),.int .i64 x.pC.Count,.str x.aV.Base.Name,.sl (List.map M.Item.en x.aV.Base.Items),.int .i64 x.aV.Base.Auto,.int .i64 x.aV.Seen,.int .i64 x.aV.Sync.bE.Device,.int .i64 x.aV.Sync.bE.Next,.sl (List.map M.iB.en x.aV.Sync.bE.Writes),.int .i64 x.aV.Sync.Tries,.int .i64 x.aV.Sync.WaitUntil,.int .i64 x.LastUsed,.bool x.Persistent]
structure M.aF where
 Buckets:List M.aJ
def M.aF.en (x:M.aF):List D:=[.sl (List.map M.aJ.en x.Buckets)]
structure M.cP where
 Path:ByteArray
 Version:Int
def M.cP.en (x:M.cP):List D:=[.str x.Path,.int .i64 x.Version]
theorem M.cP.en.fl (l:List M.cP):(List.map M.cP.en l).all (fun y=>y.all D.flat)=true:=tQ (fun _=>rfl) l
structure M.Instr where
 Kind:Int
 R:Int
 N:Int
 Text:ByteArray
def M.Instr.en (x:M.Instr):List D:=[.int .i64 x.Kind,.int .i64 x.R,.int .i64 x.N,.str x.Text]
theorem M.Instr.en.fl (l:List M.Instr):(List.map M.Instr.en l).all (fun y=>y.all D.flat)=true:=tQ (fun _=>rfl) l
structure M.Machine where
 Script:List M.Instr
 Pc:Int
 Regs:List Int
 Steps:Int
 Done:Bool
 Wait:Bool
def M.Machine.en (x:M.Machine):List D:=[.sl (List.map M.Instr.en x.Script),.int .i64 x.Pc,.sl (List.map enI x.Regs),.int .i64 x.Steps,.bool x.Done,.bool x.Wait]
structure M.dG where
 Id:Int
 Site:ByteArray
 Top:ByteArray
 Version:Int
 cP:List M.cP
 Machine:M.Machine
def M.dG.en (x:M.dG):List D:=[.int .i64 x.Id,.str x.Site,.str x.Top,.int .i64 x.Version,.sl (List.map M.cP.en x.cP),.sl (List.map M.Instr.en x.Machine.Script),.int .i64 x.Machine.Pc,.sl (List.map enI x.Machine.Regs),.int .i64 x.Machine.Steps,.bool x.Machine.Done,.bool x.Machine.Wait]
structure M.cA where
 Name:ByteArray
 dG:Int
 Shared:Bool
 Held:Bool
def M.cA.en (x:M.cA):List D:=[.str x.Name,.int .i64 x.dG,.bool x.Shared,.bool x.Held]
theorem M.cA.en.fl (l:List M.cA):(List.map M.cA.en l).all (fun y=>y.all D.flat)=true:=tQ (fun _=>rfl) l
structure M.aD where
 Locks:List M.cA
def M.aD.en (x:M.aD):List D:=[.sl (List.map M.cA.en x.Locks)]
structure M.iR where
 To:Int
 From:Int
 N:Int
def M.iR.en (x:M.iR):List D:=[.int .i64 x.To,.int .i64 x.From,.int .i64 x.N]
theorem M.iR.en.fl (l:List M.iR):(List.map M.iR.en l).all (fun y=>y.all D.flat)=true:=tQ (fun _=>rfl) l
structure M.Channel where
 Mails:List M.iR
def M.Channel.en (x:M.Channel):List D:=[.sl (List.map M.iR.en x.Mails)]
structure M.Site where
 Name:ByteArray
 Version:Int
 Files:List ByteArray
 Shared:Bool
def M.Site.en (x:M.Site):List D:=[.str x.Name,.int .i64 x.Version,.sl (List.map enS x.Files),.bool x.Shared]
structure M.bV where
 Device:Int
 Seq:Int
def M.bV.en (x:M.bV):List D:=[.int .i64 x.Device,.int .i64 x.Seq]
theorem M.bV.en.fl (l:List M.bV):(List.map M.bV.en l).all (fun y=>y.all D.flat)=true:=tQ (fun _=>rfl) l
structure M.Server where
 aP:M.aP
 bV:List M.bV
 Changes:List M.iB
def M.Server.en (x:M.Server):List D:=[.str x.aP.Name,.sl (List.map M.Item.en x.aP.Items),.int .i64 x.aP.Auto,.sl (List.map M.bV.en x.bV),.sl (List.map M.iB.en x.Changes)]
structure M.World where
 Now:Int
 Online:Bool
 Device:Int
 aF:M.aF
 Pages:List M.dG
 NextPage:Int
 Locks:M.aD
 Channel:M.Channel
 Sites:List M.Site
 Servers:List M.Server
def M.World.en (x:M.World):List D:=[.int .i64 x.Now,.bool x.Online,.int .i64 x.Device,.sl (List.map M.aJ.en x.aF.Buckets),.sl (List.map M.dG.en x.Pages),.int .i64 x.NextPage,.sl (List.map M.cA.en x.Locks.Locks),.sl (List.map M.iR.en x.Channel.Mails),.sl (List.map M.Site.en x.Sites),.sl (List.map M.Server.en x.Servers)]
def sR (p0:List Int):Option Bool:=
 some (decide ((List.length p0:Int)>1048576))
def aK (p0:Int) (p1:Int) (p2:Int):Option Bool:=
 if (decide (p0≥p1))=true then (some (decide (p0≤p2))) else (some false)
def jA  : Option (List ByteArray):=
 some ([(⟨#[98,97,110,107]⟩:ByteArray),(⟨#[110,101,119,115]⟩:ByteArray),(⟨#[115,104,111,112]⟩:ByteArray)])
def iE (p0:Int) (x4:(List ByteArray)):Nat→Int→List M.Site→List M.Server→Option M.World
 | 0,_,_,_=>none
 | nL1+1,v5,r50000,r50001=>if (decide (v5<(List.length x4:Int)))=true then ((idx x4 v5).bind fun x17=>((app 56 r50000 ([(⟨x17,1,[(⟨#[99,111,100,101]⟩:ByteArray),(⟨#[100,97,116,97]⟩:ByteArray),(⟨#[105,110,100,101,120]⟩:ByteArray),(⟨#[115,116,121,108,101]⟩:ByteArray)],(x17.toList==(⟨#[110,101,119,115]⟩:ByteArray).toList)⟩:M.Site)])).bind fun x22=>((app 96 r50001 ([(⟨(⟨(⟨#[110,111,116,101,115]⟩:ByteArray),([]:List M.Item),0⟩:M.aP),([]:List M.bV),([]:List M.iB)⟩:M.Server)])).bind fun x34=>(iE p0 x4 nL1 (i64.wrap (v5+1)) (r50000++[(⟨x17,1,[(⟨#[99,111,100,101]⟩:ByteArray),(⟨#[100,97,116,97]⟩:ByteArray),(⟨#[105,110,100,101,120]⟩:ByteArray),(⟨#[115,116,121,108,101]⟩:ByteArray)],(x17.toList==(⟨#[110,101,119,115]⟩:ByteArray).toList)⟩:M.Site)]) (r50001++[(⟨(⟨(⟨#[110,111,116,101,115]⟩:ByteArray),([]:List M.Item),0⟩:M.aP),([]:List M.bV),([]:List M.iB)⟩:M.Server)]))))) else (some (⟨0,true,p0,(⟨([]:List M.aJ)⟩:M.aF),([]:List M.dG),1,(⟨([]:List M.cA)⟩:M.aD),(⟨([]:List M.iR)⟩:M.Channel),r50000,r50001⟩:M.World))
def pF (p0:Int):Option M.World:=
 (aK p0 1 1000000).bind fun x1=>(if (!x1)=true then (some (⟨0,false,0,(⟨([]:List M.aJ)⟩:M.aF),([]:List M.dG),0,(⟨([]:List M.cA)⟩:M.aD),(⟨([]:List M.iR)⟩:M.Channel),([]:List M.Site),([]:List M.Server)⟩:M.World)) else ((jA).bind fun x4=>(iE p0 x4 fuel 0 ([]:List M.Site) ([]:List M.Server))))
def nR (p0:M.Response):Option M.Response:=
 (app 1 ([]:List Int) p0.Body).bind fun x1=>(some p0)
def iF (p0:M.Cache):Nat→Int→List M.Cached→Option M.Cache
 | 0,_,_=>none
 | nL1+1,v4,r50000=>if (decide (v4<(List.length p0.Entries:Int)))=true then ((idx p0.Entries v4).bind fun x11=>((nR x11.Response).bind fun x16=>((app 88 r50000 ([(⟨x11.Site,x11.Path,x16⟩:M.Cached)])).bind fun x18=>(iF p0 nL1 (i64.wrap (v4+1)) (r50000++[(⟨x11.Site,x11.Path,x16⟩:M.Cached)]))))) else (some (⟨p0.Version,r50000⟩:M.Cache))
def pH (p0:M.Cache):Option M.Cache:=
 iF p0 fuel 0 ([]:List M.Cached)
def jW (p0:M.aM):Nat→Int→List M.Cache→Option M.aM
 | 0,_,_=>none
 | nL1+1,v4,r50000=>if (decide (v4<(List.length p0.Caches:Int)))=true then ((idx p0.Caches v4).bind fun x11=>((pH x11).bind fun x16=>((app 32 r50000 ([x16])).bind fun x18=>(jW p0 nL1 (i64.wrap (v4+1)) (r50000++[x16]))))) else (some (⟨r50000⟩:M.aM))
def qQ (p0:M.aM):Option M.aM:=
 jW p0 fuel 0 ([]:List M.Cache)
def rH (p0:M.bB):Option M.bB:=
 (app 24 ([]:List M.Field) p0.Fields).bind fun x1=>(some p0)
def oV (p0:M.Item):Option M.Item:=
 (rH p0.bB).bind fun x1=>(some (⟨p0.Key,x1⟩:M.Item))
def kW (p0:M.aP):Nat→Int→List M.Item→Option M.aP
 | 0,_,_=>none
 | nL1+1,v4,r50000=>if (decide (v4<(List.length p0.Items:Int)))=true then ((idx p0.Items v4).bind fun x11=>((oV x11).bind fun x16=>((app 56 r50000 ([x16])).bind fun x18=>(kW p0 nL1 (i64.wrap (v4+1)) (r50000++[x16]))))) else (some (⟨p0.Name,r50000,p0.Auto⟩:M.aP))
def lX (p0:M.aP):Option M.aP:=
 kW p0 fuel 0 ([]:List M.Item)
def kY (p0:M.Database):Nat→Int→List M.aP→Option M.Database
 | 0,_,_=>none
 | nL1+1,v4,r50000=>if (decide (v4<(List.length p0.Stores:Int)))=true then ((idx p0.Stores v4).bind fun x22=>((lX x22).bind fun x27=>((app 48 r50000 ([x27])).bind fun x29=>(kY p0 nL1 (i64.wrap (v4+1)) (r50000++[x27]))))) else (some (⟨p0.Name,p0.Version,r50000,p0.Unique⟩:M.Database))
def rD (p0:M.Database):Option M.Database:=
 (app 32 ([]:List M.aU) p0.Unique).bind fun x1=>(kY p0 fuel 0 ([]:List M.aP))
def qC (p0:M.pC):Option M.pC:=
 (rD p0.Base).bind fun x1=>((app 1 ([]:List Int) p0.Log).bind fun x3=>(some (⟨x1,p0.Log,p0.Count⟩:M.pC)))
def qM (p0:M.bE):Option M.bE:=
 (app 72 ([]:List M.iB) p0.Writes).bind fun x1=>(some p0)
def qF (p0:M.Sync):Option M.Sync:=
 (qM p0.bE).bind fun x1=>(some (⟨x1,p0.Tries,p0.WaitUntil⟩:M.Sync))
def qP (p0:M.aV):Option M.aV:=
 (lX p0.Base).bind fun x1=>((qF p0.Sync).bind fun x3=>(some (⟨x1,p0.Seen,x3⟩:M.aV)))
def fQ (p0:M.aJ):Option M.aJ:=
 (qQ p0.Caches).bind fun x1=>((qC p0.pC).bind fun x3=>((qP p0.aV).bind fun x5=>(some (⟨p0.Site,p0.Top,p0.Registration,x1,x3,x5,p0.LastUsed,p0.Persistent⟩:M.aJ))))
def jI (p0:M.aF):Nat→Int→List M.aJ→Option M.aF
 | 0,_,_=>none
 | nL1+1,v4,r50000=>if (decide (v4<(List.length p0.Buckets:Int)))=true then ((idx p0.Buckets v4).bind fun x11=>((fQ x11).bind fun x16=>((app 328 r50000 ([x16])).bind fun x18=>(jI p0 nL1 (i64.wrap (v4+1)) (r50000++[x16]))))) else (some (⟨r50000⟩:M.aF))
def cK (p0:M.aF):Option M.aF:=
 jI p0 fuel 0 ([]:List M.aJ)
def kT (p0:List M.Instr):Option (List M.Instr):=
 (app 40 ([]:List M.Instr) p0).bind fun x1=>(some p0)
def qH (p0:M.Machine):Option M.Machine:=
 (kT p0.Script).bind fun x1=>((app 8 ([]:List Int) p0.Regs).bind fun x3=>(some (⟨x1,p0.Pc,p0.Regs,p0.Steps,p0.Done,p0.Wait⟩:M.Machine)))
def dZ (p0:M.dG):Option M.dG:=
 (app 24 ([]:List M.cP) p0.cP).bind fun x1=>((qH p0.Machine).bind fun x11=>(some (⟨p0.Id,p0.Site,p0.Top,p0.Version,p0.cP,x11⟩:M.dG)))
def qL (p0:M.aD):Option M.aD:=
 (app 32 ([]:List M.cA) p0.Locks).bind fun x1=>(some p0)
def qK (p0:M.Channel):Option M.Channel:=
 (app 24 ([]:List M.iR) p0.Mails).bind fun x1=>(some p0)
def qJ (p0:M.Site):Option M.Site:=
 (app 16 ([]:List ByteArray) p0.Files).bind fun x1=>(some p0)
def qG (p0:M.Server):Option M.Server:=
 (lX p0.aP).bind fun x1=>((app 16 ([]:List M.bV) p0.bV).bind fun x3=>((app 72 ([]:List M.iB) p0.Changes).bind fun x5=>(some (⟨x1,p0.bV,p0.Changes⟩:M.Server))))
def jR (p0:M.World) (x1:M.aF) (r12:List M.dG) (x42:M.aD) (x44:M.Channel) (r40:List M.Site):Nat→Int→List M.Server→Option M.World
 | 0,_,_=>none
 | nL3+1,v6,r60=>if (decide (v6<(List.length p0.Servers:Int)))=true then ((idx p0.Servers v6).bind fun x122=>((qG x122).bind fun x127=>((app 96 r60 ([x127])).bind fun x129=>(jR p0 x1 r12 x42 x44 r40 nL3 (i64.wrap (v6+1)) (r60++[x127]))))) else (some (⟨p0.Now,p0.Online,p0.Device,x1,r12,p0.NextPage,x42,x44,r40,r60⟩:M.World))
def jU (p0:M.World) (x1:M.aF) (r12:List M.dG) (x42:M.aD) (x44:M.Channel):Nat→Int→List M.Site→Option M.World
 | 0,_,_=>none
 | nL2+1,v5,r40=>if (decide (v5<(List.length p0.Sites:Int)))=true then ((idx p0.Sites v5).bind fun x72=>((qJ x72).bind fun x77=>((app 56 r40 ([x77])).bind fun x79=>(jU p0 x1 r12 x42 x44 nL2 (i64.wrap (v5+1)) (r40++[x77]))))) else (jR p0 x1 r12 x42 x44 r40 fuel 0 ([]:List M.Server))
def jS (p0:M.World) (x1:M.aF):Nat→Int→List M.dG→Option M.World
 | 0,_,_=>none
 | nL1+1,v4,r12=>if (decide (v4<(List.length p0.Pages:Int)))=true then ((idx p0.Pages v4).bind fun x23=>((dZ x23).bind fun x28=>((app 144 r12 ([x28])).bind fun x30=>(jS p0 x1 nL1 (i64.wrap (v4+1)) (r12++[x28]))))) else ((qL p0.Locks).bind fun x42=>((qK p0.Channel).bind fun x44=>(jU p0 x1 r12 x42 x44 fuel 0 ([]:List M.Site))))
def cD (p0:M.World):Option M.World:=
 (cK p0.aF).bind fun x1=>(jS p0 x1 fuel 0 ([]:List M.dG))
def gC (p0:ByteArray) (x1:(List ByteArray)):Nat→Int→Option Int
 | 0,_=>none
 | nL1+1,v4=>if (decide (v4<(List.length x1:Int)))=true then ((idx x1 v4).bind fun x9=>(if (x9.toList==p0.toList)=true then (some v4) else (gC p0 x1 nL1 (i64.wrap (v4+1))))) else (some (-1))
def gQ (p0:ByteArray):Option Int:=
 (jA).bind fun x1=>(gC p0 x1 fuel 0)
def kX (p0:ByteArray):Nat→Int→Option Bool
 | 0,_=>none
 | nL1+1,v3=>if (decide (v3<(p0.size:Int)))=true then ((aCa p0 v3).bind fun x5=>(if (decide ((x5.toNat:Int)<97))=true then (some false) else (if (decide ((x5.toNat:Int)>122))=true then (some false) else (kX p0 nL1 (i64.wrap (v3+1)))))) else ((aK (p0.size:Int) 1 8).bind fun x11=>(some x11))
def bA (p0:ByteArray):Option Bool:=
 kX p0 fuel 0
def iA (p0:M.Site):Nat→Int→Option Bool
 | 0,_=>none
 | nL1+1,v3=>if (decide (v3<(List.length p0.Files:Int)))=true then ((idx p0.Files v3).bind fun x6=>((bA x6).bind fun x11=>(if (!x11)=true then (some false) else (if (decide (v3>0))=true then ((idx p0.Files (i64.wrap (v3-1))).bind fun x15=>(if (!(Op.bytesLess x15.toList x6.toList))=true then (some false) else (iA p0 nL1 (i64.wrap (v3+1))))) else (iA p0 nL1 (i64.wrap (v3+1))))))) else ((bA p0.Name).bind fun x21=>(if x21=true then ((aK p0.Version 1 1000000000000).bind fun x24=>(if x24=true then ((aK (List.length p0.Files:Int) 1 6).bind fun x27=>(some x27)) else (some false))) else (some false)))
def mC (p0:M.Site):Option Bool:=
 iA p0 fuel 0
def fA (p0:ByteArray):Nat→Int→Option Bool
 | 0,_=>none
 | nL1+1,v3=>if (decide (v3<(p0.size:Int)))=true then ((aCa p0 v3).bind fun x5=>(if (decide ((x5.toNat:Int)<97))=true then (if (decide ((x5.toNat:Int)<48))=true then (some false) else (if (decide ((x5.toNat:Int)>57))=true then (some false) else (fA p0 nL1 (i64.wrap (v3+1))))) else (if (decide ((x5.toNat:Int)>122))=true then (if (decide ((x5.toNat:Int)<48))=true then (some false) else (if (decide ((x5.toNat:Int)>57))=true then (some false) else (fA p0 nL1 (i64.wrap (v3+1))))) else (fA p0 nL1 (i64.wrap (v3+1)))))) else (some (decide ((p0.size:Int)≤12)))
def oT (p0:ByteArray):Option Bool:=
 fA p0 fuel 0
def iV (p0:M.Key):Option Bool:=
 (aK p0.Kind 1 3).bind fun x1=>(if x1=true then ((aK p0.N (-1000000000000) 1000000000000).bind fun x4=>(if x4=true then (if (p0.Kind != 2)=true then ((oT p0.Text).bind fun x8=>(if x8=true then (if (p0.Kind != 1)=true then (some true) else (some (p0.Text.toList==(⟨#[]⟩:ByteArray).toList))) else (some false))) else (if (p0.N==0)=true then ((oT p0.Text).bind fun x13=>(if x13=true then (if (p0.Kind != 1)=true then (some true) else (some (p0.Text.toList==(⟨#[]⟩:ByteArray).toList))) else (some false))) else (some false))) else (some false))) else (some false))
def gF (p0:M.iB):Option Bool:=
 (aK p0.Device 1 1000000).bind fun x1=>(if x1=true then ((aK p0.Seq 1 1000000).bind fun x4=>(if x4=true then ((iV p0.Key).bind fun x7=>(if x7=true then ((bA p0.Field).bind fun x10=>(if x10=true then ((aK p0.N 0 1000000000).bind fun x13=>(some x13)) else (some false))) else (some false))) else (some false))) else (some false))
def fE (p0:M.bB):Nat→Int→Option Bool
 | 0,_=>none
 | nL1+1,v3=>if (decide (v3<(List.length p0.Fields:Int)))=true then ((idx p0.Fields v3).bind fun x6=>((bA x6.Name).bind fun x11=>(if (!x11)=true then (some false) else ((aK x6.N 0 1000000000).bind fun x14=>(if (!x14)=true then (some false) else (if (decide (v3>0))=true then ((idx p0.Fields (i64.wrap (v3-1))).bind fun x18=>(if (!(Op.bytesLess x18.Name.toList x6.Name.toList))=true then (some false) else (fE p0 nL1 (i64.wrap (v3+1))))) else (fE p0 nL1 (i64.wrap (v3+1))))))))) else (some (decide ((List.length p0.Fields:Int)≤6)))
def mH (p0:M.bB):Option Bool:=
 fE p0 fuel 0
def lR (p0:Bool) (p1:Bool):Option Int:=
 if p0=true then (some (-1)) else (if p1=true then (some 1) else (some 0))
def iO (p0:M.Key) (p1:M.Key):Option Int:=
 (iV p0).bind fun x1=>(if (!x1)=true then (some 0) else ((iV p1).bind fun x4=>(if (!x4)=true then (some 0) else (if (p0.Kind != p1.Kind)=true then ((lR (decide (p0.Kind<p1.Kind)) true).bind fun x8=>(some x8)) else (if (p0.N != p1.N)=true then ((lR (decide (p0.N<p1.N)) true).bind fun x11=>(some x11)) else ((lR (Op.bytesLess p0.Text.toList p1.Text.toList) (!(Op.bytesLess p0.Text.toList p1.Text.toList||p0.Text.toList==p1.Text.toList))).bind fun x13=>(some x13)))))))
def gO (p0:M.aP):Nat→Int→Option Bool
 | 0,_=>none
 | nL1+1,v3=>if (decide (v3<(List.length p0.Items:Int)))=true then ((idx p0.Items v3).bind fun x6=>((iV x6.Key).bind fun x11=>(if (!x11)=true then (some false) else ((mH x6.bB).bind fun x14=>(if (!x14)=true then (some false) else (if (decide (v3>0))=true then ((idx p0.Items (i64.wrap (v3-1))).bind fun x18=>((iO x18.Key x6.Key).bind fun x23=>(if (decide (x23≥0))=true then (some false) else (gO p0 nL1 (i64.wrap (v3+1)))))) else (gO p0 nL1 (i64.wrap (v3+1))))))))) else ((bA p0.Name).bind fun x26=>(if x26=true then (if (decide ((List.length p0.Items:Int)≤16))=true then ((aK p0.Auto 0 1000000).bind fun x30=>(some x30)) else (some false)) else (some false)))
def kE (p0:M.aP):Option Bool:=
 gO p0 fuel 0
def iG (p0:M.Server):Nat→Int→Option Bool
 | 0,_=>none
 | nL2+1,v4=>if (decide (v4<(List.length p0.Changes:Int)))=true then ((idx p0.Changes v4).bind fun x29=>((gF x29).bind fun x34=>(if (!x34)=true then (some false) else (iG p0 nL2 (i64.wrap (v4+1)))))) else ((kE p0.aP).bind fun x37=>(if x37=true then (if (p0.aP.Name.toList==(⟨#[110,111,116,101,115]⟩:ByteArray).toList)=true then (some (decide ((List.length p0.bV:Int)≤60))) else (some false)) else (some false)))
def fK (p0:M.Server):Nat→Int→Option Bool
 | 0,_=>none
 | nL1+1,v3=>if (decide (v3<(List.length p0.bV:Int)))=true then ((idx p0.bV v3).bind fun x6=>((aK x6.Device 1 1000000).bind fun x11=>(if (!x11)=true then (some false) else ((aK x6.Seq 0 1000000).bind fun x14=>(if (!x14)=true then (some false) else (if (decide (v3>0))=true then ((idx p0.bV (i64.wrap (v3-1))).bind fun x18=>(if (decide (x18.Device≥x6.Device))=true then (some false) else (fK p0 nL1 (i64.wrap (v3+1))))) else (fK p0 nL1 (i64.wrap (v3+1))))))))) else (iG p0 fuel 0)
def pN (p0:M.Server):Option Bool:=
 fK p0 fuel 0
def kO (p0:M.dG):Nat→Int→Option Bool
 | 0,_=>none
 | nL1+1,v3=>if (decide (v3<(List.length p0.cP:Int)))=true then ((idx p0.cP v3).bind fun x6=>((bA x6.Path).bind fun x11=>(if (!x11)=true then (some false) else (if (x6.Version != p0.Version)=true then (some false) else (kO p0 nL1 (i64.wrap (v3+1))))))) else ((aK p0.Id 1 1000000000000).bind fun x15=>(if x15=true then ((bA p0.Site).bind fun x18=>(if x18=true then ((bA p0.Top).bind fun x21=>(if x21=true then ((aK p0.Version 1 1000000000000).bind fun x24=>(if x24=true then (some (decide ((List.length p0.cP:Int)≤8))) else (some false))) else (some false))) else (some false))) else (some false)))
def jX (p0:M.dG):Option Bool:=
 kO p0 fuel 0
def dM (p0:M.aF) (p1:ByteArray) (p2:ByteArray):Nat→Int→Option Int
 | 0,_=>none
 | nL1+1,v7=>if (decide (v7<(List.length p0.Buckets:Int)))=true then ((idx p0.Buckets v7).bind fun x8=>(if (x8.Site.toList==p1.toList)=true then (if (x8.Top.toList==p2.toList)=true then (some v7) else (dM p0 p1 p2 nL1 (i64.wrap (v7+1)))) else (dM p0 p1 p2 nL1 (i64.wrap (v7+1))))) else (some (-1))
def dC (p0:M.aF) (p1:ByteArray) (p2:ByteArray):Option Int:=
 dM p0 p1 p2 fuel 0
def bP (p0:M.Registration):Nat→Int→Int→Option Bool
 | 0,_,_=>none
 | nL1+1,v3,v5=>if (decide (v5<((3:Nat):Int)))=true then ((idx ([p0.Active,p0.Waiting,p0.Installing]) v5).bind fun x15=>((aK x15 0 1000000000000).bind fun x20=>(if (!x20)=true then (some false) else (if (x15 != 0)=true then (if (decide (x15≤v3))=true then (some false) else (bP p0 nL1 x15 (i64.wrap (v5+1)))) else (bP p0 nL1 v3 (i64.wrap (v5+1))))))) else ((bA p0.Site).bind fun x25=>(some x25))
def jF (p0:M.Registration):Option Bool:=
 bP p0 fuel 0 0
def nD (p0:M.Response):Option Bool:=
 (aK p0.Type_ 1 4).bind fun x1=>(if x1=true then ((aK p0.Status 0 999).bind fun x4=>(if x4=true then ((aK p0.Version 0 1000000000000).bind fun x7=>(if x7=true then (some (decide ((List.length p0.Body:Int)≤60))) else (some false))) else (some false))) else (some false))
def dL (p0:List M.Cached) (v3:Int) (x5:M.Cached) (k20:Int→Option Bool):Nat→Int→Option Bool
 | 0,_=>none
 | nL2+1,v4_L2=>if (decide (v4_L2<v3))=true then ((idx p0 v4_L2).bind fun x26=>(if (x26.Site.toList==x5.Site.toList)=true then (if (x26.Path.toList==x5.Path.toList)=true then (some false) else (dL p0 v3 x5 k20 nL2 (i64.wrap (v4_L2+1)))) else (dL p0 v3 x5 k20 nL2 (i64.wrap (v4_L2+1))))) else (k20 v4_L2)
def gA (p0:List M.Cached):Nat→Int→Option Bool
 | 0,_=>none
 | nL1+1,v3=>if (decide (v3<(List.length p0:Int)))=true then ((idx p0 v3).bind fun x5=>((bA x5.Site).bind fun x10=>(if (!x10)=true then (some false) else ((bA x5.Path).bind fun x13=>(if (!x13)=true then (some false) else ((nD x5.Response).bind fun x16=>(if (!x16)=true then (some false) else (dL p0 v3 x5 (fun (v4_L2:Int)=>gA p0 nL1 (i64.wrap (v3+1))) fuel 0)))))))) else (some (decide ((List.length p0:Int)≤12)))
def jL (p0:List M.Cached):Option Bool:=
 gA p0 fuel 0
def dI (p0:M.aM):Nat→Int→Option Bool
 | 0,_=>none
 | nL1+1,v3=>if (decide (v3<(List.length p0.Caches:Int)))=true then ((idx p0.Caches v3).bind fun x6=>((aK x6.Version 1 1000000000000).bind fun x11=>(if (!x11)=true then (some false) else (if (decide (v3>0))=true then ((idx p0.Caches (i64.wrap (v3-1))).bind fun x15=>(if (decide (x15.Version≥x6.Version))=true then (some false) else ((jL x6.Entries).bind fun x21=>(if (!x21)=true then (some false) else (dI p0 nL1 (i64.wrap (v3+1))))))) else ((jL x6.Entries).bind fun x24=>(if (!x24)=true then (some false) else (dI p0 nL1 (i64.wrap (v3+1))))))))) else (some (decide ((List.length p0.Caches:Int)≤4)))
def nG (p0:M.aM):Option Bool:=
 dI p0 fuel 0
def hT (p0:M.Database) (p1:ByteArray):Nat→Int→Option Int
 | 0,_=>none
 | nL1+1,v5=>if (decide (v5<(List.length p0.Stores:Int)))=true then ((idx p0.Stores v5).bind fun x7=>(if (x7.Name.toList==p1.toList)=true then (some v5) else (hT p0 p1 nL1 (i64.wrap (v5+1))))) else (some (-1))
def oC (p0:M.Database) (p1:ByteArray):Option Int:=
 hT p0 p1 fuel 0
def iN (p0:M.bB) (p1:ByteArray):Nat→Int→Option (Int×Bool)
 | 0,_=>none
 | nL1+1,v6=>if (decide (v6<(List.length p0.Fields:Int)))=true then ((idx p0.Fields v6).bind fun x7=>(if (x7.Name.toList==p1.toList)=true then (some (x7.N,true)) else (iN p0 p1 nL1 (i64.wrap (v6+1))))) else (some (0,false))
def eK (p0:M.bB) (p1:ByteArray):Option (Int×Bool):=
 iN p0 p1 fuel 0
def rQ (p0:M.Item) (p1:M.Item) (p2:ByteArray):Option Bool:=
 (eK p0.bB p2).bind fun x1=>((eK p1.bB p2).bind fun x3=>(if (decide (x1.1<x3.1))=true then (some true) else (if (x1.1==x3.1)=true then ((iO p0.Key p1.Key).bind fun x7=>(some (decide (x7<0)))) else (some false))))
def eB (p1:ByteArray) (r50000:List M.Item) (x15:M.Item) (k24:Int→Option (List M.Item)):Nat→Int→Option (List M.Item)
 | 0,_=>none
 | nL2+1,v9_L2=>if (decide (v9_L2>0))=true then ((idx r50000 (i64.wrap (v9_L2-1))).bind fun x34=>((rQ x15 x34 p1).bind fun x39=>(if x39=true then (eB p1 r50000 x15 k24 nL2 (i64.wrap (v9_L2-1))) else (k24 v9_L2)))) else (k24 v9_L2)
def eD (p0:M.aP) (p1:ByteArray):Nat→Int→List M.Item→Option (List M.Item)
 | 0,_,_=>none
 | nL1+1,v6,r50000=>if (decide (v6<(List.length p0.Items:Int)))=true then ((idx p0.Items v6).bind fun x15=>((eK x15.bB p1).bind fun x20=>(if (!x20.2)=true then (eD p0 p1 nL1 (i64.wrap (v6+1)) r50000) else (eB p1 r50000 x15 (fun (v9_L2:Int)=>(uK r50000 v9_L2).bind fun x79=>((app 56 ([]:List M.Item) (List.take v9_L2.toNat r50000)).bind fun x81=>((oV x15).bind fun x93=>((app 56 (List.take v9_L2.toNat r50000) ([x93])).bind fun x95=>((app 56 ((List.take v9_L2.toNat r50000)++[x93]) (List.drop v9_L2.toNat r50000)).bind fun x107=>(eD p0 p1 nL1 (i64.wrap (v6+1)) (((List.take v9_L2.toNat r50000)++[x93])++(List.drop v9_L2.toNat r50000)))))))) fuel (List.length r50000:Int))))) else (some r50000)
def qI (p0:M.aP) (p1:ByteArray):Option (List M.Item):=
 eD p0 p1 fuel 0 ([]:List M.Item)
def fM (p1:ByteArray) (x1:(List M.Item)):Nat→Int→Option (M.Key×M.Key×Bool)
 | 0,_=>none
 | nL1+1,v8=>if (decide (v8<(List.length x1:Int)))=true then ((idx x1 (i64.wrap (v8-1))).bind fun x13=>((eK x13.bB p1).bind fun x18=>((idx x1 v8).bind fun x20=>((eK x20.bB p1).bind fun x25=>(if (x18.1==x25.1)=true then (some (x13.Key,x20.Key,true)) else (fM p1 x1 nL1 (i64.wrap (v8+1)))))))) else (some ((⟨0,0,(⟨#[]⟩:ByteArray)⟩:M.Key),(⟨0,0,(⟨#[]⟩:ByteArray)⟩:M.Key),false))
def lS (p0:M.aP) (p1:ByteArray):Option (M.Key×M.Key×Bool):=
 (qI p0 p1).bind fun x1=>(fM p1 x1 fuel 1)
def fY (p0:M.Database) (v4:Int) (x26:M.aU) (k46:Int→Option Bool):Nat→Int→Option Bool
 | 0,_=>none
 | nL3+1,v9_L3=>if (decide (v9_L3<v4))=true then ((idx p0.Unique v9_L3).bind fun x53=>(if ((x53.aP.toList==x26.aP.toList)&&(x53.Field.toList==x26.Field.toList))=true then (some false) else (fY p0 v4 x26 k46 nL3 (i64.wrap (v9_L3+1))))) else (k46 v9_L3)
def gD (p0:M.Database):Nat→Int→Option Bool
 | 0,_=>none
 | nL2+1,v4=>if (decide (v4<(List.length p0.Unique:Int)))=true then ((idx p0.Unique v4).bind fun x26=>((oC p0 x26.aP).bind fun x31=>(if (decide (x31<0))=true then (some false) else ((bA x26.Field).bind fun x34=>(if (!x34)=true then (some false) else ((idx p0.Stores x31).bind fun x37=>((lS x37 x26.Field).bind fun x42=>(if x42.2.2=true then (some false) else (fY p0 v4 x26 (fun (v9_L3:Int)=>gD p0 nL2 (i64.wrap (v4+1))) fuel 0))))))))) else ((bA p0.Name).bind fun x59=>(if x59=true then ((aK p0.Version 0 1000).bind fun x62=>(if x62=true then (if (decide ((List.length p0.Stores:Int)≤4))=true then (some (decide ((List.length p0.Unique:Int)≤4))) else (some false)) else (some false))) else (some false)))
def dN (p0:M.Database):Nat→Int→Option Bool
 | 0,_=>none
 | nL1+1,v3=>if (decide (v3<(List.length p0.Stores:Int)))=true then ((idx p0.Stores v3).bind fun x6=>((kE x6).bind fun x11=>(if (!x11)=true then (some false) else (if (decide (v3>0))=true then ((idx p0.Stores (i64.wrap (v3-1))).bind fun x15=>(if (!(Op.bytesLess x15.Name.toList x6.Name.toList))=true then (some false) else (dN p0 nL1 (i64.wrap (v3+1))))) else (dN p0 nL1 (i64.wrap (v3+1))))))) else (gD p0 fuel 0)
def mS (p0:M.Database):Option Bool:=
 dN p0 fuel 0
def iH (p0:M.bE):Nat→Int→Option Bool
 | 0,_=>none
 | nL1+1,v4=>if (decide (v4<(List.length p0.Writes:Int)))=true then ((idx p0.Writes v4).bind fun x14=>((gF x14).bind fun x19=>(if (!x19)=true then (some false) else (if (x14.Device != p0.Device)=true then (some false) else (if (x14.Seq != (i64.wrap ((i64.wrap (p0.Next-(List.length p0.Writes:Int)))+v4)))=true then (some false) else (iH p0 nL1 (i64.wrap (v4+1)))))))) else (some true)
def mD (p0:M.bE):Option Bool:=
 (aK p0.Device 1 1000000).bind fun x1=>(if (!x1)=true then (some false) else ((aK p0.Next 1 1000000).bind fun x4=>(if (!x4)=true then (some false) else (if (decide ((List.length p0.Writes:Int)>20))=true then (some false) else (iH p0 fuel 0)))))
def oH (p0:M.aV):Option Bool:=
 (kE p0.Base).bind fun x1=>(if x1=true then (if (p0.Base.Name.toList==(⟨#[110,111,116,101,115]⟩:ByteArray).toList)=true then ((aK p0.Seen 0 1000000000000).bind fun x5=>(if x5=true then ((mD p0.Sync.bE).bind fun x8=>(some x8)) else (some false))) else (some false)) else (some false))
def mY (p0:M.Response) (p1:Bool):Option Int:=
 if p1=true then (some 76) else (some (i64.wrap (16+(List.length p0.Body:Int))))
def gB (p0:M.aM) (v4:Int) (k8:Int→Int→Option Int):Nat→Int→Int→Option Int
 | 0,_,_=>none
 | nL2+1,v3_L2,v5_L2=>(idx p0.Caches v4).bind fun x15=>(if (decide (v5_L2<(List.length x15.Entries:Int)))=true then ((idx x15.Entries v5_L2).bind fun x21=>((mY x21.Response (x21.Response.Type_==3)).bind fun x26=>(gB p0 v4 k8 nL2 (i64.wrap (v3_L2+x26)) (i64.wrap (v5_L2+1))))) else (k8 v3_L2 v5_L2))
def fV (p0:M.aM):Nat→Int→Int→Option Int
 | 0,_,_=>none
 | nL1+1,v3,v4=>if (decide (v4<(List.length p0.Caches:Int)))=true then (gB p0 v4 (fun (v3_L2:Int) (v5_L2:Int)=>fV p0 nL1 v3_L2 (i64.wrap (v4+1))) fuel v3 0) else (some v3)
def mR (p0:M.aM):Option Int:=
 fV p0 fuel 0 0
def eG (p0:M.Key):Nat→Int→List Int→Option (List Int)
 | 0,_,_=>none
 | nL1+1,v4,r12=>if (decide (v4≥0))=true then (if (p0.Kind != 2)=true then (if (decide (0≤(i64.wrap (8*v4))))=true then ((app 1 r12 ([(IntKind.u8.wrap (i64.wrap (BitVec.ofInt (IntKind.i64.bits) (Int.fdiv (i64.wrap (p0.N+1000000000000)) (2^(min (i64.wrap (8*v4)).toNat IntKind.i64.bits)))&&&BitVec.ofInt (IntKind.i64.bits) 255).toNat))])).bind fun x18=>(eG p0 nL1 (i64.wrap (v4-1)) (r12++[(IntKind.u8.wrap (i64.wrap (BitVec.ofInt (IntKind.i64.bits) (Int.fdiv (i64.wrap (p0.N+1000000000000)) (2^(min (i64.wrap (8*v4)).toNat IntKind.i64.bits)))&&&BitVec.ofInt (IntKind.i64.bits) 255).toNat))]))) else none) else ((app 1 r12 (gZ p0.Text)).bind fun x26=>(some (r12++(gZ p0.Text))))) else ((app 1 r12 (gZ p0.Text)).bind fun x28=>(some (r12++(gZ p0.Text))))
def oF (p0:M.Key):Option (List Int):=
 (iV p0).bind fun x1=>(if (!x1)=true then (some ([]:List Int)) else (eG p0 fuel 5 ([(IntKind.u8.wrap p0.Kind)])))
def cQ  : Nat→Int→List Int→Option (List Int)
 | 0,_,_=>none
 | nL1+1,v1,r6=>if (decide (v1>127))=true then ((app 1 r6 ([(IntKind.u8.wrap (i64.wrap (BitVec.ofInt (IntKind.i64.bits) (i64.wrap (BitVec.ofInt (IntKind.i64.bits) v1&&&BitVec.ofInt (IntKind.i64.bits) 127).toNat)|||BitVec.ofInt (IntKind.i64.bits) 128).toNat))])).bind fun x15=>(cQ nL1 (Int.fdiv v1 (2^(min (7:Int).toNat IntKind.i64.bits))) (r6++[(IntKind.u8.wrap (i64.wrap (BitVec.ofInt (IntKind.i64.bits) (i64.wrap (BitVec.ofInt (IntKind.i64.bits) v1&&&BitVec.ofInt (IntKind.i64.bits) 127).toNat)|||BitVec.ofInt (IntKind.i64.bits) 128).toNat))]))) else ((app 1 r6 ([(IntKind.u8.wrap v1)])).bind fun x21=>(some (r6++[(IntKind.u8.wrap v1)])))
def dQ (p0:List Int) (p1:Int):Option (List Int):=
 (app 1 ([]:List Int) p0).bind fun x1=>((aK p1 0 1000000000000).bind fun x7=>(if (!x7)=true then (some p0) else (cQ fuel p1 p0)))
def lQ (p0:List Int) (p1:List Int):Option (List Int):=
 (dQ p0 (List.length p1:Int)).bind fun x1=>((app 1 x1 p1).bind fun x3=>(some (x1++p1)))
def eT (p0:M.bB):Nat→Int→List Int→Option (List Int)
 | 0,_,_=>none
 | nL1+1,v4,r50000=>if (decide (v4<(List.length p0.Fields:Int)))=true then ((idx p0.Fields v4).bind fun x18=>((lQ r50000 (gZ x18.Name)).bind fun x23=>((dQ x23 x18.N).bind fun x25=>(eT p0 nL1 (i64.wrap (v4+1)) x25)))) else (some r50000)
def lI (p0:M.bB):Option (List Int):=
 (mH p0).bind fun x1=>(if (!x1)=true then (some ([]:List Int)) else ((dQ ([]:List Int) (List.length p0.Fields:Int)).bind fun x4=>(eT p0 fuel 0 x4)))
def hH (p0:M.aP):Nat→Int→Int→Option Int
 | 0,_,_=>none
 | nL1+1,v3,v4=>if (decide (v4<(List.length p0.Items:Int)))=true then ((idx p0.Items v4).bind fun x7=>((oF x7.Key).bind fun x12=>((lI x7.bB).bind fun x14=>(hH p0 nL1 (i64.wrap ((i64.wrap (v3+(List.length x12:Int)))+(List.length x14:Int))) (i64.wrap (v4+1)))))) else (some v3)
def kV (p0:M.aP):Option Int:=
 hH p0 fuel 0 0
def eS (p0:M.Database):Nat→Int→Int→Option Int
 | 0,_,_=>none
 | nL1+1,v3,v4=>if (decide (v4<(List.length p0.Stores:Int)))=true then ((idx p0.Stores v4).bind fun x7=>((kV x7).bind fun x12=>(eS p0 nL1 (i64.wrap (v3+x12)) (i64.wrap (v4+1))))) else (some v3)
def lH (p0:M.Database):Option Int:=
 eS p0 fuel 0 0
def pL (p0:M.pC):Option Int:=
 (lH p0.Base).bind fun x1=>(some (i64.wrap (x1+(List.length p0.Log:Int))))
def qO (p0:M.aJ):Option Int:=
 (mR p0.Caches).bind fun x1=>((pL p0.pC).bind fun x3=>((kV p0.aV.Base).bind fun x5=>(some (i64.wrap ((i64.wrap ((i64.wrap (x1+x3))+x5))+(i64.wrap (40*(List.length p0.aV.Sync.bE.Writes:Int))))))))
def mA (p0:M.aJ):Option Bool:=
 (bA p0.Site).bind fun x1=>(if x1=true then ((bA p0.Top).bind fun x4=>(if x4=true then ((jF p0.Registration).bind fun x7=>(if x7=true then (if (p0.Registration.Site.toList==p0.Site.toList)=true then ((nG p0.Caches).bind fun x11=>(if x11=true then ((mS p0.pC.Base).bind fun x14=>(if x14=true then ((oH p0.aV).bind fun x17=>(if x17=true then ((aK p0.LastUsed 0 1000000000000).bind fun x20=>(if x20=true then ((qO p0).bind fun x23=>(some (decide (x23≤2500)))) else (some false))) else (some false))) else (some false))) else (some false))) else (some false)) else (some false))) else (some false))) else (some false))
def nM (p0:M.aJ) (p1:ByteArray) (p2:ByteArray):Option Bool:=
 if (Op.bytesLess p0.Site.toList p1.toList)=true then (some true) else (if (p0.Site.toList==p1.toList)=true then (some (Op.bytesLess p0.Top.toList p2.toList)) else (some false))
def eN (p0:M.aF):Nat→Int→Option Bool
 | 0,_=>none
 | nL1+1,v3=>if (decide (v3<(List.length p0.Buckets:Int)))=true then ((idx p0.Buckets v3).bind fun x6=>((mA x6).bind fun x11=>(if (!x11)=true then (some false) else (if (decide (v3>0))=true then ((idx p0.Buckets (i64.wrap (v3-1))).bind fun x15=>((nM x15 x6.Site x6.Top).bind fun x20=>(if (!x20)=true then (some false) else (eN p0 nL1 (i64.wrap (v3+1)))))) else (eN p0 nL1 (i64.wrap (v3+1))))))) else (some (decide ((List.length p0.Buckets:Int)≤9)))
def cE (p0:M.aF):Option Bool:=
 eN p0 fuel 0
def cR (p0:ByteArray):Nat→Int→Option Bool
 | 0,_=>none
 | nL1+1,v3=>if (decide (v3<(p0.size:Int)))=true then ((aCa p0 v3).bind fun x5=>(if (decide ((x5.toNat:Int)<97))=true then (if ((x5.toNat:Int) != 47)=true then (some false) else (cR p0 nL1 (i64.wrap (v3+1)))) else (if (decide ((x5.toNat:Int)>122))=true then (if ((x5.toNat:Int) != 47)=true then (some false) else (cR p0 nL1 (i64.wrap (v3+1)))) else (cR p0 nL1 (i64.wrap (v3+1)))))) else ((aK (p0.size:Int) 1 30).bind fun x13=>(some x13))
def mM (p0:ByteArray):Option Bool:=
 cR p0 fuel 0
def cG (p0:M.aD) (v3:Int) (x6:M.cA) (k18:Int→Option Bool):Nat→Int→Option Bool
 | 0,_=>none
 | nL2+1,v5_L2=>if (decide (v5_L2<v3))=true then ((idx p0.Locks v5_L2).bind fun x27=>(if x6.Held=true then (if (x27.Name.toList==x6.Name.toList)=true then (if (!x27.Held)=true then (some false) else (if (!x6.Shared)=true then (some false) else (if (!x27.Shared)=true then (some false) else (cG p0 v3 x6 k18 nL2 (i64.wrap (v5_L2+1)))))) else (cG p0 v3 x6 k18 nL2 (i64.wrap (v5_L2+1)))) else (cG p0 v3 x6 k18 nL2 (i64.wrap (v5_L2+1))))) else (k18 v5_L2)
def fL (p0:M.aD):Nat→Int→Option Bool
 | 0,_=>none
 | nL1+1,v3=>if (decide (v3<(List.length p0.Locks:Int)))=true then ((idx p0.Locks v3).bind fun x6=>((mM x6.Name).bind fun x11=>(if (!x11)=true then (some false) else ((aK x6.dG 1 1000000000000).bind fun x14=>(if (!x14)=true then (some false) else (cG p0 v3 x6 (fun (v5_L2:Int)=>fL p0 nL1 (i64.wrap (v3+1))) fuel 0)))))) else (some (decide ((List.length p0.Locks:Int)≤12)))
def mI (p0:M.aD):Option Bool:=
 fL p0 fuel 0
def gH (p0:M.World):Nat→Int→Option Bool
 | 0,_=>none
 | nL2+1,v4=>if (decide (v4<(List.length p0.Pages:Int)))=true then ((idx p0.Pages v4).bind fun x38=>((jX x38).bind fun x43=>(if (!x43)=true then (some false) else (if (decide (x38.Id≥p0.NextPage))=true then (some false) else (if (decide (v4>0))=true then ((idx p0.Pages (i64.wrap (v4-1))).bind fun x48=>(if (decide (x48.Id≥x38.Id))=true then (some false) else ((dC p0.aF x38.Site x38.Top).bind fun x54=>(if (decide (x54<0))=true then (some false) else (gH p0 nL2 (i64.wrap (v4+1))))))) else ((dC p0.aF x38.Site x38.Top).bind fun x57=>(if (decide (x57<0))=true then (some false) else (gH p0 nL2 (i64.wrap (v4+1)))))))))) else ((aK p0.Now 0 999999990000).bind fun x60=>(if x60=true then ((aK p0.Device 1 1000000).bind fun x63=>(if x63=true then ((cE p0.aF).bind fun x66=>(if x66=true then ((aK p0.NextPage 1 1000000000000).bind fun x69=>(if x69=true then ((mI p0.Locks).bind fun x72=>(some x72)) else (some false))) else (some false))) else (some false))) else (some false)))
def jO (p0:M.World):Nat→Int→Option Bool
 | 0,_=>none
 | nL1+1,v3=>if (decide (v3<3))=true then ((idx p0.Sites v3).bind fun x9=>((mC x9).bind fun x14=>(if (!x14)=true then (some false) else ((jA).bind fun x17=>((idx x17 v3).bind fun x19=>(if (!(x9.Name.toList==x19.toList))=true then (some false) else ((idx p0.Servers v3).bind fun x25=>((pN x25).bind fun x30=>(if (!x30)=true then (some false) else (jO p0 nL1 (i64.wrap (v3+1)))))))))))) else (gH p0 fuel 0)
def kD (p0:M.World):Option Bool:=
 if ((List.length p0.Sites:Int) != 3)=true then (some false) else (if ((List.length p0.Servers:Int) != 3)=true then (some false) else (if (decide ((List.length p0.Pages:Int)>6))=true then (some false) else (jO p0 fuel 0)))
def lF (p0:M.World):Option Int:=
 some (i64.wrap ((i64.wrap (1000*p0.Device))+p0.NextPage))
def oI (p0:Int):Option (M.bE×Bool):=
 (mD (⟨p0,1,([]:List M.iB)⟩:M.bE)).bind fun x1=>(if (!x1)=true then (some ((⟨0,0,([]:List M.iB)⟩:M.bE),false)) else (some ((⟨p0,1,([]:List M.iB)⟩:M.bE),true)))
def nZ (p0:ByteArray) (p1:ByteArray) (p2:Int):Option (M.aJ×Bool):=
 (oI p2).bind fun x1=>(if (!x1.2)=true then (some ((⟨(⟨#[]⟩:ByteArray),(⟨#[]⟩:ByteArray),(⟨(⟨#[]⟩:ByteArray),0,0,0⟩:M.Registration),(⟨([]:List M.Cache)⟩:M.aM),(⟨(⟨(⟨#[]⟩:ByteArray),0,([]:List M.aP),([]:List M.aU)⟩:M.Database),([]:List Int),0⟩:M.pC),(⟨(⟨(⟨#[]⟩:ByteArray),([]:List M.Item),0⟩:M.aP),0,(⟨(⟨0,0,([]:List M.iB)⟩:M.bE),0,0⟩:M.Sync)⟩:M.aV),0,false⟩:M.aJ),false)) else ((mA (⟨p0,p1,(⟨p0,0,0,0⟩:M.Registration),(⟨([]:List M.Cache)⟩:M.aM),(⟨(⟨(⟨#[97,112,112]⟩:ByteArray),1,[(⟨(⟨#[110,111,116,101,115]⟩:ByteArray),([]:List M.Item),0⟩:M.aP)],([]:List M.aU)⟩:M.Database),([]:List Int),0⟩:M.pC),(⟨(⟨(⟨#[110,111,116,101,115]⟩:ByteArray),([]:List M.Item),0⟩:M.aP),0,(⟨x1.1,0,0⟩:M.Sync)⟩:M.aV),0,false⟩:M.aJ)).bind fun x14=>(if (!x14)=true then (some ((⟨(⟨#[]⟩:ByteArray),(⟨#[]⟩:ByteArray),(⟨(⟨#[]⟩:ByteArray),0,0,0⟩:M.Registration),(⟨([]:List M.Cache)⟩:M.aM),(⟨(⟨(⟨#[]⟩:ByteArray),0,([]:List M.aP),([]:List M.aU)⟩:M.Database),([]:List Int),0⟩:M.pC),(⟨(⟨(⟨#[]⟩:ByteArray),([]:List M.Item),0⟩:M.aP),0,(⟨(⟨0,0,([]:List M.iB)⟩:M.bE),0,0⟩:M.Sync)⟩:M.aV),0,false⟩:M.aJ),false)) else (some ((⟨p0,p1,(⟨p0,0,0,0⟩:M.Registration),(⟨([]:List M.Cache)⟩:M.aM),(⟨(⟨(⟨#[97,112,112]⟩:ByteArray),1,[(⟨(⟨#[110,111,116,101,115]⟩:ByteArray),([]:List M.Item),0⟩:M.aP)],([]:List M.aU)⟩:M.Database),([]:List Int),0⟩:M.pC),(⟨(⟨(⟨#[110,111,116,101,115]⟩:ByteArray),([]:List M.Item),0⟩:M.aP),0,(⟨x1.1,0,0⟩:M.Sync)⟩:M.aV),0,false⟩:M.aJ),true)))))
def eM (p0:M.aF) (p1:M.aJ) (x1:M.aF):Nat→Int→Option (M.aF×Bool)
 | 0,_=>none
 | nL1+1,v8=>if (decide (v8<(List.length p0.Buckets:Int)))=true then ((idx p0.Buckets v8).bind fun x43=>((nM x43 p1.Site p1.Top).bind fun x48=>(if x48=true then (eM p0 p1 x1 nL1 (i64.wrap (v8+1))) else ((uK x1.Buckets v8).bind fun x51=>((app 328 ([]:List M.aJ) (List.take v8.toNat x1.Buckets)).bind fun x53=>((fQ p1).bind fun x68=>((app 328 (List.take v8.toNat x1.Buckets) ([x68])).bind fun x70=>((app 328 ((List.take v8.toNat x1.Buckets)++[x68]) (List.drop v8.toNat x1.Buckets)).bind fun x83=>((cE p0).bind fun x93=>(if (!x93)=true then ((cK p0).bind fun x96=>(some (x96,false))) else ((cE (⟨(((List.take v8.toNat x1.Buckets)++[x68])++(List.drop v8.toNat x1.Buckets))⟩:M.aF)).bind fun x98=>(if (!x98)=true then ((cK p0).bind fun x101=>(some (x101,false))) else (some ((⟨(((List.take v8.toNat x1.Buckets)++[x68])++(List.drop v8.toNat x1.Buckets))⟩:M.aF),true)))))))))))))) else ((uK x1.Buckets v8).bind fun x103=>((app 328 ([]:List M.aJ) (List.take v8.toNat x1.Buckets)).bind fun x105=>((fQ p1).bind fun x120=>((app 328 (List.take v8.toNat x1.Buckets) ([x120])).bind fun x122=>((app 328 ((List.take v8.toNat x1.Buckets)++[x120]) (List.drop v8.toNat x1.Buckets)).bind fun x135=>((cE p0).bind fun x145=>(if (!x145)=true then ((cK p0).bind fun x148=>(some (x148,false))) else ((cE (⟨(((List.take v8.toNat x1.Buckets)++[x120])++(List.drop v8.toNat x1.Buckets))⟩:M.aF)).bind fun x150=>(if (!x150)=true then ((cK p0).bind fun x153=>(some (x153,false))) else (some ((⟨(((List.take v8.toNat x1.Buckets)++[x120])++(List.drop v8.toNat x1.Buckets))⟩:M.aF),true)))))))))))
def kL (p0:M.aF) (p1:M.aJ):Option (M.aF×Bool):=
 (cK p0).bind fun x1=>((dC p0 p1.Site p1.Top).bind fun x3=>(if (decide (x3≥0))=true then ((fQ p1).bind fun x6=>((idx x1.Buckets x3).bind fun x8=>((cE p0).bind fun x21=>(if (!x21)=true then ((cK p0).bind fun x24=>(some (x24,false))) else ((cE (⟨(List.set x1.Buckets x3.toNat x6)⟩:M.aF)).bind fun x26=>(if (!x26)=true then ((cK p0).bind fun x29=>(some (x29,false))) else (some ((⟨(List.set x1.Buckets x3.toNat x6)⟩:M.aF),true)))))))) else (eM p0 p1 x1 fuel 0)))
def jP (p0:M.Registration) (p1:M.Site) (p2:Bool):Option Int:=
 if (p0.Active != 0)=true then (some p0.Active) else (if p2=true then (some p1.Version) else (some 0))
def pY (p0:M.Instr) (p1:Int):Option Bool:=
 (if (p0.Kind==5)=true then (some true) else ((aK p0.Kind 6 8).bind fun x9=>(some x9))).bind fun x1=>((if (p0.Kind==1)=true then (some 1000) else (if (p0.Kind==2)=true then (some 3) else ((if (p0.Kind==3)=true then (some (p0.Kind==3)) else (some (p0.Kind==4))).bind fun x20=>(if x20=true then (some p1) else ((if (p0.Kind==6)=true then (some (p0.Kind==6)) else (if (p0.Kind==7)=true then (some (p0.Kind==7)) else (some (p0.Kind==8)))).bind fun x32=>(if x32=true then (some 100) else (some 0))))))).bind fun x11=>(((aK p0.Kind 1 9).bind fun x50=>(if (!x50)=true then (some true) else ((aK p0.R 0 3).bind fun x53=>(if (!x53)=true then (some true) else ((aK p0.N 0 x11).bind fun x56=>(some (!x56))))))).bind fun x43=>(if x43=true then (some false) else ((if (p0.Kind==4)=true then (some (p0.R != 0)) else (if (p0.Kind==9)=true then (some (p0.R != 0)) else (some false))).bind fun x59=>(if x59=true then (some false) else ((if x1=true then ((bA p0.Text).bind fun x74=>(if x74=true then (some true) else (some false))) else (some (p0.Text.toList==(⟨#[]⟩:ByteArray).toList))).bind fun x69=>(some x69)))))))
def iM (p0:List M.Instr):Nat→Int→Option Bool
 | 0,_=>none
 | nL1+1,v3=>if (decide (v3<(List.length p0:Int)))=true then ((idx p0 v3).bind fun x5=>((pY x5 (List.length p0:Int)).bind fun x10=>(if (!x10)=true then (some false) else (iM p0 nL1 (i64.wrap (v3+1)))))) else (some (decide ((List.length p0:Int)≤16)))
def pP (p0:List M.Instr):Option Bool:=
 iM p0 fuel 0
def nF (p0:List M.Instr):Option M.Machine:=
 (pP p0).bind fun x8=>(if (!x8)=true then (some (⟨([]:List M.Instr),0,[0,0,0,0],0,true,false⟩:M.Machine)) else ((kT p0).bind fun x11=>(some (⟨x11,0,[0,0,0,0],0,false,false⟩:M.Machine))))
def kS (p0:Int) (p1:ByteArray) (p2:ByteArray) (p3:Int) (p4:List M.Instr):Option (M.dG×Bool):=
 (nF p4).bind fun x1=>((jX (⟨p0,p1,p2,p3,([]:List M.cP),x1⟩:M.dG)).bind fun x3=>(if (!x3)=true then (some ((⟨0,(⟨#[]⟩:ByteArray),(⟨#[]⟩:ByteArray),0,([]:List M.cP),(⟨([]:List M.Instr),0,([]:List Int),0,false,false⟩:M.Machine)⟩:M.dG),false)) else (some ((⟨p0,p1,p2,p3,([]:List M.cP),x1⟩:M.dG),true))))
def bL  : Option M.Response:=
 some (⟨4,0,0,([]:List Int),false⟩:M.Response)
def gW (p0:M.aM) (p1:Int):Nat→Int→Option Int
 | 0,_=>none
 | nL1+1,v5=>if (decide (v5<(List.length p0.Caches:Int)))=true then ((idx p0.Caches v5).bind fun x7=>(if (x7.Version==p1)=true then (some v5) else (gW p0 p1 nL1 (i64.wrap (v5+1))))) else (some (-1))
def oP (p0:M.aM) (p1:Int):Option Int:=
 gW p0 p1 fuel 0
def gP (p0:M.Cache) (p1:ByteArray) (p2:ByteArray):Nat→Int→Option Int
 | 0,_=>none
 | nL1+1,v7=>if (decide (v7<(List.length p0.Entries:Int)))=true then ((idx p0.Entries v7).bind fun x8=>(if (x8.Site.toList==p1.toList)=true then (if (x8.Path.toList==p2.toList)=true then (some v7) else (gP p0 p1 p2 nL1 (i64.wrap (v7+1)))) else (gP p0 p1 p2 nL1 (i64.wrap (v7+1))))) else (some (-1))
def pZ (p0:M.Cache) (p1:ByteArray) (p2:ByteArray):Option Int:=
 gP p0 p1 p2 fuel 0
def mW (p0:M.aM) (p1:Int) (p2:ByteArray) (p3:ByteArray):Option (M.Response×Bool):=
 (oP p0 p1).bind fun x1=>(if (decide (x1<0))=true then ((bL).bind fun x4=>(some (x4,false))) else ((idx p0.Caches x1).bind fun x6=>((pZ x6 p2 p3).bind fun x11=>(if (decide (x11<0))=true then ((bL).bind fun x14=>(some (x14,false))) else ((idx x6.Entries x11).bind fun x16=>((nR x16.Response).bind fun x21=>(some (x21,true))))))))
def sU (p0:Int) (p1:Int):Option Int:=
 if (decide (p1>p0))=true then (some p1) else (some p0)
def jY (p0:M.Site) (p1:Int):Option Bool:=
 (mC p0).bind fun x1=>(if x1=true then ((sU 1 (i64.wrap ((i64.wrap (p0.Version-2))+1))).bind fun x4=>((aK p1 x4 p0.Version).bind fun x6=>(some x6))) else (some false))
def jN (p0:M.Site) (p1:ByteArray):Nat→Int→Option Bool
 | 0,_=>none
 | nL1+1,v5=>if (decide (v5<(List.length p0.Files:Int)))=true then ((idx p0.Files v5).bind fun x7=>(if (x7.toList==p1.toList)=true then (some true) else (jN p0 p1 nL1 (i64.wrap (v5+1))))) else (some false)
def qB (p0:M.Site) (p1:ByteArray):Option Bool:=
 jN p0 p1 fuel 0
def fI (p0:List Int):Nat→Int→List Int→Option (List Int)
 | 0,_,_=>none
 | nL1+1,v4,r7=>if (decide (v4<(List.length p0:Int)))=true then ((idx p0 v4).bind fun x11=>((app 8 r7 ([(i64.wrap x11)])).bind fun x16=>(fI p0 nL1 (i64.wrap (v4+1)) (r7++[(i64.wrap x11)])))) else (some r7)
def mK (p0:List Int):Option (List Int):=
 fI p0 fuel 0 ([(List.length p0:Int)])
def uE (p0:Int) (p1:Int):Option Int:=
 (aK p1 1 1000000000000).bind fun x1=>(if (!x1)=true then (some 0) else (if (decide (p1=0))=true then none else (some (Int.tmod (i64.wrap ((Int.tmod p0 p1)+p1)) p1))))
def nN (p0:List Int):Nat→Int→Int→Option Int
 | 0,_,_=>none
 | nL1+1,v3,v4=>if (decide (v4<(List.length p0:Int)))=true then ((idx p0 v4).bind fun x6=>((uE x6 2147483647).bind fun x11=>(nN p0 nL1 (Int.tmod (i64.wrap ((i64.wrap ((i64.wrap (v3*1000003))+x11))+13)) 2147483647) (i64.wrap (v4+1))))) else (some v3)
def tE (p0:List Int):Option Int:=
 nN p0 fuel 11 0
def kR (p0:Int) (p1:List Int):Option Int:=
 (app 8 ([p0]) p1).bind fun x1=>((app 8 ([p0]++p1) ([p0])).bind fun x3=>((tE (([p0]++p1)++[p0])).bind fun x5=>(some x5)))
def dW (p0:Int) (p1:ByteArray):Option Int:=
 (mK (gZ p1)).bind fun x1=>((kR p0 x1).bind fun x3=>((sU 1 x3).bind fun x5=>(some x5)))
def hU (x5:Int):Nat→Int→List Int→Option (List Int)
 | 0,_,_=>none
 | nL1+1,v9,r19=>if (decide (v9≥0))=true then (if (decide (0≤(i64.wrap (8*v9))))=true then ((app 1 r19 ([(IntKind.u8.wrap (i64.wrap (BitVec.ofInt (IntKind.i64.bits) (Int.fdiv x5 (2^(min (i64.wrap (8*v9)).toNat IntKind.i64.bits)))&&&BitVec.ofInt (IntKind.i64.bits) 255).toNat))])).bind fun x20=>(hU x5 nL1 (i64.wrap (v9-1)) (r19++[(IntKind.u8.wrap (i64.wrap (BitVec.ofInt (IntKind.i64.bits) (Int.fdiv x5 (2^(min (i64.wrap (8*v9)).toNat IntKind.i64.bits)))&&&BitVec.ofInt (IntKind.i64.bits) 255).toNat))]))) else none) else (some r19)
def rJ (p0:M.Site) (p1:ByteArray) (p2:Int):Option (List Int):=
 (dW 107 p0.Name).bind fun x1=>((dW 109 p1).bind fun x3=>((kR (i64.wrap (1+p2)) ([103,x1,x3])).bind fun x5=>(hU x5 fuel 5 ([]:List Int))))
def oN (p0:M.Site) (p1:ByteArray) (p2:Int):Option M.Response:=
 (mC p0).bind fun x1=>(if (!x1)=true then ((bL).bind fun x4=>(some x4)) else ((jY p0 p2).bind fun x6=>(if (!x6)=true then (some (⟨1,404,p0.Version,([]:List Int),false⟩:M.Response)) else ((qB p0 p1).bind fun x9=>(if (!x9)=true then (some (⟨1,404,p0.Version,([]:List Int),false⟩:M.Response)) else ((rJ p0 p1 p2).bind fun x12=>(some (⟨1,200,p2,x12,p0.Shared⟩:M.Response))))))))
def lV (p0:M.aM) (p1:M.Site) (p2:Int) (p3:ByteArray) (p4:Bool):Option M.Response:=
 (mW p0 p2 p1.Name p3).bind fun x1=>(if x1.2=true then (some x1.1) else (if p4=true then ((oN p1 p3 p2).bind fun x5=>(some x5)) else ((bL).bind fun x7=>(some x7))))
def kP (p0:M.World) (p1:M.dG) (p2:ByteArray):Option M.Response:=
 (dC p0.aF p1.Site p1.Top).bind fun x1=>((gQ p1.Site).bind fun x3=>(if (decide (x1<0))=true then ((bL).bind fun x6=>(some x6)) else (if (decide (x3<0))=true then ((bL).bind fun x9=>(some x9)) else ((idx p0.aF.Buckets x1).bind fun x11=>((idx p0.Sites x3).bind fun x16=>((lV x11.Caches x16 p1.Version p2 p0.Online).bind fun x21=>(some x21)))))))
def lW (p0:M.dG) (p1:ByteArray) (p2:M.Response):Option (M.dG×Bool):=
 (dZ p0).bind fun x1=>((app 24 x1.cP ([(⟨p1,p2.Version⟩:M.cP)])).bind fun x3=>(if (p2.Status != 200)=true then ((dZ p0).bind fun x18=>(some (x18,false))) else (if (p2.Version != p0.Version)=true then ((dZ p0).bind fun x21=>(some (x21,false))) else ((jX p0).bind fun x23=>(if (!x23)=true then ((dZ p0).bind fun x26=>(some (x26,false))) else ((jX (⟨x1.Id,x1.Site,x1.Top,x1.Version,(x1.cP++[(⟨p1,p2.Version⟩:M.cP)]),x1.Machine⟩:M.dG)).bind fun x28=>(if (!x28)=true then ((dZ p0).bind fun x31=>(some (x31,false))) else (some ((⟨x1.Id,x1.Site,x1.Top,x1.Version,(x1.cP++[(⟨p1,p2.Version⟩:M.cP)]),x1.Machine⟩:M.dG),true)))))))))
def iW (p0:M.World) (p1:ByteArray) (p2:ByteArray) (p3:List M.Instr):Option (M.World×Int×Bool):=
 (cD p0).bind fun x1=>((gQ p1).bind fun x3=>((kD p0).bind fun x5=>(if (!x5)=true then (some (x1,0,false)) else (if (decide (x3<0))=true then (some (x1,0,false)) else ((gQ p2).bind fun x9=>(if (decide (x9<0))=true then (some (x1,0,false)) else ((lF p0).bind fun x12=>((nZ p1 p2 x12).bind fun x14=>((dC p0.aF p1 p2).bind fun x16=>(if (decide (x16≥0))=true then ((idx p0.aF.Buckets x16).bind fun x19=>((fQ x19).bind fun x24=>((kL p0.aF (⟨x24.Site,x24.Top,x24.Registration,x24.Caches,x24.pC,x24.aV,p0.Now,x24.Persistent⟩:M.aJ)).bind fun x26=>((idx p0.Sites x3).bind fun x57=>((jP x24.Registration x57 p0.Online).bind fun x62=>((kS p0.NextPage p1 p2 x62 p3).bind fun x64=>(if (!x26.2)=true then ((cD p0).bind fun x67=>(some (x67,0,false))) else (if (!x64.2)=true then ((cD p0).bind fun x70=>(some (x70,0,false))) else ((kP (⟨x1.Now,x1.Online,x1.Device,x26.1,x1.Pages,x1.NextPage,x1.Locks,x1.Channel,x1.Sites,x1.Servers⟩:M.World) x64.1 (⟨#[105,110,100,101,120]⟩:ByteArray)).bind fun x72=>((lW x64.1 (⟨#[105,110,100,101,120]⟩:ByteArray) x72).bind fun x74=>((app 144 x1.Pages ([x74.1])).bind fun x76=>(if (!x74.2)=true then ((cD p0).bind fun x98=>(some (x98,0,false))) else ((kD (⟨x1.Now,x1.Online,x1.Device,x26.1,(x1.Pages++[x74.1]),(i64.wrap (p0.NextPage+1)),x1.Locks,x1.Channel,x1.Sites,x1.Servers⟩:M.World)).bind fun x100=>(if (!x100)=true then ((cD p0).bind fun x103=>(some (x103,0,false))) else (some ((⟨x1.Now,x1.Online,x1.Device,x26.1,(x1.Pages++[x74.1]),(i64.wrap (p0.NextPage+1)),x1.Locks,x1.Channel,x1.Sites,x1.Servers⟩:M.World),x64.1.Id,true)))))))))))))))) else ((kL p0.aF (⟨x14.1.Site,x14.1.Top,x14.1.Registration,x14.1.Caches,x14.1.pC,x14.1.aV,p0.Now,x14.1.Persistent⟩:M.aJ)).bind fun x105=>((idx p0.Sites x3).bind fun x107=>((jP x14.1.Registration x107 p0.Online).bind fun x112=>((kS p0.NextPage p1 p2 x112 p3).bind fun x114=>(if (!x105.2)=true then ((cD p0).bind fun x137=>(some (x137,0,false))) else (if (!x114.2)=true then ((cD p0).bind fun x140=>(some (x140,0,false))) else ((kP (⟨x1.Now,x1.Online,x1.Device,x105.1,x1.Pages,x1.NextPage,x1.Locks,x1.Channel,x1.Sites,x1.Servers⟩:M.World) x114.1 (⟨#[105,110,100,101,120]⟩:ByteArray)).bind fun x142=>((lW x114.1 (⟨#[105,110,100,101,120]⟩:ByteArray) x142).bind fun x144=>((app 144 x1.Pages ([x144.1])).bind fun x146=>(if (!x144.2)=true then ((cD p0).bind fun x168=>(some (x168,0,false))) else ((kD (⟨x1.Now,x1.Online,x1.Device,x105.1,(x1.Pages++[x144.1]),(i64.wrap (p0.NextPage+1)),x1.Locks,x1.Channel,x1.Sites,x1.Servers⟩:M.World)).bind fun x170=>(if (!x170)=true then ((cD p0).bind fun x173=>(some (x173,0,false))) else (some ((⟨x1.Now,x1.Online,x1.Device,x105.1,(x1.Pages++[x144.1]),(i64.wrap (p0.NextPage+1)),x1.Locks,x1.Channel,x1.Sites,x1.Servers⟩:M.World),x114.1.Id,true))))))))))))))))))))))))
def kF (p0:List Int) (p1:Int):Option Int:=
 if (decide (p1<(List.length p0:Int)))=true then ((idx p0 p1).bind fun x2=>(some (i64.wrap x2))) else (some (Int.tmod (i64.wrap ((i64.wrap (p1*31))+(i64.wrap ((List.length p0:Int)*7)))) 256))
def hZ (p0:List Int):Option (List Int):=
 (app 1 ([]:List Int) p0).bind fun x1=>(some p0)
def lG (p0:M.Response):Option M.Response:=
 (hZ p0.Body).bind fun x1=>(some (⟨p0.Type_,p0.Status,p0.Version,x1,p0.Shares⟩:M.Response))
def eO (x11:M.Cache) (k17:Int→List M.Cached→Option M.aM):Nat→Int→List M.Cached→Option M.aM
 | 0,_,_=>none
 | nL2+1,v23_L2,r50000_L2=>if (decide (v23_L2<(List.length x11.Entries:Int)))=true then ((idx x11.Entries v23_L2).bind fun x34=>((lG x34.Response).bind fun x39=>((app 88 r50000_L2 ([(⟨x34.Site,x34.Path,x39⟩:M.Cached)])).bind fun x41=>(eO x11 k17 nL2 (i64.wrap (v23_L2+1)) (r50000_L2++[(⟨x34.Site,x34.Path,x39⟩:M.Cached)]))))) else (k17 v23_L2 r50000_L2)
def eU (p0:M.aM):Nat→Int→List M.Cache→Option M.aM
 | 0,_,_=>none
 | nL1+1,v13,r50100=>if (decide (v13<(List.length p0.Caches:Int)))=true then ((idx p0.Caches v13).bind fun x11=>(eO x11 (fun (v23_L2:Int) (r50000_L2:List M.Cached)=>(app 32 r50100 ([(⟨x11.Version,r50000_L2⟩:M.Cache)])).bind fun x58=>(eU p0 nL1 (i64.wrap (v13+1)) (r50100++[(⟨x11.Version,r50000_L2⟩:M.Cache)]))) fuel 0 ([]:List M.Cached))) else (some (⟨r50100⟩:M.aM))
def lE (p0:M.aM):Option M.aM:=
 eU p0 fuel 0 ([]:List M.Cache)
def nC (p0:M.bB):Option M.bB:=
 (app 24 ([]:List M.Field) p0.Fields).bind fun x1=>(some p0)
def mF (p0:M.Item):Option M.Item:=
 (nC p0.bB).bind fun x1=>(some (⟨p0.Key,x1⟩:M.Item))
def gX (p0:M.aP):Nat→Int→List M.Item→Option M.aP
 | 0,_,_=>none
 | nL1+1,v14,r50000=>if (decide (v14<(List.length p0.Items:Int)))=true then ((idx p0.Items v14).bind fun x11=>((mF x11).bind fun x16=>((app 56 r50000 ([x16])).bind fun x18=>(gX p0 nL1 (i64.wrap (v14+1)) (r50000++[x16]))))) else (some (⟨p0.Name,r50000,p0.Auto⟩:M.aP))
def iC (p0:M.aP):Option M.aP:=
 gX p0 fuel 0 ([]:List M.Item)
def eR (p0:M.Database):Nat→Int→List M.aP→Option M.Database
 | 0,_,_=>none
 | nL1+1,v18,r50000=>if (decide (v18<(List.length p0.Stores:Int)))=true then ((idx p0.Stores v18).bind fun x22=>((iC x22).bind fun x27=>((app 48 r50000 ([x27])).bind fun x29=>(eR p0 nL1 (i64.wrap (v18+1)) (r50000++[x27]))))) else (some (⟨p0.Name,p0.Version,r50000,p0.Unique⟩:M.Database))
def lK (p0:M.Database):Option M.Database:=
 (app 32 ([]:List M.aU) p0.Unique).bind fun x1=>(eR p0 fuel 0 ([]:List M.aP))
def pD (p0:M.pC):Option M.pC:=
 (lK p0.Base).bind fun x1=>((hZ p0.Log).bind fun x3=>(some (⟨x1,x3,p0.Count⟩:M.pC)))
def nI (p0:M.bE):Option M.bE:=
 (app 72 ([]:List M.iB) p0.Writes).bind fun x1=>(some p0)
def pM (p0:M.Sync):Option M.Sync:=
 (nI p0.bE).bind fun x1=>(some (⟨x1,p0.Tries,p0.WaitUntil⟩:M.Sync))
def mG (p0:M.aV):Option M.aV:=
 (iC p0.Base).bind fun x1=>((pM p0.Sync).bind fun x3=>(some (⟨x1,p0.Seen,x3⟩:M.aV)))
def mZ (p0:M.aJ):Option M.aJ:=
 (lE p0.Caches).bind fun x1=>((pD p0.pC).bind fun x3=>((mG p0.aV).bind fun x5=>(some (⟨p0.Site,p0.Top,p0.Registration,x1,x3,x5,p0.LastUsed,p0.Persistent⟩:M.aJ))))
def fD (p0:M.aF):Nat→Int→List M.aJ→Option M.aF
 | 0,_,_=>none
 | nL1+1,v10,r50000=>if (decide (v10<(List.length p0.Buckets:Int)))=true then ((idx p0.Buckets v10).bind fun x11=>((mZ x11).bind fun x16=>((app 328 r50000 ([x16])).bind fun x18=>(fD p0 nL1 (i64.wrap (v10+1)) (r50000++[x16]))))) else (some (⟨r50000⟩:M.aF))
def lO (p0:M.aF):Option M.aF:=
 fD p0 fuel 0 ([]:List M.aJ)
def lZ (p0:M.Machine):Option M.Machine:=
 (app 40 ([]:List M.Instr) p0.Script).bind fun x1=>((app 8 ([]:List Int) p0.Regs).bind fun x11=>(some p0))
def pQ (p0:M.dG):Option M.dG:=
 (app 24 ([]:List M.cP) p0.cP).bind fun x1=>((lZ p0.Machine).bind fun x9=>(some (⟨p0.Id,p0.Site,p0.Top,p0.Version,p0.cP,x9⟩:M.dG)))
def hM (p0:List M.dG):Nat→Int→List M.dG→Option (List M.dG)
 | 0,_,_=>none
 | nL1+1,v9,r6=>if (decide (v9<(List.length p0:Int)))=true then ((idx p0 v9).bind fun x12=>((pQ x12).bind fun x17=>((app 144 r6 ([x17])).bind fun x19=>(hM p0 nL1 (i64.wrap (v9+1)) (r6++[x17]))))) else (some r6)
def nY (p0:List M.dG):Option (List M.dG):=
 hM p0 fuel 0 ([]:List M.dG)
def cV (p0:M.aD):Option M.aD:=
 (app 32 ([]:List M.cA) p0.Locks).bind fun x1=>(some p0)
def iS (p0:M.Channel):Option M.Channel:=
 (app 24 ([]:List M.iR) p0.Mails).bind fun x1=>(some p0)
def pK (p0:M.Site):Option M.Site:=
 (app 16 ([]:List ByteArray) p0.Files).bind fun x1=>(some p0)
def nA (p0:M.Server):Option M.Server:=
 (iC p0.aP).bind fun x1=>((app 16 ([]:List M.bV) p0.bV).bind fun x3=>((app 72 ([]:List M.iB) p0.Changes).bind fun x5=>(some (⟨x1,p0.bV,p0.Changes⟩:M.Server))))
def hD (p0:M.World) (x1:M.aF) (x3:(List M.dG)) (x5:M.aD) (x7:M.Channel) (r50000:List M.Site):Nat→Int→List M.Server→Option M.World
 | 0,_,_=>none
 | nL2+1,v45,r50100=>if (decide (v45<(List.length p0.Servers:Int)))=true then ((idx p0.Servers v45).bind fun x64=>((nA x64).bind fun x69=>((app 96 r50100 ([x69])).bind fun x71=>(hD p0 x1 x3 x5 x7 r50000 nL2 (i64.wrap (v45+1)) (r50100++[x69]))))) else (some (⟨p0.Now,p0.Online,p0.Device,x1,x3,p0.NextPage,x5,x7,r50000,r50100⟩:M.World))
def hO (p0:M.World) (x1:M.aF) (x3:(List M.dG)) (x5:M.aD) (x7:M.Channel):Nat→Int→List M.Site→Option M.World
 | 0,_,_=>none
 | nL1+1,v29,r50000=>if (decide (v29<(List.length p0.Sites:Int)))=true then ((idx p0.Sites v29).bind fun x25=>((pK x25).bind fun x30=>((app 56 r50000 ([x30])).bind fun x32=>(hO p0 x1 x3 x5 x7 nL1 (i64.wrap (v29+1)) (r50000++[x30]))))) else (hD p0 x1 x3 x5 x7 r50000 fuel 0 ([]:List M.Server))
def kU (p0:M.World):Option M.World:=
 (lO p0.aF).bind fun x1=>((nY p0.Pages).bind fun x3=>((cV p0.Locks).bind fun x5=>((iS p0.Channel).bind fun x7=>(hO p0 x1 x3 x5 x7 fuel 0 ([]:List M.Site)))))
def iU (p0:M.dG) (c0:Int):Option Bool:=
 some (p0.Id==c0)
def bY (p0:List M.dG) (p1:M.dG→Option Bool):Nat→Int→Option Int
 | 0,_=>none
 | nL1+1,v8=>if (decide (v8<(List.length p0:Int)))=true then ((idx p0 v8).bind fun x7=>((p1 x7).bind fun x12=>(if x12=true then (some v8) else (bY p0 p1 nL1 (i64.wrap (v8+1)))))) else (some (-1))
def hJ (p0:List M.dG) (p1:M.dG→Option Bool):Option Int:=
 bY p0 p1 fuel 0
def kZ (p0:M.World) (p1:Int):Option Int:=
 (hJ p0.Pages (fun z0=>iU z0 p1)).bind fun x1=>(some x1)
def aH (p0:Int) (p1:Int) (p2:Int):Option Bool:=
 if (decide (p1≤p0))=true then (some (decide (p0≤p2))) else (some false)
def fB (p0:ByteArray) (p1:Int) (p2:Bool):Nat→Int→Option Bool
 | 0,_=>none
 | nL1+1,v7=>if (decide (v7<(p0.size:Int)))=true then ((aCa p0 v7).bind fun x7=>(if (decide ((x7.toNat:Int)≥97))=true then (if (decide ((x7.toNat:Int)≤122))=true then (fB p0 p1 p2 nL1 (i64.wrap (v7+1))) else (if p2=true then (if (!((x7.toNat:Int)==47))=true then (some false) else (fB p0 p1 p2 nL1 (i64.wrap (v7+1)))) else (some false))) else (if p2=true then (if (!((x7.toNat:Int)==47))=true then (some false) else (fB p0 p1 p2 nL1 (i64.wrap (v7+1)))) else (some false)))) else ((aH (p0.size:Int) 1 p1).bind fun x17=>(some x17))
def oU (p0:ByteArray) (p1:Int) (p2:Bool):Option Bool:=
 fB p0 p1 p2 fuel 0
def aW (p0:ByteArray):Option Bool:=
 (oU p0 8 false).bind fun x1=>(some x1)
def bQ (p0:M.Registration):Nat→Int→Int→Option Bool
 | 0,_,_=>none
 | nL1+1,v3,v14=>if (decide (v14<((3:Nat):Int)))=true then ((idx ([p0.Active,p0.Waiting,p0.Installing]) v14).bind fun x18=>((aH x18 0 1000000000000).bind fun x23=>(if (!x23)=true then (some false) else (if (x18 != 0)=true then (if (decide (x18≤v3))=true then (some false) else (bQ p0 nL1 (if x18>v3 then x18 else v3) (i64.wrap (v14+1)))) else (bQ p0 nL1 (if x18>v3 then x18 else v3) (i64.wrap (v14+1))))))) else ((aW p0.Site).bind fun x28=>(some x28))
def jH (p0:M.Registration):Option Bool:=
 bQ p0 fuel 0 0
def kN (p0:M.Cached) (c0:ByteArray) (c1:ByteArray):Option Bool:=
 if (p0.Site.toList==c0.toList)=true then (some (p0.Path.toList==c1.toList)) else (some false)
def bO (p0:List M.Cached) (p1:M.Cached→Option Bool):Nat→Int→Option Int
 | 0,_=>none
 | nL1+1,v8=>if (decide (v8<(List.length p0:Int)))=true then ((idx p0 v8).bind fun x7=>((p1 x7).bind fun x12=>(if x12=true then (some v8) else (bO p0 p1 nL1 (i64.wrap (v8+1)))))) else (some (-1))
def fS (p0:List M.Cached) (p1:M.Cached→Option Bool):Option Int:=
 bO p0 p1 fuel 0
def nO (p0:M.Cache) (p1:ByteArray) (p2:ByteArray):Option Int:=
 (fS p0.Entries (fun z0=>kN z0 p1 p2)).bind fun x1=>(some x1)
def jK (p0:M.Response):Option Bool:=
 (aH p0.Type_ 1 4).bind fun x1=>(if x1=true then ((aH p0.Status 0 999).bind fun x4=>(if x4=true then ((aH p0.Version 0 1000000000000).bind fun x7=>(if x7=true then (some (decide ((List.length p0.Body:Int)≤60))) else (some false))) else (some false))) else (some false))
def gG (x8:M.Cache) (k25:Int→Option Bool):Nat→Int→Option Bool
 | 0,_=>none
 | nL2+1,v44_L2=>if (decide (v44_L2<(List.length x8.Entries:Int)))=true then ((idx x8.Entries v44_L2).bind fun x38=>((aW x38.Site).bind fun x43=>(if (!x43)=true then (some false) else ((aW x38.Path).bind fun x46=>(if (!x46)=true then (some false) else ((nO x8 x38.Site x38.Path).bind fun x49=>(if (x49 != v44_L2)=true then (some false) else ((jK x38.Response).bind fun x52=>(if (!x52)=true then (some false) else (gG x8 k25 nL2 (i64.wrap (v44_L2+1)))))))))))) else (k25 v44_L2)
def fW (x8:M.Cache) (k57:Int→Option Bool):Nat→Int→Option Bool
 | 0,_=>none
 | nL3+1,v44_L3=>if (decide (v44_L3<(List.length x8.Entries:Int)))=true then ((idx x8.Entries v44_L3).bind fun x70=>((aW x70.Site).bind fun x75=>(if (!x75)=true then (some false) else ((aW x70.Path).bind fun x78=>(if (!x78)=true then (some false) else ((nO x8 x70.Site x70.Path).bind fun x81=>(if (x81 != v44_L3)=true then (some false) else ((jK x70.Response).bind fun x84=>(if (!x84)=true then (some false) else (fW x8 k57 nL3 (i64.wrap (v44_L3+1)))))))))))) else (k57 v44_L3)
def dU (p0:M.aM):Nat→Int→Option Bool
 | 0,_=>none
 | nL1+1,v10=>if (decide (v10<(List.length p0.Caches:Int)))=true then ((idx p0.Caches v10).bind fun x8=>((aH x8.Version 1 1000000000000).bind fun x13=>(if (!x13)=true then (some false) else (if (decide (v10>0))=true then ((idx p0.Caches (i64.wrap (v10-1))).bind fun x17=>(if (decide (x8.Version≤x17.Version))=true then (some false) else (if (decide ((List.length x8.Entries:Int)>12))=true then (some false) else (gG x8 (fun (v44_L2:Int)=>dU p0 nL1 (i64.wrap (v10+1))) fuel 0)))) else (if (decide ((List.length x8.Entries:Int)>12))=true then (some false) else (fW x8 (fun (v44_L3:Int)=>dU p0 nL1 (i64.wrap (v10+1))) fuel 0)))))) else (some (decide ((List.length p0.Caches:Int)≤4)))
def mP (p0:M.aM):Option Bool:=
 dU p0 fuel 0
def cZ (p0:ByteArray):Nat→Int→Option Bool
 | 0,_=>none
 | nL1+1,v3=>if (decide (v3<(p0.size:Int)))=true then ((aCa p0 v3).bind fun x5=>(if (decide ((x5.toNat:Int)≥97))=true then (if (decide ((x5.toNat:Int)≤122))=true then (cZ p0 nL1 (i64.wrap (v3+1))) else (if (decide ((x5.toNat:Int)≥48))=true then (if (!(decide ((x5.toNat:Int)≤57)))=true then (some false) else (cZ p0 nL1 (i64.wrap (v3+1)))) else (some false))) else (if (decide ((x5.toNat:Int)≥48))=true then (if (!(decide ((x5.toNat:Int)≤57)))=true then (some false) else (cZ p0 nL1 (i64.wrap (v3+1)))) else (some false)))) else (some (decide ((p0.size:Int)≤12)))
def oA (p0:ByteArray):Option Bool:=
 cZ p0 fuel 0
def iZ (p0:M.Key):Option Bool:=
 (aH p0.Kind 1 3).bind fun x1=>(if (!x1)=true then (some false) else ((aH p0.N (-1000000000000) 1000000000000).bind fun x4=>(if (!x4)=true then (some false) else ((oA p0.Text).bind fun x7=>(if (!x7)=true then (some false) else (if (p0.Kind==2)=true then (if (!(p0.N != 0))=true then (if (p0.Kind==1)=true then (some (!(!(p0.Text.toList==(⟨#[]⟩:ByteArray).toList)))) else (some true)) else (some false)) else (if (p0.Kind==1)=true then (some (!(!(p0.Text.toList==(⟨#[]⟩:ByteArray).toList)))) else (some true))))))))
def fO (p0:M.bB):Nat→Int→Option Bool
 | 0,_=>none
 | nL1+1,v8=>if (decide (v8<(List.length p0.Fields:Int)))=true then ((idx p0.Fields v8).bind fun x8=>((aW x8.Name).bind fun x13=>(if (!x13)=true then (some false) else ((aH x8.N 0 1000000000).bind fun x16=>(if (!x16)=true then (some false) else (if (decide (v8>0))=true then ((idx p0.Fields (i64.wrap (v8-1))).bind fun x20=>(if (Op.bytesLess x8.Name.toList x20.Name.toList||x8.Name.toList==x20.Name.toList)=true then (some false) else (fO p0 nL1 (i64.wrap (v8+1))))) else (fO p0 nL1 (i64.wrap (v8+1))))))))) else (some (decide ((List.length p0.Fields:Int)≤6)))
def lT (p0:M.bB):Option Bool:=
 fO p0 fuel 0
def iJ (p0:Int) (p1:Int):Option Int:=
 if (decide (p0<p1))=true then (some (-1)) else (if (decide (p0>p1))=true then (some 1) else (some 0))
def fU (p0:ByteArray) (p1:ByteArray):Option Int:=some (Lib.compareBytes p0.data.toList p1.data.toList)
def mT (p0:ByteArray) (p1:ByteArray):Option Int:=
 (fU p0 p1).bind fun x1=>(some x1)
def iL (p0:M.Key) (p1:M.Key):Option Int:=
 (iZ p0).bind fun x1=>(if (!x1)=true then (some 0) else ((iZ p1).bind fun x4=>(if (!x4)=true then (some 0) else ((iJ p0.Kind p1.Kind).bind fun x7=>(if (x7 != 0)=true then (some x7) else ((iJ p0.N p1.N).bind fun x10=>(if (x10 != 0)=true then (some x10) else ((mT p0.Text p1.Text).bind fun x13=>(some x13)))))))))
def gR (p0:M.aP):Nat→Int→Option Bool
 | 0,_=>none
 | nL1+1,v8=>if (decide (v8<(List.length p0.Items:Int)))=true then ((idx p0.Items v8).bind fun x8=>((iZ x8.Key).bind fun x13=>(if (!x13)=true then (some false) else ((lT x8.bB).bind fun x16=>(if (!x16)=true then (some false) else (if (decide (v8>0))=true then ((idx p0.Items (i64.wrap (v8-1))).bind fun x20=>((iL x20.Key x8.Key).bind fun x25=>(if (decide (x25≥0))=true then (some false) else (gR p0 nL1 (i64.wrap (v8+1)))))) else (gR p0 nL1 (i64.wrap (v8+1))))))))) else ((aW p0.Name).bind fun x28=>(if x28=true then (if (decide ((List.length p0.Items:Int)≤16))=true then ((aH p0.Auto 0 1000000).bind fun x32=>(some x32)) else (some false)) else (some false)))
def kC (p0:M.aP):Option Bool:=
 gR p0 fuel 0
def iK (p0:M.aP) (c0:ByteArray):Option Bool:=
 some (p0.Name.toList==c0.toList)
def bS (p0:List M.aP) (p1:M.aP→Option Bool):Nat→Int→Option Int
 | 0,_=>none
 | nL1+1,v8=>if (decide (v8<(List.length p0:Int)))=true then ((idx p0 v8).bind fun x7=>((p1 x7).bind fun x12=>(if x12=true then (some v8) else (bS p0 p1 nL1 (i64.wrap (v8+1)))))) else (some (-1))
def gK (p0:List M.aP) (p1:M.aP→Option Bool):Option Int:=
 bS p0 p1 fuel 0
def oE (p0:M.Database) (p1:ByteArray):Option Int:=
 (gK p0.Stores (fun z0=>iK z0 p1)).bind fun x1=>(some x1)
def cX (p0:List M.aU) (p1:M.aU):Nat→Int→Option Int
 | 0,_=>none
 | nL1+1,v8=>if (decide (v8<(List.length p0:Int)))=true then ((idx p0 v8).bind fun x8=>(if ((p1.aP.toList==x8.aP.toList)&&(p1.Field.toList==x8.Field.toList))=true then (some v8) else (cX p0 p1 nL1 (i64.wrap (v8+1))))) else (some (-1))
def gV (p0:List M.aU) (p1:M.aU):Option Int:=
 cX p0 p1 fuel 0
def eZ (p0:List M.aU) (p1:M.aU):Option Bool:=
 (gV p0 p1).bind fun x1=>(some (decide (x1≥0)))
def kK (p0:M.Field) (c0:ByteArray):Option Bool:=
 some (p0.Name.toList==c0.toList)
def bR (p0:List M.Field) (p1:M.Field→Option Bool):Nat→Int→Option Int
 | 0,_=>none
 | nL1+1,v8=>if (decide (v8<(List.length p0:Int)))=true then ((idx p0 v8).bind fun x7=>((p1 x7).bind fun x12=>(if x12=true then (some v8) else (bR p0 p1 nL1 (i64.wrap (v8+1)))))) else (some (-1))
def gM (p0:List M.Field) (p1:M.Field→Option Bool):Option Int:=
 bR p0 p1 fuel 0
def qN (p0:M.bB) (p1:ByteArray):Option Int:=
 (gM p0.Fields (fun z0=>kK z0 p1)).bind fun x1=>(some x1)
def eH (p0:M.bB) (p1:ByteArray):Option (Int×Bool):=
 (qN p0 p1).bind fun x1=>(if (decide (x1<0))=true then (some (0,false)) else ((idx p0.Fields x1).bind fun x4=>(some (x4.N,true))))
def lY (p0:M.Item) (p1:M.Item) (p2:ByteArray):Option Bool:=
 (eH p0.bB p2).bind fun x1=>((eH p1.bB p2).bind fun x3=>(if (decide (x1.1<x3.1))=true then (some true) else (if (x1.1==x3.1)=true then ((iL p0.Key p1.Key).bind fun x7=>(some (decide (x7<0)))) else (some false))))
def eE (p1:ByteArray) (r11:List M.Item) (x15:M.Item) (k24:Int→Option (List M.Item)):Nat→Int→Option (List M.Item)
 | 0,_=>none
 | nL2+1,v10_L2=>if (decide (v10_L2>0))=true then ((idx r11 (i64.wrap (v10_L2-1))).bind fun x36=>((lY x15 x36 p1).bind fun x41=>(if x41=true then (eE p1 r11 x15 k24 nL2 (i64.wrap (v10_L2-1))) else (k24 v10_L2)))) else (k24 v10_L2)
def eC (p0:M.aP) (p1:ByteArray):Nat→Int→List M.Item→Option (List M.Item)
 | 0,_,_=>none
 | nL1+1,v15,r11=>if (decide (v15<(List.length p0.Items:Int)))=true then ((idx p0.Items v15).bind fun x15=>((eH x15.bB p1).bind fun x20=>(if (!x20.2)=true then (eC p0 p1 nL1 (i64.wrap (v15+1)) r11) else (eE p1 r11 x15 (fun (v10_L2:Int)=>(mF x15).bind fun x55=>((aCf 56 r11 v10_L2 ([x55])).bind fun x57=>(eC p0 p1 nL1 (i64.wrap (v15+1)) (List.take v10_L2.toNat r11++([x55]++List.drop v10_L2.toNat r11))))) fuel (List.length r11:Int))))) else (some r11)
def qE (p0:M.aP) (p1:ByteArray):Option (List M.Item):=
 eC p0 p1 fuel 0 ([]:List M.Item)
def fG (p1:ByteArray) (x1:(List M.Item)):Nat→Int→Option (M.Key×M.Key×Bool)
 | 0,_=>none
 | nL1+1,v8=>if (decide (v8<(List.length x1:Int)))=true then ((idx x1 (i64.wrap (v8-1))).bind fun x13=>((eH x13.bB p1).bind fun x18=>((idx x1 v8).bind fun x20=>((eH x20.bB p1).bind fun x25=>(if (x18.1==x25.1)=true then (some (x13.Key,x20.Key,true)) else (fG p1 x1 nL1 (i64.wrap (v8+1)))))))) else (some ((⟨0,0,(⟨#[]⟩:ByteArray)⟩:M.Key),(⟨0,0,(⟨#[]⟩:ByteArray)⟩:M.Key),false))
def mJ (p0:M.aP) (p1:ByteArray):Option (M.Key×M.Key×Bool):=
 (qE p0 p1).bind fun x1=>(fG p1 x1 fuel 1)
def dR (p0:M.Database):Nat→Int→Option Bool
 | 0,_=>none
 | nL2+1,v64=>if (decide (v64<(List.length p0.Unique:Int)))=true then ((idx p0.Unique v64).bind fun x38=>((oE p0 x38.aP).bind fun x43=>(if (decide (x43<0))=true then (some false) else ((aW x38.Field).bind fun x46=>(if (!x46)=true then (some false) else ((uK p0.Unique v64).bind fun x49=>((eZ (List.take v64.toNat p0.Unique) x38).bind fun x51=>(if x51=true then (some false) else ((idx p0.Stores x43).bind fun x54=>((mJ x54 x38.Field).bind fun x59=>(if x59.2.2=true then (some false) else (dR p0 nL2 (i64.wrap (v64+1)))))))))))))) else (some true)
def cT (p0:M.Database):Nat→Int→Option Bool
 | 0,_=>none
 | nL1+1,v36=>if (decide (v36<(List.length p0.Stores:Int)))=true then ((idx p0.Stores v36).bind fun x16=>((kC x16).bind fun x21=>(if (!x21)=true then (some false) else (if (decide (v36>0))=true then ((idx p0.Stores (i64.wrap (v36-1))).bind fun x25=>(if (Op.bytesLess x16.Name.toList x25.Name.toList||x16.Name.toList==x25.Name.toList)=true then (some false) else (cT p0 nL1 (i64.wrap (v36+1))))) else (cT p0 nL1 (i64.wrap (v36+1))))))) else (dR p0 fuel 0)
def mO (p0:M.Database):Option Bool:=
 (aW p0.Name).bind fun x1=>(if (!x1)=true then (some false) else ((aH p0.Version 0 1000).bind fun x4=>(if (!x4)=true then (some false) else (if (decide ((List.length p0.Stores:Int)>4))=true then (some false) else (if (decide ((List.length p0.Unique:Int)>4))=true then (some false) else (cT p0 fuel 0))))))
def fX (p0:M.iB):Option Bool:=
 (aH p0.Device 1 1000000).bind fun x1=>(if x1=true then ((aH p0.Seq 1 1000000).bind fun x4=>(if x4=true then ((iZ p0.Key).bind fun x7=>(if x7=true then ((aW p0.Field).bind fun x10=>(if x10=true then ((aH p0.N 0 1000000000).bind fun x13=>(some x13)) else (some false))) else (some false))) else (some false))) else (some false))
def iI (p0:M.bE):Nat→Int→Option Bool
 | 0,_=>none
 | nL1+1,v12=>if (decide (v12<(List.length p0.Writes:Int)))=true then ((idx p0.Writes v12).bind fun x9=>((fX x9).bind fun x14=>(if (!x14)=true then (some false) else (if (x9.Device != p0.Device)=true then (some false) else (if (x9.Seq != (i64.wrap ((i64.wrap (p0.Next-(List.length p0.Writes:Int)))+v12)))=true then (some false) else (iI p0 nL1 (i64.wrap (v12+1)))))))) else ((aH p0.Device 1 1000000).bind fun x19=>(if x19=true then ((aH p0.Next 1 1000000).bind fun x22=>(if x22=true then (some (decide ((List.length p0.Writes:Int)≤20))) else (some false))) else (some false)))
def pG (p0:M.bE):Option Bool:=
 iI p0 fuel 0
def oO (p0:M.aV):Option Bool:=
 (kC p0.Base).bind fun x1=>(if x1=true then (if (p0.Base.Name.toList==(⟨#[110,111,116,101,115]⟩:ByteArray).toList)=true then ((aH p0.Seen 0 1000000000000).bind fun x5=>(if x5=true then ((pG p0.Sync.bE).bind fun x8=>(some x8)) else (some false))) else (some false)) else (some false))
def nJ (p0:M.Response) (p1:Bool):Option Int:=
 if p1=true then (some 76) else (some (i64.wrap (16+(List.length p0.Body:Int))))
def fZ (x7:M.Cache) (k13:Int→Int→Option Int):Nat→Int→Int→Option Int
 | 0,_,_=>none
 | nL2+1,v3_L2,v18_L2=>if (decide (v18_L2<(List.length x7.Entries:Int)))=true then ((idx x7.Entries v18_L2).bind fun x23=>((nJ x23.Response (x23.Response.Type_==3)).bind fun x28=>(fZ x7 k13 nL2 (i64.wrap (v3_L2+x28)) (i64.wrap (v18_L2+1))))) else (k13 v3_L2 v18_L2)
def gE (p0:M.aM):Nat→Int→Int→Option Int
 | 0,_,_=>none
 | nL1+1,v3,v11=>if (decide (v11<(List.length p0.Caches:Int)))=true then ((idx p0.Caches v11).bind fun x7=>(fZ x7 (fun (v3_L2:Int) (v18_L2:Int)=>gE p0 nL1 v3_L2 (i64.wrap (v11+1))) fuel v3 0)) else (some v3)
def nE (p0:M.aM):Option Int:=
 gE p0 fuel 0 0
def eJ (p0:M.Key):Nat→Int→List Int→Option (List Int)
 | 0,_,_=>none
 | nL1+1,v4,r12=>if (decide (v4≥0))=true then (if (decide (0≤(i64.wrap (8*v4))))=true then ((app 1 r12 ([(IntKind.u8.wrap (Int.fdiv (i64.wrap (p0.N+1000000000000)) (2^(min (i64.wrap (8*v4)).toNat IntKind.i64.bits))))])).bind fun x18=>(eJ p0 nL1 (i64.wrap (v4-1)) (r12++[(IntKind.u8.wrap (Int.fdiv (i64.wrap (p0.N+1000000000000)) (2^(min (i64.wrap (8*v4)).toNat IntKind.i64.bits))))]))) else none) else ((app 1 r12 (gZ p0.Text)).bind fun x26=>(some (r12++gZ p0.Text)))
def oL (p0:M.Key):Option (List Int):=
 (iZ p0).bind fun x1=>(if (!x1)=true then (some ([]:List Int)) else (if (p0.Kind != 2)=true then (eJ p0 fuel 5 ([(IntKind.u8.wrap p0.Kind)])) else ((app 1 ([(IntKind.u8.wrap p0.Kind)]) (gZ p0.Text)).bind fun x28=>(some ([(IntKind.u8.wrap p0.Kind)]++gZ p0.Text)))))
def dX  : Nat→Int→List Int→Option (List Int)
 | 0,_,_=>none
 | nL1+1,v1,r7=>if (decide (v1≥128))=true then ((app 1 r7 ([(IntKind.u8.wrap (i64.wrap ((Int.tmod v1 128)+128)))])).bind fun x11=>(dX nL1 (i64.wrap (Int.tdiv v1 128)) (r7++[(IntKind.u8.wrap (i64.wrap ((Int.tmod v1 128)+128)))]))) else ((app 1 r7 ([(IntKind.u8.wrap v1)])).bind fun x17=>(some (r7++[(IntKind.u8.wrap v1)])))
def dK (p0:List Int) (p1:Int):Option (List Int):=
 (hZ p0).bind fun x1=>((aH p1 0 1000000000000).bind fun x3=>(if (!x3)=true then (some x1) else (dX fuel p1 x1)))
def mE (p0:List Int) (p1:List Int):Option (List Int):=
 (dK p0 (List.length p1:Int)).bind fun x1=>((app 1 x1 p1).bind fun x3=>(some (x1++p1)))
def eV (p0:M.bB):Nat→Int→List Int→Option (List Int)
 | 0,_,_=>none
 | nL1+1,v17,r50000=>if (decide (v17<(List.length p0.Fields:Int)))=true then ((idx p0.Fields v17).bind fun x13=>((mE r50000 (gZ x13.Name)).bind fun x18=>((dK x18 x13.N).bind fun x20=>(eV p0 nL1 (i64.wrap (v17+1)) x20)))) else (some r50000)
def lD (p0:M.bB):Option (List Int):=
 (lT p0).bind fun x1=>(if (!x1)=true then (some ([]:List Int)) else ((dK ([]:List Int) (List.length p0.Fields:Int)).bind fun x4=>(eV p0 fuel 0 x4)))
def gT (p0:M.aP):Nat→Int→Int→Option Int
 | 0,_,_=>none
 | nL1+1,v3,v9=>if (decide (v9<(List.length p0.Items:Int)))=true then ((idx p0.Items v9).bind fun x7=>((oL x7.Key).bind fun x12=>((lD x7.bB).bind fun x14=>(gT p0 nL1 (i64.wrap (v3+(i64.wrap ((List.length x12:Int)+(List.length x14:Int))))) (i64.wrap (v9+1)))))) else (some v3)
def kQ (p0:M.aP):Option Int:=
 gT p0 fuel 0 0
def eQ (p0:M.Database):Nat→Int→Int→Option Int
 | 0,_,_=>none
 | nL1+1,v3,v9=>if (decide (v9<(List.length p0.Stores:Int)))=true then ((idx p0.Stores v9).bind fun x7=>((kQ x7).bind fun x12=>(eQ p0 nL1 (i64.wrap (v3+x12)) (i64.wrap (v9+1))))) else (some v3)
def lB (p0:M.Database):Option Int:=
 eQ p0 fuel 0 0
def pE (p0:M.pC):Option Int:=
 (lB p0.Base).bind fun x1=>(some (i64.wrap (x1+(List.length p0.Log:Int))))
def qD (p0:M.aJ):Option Int:=
 (nE p0.Caches).bind fun x1=>((pE p0.pC).bind fun x3=>((kQ p0.aV.Base).bind fun x5=>(some (i64.wrap ((i64.wrap ((i64.wrap (x1+x3))+x5))+(i64.wrap (40*(List.length p0.aV.Sync.bE.Writes:Int))))))))
def pI (p0:M.aJ):Option Bool:=
 (aW p0.Site).bind fun x1=>(if x1=true then ((aW p0.Top).bind fun x4=>(if x4=true then ((jH p0.Registration).bind fun x7=>(if x7=true then (if (p0.Registration.Site.toList==p0.Site.toList)=true then ((mP p0.Caches).bind fun x11=>(if x11=true then ((mO p0.pC.Base).bind fun x14=>(if x14=true then ((oO p0.aV).bind fun x17=>(if x17=true then ((aH p0.LastUsed 0 1000000000000).bind fun x20=>(if x20=true then ((qD p0).bind fun x23=>(some (decide (x23≤2500)))) else (some false))) else (some false))) else (some false))) else (some false))) else (some false)) else (some false))) else (some false))) else (some false))
def lJ (p0:M.aJ) (p1:M.aJ):Option Bool:=
 if (Op.bytesLess p0.Site.toList p1.Site.toList)=true then (some true) else (if (p0.Site.toList==p1.Site.toList)=true then (some (Op.bytesLess p0.Top.toList p1.Top.toList)) else (some false))
def eL (p0:M.aF):Nat→Int→Option Bool
 | 0,_=>none
 | nL1+1,v8=>if (decide (v8<(List.length p0.Buckets:Int)))=true then ((idx p0.Buckets v8).bind fun x8=>((pI x8).bind fun x13=>(if (!x13)=true then (some false) else (if (decide (v8>0))=true then ((idx p0.Buckets (i64.wrap (v8-1))).bind fun x17=>((lJ x17 x8).bind fun x22=>(if (!x22)=true then (some false) else (eL p0 nL1 (i64.wrap (v8+1)))))) else (eL p0 nL1 (i64.wrap (v8+1))))))) else (some (decide ((List.length p0.Buckets:Int)≤9)))
def oK (p0:M.aF):Option Bool:=
 eL p0 fuel 0
def mQ (p0:ByteArray):Option Bool:=
 (oU p0 30 true).bind fun x1=>(some x1)
def bI (p0:M.aD) (v10:Int) (x8:M.cA) (k22:Int→Option Bool):Nat→Int→Option Bool
 | 0,_=>none
 | nL2+1,v30_L2=>if (decide (v30_L2<(List.length (List.take v10.toNat p0.Locks):Int)))=true then ((idx (List.take v10.toNat p0.Locks) v30_L2).bind fun x35=>(if (x35.Name.toList==x8.Name.toList)=true then (if x8.Held=true then (if (!x35.Held)=true then (some false) else (if (!x8.Shared)=true then (some false) else (if (!x35.Shared)=true then (some false) else (bI p0 v10 x8 k22 nL2 (i64.wrap (v30_L2+1)))))) else (bI p0 v10 x8 k22 nL2 (i64.wrap (v30_L2+1)))) else (bI p0 v10 x8 k22 nL2 (i64.wrap (v30_L2+1))))) else (k22 v30_L2)
def dE (p0:M.aD):Nat→Int→Option Bool
 | 0,_=>none
 | nL1+1,v10=>if (decide (v10<(List.length p0.Locks:Int)))=true then ((idx p0.Locks v10).bind fun x8=>((mQ x8.Name).bind fun x13=>(if (!x13)=true then (some false) else ((aH x8.dG 1 1000000000000).bind fun x16=>(if (!x16)=true then (some false) else ((uK p0.Locks v10).bind fun x19=>(bI p0 v10 x8 (fun (v30_L2:Int)=>dE p0 nL1 (i64.wrap (v10+1))) fuel 0))))))) else (some (decide ((List.length p0.Locks:Int)≤12)))
def fH (p0:M.aD):Option Bool:=
 dE p0 fuel 0
def lA (p0:M.dG):Nat→Int→Option Bool
 | 0,_=>none
 | nL1+1,v8=>if (decide (v8<(List.length p0.cP:Int)))=true then ((idx p0.cP v8).bind fun x8=>((aW x8.Path).bind fun x13=>(if (!x13)=true then (some false) else (if (x8.Version != p0.Version)=true then (some false) else (lA p0 nL1 (i64.wrap (v8+1))))))) else ((aH p0.Id 1 1000000000000).bind fun x17=>(if x17=true then ((aW p0.Site).bind fun x20=>(if x20=true then ((aW p0.Top).bind fun x23=>(if x23=true then ((aH p0.Version 1 1000000000000).bind fun x26=>(if x26=true then (some (decide ((List.length p0.cP:Int)≤8))) else (some false))) else (some false))) else (some false))) else (some false)))
def rP (p0:M.dG):Option Bool:=
 lA p0 fuel 0
def gU (p0:M.aJ) (c0:ByteArray) (c1:ByteArray):Option Bool:=
 if (p0.Site.toList==c0.toList)=true then (some (p0.Top.toList==c1.toList)) else (some false)
def bN (p0:List M.aJ) (p1:M.aJ→Option Bool):Nat→Int→Option Int
 | 0,_=>none
 | nL1+1,v8=>if (decide (v8<(List.length p0:Int)))=true then ((idx p0 v8).bind fun x7=>((p1 x7).bind fun x12=>(if x12=true then (some v8) else (bN p0 p1 nL1 (i64.wrap (v8+1)))))) else (some (-1))
def fR (p0:List M.aJ) (p1:M.aJ→Option Bool):Option Int:=
 bN p0 p1 fuel 0
def jJ (p0:M.aF) (p1:ByteArray) (p2:ByteArray):Option Int:=
 (fR p0.Buckets (fun z0=>gU z0 p1 p2)).bind fun x1=>(some x1)
def hY (p0:M.Site):Nat→Int→Option Bool
 | 0,_=>none
 | nL1+1,v8=>if (decide (v8<(List.length p0.Files:Int)))=true then ((idx p0.Files v8).bind fun x8=>((aW x8).bind fun x13=>(if (!x13)=true then (some false) else (if (decide (v8>0))=true then ((idx p0.Files (i64.wrap (v8-1))).bind fun x17=>(if (Op.bytesLess x8.toList x17.toList||x8.toList==x17.toList)=true then (some false) else (hY p0 nL1 (i64.wrap (v8+1))))) else (hY p0 nL1 (i64.wrap (v8+1))))))) else ((aW p0.Name).bind fun x23=>(if x23=true then ((aH p0.Version 1 1000000000000).bind fun x26=>(if x26=true then ((aH (List.length p0.Files:Int) 1 6).bind fun x29=>(some x29)) else (some false))) else (some false)))
def rE (p0:M.Site):Option Bool:=
 hY p0 fuel 0
def dF (p0:List ByteArray) (p1:ByteArray):Nat→Int→Option Int
 | 0,_=>none
 | nL1+1,v8=>if (decide (v8<(List.length p0:Int)))=true then ((idx p0 v8).bind fun x7=>(if (p1.toList==x7.toList)=true then (some v8) else (dF p0 p1 nL1 (i64.wrap (v8+1))))) else (some (-1))
def jE (p0:List ByteArray) (p1:ByteArray):Option Int:=
 dF p0 p1 fuel 0
def mV (p0:ByteArray):Option Int:=
 (jE ([(⟨#[98,97,110,107]⟩:ByteArray),(⟨#[110,101,119,115]⟩:ByteArray),(⟨#[115,104,111,112]⟩:ByteArray)]) p0).bind fun x1=>(some x1)
def iP (p0:M.Server):Nat→Int→Option Bool
 | 0,_=>none
 | nL2+1,v45=>if (decide (v45<(List.length p0.Changes:Int)))=true then ((idx p0.Changes v45).bind fun x33=>((fX x33).bind fun x38=>(if (!x38)=true then (some false) else (iP p0 nL2 (i64.wrap (v45+1)))))) else ((kC p0.aP).bind fun x41=>(if x41=true then (if (p0.aP.Name.toList==(⟨#[110,111,116,101,115]⟩:ByteArray).toList)=true then (some (decide ((List.length p0.bV:Int)≤60))) else (some false)) else (some false)))
def fN (p0:M.Server):Nat→Int→Option Bool
 | 0,_=>none
 | nL1+1,v10=>if (decide (v10<(List.length p0.bV:Int)))=true then ((idx p0.bV v10).bind fun x8=>((aH x8.Device 1 1000000).bind fun x13=>(if (!x13)=true then (some false) else ((aH x8.Seq 0 1000000).bind fun x16=>(if (!x16)=true then (some false) else (if (decide (v10>0))=true then ((idx p0.bV (i64.wrap (v10-1))).bind fun x20=>(if (decide (x8.Device≤x20.Device))=true then (some false) else (fN p0 nL1 (i64.wrap (v10+1))))) else (fN p0 nL1 (i64.wrap (v10+1))))))))) else (iP p0 fuel 0)
def pJ (p0:M.Server):Option Bool:=
 fN p0 fuel 0
def jQ (p0:M.World):Nat→Int→Option Bool
 | 0,_=>none
 | nL2+1,v101=>if (decide (v101<(List.length p0.Sites:Int)))=true then ((idx p0.Sites v101).bind fun x55=>((rE x55).bind fun x60=>(if (!x60)=true then (some false) else ((mV x55.Name).bind fun x63=>(if (x63 != v101)=true then (some false) else ((idx p0.Servers v101).bind fun x66=>((pJ x66).bind fun x71=>(if (!x71)=true then (some false) else (jQ p0 nL2 (i64.wrap (v101+1))))))))))) else (some true)
def gI (p0:M.World):Nat→Int→Option Bool
 | 0,_=>none
 | nL1+1,v56=>if (decide (v56<(List.length p0.Pages:Int)))=true then ((idx p0.Pages v56).bind fun x26=>((rP x26).bind fun x31=>(if (!x31)=true then (some false) else (if (decide (x26.Id≥p0.NextPage))=true then (some false) else (if (decide (v56>0))=true then ((idx p0.Pages (i64.wrap (v56-1))).bind fun x36=>(if (decide (x26.Id≤x36.Id))=true then (some false) else ((jJ p0.aF x26.Site x26.Top).bind fun x42=>(if (decide (x42<0))=true then (some false) else (gI p0 nL1 (i64.wrap (v56+1))))))) else ((jJ p0.aF x26.Site x26.Top).bind fun x45=>(if (decide (x45<0))=true then (some false) else (gI p0 nL1 (i64.wrap (v56+1)))))))))) else (jQ p0 fuel 0)
def nK (p0:M.World):Option Bool:=
 (aH p0.Now 0 999999990000).bind fun x1=>(if (!x1)=true then (some false) else ((aH p0.Device 1 1000000).bind fun x4=>(if (!x4)=true then (some false) else ((oK p0.aF).bind fun x7=>(if (!x7)=true then (some false) else (if (decide ((List.length p0.Pages:Int)>6))=true then (some false) else ((aH p0.NextPage 1 1000000000000).bind fun x11=>(if (!x11)=true then (some false) else ((fH p0.Locks).bind fun x14=>(if (!x14)=true then (some false) else (if ((List.length p0.Sites:Int) != 3)=true then (some false) else (if ((List.length p0.Servers:Int) != 3)=true then (some false) else (gI p0 fuel 0)))))))))))))
def eF (p0:M.aD) (p1:Int):Nat→Int→Option Bool
 | 0,_=>none
 | nL1+1,v12=>if (decide (v12<(List.length (List.take p1.toNat p0.Locks):Int)))=true then ((idx (List.take p1.toNat p0.Locks) v12).bind fun x11=>((idx p0.Locks p1).bind fun x16=>(if (x11.Name.toList==x16.Name.toList)=true then (if (!x11.Held)=true then (some false) else (if (!x11.Shared)=true then (some false) else (if (!x16.Shared)=true then (some false) else (eF p0 p1 nL1 (i64.wrap (v12+1)))))) else (eF p0 p1 nL1 (i64.wrap (v12+1)))))) else (some true)
def nU (p0:M.aD) (p1:Int):Option Bool:=
 (uK p0.Locks p1).bind fun x1=>(eF p0 p1 fuel 0)
def lU (p0:M.aD) (p1:ByteArray) (p2:Int) (p3:Bool):Option (M.aD×Bool):=
 (cV p0).bind fun x1=>((app 32 x1.Locks ([(⟨p1,p2,p3,false⟩:M.cA)])).bind fun x3=>((nU (⟨(x1.Locks++[(⟨p1,p2,p3,false⟩:M.cA)])⟩:M.aD) (i64.wrap ((List.length (x1.Locks++[(⟨p1,p2,p3,false⟩:M.cA)]):Int)-1))).bind fun x13=>((idx (x1.Locks++[(⟨p1,p2,p3,false⟩:M.cA)]) (i64.wrap ((List.length (x1.Locks++[(⟨p1,p2,p3,false⟩:M.cA)]):Int)-1))).bind fun x15=>((fH p0).bind fun x28=>(if (!x28)=true then ((cV p0).bind fun x31=>(some (x31,false))) else ((fH (⟨(List.set (x1.Locks++[(⟨p1,p2,p3,false⟩:M.cA)]) (i64.wrap ((List.length (x1.Locks++[(⟨p1,p2,p3,false⟩:M.cA)]):Int)-1)).toNat (⟨x15.Name,x15.dG,x15.Shared,x13⟩:M.cA))⟩:M.aD)).bind fun x33=>(if (!x33)=true then ((cV p0).bind fun x36=>(some (x36,false))) else (some ((⟨(List.set (x1.Locks++[(⟨p1,p2,p3,false⟩:M.cA)]) (i64.wrap ((List.length (x1.Locks++[(⟨p1,p2,p3,false⟩:M.cA)]):Int)-1)).toNat (⟨x15.Name,x15.dG,x15.Shared,x13⟩:M.cA))⟩:M.aD),true)))))))))
def iT (p0:M.cA) (c0:ByteArray) (c1:Int):Option Bool:=
 if p0.Held=true then (if (p0.Name.toList==c0.toList)=true then (some (p0.dG==c1)) else (some false)) else (some false)
def bX (p0:List M.cA) (p1:M.cA→Option Bool):Nat→Int→Option Int
 | 0,_=>none
 | nL1+1,v8=>if (decide (v8<(List.length p0:Int)))=true then ((idx p0 v8).bind fun x7=>((p1 x7).bind fun x12=>(if x12=true then (some v8) else (bX p0 p1 nL1 (i64.wrap (v8+1)))))) else (some (-1))
def dY (p0:List M.cA) (p1:M.cA→Option Bool):Option Int:=
 bX p0 p1 fuel 0
def eY (p0:List M.cA) (p1:M.cA→Option Bool):Option Bool:=
 (dY p0 p1).bind fun x1=>(some (decide (x1≥0)))
def oD (p0:M.aD) (p1:ByteArray) (p2:Int):Option Bool:=
 (eY p0.Locks (fun z0=>iT z0 p1 p2)).bind fun x1=>(some x1)
def jC (p0:M.World) (p1:Int) (p2:ByteArray) (p3:Bool):Option (M.World×Bool):=
 (kU p0).bind fun x1=>((kZ p0 p1).bind fun x3=>((nK p0).bind fun x5=>(if (!x5)=true then (some (x1,false)) else (if (decide (x3<0))=true then (some (x1,false)) else ((idx p0.Pages x3).bind fun x9=>((cat x9.Site (⟨#[47]⟩:ByteArray)).bind fun x14=>((cat (x9.Site++(⟨#[47]⟩:ByteArray)) x9.Top).bind fun x16=>((cat ((x9.Site++(⟨#[47]⟩:ByteArray))++x9.Top) (⟨#[47]⟩:ByteArray)).bind fun x18=>((cat (((x9.Site++(⟨#[47]⟩:ByteArray))++x9.Top)++(⟨#[47]⟩:ByteArray)) p2).bind fun x20=>((lU p0.Locks ((((x9.Site++(⟨#[47]⟩:ByteArray))++x9.Top)++(⟨#[47]⟩:ByteArray))++p2) p1 p3).bind fun x22=>(if (!x22.2)=true then (some (x1,false)) else ((oD x22.1 ((((x9.Site++(⟨#[47]⟩:ByteArray))++x9.Top)++(⟨#[47]⟩:ByteArray))++p2) p1).bind fun x25=>(some ((⟨x1.Now,x1.Online,x1.Device,x1.aF,x1.Pages,x1.NextPage,x22.1,x1.Channel,x1.Sites,x1.Servers⟩:M.World),x25))))))))))))))
def fJ (p0:M.cA) (c0:Int):Option Bool:=
 some (p0.dG==c0)
def bG (p1:M.cA→Option Bool):Nat→Int→Int→List M.cA→Option (List M.cA)
 | 0,_,_,_=>none
 | nL1+1,v5,v6,r59000=>if (decide (v6<(List.length r59000:Int)))=true then ((idx r59000 v6).bind fun x11=>((p1 x11).bind fun x16=>(if (!x16)=true then ((idx r59000 v5).bind fun x19=>(bG p1 nL1 (i64.wrap (v5+1)) (i64.wrap (v6+1)) (List.set r59000 v5.toNat x11))) else (bG p1 nL1 v5 (i64.wrap (v6+1)) r59000)))) else ((uY r59000 v5).bind fun x30=>(some (List.take v5.toNat r59000)))
def gN (p0:List M.cA) (p1:M.cA→Option Bool):Option (List M.cA):=
 (dY p0 p1).bind fun x1=>(if (x1==(-1))=true then (some p0) else (bG p1 fuel x1 (i64.wrap (x1+1)) p0))
def dP (x1:M.aD):Nat→Int→List M.cA→Option M.aD
 | 0,_,_=>none
 | nL1+1,v10,r6=>if (decide (v10<(List.length x1.Locks:Int)))=true then ((idx r6 v10).bind fun x12=>(if (!x12.Held)=true then ((nU (⟨r6⟩:M.aD) v10).bind fun x18=>(dP x1 nL1 (i64.wrap (v10+1)) (List.set r6 v10.toNat (⟨x12.Name,x12.dG,x12.Shared,x18⟩:M.cA)))) else (dP x1 nL1 (i64.wrap (v10+1)) r6))) else (some (⟨r6⟩:M.aD))
def nH (p0:M.aD):Option M.aD:=
 (cV p0).bind fun x1=>(dP x1 fuel 0 x1.Locks)
def lC (p0:M.aD) (p1:Int):Option M.aD:=
 (cV p0).bind fun x1=>((gN x1.Locks (fun z0=>fJ z0 p1)).bind fun x3=>((nH (⟨x3⟩:M.aD)).bind fun x11=>(some x11)))
def iD (p0:M.iR) (c0:Int):Option Bool:=
 some (p0.To==c0)
def bW (p0:List M.iR) (p1:M.iR→Option Bool):Nat→Int→Option Int
 | 0,_=>none
 | nL1+1,v8=>if (decide (v8<(List.length p0:Int)))=true then ((idx p0 v8).bind fun x7=>((p1 x7).bind fun x12=>(if x12=true then (some v8) else (bW p0 p1 nL1 (i64.wrap (v8+1)))))) else (some (-1))
def hE (p0:List M.iR) (p1:M.iR→Option Bool):Option Int:=
 bW p0 p1 fuel 0
def bH (p1:M.iR→Option Bool):Nat→Int→Int→List M.iR→Option (List M.iR)
 | 0,_,_,_=>none
 | nL1+1,v5,v6,r59000=>if (decide (v6<(List.length r59000:Int)))=true then ((idx r59000 v6).bind fun x11=>((p1 x11).bind fun x16=>(if (!x16)=true then ((idx r59000 v5).bind fun x19=>(bH p1 nL1 (i64.wrap (v5+1)) (i64.wrap (v6+1)) (List.set r59000 v5.toNat x11))) else (bH p1 nL1 v5 (i64.wrap (v6+1)) r59000)))) else ((uY r59000 v5).bind fun x30=>(some (List.take v5.toNat r59000)))
def gL (p0:List M.iR) (p1:M.iR→Option Bool):Option (List M.iR):=
 (hE p0 p1).bind fun x1=>(if (x1==(-1))=true then (some p0) else (bH p1 fuel x1 (i64.wrap (x1+1)) p0))
def oJ (p0:M.Channel) (p1:Int):Option M.Channel:=
 (iS p0).bind fun x1=>((gL x1.Mails (fun z0=>iD z0 p1)).bind fun x3=>(some (⟨x3⟩:M.Channel)))
def oG (p0:M.World) (p1:Int):Option (M.World×Bool):=
 (kU p0).bind fun x1=>((kZ p0 p1).bind fun x3=>((nK p0).bind fun x5=>(if (!x5)=true then (some (x1,false)) else (if (decide (x3<0))=true then (some (x1,false)) else ((uK x1.Pages x3).bind fun x9=>((uY x1.Pages (i64.wrap (x3+1))).bind fun x11=>((app 144 (List.take x3.toNat x1.Pages) (List.drop (i64.wrap (x3+1)).toNat x1.Pages)).bind fun x13=>((lC x1.Locks p1).bind fun x27=>((oJ x1.Channel p1).bind fun x29=>(some ((⟨x1.Now,x1.Online,x1.Device,x1.aF,((List.take x3.toNat x1.Pages)++(List.drop (i64.wrap (x3+1)).toNat x1.Pages)),x1.NextPage,x27,x29,x1.Sites,x1.Servers⟩:M.World),true)))))))))))
def dA (p0:M.aD) (p1:ByteArray) (p2:Int):Nat→Int→Option Bool
 | 0,_=>none
 | nL1+1,v7=>if (decide (v7<(List.length p0.Locks:Int)))=true then ((idx p0.Locks v7).bind fun x8=>(if x8.Held=true then (if (x8.Name.toList==p1.toList)=true then (if (x8.dG==p2)=true then (some true) else (dA p0 p1 p2 nL1 (i64.wrap (v7+1)))) else (dA p0 p1 p2 nL1 (i64.wrap (v7+1)))) else (dA p0 p1 p2 nL1 (i64.wrap (v7+1))))) else (some false)
def fC (p0:M.aD) (p1:ByteArray) (p2:Int):Option Bool:=
 dA p0 p1 p2 fuel 0
def dO (p0:List Int):Option Bool:=
 (sR p0).bind fun x1=>(if x1=true then (some true) else ((pF 1).bind fun x4=>((iW x4 (⟨#[98,97,110,107]⟩:ByteArray) (⟨#[98,97,110,107]⟩:ByteArray) ([]:List M.Instr)).bind fun x6=>((iW x6.1 (⟨#[98,97,110,107]⟩:ByteArray) (⟨#[98,97,110,107]⟩:ByteArray) ([]:List M.Instr)).bind fun x19=>((kF p0 0).bind fun x33=>((idx ([(⟨#[110,101,119,115]⟩:ByteArray),(⟨#[98,97,110,107]⟩:ByteArray)]) (Int.tmod x33 2)).bind fun x35=>((iW x19.1 x35 (⟨#[115,104,111,112]⟩:ByteArray) ([]:List M.Instr)).bind fun x40=>((kF p0 1).bind fun x56=>((jC x40.1 x6.2.1 (⟨#[108,111,99,107]⟩:ByteArray) ((Int.tmod x56 2)==0)).bind fun x58=>((kF p0 2).bind fun x60=>((jC x58.1 x19.2.1 (⟨#[108,111,99,107]⟩:ByteArray) ((Int.tmod x60 2)==0)).bind fun x62=>((kF p0 3).bind fun x64=>((jC x62.1 x40.2.1 (⟨#[108,111,99,107]⟩:ByteArray) ((Int.tmod x64 2)==0)).bind fun x66=>((oG x66.1 x6.2.1).bind fun x68=>(if x40.2.2=true then (if x58.2=true then ((kF p0 1).bind fun x72=>(if ((Int.tmod x72 2)==0)=true then ((kF p0 2).bind fun x75=>(if (x62.2==((Int.tmod x75 2)==0))=true then (if x66.2=true then ((fC x68.1.Locks (⟨#[98,97,110,107,47,98,97,110,107,47,108,111,99,107]⟩:ByteArray) x19.2.1).bind fun x79=>(if x79=true then ((fC x68.1.Locks (⟨#[98,97,110,107,47,98,97,110,107,47,108,111,99,107]⟩:ByteArray) x6.2.1).bind fun x82=>(some (!x82))) else (some false))) else (some false)) else (some false))) else (if (x62.2==false)=true then (if x66.2=true then ((fC x68.1.Locks (⟨#[98,97,110,107,47,98,97,110,107,47,108,111,99,107]⟩:ByteArray) x19.2.1).bind fun x86=>(if x86=true then ((fC x68.1.Locks (⟨#[98,97,110,107,47,98,97,110,107,47,108,111,99,107]⟩:ByteArray) x6.2.1).bind fun x89=>(some (!x89))) else (some false))) else (some false)) else (some false)))) else (some false)) else (some false))))))))))))))))
end Go.Proofs.YtblghjofnielnaaGreat.gen
