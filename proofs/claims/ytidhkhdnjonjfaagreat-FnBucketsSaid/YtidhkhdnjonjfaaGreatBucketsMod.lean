/-
  Helper text. No conditions.
-/
import Derived.Test.YtidhkhdnjonjfaaGreatBucketsShT
set_option linter.unusedVariables false
set_option linter.unusedSimpArgs false
namespace Go.Proofs.YtidhkhdnjonjfaaGreat.gen
open Go Go.Sh
open Go.IntKind (i64)
structure M.aK where
 b:List Int
 i:Int
 h:Int
def M.aK.en (x:M.aK):List D:=[.sl (List.map enB x.b),.int .i64 x.i,.int .i64 x.h]
structure M.Key where
 Kind:Int
 N:Int
 Text:ByteArray
def M.Key.en (x:M.Key):List D:=[.int .i64 x.Kind,.int .i64 x.N,.str x.Text]
theorem M.Key.en.fl (l:List M.Key):(List.map M.Key.en l).all (fun y=>y.all D.flat)=true:=aDa (fun _=>rfl) l
structure M.aT where
 Device:Int
 Seq:Int
 Key:M.Key
 Field:ByteArray
 N:Int
def M.aT.en (x:M.aT):List D:=[.int .i64 x.Device,.int .i64 x.Seq,.int .i64 x.Key.Kind,.int .i64 x.Key.N,.str x.Key.Text,.str x.Field,.int .i64 x.N]
theorem M.aT.en.fl (l:List M.aT):(List.map M.aT.en l).all (fun y=>y.all D.flat)=true:=aDa (fun _=>rfl) l
structure M.aG where
 Device:Int
 Next:Int
 Writes:List M.aT
def M.aG.en (x:M.aG):List D:=[.int .i64 x.Device,.int .i64 x.Next,.sl (List.map M.aT.en x.Writes)]
structure M.Registration where
 Site:ByteArray
 Installing:Int
 Waiting:Int
 Active:Int
def M.Registration.en (x:M.Registration):List D:=[.str x.Site,.int .i64 x.Installing,.int .i64 x.Waiting,.int .i64 x.Active]
theorem M.Registration.en.fl (l:List M.Registration):(List.map M.Registration.en l).all (fun y=>y.all D.flat)=true:=aDa (fun _=>rfl) l
structure M.Response where
 Type_:Int
 Status:Int
 Version:Int
 Body:List Int
 Shares:Bool
def M.Response.en (x:M.Response):List D:=[.int .i64 x.Type_,.int .i64 x.Status,.int .i64 x.Version,.sl (List.map enB x.Body),.bool x.Shares]
structure M.Cached where
 Site:ByteArray
 Path:ByteArray
 Response:M.Response
def M.Cached.en (x:M.Cached):List D:=[.str x.Site,.str x.Path,.int .i64 x.Response.Type_,.int .i64 x.Response.Status,.int .i64 x.Response.Version,.sl (List.map enB x.Response.Body),.bool x.Response.Shares]
structure M.Cache where
 Version:Int
 Entries:List M.Cached
def M.Cache.en (x:M.Cache):List D:=[.int .i64 x.Version,.sl (List.map M.Cached.en x.Entries)]
structure M.aE where
 Caches:List M.Cache
def M.aE.en (x:M.aE):List D:=[.sl (List.map M.Cache.en x.Caches)]
structure M.Field where
 Name:ByteArray
 N:Int
def M.Field.en (x:M.Field):List D:=[.str x.Name,.int .i64 x.N]
theorem M.Field.en.fl (l:List M.Field):(List.map M.Field.en l).all (fun y=>y.all D.flat)=true:=aDa (fun _=>rfl) l
structure M.aC where
 Fields:List M.Field
def M.aC.en (x:M.aC):List D:=[.sl (List.map M.Field.en x.Fields)]
structure M.Item where
 Key:M.Key
 aC:M.aC
def M.Item.en (x:M.Item):List D:=[.int .i64 x.Key.Kind,.int .i64 x.Key.N,.str x.Key.Text,.sl (List.map M.Field.en x.aC.Fields)]
structure M.aA where
 Name:ByteArray
 Items:List M.Item
 Auto:Int
def M.aA.en (x:M.aA):List D:=[.str x.Name,.sl (List.map M.Item.en x.Items),.int .i64 x.Auto]
structure M.aH where
 aA:ByteArray
 Field:ByteArray
def M.aH.en (x:M.aH):List D:=[.str x.aA,.str x.Field]
theorem M.aH.en.fl (l:List M.aH):(List.map M.aH.en l).all (fun y=>y.all D.flat)=true:=aDa (fun _=>rfl) l
structure M.Database where
 Name:ByteArray
 Version:Int
 Stores:List M.aA
 Unique:List M.aH
def M.Database.en (x:M.Database):List D:=[.str x.Name,.int .i64 x.Version,.sl (List.map M.aA.en x.Stores),.sl (List.map M.aH.en x.Unique)]
structure M.Sync where
 aG:M.aG
 Tries:Int
 WaitUntil:Int
def M.Sync.en (x:M.Sync):List D:=[.int .i64 x.aG.Device,.int .i64 x.aG.Next,.sl (List.map M.aT.en x.aG.Writes),.int .i64 x.Tries,.int .i64 x.WaitUntil]
structure M.aD where
 Base:M.aA
 Seen:Int
 Sync:M.Sync
def M.aD.en (x:M.aD):List D:=[.str x.Base.Name,.sl (List.map M.Item.en x.Base.Items),.int .i64 x.Base.Auto,.int .i64 x.Seen,.int .i64 x.Sync.aG.Device,.int .i64 x.Sync.aG.Next,.sl (List.map M.aT.en x.Sync.aG.Writes),.int .i64 x.Sync.Tries,.int .i64 x.Sync.WaitUntil]
structure M.bF where
 Base:M.Database
 Log:List Int
 Count:Int
def M.bF.en (x:M.bF):List D:=[.str x.Base.Name,.int .i64 x.Base.Version,.sl (List.map M.aA.en x.Base.Stores),.sl (List.map M.aH.en x.Base.Unique),.sl (List.map enB x.Log),.int .i64 x.Count]
structure M.Bucket where
 Site:ByteArray
 Top:ByteArray
 Registration:M.Registration
 Caches:M.aE
 bF:M.bF
 aD:M.aD
 LastUsed:Int
 Persistent:Bool
def M.Bucket.en (x:M.Bucket):List D:=[.str x.Site,.str x.Top,.str x.Registration.Site,.int .i64 x.Registration.Installing,.int .i64 x.Registration.Waiting,.int .i64 x.Registration.Active,.sl (List.map M.Cache.en x.Caches.Caches),.str x.bF.Base.Name,.int .i64 x.bF.Base.Version,.sl (List.map M.aA.en x.bF.Base.Stores),.sl (List.map M.aH.en x.bF.Base.Unique),.sl (List.map enB x.bF.Log),.int .i64 x.bF.Count,.str x.aD.Base.Name,.sl (List.map M.Item.en x.aD.Base.Items),.int .i64 x.aD.Base.Auto,.int .i64 x.aD.Seen,.int .i64 x.aD.Sync.aG.Device,.int .i64 x.aD.Sync.aG.Next,.sl (List.map M.aT.en x.aD.Sync.aG.Writes),.int .i64 x.aD.Sync.Tries,.int .i64 x.aD.Sync.WaitUntil,.int .i64 x.LastUsed,.bool x.Persistent]
structure M.Op where
 Kind:Int
 aA:ByteArray
 Key:M.Key
 aC:M.aC
 Field:ByteArray
def M.Op.en (x:M.Op):List D:=[.int .i64 x.Kind,.str x.aA,.int .i64 x.Key.Kind,.int .i64 x.Key.N,.str x.Key.Text,.sl (List.map M.Field.en x.aC.Fields),.str x.Field]
structure M.eG where
 HasLow:Bool
 HasHigh:Bool
 Low:M.Key
 High:M.Key
def M.eG.en (x:M.eG):List D:=[.bool x.HasLow,.bool x.HasHigh,.int .i64 x.Low.Kind,.int .i64 x.Low.N,.str x.Low.Text,.int .i64 x.High.Kind,.int .i64 x.High.N,.str x.High.Text]
theorem M.eG.en.fl (l:List M.eG):(List.map M.eG.en l).all (fun y=>y.all D.flat)=true:=aDa (fun _=>rfl) l
structure M.gK where
 Kind:Int
 aA:ByteArray
 Field:ByteArray
def M.gK.en (x:M.gK):List D:=[.int .i64 x.Kind,.str x.aA,.str x.Field]
theorem M.gK.en.fl (l:List M.gK):(List.map M.gK.en l).all (fun y=>y.all D.flat)=true:=aDa (fun _=>rfl) l
structure M.aP where
 Device:Int
 Seq:Int
def M.aP.en (x:M.aP):List D:=[.int .i64 x.Device,.int .i64 x.Seq]
theorem M.aP.en.fl (l:List M.aP):(List.map M.aP.en l).all (fun y=>y.all D.flat)=true:=aDa (fun _=>rfl) l
structure M.Server where
 aA:M.aA
 aP:List M.aP
 Changes:List M.aT
def M.Server.en (x:M.Server):List D:=[.str x.aA.Name,.sl (List.map M.Item.en x.aA.Items),.int .i64 x.aA.Auto,.sl (List.map M.aP.en x.aP),.sl (List.map M.aT.en x.Changes)]
def aA7 (p0:List Int):Option Bool:=
 some (decide ((List.length p0:Int)>1048576))
set_option maxRecDepth 40000 in
def iR (p0:List Int):Nat→Int→Int→Option M.aK
 | 0,_,_=>none
 | nL1+1,v3,v4=>if (decide (v4<(List.length p0:Int)))=true then (if (decide (v4<4000))=true then ((idx p0 v4).bind fun x7=>(iR p0 nL1 (i64.wrap (BitVec.ofInt (IntKind.i64.bits) (i64.wrap ((i64.wrap ((i64.wrap (v3*137))+(i64.wrap x7)))+11))&&&BitVec.ofInt (IntKind.i64.bits) 1073741823).toNat) (i64.wrap (v4+1)))) else (some (⟨p0,0,v3⟩:M.aK))) else (some (⟨p0,0,v3⟩:M.aK))
set_option maxRecDepth 40000 in
theorem aIz:type_of% @iR.eq_2:=@iR.eq_2
def tQ (p0:List Int):Option M.aK:=
 iR p0 fuel (i64.wrap (193017+(List.length p0:Int))) 0
def lO (p0:M.aK):Option (Int×Int×Int):=
 if (decide (p0.i<(List.length p0.b:Int)))=true then ((idx p0.b p0.i).bind fun x5=>(some ((i64.wrap (p0.i+1)),(i64.wrap ((i64.wrap (p0.h*6364136223846793005))+1442695040888963407)),(i64.wrap (BitVec.ofInt (IntKind.i64.bits) (i64.wrap ((i64.wrap (BitVec.ofInt (IntKind.i64.bits) (i64.wrap (BitVec.ofInt (IntKind.i64.bits) (Int.fdiv (i64.wrap ((i64.wrap (p0.h*6364136223846793005))+1442695040888963407)) (2^(min (33:Int).toNat IntKind.i64.bits))) ^^^ BitVec.ofInt (IntKind.i64.bits) (Int.fdiv (i64.wrap ((i64.wrap (p0.h*6364136223846793005))+1442695040888963407)) (2^(min (47:Int).toNat IntKind.i64.bits)))).toNat)&&&BitVec.ofInt (IntKind.i64.bits) 255).toNat)+(i64.wrap x5)))&&&BitVec.ofInt (IntKind.i64.bits) 255).toNat)))) else (some (p0.i,(i64.wrap ((i64.wrap (p0.h*6364136223846793005))+1442695040888963407)),(i64.wrap (BitVec.ofInt (IntKind.i64.bits) (i64.wrap (BitVec.ofInt (IntKind.i64.bits) (Int.fdiv (i64.wrap ((i64.wrap (p0.h*6364136223846793005))+1442695040888963407)) (2^(min (33:Int).toNat IntKind.i64.bits))) ^^^ BitVec.ofInt (IntKind.i64.bits) (Int.fdiv (i64.wrap ((i64.wrap (p0.h*6364136223846793005))+1442695040888963407)) (2^(min (47:Int).toNat IntKind.i64.bits)))).toNat)&&&BitVec.ofInt (IntKind.i64.bits) 255).toNat)))
def aJ (p0:M.aK) (p1:Int):Option (Int×Int×Int):=
 if (decide (p1≤0))=true then (some (p0.i,p0.h,0)) else (if (decide (p1≤256))=true then ((lO p0).bind fun x7=>(if (decide (p1=0))=true then none else (some (x7.1,x7.2.1,(Int.tmod x7.2.2 p1))))) else ((lO p0).bind fun x10=>((lO (⟨p0.b,x10.1,x10.2.1⟩:M.aK)).bind fun x17=>((lO (⟨p0.b,x17.1,x17.2.1⟩:M.aK)).bind fun x25=>(if (decide (p1=0))=true then none else (some (x25.1,x25.2.1,(Int.tmod (i64.wrap ((i64.wrap ((i64.wrap (x10.2.2*65536))+(i64.wrap (x17.2.2*256))))+x25.2.2)) p1))))))))
def fT (p0:M.aK) (p1:List ByteArray):Option (Int×Int×ByteArray):=
 (aJ p0 (List.length p1:Int)).bind fun x5=>((idx p1 x5.2.2).bind fun x7=>(some (x5.1,x5.2.1,x7)))
def kA (p0:M.aK):Option (Int×Int×ByteArray):=
 (fT p0 ([(⟨#[98,97,110,107]⟩:ByteArray),(⟨#[115,104,111,112]⟩:ByteArray),(⟨#[110,101,119,115]⟩:ByteArray)])).bind fun x4=>(some (x4.1,x4.2.1,x4.2.2))
def bS (p0:M.aK) (p1:Int):Option (Int×Int×Bool):=
 (aJ p0 p1).bind fun x5=>(some (x5.1,x5.2.1,(x5.2.2==0)))
def bB (p0:Int) (p1:Int) (p2:Int):Option Bool:=
 if (decide (p0≥p1))=true then (some (decide (p0≤p2))) else (some false)
def eY (p0:ByteArray):Nat→Int→Option Bool
 | 0,_=>none
 | nL1+1,v3=>if (decide (v3<(p0.size:Int)))=true then ((aNn p0 v3).bind fun x5=>(if (decide ((x5.toNat:Int)<97))=true then (if (decide ((x5.toNat:Int)<48))=true then (some false) else (if (decide ((x5.toNat:Int)>57))=true then (some false) else (eY p0 nL1 (i64.wrap (v3+1))))) else (if (decide ((x5.toNat:Int)>122))=true then (if (decide ((x5.toNat:Int)<48))=true then (some false) else (if (decide ((x5.toNat:Int)>57))=true then (some false) else (eY p0 nL1 (i64.wrap (v3+1))))) else (eY p0 nL1 (i64.wrap (v3+1)))))) else (some (decide ((p0.size:Int)≤12)))
def rZ (p0:ByteArray):Option Bool:=
 eY p0 fuel 0
def dU (p0:M.Key):Option Bool:=
 (bB p0.Kind 1 3).bind fun x1=>(if x1=true then ((bB p0.N (-1000000000000) 1000000000000).bind fun x4=>(if x4=true then (if (p0.Kind != 2)=true then ((rZ p0.Text).bind fun x8=>(if x8=true then (if (p0.Kind != 1)=true then (some true) else (some (p0.Text.toList==(⟨#[]⟩:ByteArray).toList))) else (some false))) else (if (p0.N==0)=true then ((rZ p0.Text).bind fun x13=>(if x13=true then (if (p0.Kind != 1)=true then (some true) else (some (p0.Text.toList==(⟨#[]⟩:ByteArray).toList))) else (some false))) else (some false))) else (some false))) else (some false))
def jB (p0:ByteArray):Nat→Int→Option Bool
 | 0,_=>none
 | nL1+1,v3=>if (decide (v3<(p0.size:Int)))=true then ((aNn p0 v3).bind fun x5=>(if (decide ((x5.toNat:Int)<97))=true then (some false) else (if (decide ((x5.toNat:Int)>122))=true then (some false) else (jB p0 nL1 (i64.wrap (v3+1)))))) else ((bB (p0.size:Int) 1 8).bind fun x11=>(some x11))
def cX (p0:ByteArray):Option Bool:=
 jB p0 fuel 0
def fP (p0:M.aT):Option Bool:=
 (bB p0.Device 1 1000000).bind fun x1=>(if x1=true then ((bB p0.Seq 1 1000000).bind fun x4=>(if x4=true then ((dU p0.Key).bind fun x7=>(if x7=true then ((cX p0.Field).bind fun x10=>(if x10=true then ((bB p0.N 0 1000000000).bind fun x13=>(some x13)) else (some false))) else (some false))) else (some false))) else (some false))
def iJ (p0:M.aG):Nat→Int→Option Bool
 | 0,_=>none
 | nL1+1,v4=>if (decide (v4<(List.length p0.Writes:Int)))=true then ((idx p0.Writes v4).bind fun x14=>((fP x14).bind fun x19=>(if (!x19)=true then (some false) else (if (x14.Device != p0.Device)=true then (some false) else (if (x14.Seq != (i64.wrap ((i64.wrap (p0.Next-(List.length p0.Writes:Int)))+v4)))=true then (some false) else (iJ p0 nL1 (i64.wrap (v4+1)))))))) else (some true)
def eW (p0:M.aG):Option Bool:=
 (bB p0.Device 1 1000000).bind fun x1=>(if (!x1)=true then (some false) else ((bB p0.Next 1 1000000).bind fun x4=>(if (!x4)=true then (some false) else (if (decide ((List.length p0.Writes:Int)>20))=true then (some false) else (iJ p0 fuel 0)))))
def iX (p0:Int):Option (M.aG×Bool):=
 (eW (⟨p0,1,([]:List M.aT)⟩:M.aG)).bind fun x1=>(if (!x1)=true then (some ((⟨0,0,([]:List M.aT)⟩:M.aG),false)) else (some ((⟨p0,1,([]:List M.aT)⟩:M.aG),true)))
def bM (p0:M.Registration):Nat→Int→Int→Option Bool
 | 0,_,_=>none
 | nL1+1,v3,v5=>if (decide (v5<((3:Nat):Int)))=true then ((idx ([p0.Active,p0.Waiting,p0.Installing]) v5).bind fun x15=>((bB x15 0 1000000000000).bind fun x20=>(if (!x20)=true then (some false) else (if (x15 != 0)=true then (if (decide (x15≤v3))=true then (some false) else (bM p0 nL1 x15 (i64.wrap (v5+1)))) else (bM p0 nL1 v3 (i64.wrap (v5+1))))))) else ((cX p0.Site).bind fun x25=>(some x25))
def hU (p0:M.Registration):Option Bool:=
 bM p0 fuel 0 0
def oR (p0:M.Response):Option Bool:=
 (bB p0.Type_ 1 4).bind fun x1=>(if x1=true then ((bB p0.Status 0 999).bind fun x4=>(if x4=true then ((bB p0.Version 0 1000000000000).bind fun x7=>(if x7=true then (some (decide ((List.length p0.Body:Int)≤60))) else (some false))) else (some false))) else (some false))
def eJ (p0:List M.Cached) (v3:Int) (x5:M.Cached) (k20:Int→Option Bool):Nat→Int→Option Bool
 | 0,_=>none
 | nL2+1,v4_L2=>if (decide (v4_L2<v3))=true then ((idx p0 v4_L2).bind fun x26=>(if (x26.Site.toList==x5.Site.toList)=true then (if (x26.Path.toList==x5.Path.toList)=true then (some false) else (eJ p0 v3 x5 k20 nL2 (i64.wrap (v4_L2+1)))) else (eJ p0 v3 x5 k20 nL2 (i64.wrap (v4_L2+1))))) else (k20 v4_L2)
def dH (p0:List M.Cached):Nat→Int→Option Bool
 | 0,_=>none
 | nL1+1,v3=>if (decide (v3<(List.length p0:Int)))=true then ((idx p0 v3).bind fun x5=>((cX x5.Site).bind fun x10=>(if (!x10)=true then (some false) else ((cX x5.Path).bind fun x13=>(if (!x13)=true then (some false) else ((oR x5.Response).bind fun x16=>(if (!x16)=true then (some false) else (eJ p0 v3 x5 (fun (v4_L2:Int)=>dH p0 nL1 (i64.wrap (v3+1))) fuel 0)))))))) else (some (decide ((List.length p0:Int)≤12)))
def lU (p0:List M.Cached):Option Bool:=
 dH p0 fuel 0
def dF (p0:M.aE):Nat→Int→Option Bool
 | 0,_=>none
 | nL1+1,v3=>if (decide (v3<(List.length p0.Caches:Int)))=true then ((idx p0.Caches v3).bind fun x6=>((bB x6.Version 1 1000000000000).bind fun x11=>(if (!x11)=true then (some false) else (if (decide (v3>0))=true then ((idx p0.Caches (i64.wrap (v3-1))).bind fun x15=>(if (decide (x15.Version≥x6.Version))=true then (some false) else ((lU x6.Entries).bind fun x21=>(if (!x21)=true then (some false) else (dF p0 nL1 (i64.wrap (v3+1))))))) else ((lU x6.Entries).bind fun x24=>(if (!x24)=true then (some false) else (dF p0 nL1 (i64.wrap (v3+1))))))))) else (some (decide ((List.length p0.Caches:Int)≤4)))
def bR (p0:M.aE):Option Bool:=
 dF p0 fuel 0
def eP (p0:M.aC):Nat→Int→Option Bool
 | 0,_=>none
 | nL1+1,v3=>if (decide (v3<(List.length p0.Fields:Int)))=true then ((idx p0.Fields v3).bind fun x6=>((cX x6.Name).bind fun x11=>(if (!x11)=true then (some false) else ((bB x6.N 0 1000000000).bind fun x14=>(if (!x14)=true then (some false) else (if (decide (v3>0))=true then ((idx p0.Fields (i64.wrap (v3-1))).bind fun x18=>(if (!(Op.bytesLess x18.Name.toList x6.Name.toList))=true then (some false) else (eP p0 nL1 (i64.wrap (v3+1))))) else (eP p0 nL1 (i64.wrap (v3+1))))))))) else (some (decide ((List.length p0.Fields:Int)≤6)))
def aY (p0:M.aC):Option Bool:=
 eP p0 fuel 0
def sA (p0:Bool) (p1:Bool):Option Int:=
 if p0=true then (some (-1)) else (if p1=true then (some 1) else (some 0))
def aV (p0:M.Key) (p1:M.Key):Option Int:=
 (dU p0).bind fun x1=>(if (!x1)=true then (some 0) else ((dU p1).bind fun x4=>(if (!x4)=true then (some 0) else (if (p0.Kind != p1.Kind)=true then ((sA (decide (p0.Kind<p1.Kind)) true).bind fun x8=>(some x8)) else (if (p0.N != p1.N)=true then ((sA (decide (p0.N<p1.N)) true).bind fun x11=>(some x11)) else ((sA (Op.bytesLess p0.Text.toList p1.Text.toList) (!(Op.bytesLess p0.Text.toList p1.Text.toList||p0.Text.toList==p1.Text.toList))).bind fun x13=>(some x13)))))))
def fG (p0:M.aA):Nat→Int→Option Bool
 | 0,_=>none
 | nL1+1,v3=>if (decide (v3<(List.length p0.Items:Int)))=true then ((idx p0.Items v3).bind fun x6=>((dU x6.Key).bind fun x11=>(if (!x11)=true then (some false) else ((aY x6.aC).bind fun x14=>(if (!x14)=true then (some false) else (if (decide (v3>0))=true then ((idx p0.Items (i64.wrap (v3-1))).bind fun x18=>((aV x18.Key x6.Key).bind fun x23=>(if (decide (x23≥0))=true then (some false) else (fG p0 nL1 (i64.wrap (v3+1)))))) else (fG p0 nL1 (i64.wrap (v3+1))))))))) else ((cX p0.Name).bind fun x26=>(if x26=true then (if (decide ((List.length p0.Items:Int)≤16))=true then ((bB p0.Auto 0 1000000).bind fun x30=>(some x30)) else (some false)) else (some false)))
def iF (p0:M.aA):Option Bool:=
 fG p0 fuel 0
def gV (p0:M.Database) (p1:ByteArray):Nat→Int→Option Int
 | 0,_=>none
 | nL1+1,v5=>if (decide (v5<(List.length p0.Stores:Int)))=true then ((idx p0.Stores v5).bind fun x7=>(if (x7.Name.toList==p1.toList)=true then (some v5) else (gV p0 p1 nL1 (i64.wrap (v5+1))))) else (some (-1))
def kV (p0:M.Database) (p1:ByteArray):Option Int:=
 gV p0 p1 fuel 0
def kM (p0:M.aC) (p1:ByteArray):Nat→Int→Option (Int×Bool)
 | 0,_=>none
 | nL1+1,v6=>if (decide (v6<(List.length p0.Fields:Int)))=true then ((idx p0.Fields v6).bind fun x7=>(if (x7.Name.toList==p1.toList)=true then (some (x7.N,true)) else (kM p0 p1 nL1 (i64.wrap (v6+1))))) else (some (0,false))
def gA (p0:M.aC) (p1:ByteArray):Option (Int×Bool):=
 kM p0 p1 fuel 0
def uN (p0:M.Item) (p1:M.Item) (p2:ByteArray):Option Bool:=
 (gA p0.aC p2).bind fun x1=>((gA p1.aC p2).bind fun x3=>(if (decide (x1.1<x3.1))=true then (some true) else (if (x1.1==x3.1)=true then ((aV p0.Key p1.Key).bind fun x7=>(some (decide (x7<0)))) else (some false))))
def bN (p0:M.aC):Option M.aC:=
 (app 24 ([]:List M.Field) p0.Fields).bind fun x1=>(some p0)
def pC (p0:M.Item):Option M.Item:=
 (bN p0.aC).bind fun x1=>(some (⟨p0.Key,x1⟩:M.Item))
def jK (p1:ByteArray) (r50000:List M.Item) (x15:M.Item) (k24:Int→Option (List M.Item)):Nat→Int→Option (List M.Item)
 | 0,_=>none
 | nL2+1,v9_L2=>if (decide (v9_L2>0))=true then ((idx r50000 (i64.wrap (v9_L2-1))).bind fun x34=>((uN x15 x34 p1).bind fun x39=>(if x39=true then (jK p1 r50000 x15 k24 nL2 (i64.wrap (v9_L2-1))) else (k24 v9_L2)))) else (k24 v9_L2)
def gY (p0:M.aA) (p1:ByteArray):Nat→Int→List M.Item→Option (List M.Item)
 | 0,_,_=>none
 | nL1+1,v6,r50000=>if (decide (v6<(List.length p0.Items:Int)))=true then ((idx p0.Items v6).bind fun x15=>((gA x15.aC p1).bind fun x20=>(if (!x20.2)=true then (gY p0 p1 nL1 (i64.wrap (v6+1)) r50000) else (jK p1 r50000 x15 (fun (v9_L2:Int)=>(xA r50000 v9_L2).bind fun x79=>((app 56 ([]:List M.Item) (List.take v9_L2.toNat r50000)).bind fun x81=>((pC x15).bind fun x93=>((app 56 (List.take v9_L2.toNat r50000) ([x93])).bind fun x95=>((app 56 ((List.take v9_L2.toNat r50000)++[x93]) (List.drop v9_L2.toNat r50000)).bind fun x107=>(gY p0 p1 nL1 (i64.wrap (v6+1)) (((List.take v9_L2.toNat r50000)++[x93])++(List.drop v9_L2.toNat r50000)))))))) fuel (List.length r50000:Int))))) else (some r50000)
def tB (p0:M.aA) (p1:ByteArray):Option (List M.Item):=
 gY p0 p1 fuel 0 ([]:List M.Item)
def hP (p1:ByteArray) (x1:(List M.Item)):Nat→Int→Option (M.Key×M.Key×Bool)
 | 0,_=>none
 | nL1+1,v8=>if (decide (v8<(List.length x1:Int)))=true then ((idx x1 (i64.wrap (v8-1))).bind fun x13=>((gA x13.aC p1).bind fun x18=>((idx x1 v8).bind fun x20=>((gA x20.aC p1).bind fun x25=>(if (x18.1==x25.1)=true then (some (x13.Key,x20.Key,true)) else (hP p1 x1 nL1 (i64.wrap (v8+1)))))))) else (some ((⟨0,0,(⟨#[]⟩:ByteArray)⟩:M.Key),(⟨0,0,(⟨#[]⟩:ByteArray)⟩:M.Key),false))
def nA (p0:M.aA) (p1:ByteArray):Option (M.Key×M.Key×Bool):=
 (tB p0 p1).bind fun x1=>(hP p1 x1 fuel 1)
def eI (p0:M.Database) (v4:Int) (x26:M.aH) (k46:Int→Option Bool):Nat→Int→Option Bool
 | 0,_=>none
 | nL3+1,v9_L3=>if (decide (v9_L3<v4))=true then ((idx p0.Unique v9_L3).bind fun x53=>(if ((x53.aA.toList==x26.aA.toList)&&(x53.Field.toList==x26.Field.toList))=true then (some false) else (eI p0 v4 x26 k46 nL3 (i64.wrap (v9_L3+1))))) else (k46 v9_L3)
def dK (p0:M.Database):Nat→Int→Option Bool
 | 0,_=>none
 | nL2+1,v4=>if (decide (v4<(List.length p0.Unique:Int)))=true then ((idx p0.Unique v4).bind fun x26=>((kV p0 x26.aA).bind fun x31=>(if (decide (x31<0))=true then (some false) else ((cX x26.Field).bind fun x34=>(if (!x34)=true then (some false) else ((idx p0.Stores x31).bind fun x37=>((nA x37 x26.Field).bind fun x42=>(if x42.2.2=true then (some false) else (eI p0 v4 x26 (fun (v9_L3:Int)=>dK p0 nL2 (i64.wrap (v4+1))) fuel 0))))))))) else ((cX p0.Name).bind fun x59=>(if x59=true then ((bB p0.Version 0 1000).bind fun x62=>(if x62=true then (if (decide ((List.length p0.Stores:Int)≤4))=true then (some (decide ((List.length p0.Unique:Int)≤4))) else (some false)) else (some false))) else (some false)))
def dJ (p0:M.Database):Nat→Int→Option Bool
 | 0,_=>none
 | nL1+1,v3=>if (decide (v3<(List.length p0.Stores:Int)))=true then ((idx p0.Stores v3).bind fun x6=>((iF x6).bind fun x11=>(if (!x11)=true then (some false) else (if (decide (v3>0))=true then ((idx p0.Stores (i64.wrap (v3-1))).bind fun x15=>(if (!(Op.bytesLess x15.Name.toList x6.Name.toList))=true then (some false) else (dJ p0 nL1 (i64.wrap (v3+1))))) else (dJ p0 nL1 (i64.wrap (v3+1))))))) else (dK p0 fuel 0)
def bJ (p0:M.Database):Option Bool:=
 dJ p0 fuel 0
def iW (p0:M.aD):Option Bool:=
 (iF p0.Base).bind fun x1=>(if x1=true then (if (p0.Base.Name.toList==(⟨#[110,111,116,101,115]⟩:ByteArray).toList)=true then ((bB p0.Seen 0 1000000000000).bind fun x5=>(if x5=true then ((eW p0.Sync.aG).bind fun x8=>(some x8)) else (some false))) else (some false)) else (some false))
def oM (p0:M.Response) (p1:Bool):Option Int:=
 if p1=true then (some 76) else (some (i64.wrap (16+(List.length p0.Body:Int))))
def fO (p0:M.aE) (v4:Int) (k8:Int→Int→Option Int):Nat→Int→Int→Option Int
 | 0,_,_=>none
 | nL2+1,v3_L2,v5_L2=>(idx p0.Caches v4).bind fun x15=>(if (decide (v5_L2<(List.length x15.Entries:Int)))=true then ((idx x15.Entries v5_L2).bind fun x21=>((oM x21.Response (x21.Response.Type_==3)).bind fun x26=>(fO p0 v4 k8 nL2 (i64.wrap (v3_L2+x26)) (i64.wrap (v5_L2+1))))) else (k8 v3_L2 v5_L2))
def dD (p0:M.aE):Nat→Int→Int→Option Int
 | 0,_,_=>none
 | nL1+1,v3,v4=>if (decide (v4<(List.length p0.Caches:Int)))=true then (fO p0 v4 (fun (v3_L2:Int) (v5_L2:Int)=>dD p0 nL1 v3_L2 (i64.wrap (v4+1))) fuel v3 0) else (some v3)
def oF (p0:M.aE):Option Int:=
 dD p0 fuel 0 0
def aU (p0:M.Key):Nat→Int→List Int→Option (List Int)
 | 0,_,_=>none
 | nL1+1,v4,r12=>if (decide (v4≥0))=true then (if (p0.Kind != 2)=true then (if (decide (0≤(i64.wrap (8*v4))))=true then ((app 1 r12 ([(IntKind.u8.wrap (i64.wrap (BitVec.ofInt (IntKind.i64.bits) (Int.fdiv (i64.wrap (p0.N+1000000000000)) (2^(min (i64.wrap (8*v4)).toNat IntKind.i64.bits)))&&&BitVec.ofInt (IntKind.i64.bits) 255).toNat))])).bind fun x18=>(aU p0 nL1 (i64.wrap (v4-1)) (r12++[(IntKind.u8.wrap (i64.wrap (BitVec.ofInt (IntKind.i64.bits) (Int.fdiv (i64.wrap (p0.N+1000000000000)) (2^(min (i64.wrap (8*v4)).toNat IntKind.i64.bits)))&&&BitVec.ofInt (IntKind.i64.bits) 255).toNat))]))) else none) else ((app 1 r12 (cH p0.Text)).bind fun x26=>(some (r12++(cH p0.Text))))) else ((app 1 r12 (cH p0.Text)).bind fun x28=>(some (r12++(cH p0.Text))))
def gF (p0:M.Key):Option (List Int):=
 (dU p0).bind fun x1=>(if (!x1)=true then (some ([]:List Int)) else (aU p0 fuel 5 ([(IntKind.u8.wrap p0.Kind)])))
def bT  : Nat→Int→List Int→Option (List Int)
 | 0,_,_=>none
 | nL1+1,v1,r6=>if (decide (v1>127))=true then ((app 1 r6 ([(IntKind.u8.wrap (i64.wrap (BitVec.ofInt (IntKind.i64.bits) (i64.wrap (BitVec.ofInt (IntKind.i64.bits) v1&&&BitVec.ofInt (IntKind.i64.bits) 127).toNat)|||BitVec.ofInt (IntKind.i64.bits) 128).toNat))])).bind fun x15=>(bT nL1 (Int.fdiv v1 (2^(min (7:Int).toNat IntKind.i64.bits))) (r6++[(IntKind.u8.wrap (i64.wrap (BitVec.ofInt (IntKind.i64.bits) (i64.wrap (BitVec.ofInt (IntKind.i64.bits) v1&&&BitVec.ofInt (IntKind.i64.bits) 127).toNat)|||BitVec.ofInt (IntKind.i64.bits) 128).toNat))]))) else ((app 1 r6 ([(IntKind.u8.wrap v1)])).bind fun x21=>(some (r6++[(IntKind.u8.wrap v1)])))
def bD (p0:List Int) (p1:Int):Option (List Int):=
 (app 1 ([]:List Int) p0).bind fun x1=>((bB p1 0 1000000000000).bind fun x7=>(if (!x7)=true then (some p0) else (bT fuel p1 p0)))
def bC (p0:List Int) (p1:List Int):Option (List Int):=
 (bD p0 (List.length p1:Int)).bind fun x1=>((app 1 x1 p1).bind fun x3=>(some (x1++p1)))
def bW (p0:M.aC):Nat→Int→List Int→Option (List Int)
 | 0,_,_=>none
 | nL1+1,v4,r50000=>if (decide (v4<(List.length p0.Fields:Int)))=true then ((idx p0.Fields v4).bind fun x18=>((bC r50000 (cH x18.Name)).bind fun x23=>((bD x23 x18.N).bind fun x25=>(bW p0 nL1 (i64.wrap (v4+1)) x25)))) else (some r50000)
def eB (p0:M.aC):Option (List Int):=
 (aY p0).bind fun x1=>(if (!x1)=true then (some ([]:List Int)) else ((bD ([]:List Int) (List.length p0.Fields:Int)).bind fun x4=>(bW p0 fuel 0 x4)))
def gP (p0:M.aA):Nat→Int→Int→Option Int
 | 0,_,_=>none
 | nL1+1,v3,v4=>if (decide (v4<(List.length p0.Items:Int)))=true then ((idx p0.Items v4).bind fun x7=>((gF x7.Key).bind fun x12=>((eB x7.aC).bind fun x14=>(gP p0 nL1 (i64.wrap ((i64.wrap (v3+(List.length x12:Int)))+(List.length x14:Int))) (i64.wrap (v4+1)))))) else (some v3)
def mX (p0:M.aA):Option Int:=
 gP p0 fuel 0 0
def eN (p0:M.Database):Nat→Int→Int→Option Int
 | 0,_,_=>none
 | nL1+1,v3,v4=>if (decide (v4<(List.length p0.Stores:Int)))=true then ((idx p0.Stores v4).bind fun x7=>((mX x7).bind fun x12=>(eN p0 nL1 (i64.wrap (v3+x12)) (i64.wrap (v4+1))))) else (some v3)
def mJ (p0:M.Database):Option Int:=
 eN p0 fuel 0 0
def uL (p0:M.bF):Option Int:=
 (mJ p0.Base).bind fun x1=>(some (i64.wrap (x1+(List.length p0.Log:Int))))
def tD (p0:M.Bucket):Option Int:=
 (oF p0.Caches).bind fun x1=>((uL p0.bF).bind fun x3=>((mX p0.aD.Base).bind fun x5=>(some (i64.wrap ((i64.wrap ((i64.wrap (x1+x3))+x5))+(i64.wrap (40*(List.length p0.aD.Sync.aG.Writes:Int))))))))
def iQ (p0:M.Bucket):Option Bool:=
 (cX p0.Site).bind fun x1=>(if x1=true then ((cX p0.Top).bind fun x4=>(if x4=true then ((hU p0.Registration).bind fun x7=>(if x7=true then (if (p0.Registration.Site.toList==p0.Site.toList)=true then ((bR p0.Caches).bind fun x11=>(if x11=true then ((bJ p0.bF.Base).bind fun x14=>(if x14=true then ((iW p0.aD).bind fun x17=>(if x17=true then ((bB p0.LastUsed 0 1000000000000).bind fun x20=>(if x20=true then ((tD p0).bind fun x23=>(some (decide (x23≤2500)))) else (some false))) else (some false))) else (some false))) else (some false))) else (some false)) else (some false))) else (some false))) else (some false))
def mQ (p0:ByteArray) (p1:ByteArray) (p2:Int):Option (M.Bucket×Bool):=
 (iX p2).bind fun x1=>(if (!x1.2)=true then (some ((⟨(⟨#[]⟩:ByteArray),(⟨#[]⟩:ByteArray),(⟨(⟨#[]⟩:ByteArray),0,0,0⟩:M.Registration),(⟨([]:List M.Cache)⟩:M.aE),(⟨(⟨(⟨#[]⟩:ByteArray),0,([]:List M.aA),([]:List M.aH)⟩:M.Database),([]:List Int),0⟩:M.bF),(⟨(⟨(⟨#[]⟩:ByteArray),([]:List M.Item),0⟩:M.aA),0,(⟨(⟨0,0,([]:List M.aT)⟩:M.aG),0,0⟩:M.Sync)⟩:M.aD),0,false⟩:M.Bucket),false)) else ((iQ (⟨p0,p1,(⟨p0,0,0,0⟩:M.Registration),(⟨([]:List M.Cache)⟩:M.aE),(⟨(⟨(⟨#[97,112,112]⟩:ByteArray),1,[(⟨(⟨#[110,111,116,101,115]⟩:ByteArray),([]:List M.Item),0⟩:M.aA)],([]:List M.aH)⟩:M.Database),([]:List Int),0⟩:M.bF),(⟨(⟨(⟨#[110,111,116,101,115]⟩:ByteArray),([]:List M.Item),0⟩:M.aA),0,(⟨x1.1,0,0⟩:M.Sync)⟩:M.aD),0,false⟩:M.Bucket)).bind fun x14=>(if (!x14)=true then (some ((⟨(⟨#[]⟩:ByteArray),(⟨#[]⟩:ByteArray),(⟨(⟨#[]⟩:ByteArray),0,0,0⟩:M.Registration),(⟨([]:List M.Cache)⟩:M.aE),(⟨(⟨(⟨#[]⟩:ByteArray),0,([]:List M.aA),([]:List M.aH)⟩:M.Database),([]:List Int),0⟩:M.bF),(⟨(⟨(⟨#[]⟩:ByteArray),([]:List M.Item),0⟩:M.aA),0,(⟨(⟨0,0,([]:List M.aT)⟩:M.aG),0,0⟩:M.Sync)⟩:M.aD),0,false⟩:M.Bucket),false)) else (some ((⟨p0,p1,(⟨p0,0,0,0⟩:M.Registration),(⟨([]:List M.Cache)⟩:M.aE),(⟨(⟨(⟨#[97,112,112]⟩:ByteArray),1,[(⟨(⟨#[110,111,116,101,115]⟩:ByteArray),([]:List M.Item),0⟩:M.aA)],([]:List M.aH)⟩:M.Database),([]:List Int),0⟩:M.bF),(⟨(⟨(⟨#[110,111,116,101,115]⟩:ByteArray),([]:List M.Item),0⟩:M.aA),0,(⟨x1.1,0,0⟩:M.Sync)⟩:M.aD),0,false⟩:M.Bucket),true)))))
def dB (p0:M.aK):Option (Int×Int×M.Key):=
 (aJ p0 6).bind fun x4=>(some (x4.1,x4.2.1,(⟨1,x4.2.2,(⟨#[]⟩:ByteArray)⟩:M.Key)))
def eC (p0:M.aK):Option (Int×Int×ByteArray):=
 (fT p0 ([(⟨#[97]⟩:ByteArray),(⟨#[98]⟩:ByteArray),(⟨#[99]⟩:ByteArray),(⟨#[100,111,110,101]⟩:ByteArray),(⟨#[116,105,116,108,101]⟩:ByteArray)])).bind fun x4=>(some (x4.1,x4.2.1,x4.2.2))
def iG (p0:M.aC) (p1:ByteArray) (p2:Int) (x1:M.aC):Nat→Int→Option (M.aC×Bool)
 | 0,_=>none
 | nL1+1,v9=>if (decide (v9<(List.length p0.Fields:Int)))=true then ((idx p0.Fields v9).bind fun x15=>(if (Op.bytesLess x15.Name.toList p1.toList)=true then (iG p0 p1 p2 x1 nL1 (i64.wrap (v9+1))) else (if (x15.Name.toList==p1.toList)=true then ((idx x1.Fields v9).bind fun x22=>((aY p0).bind fun x35=>(if (!x35)=true then ((bN p0).bind fun x38=>(some (x38,false))) else ((aY (⟨(List.set x1.Fields v9.toNat (⟨x22.Name,p2⟩:M.Field))⟩:M.aC)).bind fun x40=>(if (!x40)=true then ((bN p0).bind fun x43=>(some (x43,false))) else (some ((⟨(List.set x1.Fields v9.toNat (⟨x22.Name,p2⟩:M.Field))⟩:M.aC),true))))))) else ((xA p0.Fields v9).bind fun x45=>((app 24 ([]:List M.Field) (List.take v9.toNat p0.Fields)).bind fun x47=>((app 24 (List.take v9.toNat p0.Fields) ([(⟨p1,p2⟩:M.Field)])).bind fun x49=>((wM p0.Fields v9).bind fun x51=>((app 24 ((List.take v9.toNat p0.Fields)++[(⟨p1,p2⟩:M.Field)]) (List.drop v9.toNat p0.Fields)).bind fun x53=>((aY p0).bind fun x63=>(if (!x63)=true then ((bN p0).bind fun x66=>(some (x66,false))) else ((aY (⟨(((List.take v9.toNat p0.Fields)++[(⟨p1,p2⟩:M.Field)])++(List.drop v9.toNat p0.Fields))⟩:M.aC)).bind fun x68=>(if (!x68)=true then ((bN p0).bind fun x71=>(some (x71,false))) else (some ((⟨(((List.take v9.toNat p0.Fields)++[(⟨p1,p2⟩:M.Field)])++(List.drop v9.toNat p0.Fields))⟩:M.aC),true)))))))))))))) else ((xA p0.Fields v9).bind fun x73=>((app 24 ([]:List M.Field) (List.take v9.toNat p0.Fields)).bind fun x75=>((app 24 (List.take v9.toNat p0.Fields) ([(⟨p1,p2⟩:M.Field)])).bind fun x77=>((wM p0.Fields v9).bind fun x79=>((app 24 ((List.take v9.toNat p0.Fields)++[(⟨p1,p2⟩:M.Field)]) (List.drop v9.toNat p0.Fields)).bind fun x81=>((aY p0).bind fun x91=>(if (!x91)=true then ((bN p0).bind fun x94=>(some (x94,false))) else ((aY (⟨(((List.take v9.toNat p0.Fields)++[(⟨p1,p2⟩:M.Field)])++(List.drop v9.toNat p0.Fields))⟩:M.aC)).bind fun x96=>(if (!x96)=true then ((bN p0).bind fun x99=>(some (x99,false))) else (some ((⟨(((List.take v9.toNat p0.Fields)++[(⟨p1,p2⟩:M.Field)])++(List.drop v9.toNat p0.Fields))⟩:M.aC),true)))))))))))
def eX (p0:M.aC) (p1:ByteArray) (p2:Int):Option (M.aC×Bool):=
 (bN p0).bind fun x1=>(iG p0 p1 p2 x1 fuel 0)
def iO (p0:M.aK):Nat→Int→Int→Int→List M.Field→Option (Int×Int×M.aC)
 | 0,_,_,_,_=>none
 | nL1+1,v4,w7059000_1,w7059000_2,r50000=>if (decide (v4>0))=true then ((eC (⟨p0.b,w7059000_1,w7059000_2⟩:M.aK)).bind fun x24=>((aJ (⟨p0.b,x24.1,x24.2.1⟩:M.aK) 5).bind fun x26=>((eX (⟨r50000⟩:M.aC) x24.2.2 x26.2.2).bind fun x28=>(iO p0 nL1 (i64.wrap (v4-1)) x26.1 x26.2.1 x28.1.Fields)))) else (some (w7059000_1,w7059000_2,(⟨r50000⟩:M.aC)))
def fX (p0:M.aK):Option (Int×Int×M.aC):=
 (aJ p0 4).bind fun x4=>(iO p0 fuel x4.2.2 x4.1 x4.2.1 ([]:List M.Field))
def kZ (p0:M.aA):Nat→Int→List M.Item→Option M.aA
 | 0,_,_=>none
 | nL1+1,v4,r50000=>if (decide (v4<(List.length p0.Items:Int)))=true then ((idx p0.Items v4).bind fun x11=>((pC x11).bind fun x16=>((app 56 r50000 ([x16])).bind fun x18=>(kZ p0 nL1 (i64.wrap (v4+1)) (r50000++[x16]))))) else (some (⟨p0.Name,r50000,p0.Auto⟩:M.aA))
def bH (p0:M.aA):Option M.aA:=
 kZ p0 fuel 0 ([]:List M.Item)
def lA (p0:M.Database):Nat→Int→List M.aA→Option M.Database
 | 0,_,_=>none
 | nL1+1,v4,r50000=>if (decide (v4<(List.length p0.Stores:Int)))=true then ((idx p0.Stores v4).bind fun x22=>((bH x22).bind fun x27=>((app 48 r50000 ([x27])).bind fun x29=>(lA p0 nL1 (i64.wrap (v4+1)) (r50000++[x27]))))) else (some (⟨p0.Name,p0.Version,r50000,p0.Unique⟩:M.Database))
def dG (p0:M.Database):Option M.Database:=
 (app 32 ([]:List M.aH) p0.Unique).bind fun x1=>(lA p0 fuel 0 ([]:List M.aA))
def nQ (p0:M.bF):Option M.bF:=
 (dG p0.Base).bind fun x1=>((app 1 ([]:List Int) p0.Log).bind fun x3=>(some (⟨x1,p0.Log,p0.Count⟩:M.bF)))
def cW (p0:List Int) (p1:Int):Nat→Int→Int→Option (Int×Int×Bool)
 | 0,_,_=>none
 | nL1+1,v7,v8=>if (decide (v8<6))=true then (if (decide (p1<0))=true then (some (0,0,false)) else (if (decide (p1≥(i64.wrap ((List.length p0:Int)-v8))))=true then (some (0,0,false)) else ((idx p0 (i64.wrap (p1+v8))).bind fun x9=>(if (decide (0≤(i64.wrap (7*v8))))=true then (if (decide ((i64.wrap x9)<128))=true then (if ((i64.wrap x9)==0)=true then (if (decide (v8>0))=true then (some (0,0,false)) else (if (decide ((i64.wrap (BitVec.ofInt (IntKind.i64.bits) v7|||BitVec.ofInt (IntKind.i64.bits) (i64.wrap ((i64.wrap (BitVec.ofInt (IntKind.i64.bits) (i64.wrap x9)&&&BitVec.ofInt (IntKind.i64.bits) 127).toNat)*2^(min (i64.wrap (7*v8)).toNat IntKind.i64.bits)))).toNat)>1000000000000))=true then (some (0,0,false)) else (some ((i64.wrap (BitVec.ofInt (IntKind.i64.bits) v7|||BitVec.ofInt (IntKind.i64.bits) (i64.wrap ((i64.wrap (BitVec.ofInt (IntKind.i64.bits) (i64.wrap x9)&&&BitVec.ofInt (IntKind.i64.bits) 127).toNat)*2^(min (i64.wrap (7*v8)).toNat IntKind.i64.bits)))).toNat),(i64.wrap ((i64.wrap (p1+v8))+1)),true)))) else (if (decide ((i64.wrap (BitVec.ofInt (IntKind.i64.bits) v7|||BitVec.ofInt (IntKind.i64.bits) (i64.wrap ((i64.wrap (BitVec.ofInt (IntKind.i64.bits) (i64.wrap x9)&&&BitVec.ofInt (IntKind.i64.bits) 127).toNat)*2^(min (i64.wrap (7*v8)).toNat IntKind.i64.bits)))).toNat)>1000000000000))=true then (some (0,0,false)) else (some ((i64.wrap (BitVec.ofInt (IntKind.i64.bits) v7|||BitVec.ofInt (IntKind.i64.bits) (i64.wrap ((i64.wrap (BitVec.ofInt (IntKind.i64.bits) (i64.wrap x9)&&&BitVec.ofInt (IntKind.i64.bits) 127).toNat)*2^(min (i64.wrap (7*v8)).toNat IntKind.i64.bits)))).toNat),(i64.wrap ((i64.wrap (p1+v8))+1)),true)))) else (cW p0 p1 nL1 (i64.wrap (BitVec.ofInt (IntKind.i64.bits) v7|||BitVec.ofInt (IntKind.i64.bits) (i64.wrap ((i64.wrap (BitVec.ofInt (IntKind.i64.bits) (i64.wrap x9)&&&BitVec.ofInt (IntKind.i64.bits) 127).toNat)*2^(min (i64.wrap (7*v8)).toNat IntKind.i64.bits)))).toNat) (i64.wrap (v8+1)))) else none)))) else (some (0,0,false))
def dS (p0:List Int) (p1:Int):Option (Int×Int×Bool):=
 cW p0 p1 fuel 0 0
def cV (p0:List Int) (p1:Int) (p2:Int):Option ((List Int)×Int×Bool):=
 (dS p0 p1).bind fun x1=>(if (!x1.2.2)=true then (some (([]:List Int),0,false)) else (if (decide (x1.1>p2))=true then (some (([]:List Int),0,false)) else (if (decide (x1.1>(i64.wrap ((List.length p0:Int)-x1.2.1))))=true then (some (([]:List Int),0,false)) else ((aK3 p0 x1.2.1 (i64.wrap (x1.2.1+x1.1))).bind fun x6=>((app 1 ([]:List Int) (List.drop x1.2.1.toNat (List.take (i64.wrap (x1.2.1+x1.1)).toNat p0))).bind fun x8=>(some ((List.drop x1.2.1.toNat (List.take (i64.wrap (x1.2.1+x1.1)).toNat p0)),(i64.wrap (x1.2.1+x1.1)),true)))))))
def eT (p0:List Int):Nat→Int→List Int→Option (List Int)
 | 0,_,_=>none
 | nL1+1,v4,r7=>if (decide (v4<(List.length p0:Int)))=true then ((idx p0 v4).bind fun x11=>((app 8 r7 ([(i64.wrap x11)])).bind fun x16=>(eT p0 nL1 (i64.wrap (v4+1)) (r7++[(i64.wrap x11)])))) else (some r7)
def nO (p0:List Int):Option (List Int):=
 eT p0 fuel 0 ([(List.length p0:Int)])
def yS (p0:Int) (p1:Int):Option Int:=
 (bB p1 1 1000000000000).bind fun x1=>(if (!x1)=true then (some 0) else (if (decide (p1=0))=true then none else (some (Int.tmod (i64.wrap ((Int.tmod p0 p1)+p1)) p1))))
def nT (p0:List Int):Nat→Int→Int→Option Int
 | 0,_,_=>none
 | nL1+1,v3,v4=>if (decide (v4<(List.length p0:Int)))=true then ((idx p0 v4).bind fun x6=>((yS x6 2147483647).bind fun x11=>(nT p0 nL1 (Int.tmod (i64.wrap ((i64.wrap ((i64.wrap (v3*1000003))+x11))+13)) 2147483647) (i64.wrap (v4+1))))) else (some v3)
def xK (p0:List Int):Option Int:=
 nT p0 fuel 11 0
def oE (p0:Int) (p1:List Int):Option Int:=
 (nO p1).bind fun x1=>((app 8 ([101,p0]) x1).bind fun x3=>((xK ([101,p0]++x1)).bind fun x5=>(some x5)))
def mA (p0:List Int):Nat→Int→List (List Int)→Option ((List (List Int))×Int)
 | 0,_,_=>none
 | nL1+1,v5,r12=>if (decide (v5<(List.length p0:Int)))=true then ((cV p0 v5 4000).bind fun x11=>(if (!x11.2.2)=true then (some (r12,v5)) else ((dS p0 x11.2.1).bind fun x14=>(if (!x14.2.2)=true then (some (r12,v5)) else ((oE (List.length r12:Int) x11.1).bind fun x17=>(if (x14.1 != x17)=true then (some (r12,v5)) else ((app 24 r12 ([x11.1])).bind fun x20=>(mA p0 nL1 x14.2.1 (r12++[x11.1]))))))))) else (some (r12,v5))
def sS (p0:List Int):Option ((List (List Int))×Int):=
 mA p0 fuel 0 ([]:List (List Int))
def gL (p0:List Int) (x2:Int):Nat→Int→Int→Option (M.Key×Bool)
 | 0,_,_=>none
 | nL1+1,v6,v7=>if (decide (v7<7))=true then ((idx p0 v7).bind fun x18=>(gL p0 x2 nL1 (i64.wrap (BitVec.ofInt (IntKind.i64.bits) (i64.wrap (v6*2^(min (8:Int).toNat IntKind.i64.bits)))|||BitVec.ofInt (IntKind.i64.bits) (i64.wrap x18)).toNat) (i64.wrap (v7+1)))) else ((wM p0 7).bind fun x23=>((toStr (List.drop (7:Int).toNat p0)).bind fun x25=>((dU (⟨(i64.wrap x2),(i64.wrap (v6-1000000000000)),(cK (List.drop (7:Int).toNat p0))⟩:M.Key)).bind fun x27=>(if (!x27)=true then (some ((⟨0,0,(⟨#[]⟩:ByteArray)⟩:M.Key),false)) else (some ((⟨(i64.wrap x2),(i64.wrap (v6-1000000000000)),(cK (List.drop (7:Int).toNat p0))⟩:M.Key),true))))))
def mS (p0:List Int):Option (M.Key×Bool):=
 if ((List.length p0:Int)==0)=true then (some ((⟨0,0,(⟨#[]⟩:ByteArray)⟩:M.Key),false)) else ((idx p0 0).bind fun x2=>(if ((i64.wrap x2) != 2)=true then (if (decide ((List.length p0:Int)<7))=true then (some ((⟨0,0,(⟨#[]⟩:ByteArray)⟩:M.Key),false)) else (gL p0 x2 fuel 0 1)) else ((wM p0 1).bind fun x30=>((toStr (List.drop (1:Int).toNat p0)).bind fun x32=>((dU (⟨(i64.wrap x2),0,(cK (List.drop (1:Int).toNat p0))⟩:M.Key)).bind fun x34=>(if (!x34)=true then (some ((⟨0,0,(⟨#[]⟩:ByteArray)⟩:M.Key),false)) else (some ((⟨(i64.wrap x2),0,(cK (List.drop (1:Int).toNat p0))⟩:M.Key),true))))))))
def kY (p0:List Int) (x1:(Int×Int×Bool)):Nat→Int→Int→List M.Field→Option (M.aC×Int×Bool)
 | 0,_,_,_=>none
 | nL1+1,v8,v11,r50000=>if (decide (v11<x1.1))=true then ((cV p0 v8 8).bind fun x16=>(if (!x16.2.2)=true then (some ((⟨([]:List M.Field)⟩:M.aC),0,false)) else ((dS p0 x16.2.1).bind fun x19=>(if (!x19.2.2)=true then (some ((⟨([]:List M.Field)⟩:M.aC),0,false)) else ((toStr x16.1).bind fun x22=>((app 24 r50000 ([(⟨(cK x16.1),x19.1⟩:M.Field)])).bind fun x24=>(kY p0 x1 nL1 x19.2.1 (i64.wrap (v11+1)) (r50000++[(⟨(cK x16.1),x19.1⟩:M.Field)])))))))) else ((aY (⟨r50000⟩:M.aC)).bind fun x36=>(some ((⟨r50000⟩:M.aC),v8,x36)))
def wT (p0:List Int) (p1:Int):Option (M.aC×Int×Bool):=
 (dS p0 p1).bind fun x1=>(if (!x1.2.2)=true then (some ((⟨([]:List M.Field)⟩:M.aC),0,false)) else (if (decide (x1.1>6))=true then (some ((⟨([]:List M.Field)⟩:M.aC),0,false)) else (kY p0 x1 fuel x1.2.1 0 ([]:List M.Field))))
def jV (p0:List Int):Option (M.aC×Bool):=
 (wT p0 0).bind fun x1=>(if (!x1.2.2)=true then (some ((⟨([]:List M.Field)⟩:M.aC),false)) else (if (x1.2.1 != (List.length p0:Int))=true then (some ((⟨([]:List M.Field)⟩:M.aC),false)) else (some (x1.1,true))))
def tX (p0:List Int) (p1:Int):Option (M.Op×Int×Bool):=
 (dS p0 p1).bind fun x1=>((cV p0 x1.2.1 100).bind fun x3=>((cV p0 x3.2.1 100).bind fun x5=>((cV p0 x5.2.1 200).bind fun x7=>((cV p0 x7.2.1 100).bind fun x9=>(if (!x1.2.2)=true then (some ((⟨0,(⟨#[]⟩:ByteArray),(⟨0,0,(⟨#[]⟩:ByteArray)⟩:M.Key),(⟨([]:List M.Field)⟩:M.aC),(⟨#[]⟩:ByteArray)⟩:M.Op),0,false)) else (if (!x3.2.2)=true then (some ((⟨0,(⟨#[]⟩:ByteArray),(⟨0,0,(⟨#[]⟩:ByteArray)⟩:M.Key),(⟨([]:List M.Field)⟩:M.aC),(⟨#[]⟩:ByteArray)⟩:M.Op),0,false)) else (if (!x5.2.2)=true then (some ((⟨0,(⟨#[]⟩:ByteArray),(⟨0,0,(⟨#[]⟩:ByteArray)⟩:M.Key),(⟨([]:List M.Field)⟩:M.aC),(⟨#[]⟩:ByteArray)⟩:M.Op),0,false)) else (if (!x7.2.2)=true then (some ((⟨0,(⟨#[]⟩:ByteArray),(⟨0,0,(⟨#[]⟩:ByteArray)⟩:M.Key),(⟨([]:List M.Field)⟩:M.aC),(⟨#[]⟩:ByteArray)⟩:M.Op),0,false)) else (if (!x9.2.2)=true then (some ((⟨0,(⟨#[]⟩:ByteArray),(⟨0,0,(⟨#[]⟩:ByteArray)⟩:M.Key),(⟨([]:List M.Field)⟩:M.aC),(⟨#[]⟩:ByteArray)⟩:M.Op),0,false)) else ((toStr x3.1).bind fun x44=>((toStr x9.1).bind fun x46=>((mS x5.1).bind fun x48=>((jV x7.1).bind fun x50=>(some ((⟨x1.1,(cK x3.1),x48.1,x50.1,(cK x9.1)⟩:M.Op),x9.2.1,true)))))))))))))))
def uT (p0:M.Op):Option Bool:=
 (bB p0.Kind 1 6).bind fun x1=>(if x1=true then ((cX p0.aA).bind fun x4=>(if x4=true then (if (p0.Kind==5)=true then ((aY p0.aC).bind fun x8=>(if x8=true then (if (p0.Kind==6)=true then ((cX p0.Field).bind fun x12=>(if x12=true then (some true) else (if (p0.Kind != 6)=true then (some (p0.Field.toList==(⟨#[]⟩:ByteArray).toList)) else (some false)))) else (if (p0.Kind != 6)=true then (some (p0.Field.toList==(⟨#[]⟩:ByteArray).toList)) else (some false))) else (some false))) else ((dU p0.Key).bind fun x17=>(if x17=true then ((aY p0.aC).bind fun x20=>(if x20=true then (if (p0.Kind==6)=true then ((cX p0.Field).bind fun x24=>(if x24=true then (some true) else (if (p0.Kind != 6)=true then (some (p0.Field.toList==(⟨#[]⟩:ByteArray).toList)) else (some false)))) else (if (p0.Kind != 6)=true then (some (p0.Field.toList==(⟨#[]⟩:ByteArray).toList)) else (some false))) else (some false))) else (some false)))) else (some false))) else (some false))
def jP (p0:List M.Op):Nat→Int→List Int→Option (List Int)
 | 0,_,_=>none
 | nL1+1,v4,r50000=>if (decide (v4<(List.length p0:Int)))=true then ((idx p0 v4).bind fun x13=>((uT x13).bind fun x18=>(if (!x18)=true then (some ([]:List Int)) else ((bD r50000 x13.Kind).bind fun x21=>((bC x21 (cH x13.aA)).bind fun x23=>((gF x13.Key).bind fun x25=>((bC x23 x25).bind fun x27=>((eB x13.aC).bind fun x29=>((bC x27 x29).bind fun x31=>((bC x31 (cH x13.Field)).bind fun x33=>(jP p0 nL1 (i64.wrap (v4+1)) x33))))))))))) else (if (decide ((List.length p0:Int)>6))=true then (some ([]:List Int)) else (some r50000))
def mT (p0:List M.Op):Option (List Int):=
 (bD ([]:List Int) (List.length p0:Int)).bind fun x1=>(jP p0 fuel 0 x1)
def oO (p0:List Int) (p1:List Int):Option Bool:=
 (toStr p0).bind fun x1=>((toStr p1).bind fun x3=>(some ((cK p0).toList==(cK p1).toList)))
def gR (p0:List Int) (x1:(Int×Int×Bool)):Nat→Int→Int→List M.Op→Option ((List M.Op)×Bool)
 | 0,_,_,_=>none
 | nL1+1,v5,v8,r25=>if (decide (v8<x1.1))=true then ((tX p0 v5).bind fun x19=>(if (!x19.2.2)=true then (some (([]:List M.Op),false)) else ((app 96 r25 ([x19.1])).bind fun x22=>(gR p0 x1 nL1 x19.2.1 (i64.wrap (v8+1)) (r25++[x19.1]))))) else ((mT r25).bind fun x31=>((oO x31 p0).bind fun x33=>(if (!x33)=true then (some (([]:List M.Op),false)) else (some (r25,true)))))
def mR (p0:List Int):Option ((List M.Op)×Bool):=
 (dS p0 0).bind fun x1=>(if (!x1.2.2)=true then (some (([]:List M.Op),false)) else (if (decide (x1.1>6))=true then (some (([]:List M.Op),false)) else (gR p0 x1 fuel x1.2.1 0 ([]:List M.Op))))
def iS (p0:M.aA) (p1:M.Key):Nat→Int→Option Int
 | 0,_=>none
 | nL1+1,v5=>if (decide (v5<(List.length p0.Items:Int)))=true then ((idx p0.Items v5).bind fun x8=>(if ((x8.Key.Kind==p1.Kind)&&((x8.Key.N==p1.N)&&(x8.Key.Text.toList==p1.Text.toList)))=true then (some v5) else (iS p0 p1 nL1 (i64.wrap (v5+1))))) else (some (-1))
def iN (p0:M.aA) (p1:M.Key):Option Int:=
 iS p0 p1 fuel 0
def jU (p0:M.aA) (p1:M.Key) (p2:M.aC) (x16:M.aA):Nat→Int→Option (M.aA×Bool)
 | 0,_=>none
 | nL1+1,v10=>if (decide (v10<(List.length p0.Items:Int)))=true then ((idx p0.Items v10).bind fun x43=>((aV x43.Key p1).bind fun x48=>(if (decide (x48<0))=true then (jU p0 p1 p2 x16 nL1 (i64.wrap (v10+1))) else ((xA x16.Items v10).bind fun x51=>((app 56 ([]:List M.Item) (List.take v10.toNat x16.Items)).bind fun x53=>((bN p2).bind fun x70=>((app 56 (List.take v10.toNat x16.Items) ([(⟨p1,x70⟩:M.Item)])).bind fun x72=>((app 56 ((List.take v10.toNat x16.Items)++[(⟨p1,x70⟩:M.Item)]) (List.drop v10.toNat x16.Items)).bind fun x87=>(if (p1.Kind==1)=true then ((bB p1.N (i64.wrap (p0.Auto+1)) 1000000).bind fun x100=>(if x100=true then (some ((⟨x16.Name,(((List.take v10.toNat x16.Items)++[(⟨p1,x70⟩:M.Item)])++(List.drop v10.toNat x16.Items)),p1.N⟩:M.aA),true)) else (some ((⟨x16.Name,(((List.take v10.toNat x16.Items)++[(⟨p1,x70⟩:M.Item)])++(List.drop v10.toNat x16.Items)),x16.Auto⟩:M.aA),true)))) else (some ((⟨x16.Name,(((List.take v10.toNat x16.Items)++[(⟨p1,x70⟩:M.Item)])++(List.drop v10.toNat x16.Items)),x16.Auto⟩:M.aA),true))))))))))) else ((xA x16.Items v10).bind fun x103=>((app 56 ([]:List M.Item) (List.take v10.toNat x16.Items)).bind fun x105=>((bN p2).bind fun x122=>((app 56 (List.take v10.toNat x16.Items) ([(⟨p1,x122⟩:M.Item)])).bind fun x124=>((app 56 ((List.take v10.toNat x16.Items)++[(⟨p1,x122⟩:M.Item)]) (List.drop v10.toNat x16.Items)).bind fun x139=>(if (p1.Kind==1)=true then ((bB p1.N (i64.wrap (p0.Auto+1)) 1000000).bind fun x152=>(if x152=true then (some ((⟨x16.Name,(((List.take v10.toNat x16.Items)++[(⟨p1,x122⟩:M.Item)])++(List.drop v10.toNat x16.Items)),p1.N⟩:M.aA),true)) else (some ((⟨x16.Name,(((List.take v10.toNat x16.Items)++[(⟨p1,x122⟩:M.Item)])++(List.drop v10.toNat x16.Items)),x16.Auto⟩:M.aA),true)))) else (some ((⟨x16.Name,(((List.take v10.toNat x16.Items)++[(⟨p1,x122⟩:M.Item)])++(List.drop v10.toNat x16.Items)),x16.Auto⟩:M.aA),true))))))))
def cZ (p0:M.aA) (p1:M.Key) (p2:M.aC):Option (M.aA×Bool):=
 (iF p0).bind fun x1=>(if (!x1)=true then ((bH p0).bind fun x4=>(some (x4,false))) else ((dU p1).bind fun x6=>(if (!x6)=true then ((bH p0).bind fun x9=>(some (x9,false))) else ((aY p2).bind fun x11=>(if (!x11)=true then ((bH p0).bind fun x14=>(some (x14,false))) else ((bH p0).bind fun x16=>((iN p0 p1).bind fun x18=>(if (decide (x18≥0))=true then ((bN p2).bind fun x21=>((idx x16.Items x18).bind fun x23=>(some ((⟨x16.Name,(List.set x16.Items x18.toNat (⟨x23.Key,x21⟩:M.Item)),x16.Auto⟩:M.aA),true)))) else (if (decide ((List.length p0.Items:Int)≥16))=true then (some (x16,false)) else (jU p0 p1 p2 x16 fuel 0))))))))))
def pW (p0:M.aA) (p1:M.Key) (p2:M.aC):Option (M.aA×Bool):=
 (iN p0 p1).bind fun x1=>(if (decide (x1≥0))=true then ((bH p0).bind fun x4=>(some (x4,false))) else ((cZ p0 p1 p2).bind fun x6=>(some (x6.1,x6.2))))
def pN (p0:M.Key) (p1:M.eG):Option Bool:=
 (dU p0).bind fun x1=>(if (!x1)=true then (some false) else (if p1.HasLow=true then ((dU p1.Low).bind fun x5=>(if (!x5)=true then (some false) else (if p1.HasHigh=true then ((dU p1.High).bind fun x9=>(if (!x9)=true then (some false) else (if (!p1.HasLow)=true then (if (!p1.HasHigh)=true then (some true) else ((aV p0 p1.High).bind fun x14=>(some (decide (x14≤0))))) else ((aV p1.Low p0).bind fun x16=>(if (decide (x16≤0))=true then (if (!p1.HasHigh)=true then (some true) else ((aV p0 p1.High).bind fun x20=>(some (decide (x20≤0))))) else (some false)))))) else (if (!p1.HasLow)=true then (if (!p1.HasHigh)=true then (some true) else ((aV p0 p1.High).bind fun x24=>(some (decide (x24≤0))))) else ((aV p1.Low p0).bind fun x26=>(if (decide (x26≤0))=true then (if (!p1.HasHigh)=true then (some true) else ((aV p0 p1.High).bind fun x30=>(some (decide (x30≤0))))) else (some false))))))) else (if p1.HasHigh=true then ((dU p1.High).bind fun x33=>(if (!x33)=true then (some false) else (if (!p1.HasLow)=true then (if (!p1.HasHigh)=true then (some true) else ((aV p0 p1.High).bind fun x38=>(some (decide (x38≤0))))) else ((aV p1.Low p0).bind fun x40=>(if (decide (x40≤0))=true then (if (!p1.HasHigh)=true then (some true) else ((aV p0 p1.High).bind fun x44=>(some (decide (x44≤0))))) else (some false)))))) else (if (!p1.HasLow)=true then (if (!p1.HasHigh)=true then (some true) else ((aV p0 p1.High).bind fun x48=>(some (decide (x48≤0))))) else ((aV p1.Low p0).bind fun x50=>(if (decide (x50≤0))=true then (if (!p1.HasHigh)=true then (some true) else ((aV p0 p1.High).bind fun x54=>(some (decide (x54≤0))))) else (some false)))))))
def eU (p0:M.aA) (p1:M.eG):Nat→Int→List M.Item→Option (M.aA×Int)
 | 0,_,_=>none
 | nL1+1,v7,r50000=>if (decide (v7<(List.length p0.Items:Int)))=true then ((idx p0.Items v7).bind fun x18=>((pN x18.Key p1).bind fun x23=>(if (!x23)=true then ((pC x18).bind fun x26=>((app 56 r50000 ([x26])).bind fun x28=>(eU p0 p1 nL1 (i64.wrap (v7+1)) (r50000++[x26])))) else (eU p0 p1 nL1 (i64.wrap (v7+1)) r50000)))) else (some ((⟨p0.Name,r50000,p0.Auto⟩:M.aA),(i64.wrap ((List.length p0.Items:Int)-(List.length r50000:Int)))))
def kT (p0:M.aA) (p1:M.eG):Option (M.aA×Int):=
 (iF p0).bind fun x1=>(if (!x1)=true then ((bH p0).bind fun x4=>(some (x4,0))) else (eU p0 p1 fuel 0 ([]:List M.Item)))
def vM (p0:M.aA) (p1:M.Key) (p2:ByteArray):Option (M.aA×Int×Bool):=
 (iN p0 p1).bind fun x1=>(if (decide (x1≥0))=true then ((idx p0.Items x1).bind fun x4=>((gA x4.aC p2).bind fun x9=>((eX x4.aC p2 (i64.wrap (x9.1+1))).bind fun x11=>((cZ p0 p1 x11.1).bind fun x13=>(if x11.2=true then (some (x13.1,(i64.wrap (x9.1+1)),x13.2)) else (some (x13.1,(i64.wrap (x9.1+1)),false))))))) else ((gA (⟨([]:List M.Field)⟩:M.aC) p2).bind fun x16=>((eX (⟨([]:List M.Field)⟩:M.aC) p2 (i64.wrap (x16.1+1))).bind fun x18=>((cZ p0 p1 x18.1).bind fun x20=>(if x18.2=true then (some (x20.1,(i64.wrap (x16.1+1)),x20.2)) else (some (x20.1,(i64.wrap (x16.1+1)),false)))))))
def sZ (p0:M.aA) (p1:M.Op):Option (M.aA×Int×Bool):=
 if (p1.Kind==1)=true then ((cZ p0 p1.Key p1.aC).bind fun x2=>(some (x2.1,1,x2.2))) else (if (p1.Kind==2)=true then ((pW p0 p1.Key p1.aC).bind fun x5=>(some (x5.1,1,x5.2))) else (if (p1.Kind==3)=true then ((kT p0 (⟨true,true,p1.Key,p1.Key⟩:M.eG)).bind fun x8=>(some (x8.1,x8.2,true))) else (if (p1.Kind==4)=true then ((iN p0 p1.Key).bind fun x11=>(if (decide (x11<0))=true then ((bH p0).bind fun x14=>(some (x14,(-1),true))) else ((bH p0).bind fun x16=>((idx p0.Items x11).bind fun x18=>(some (x16,(List.length x18.aC.Fields:Int),true)))))) else (if (p1.Kind==5)=true then ((kT p0 (⟨false,false,(⟨0,0,(⟨#[]⟩:ByteArray)⟩:M.Key),(⟨0,0,(⟨#[]⟩:ByteArray)⟩:M.Key)⟩:M.eG)).bind fun x24=>(some (x24.1,x24.2,true))) else ((vM p0 p1.Key p1.Field).bind fun x26=>(some (x26.1,x26.2.1,x26.2.2)))))))
def tP (p0:M.Database) (p1:M.Op):Option (M.Database×Int×Bool):=
 (dG p0).bind fun x1=>((kV p0 p1.aA).bind fun x3=>((bJ p0).bind fun x5=>(if (!x5)=true then (some (x1,0,false)) else ((uT p1).bind fun x8=>(if (!x8)=true then (some (x1,0,false)) else (if (decide (x3<0))=true then (some (x1,0,false)) else ((idx p0.Stores x3).bind fun x12=>((sZ x12 p1).bind fun x17=>((idx x1.Stores x3).bind fun x19=>(if (!x17.2.2)=true then ((dG p0).bind fun x36=>(some (x36,0,false))) else ((bJ (⟨x1.Name,x1.Version,(List.set x1.Stores x3.toNat x17.1),x1.Unique⟩:M.Database)).bind fun x38=>(if (!x38)=true then ((dG p0).bind fun x41=>(some (x41,0,false))) else (some ((⟨x1.Name,x1.Version,(List.set x1.Stores x3.toNat x17.1),x1.Unique⟩:M.Database),x17.2.1,true))))))))))))))
def mU (p0:M.Database) (p1:List M.Op):Nat→Int→ByteArray→Int→List Int→List M.aA→List M.aH→Option (M.Database×(List Int)×Bool)
 | 0,_,_,_,_,_,_=>none
 | nL1+1,v9,w7_0,w7_1,r15,r50000,r50001=>if (decide (v9<(List.length p1:Int)))=true then ((idx p1 v9).bind fun x33=>((tP (⟨w7_0,w7_1,r50000,r50001⟩:M.Database) x33).bind fun x38=>(if (!x38.2.2)=true then ((dG p0).bind fun x41=>(some (x41,([]:List Int),false))) else ((app 8 r15 ([x38.2.1])).bind fun x43=>(mU p0 p1 nL1 (i64.wrap (v9+1)) x38.1.Name x38.1.Version (r15++[x38.2.1]) x38.1.Stores x38.1.Unique))))) else (some ((⟨w7_0,w7_1,r50000,r50001⟩:M.Database),r15,true))
def pE (p0:M.Database) (p1:List M.Op):Option (M.Database×(List Int)×Bool):=
 (dG p0).bind fun x1=>((bJ p0).bind fun x15=>(if (!x15)=true then (some (x1,([]:List Int),false)) else (if (decide ((List.length p1:Int)>6))=true then (some (x1,([]:List Int),false)) else (mU p0 p1 fuel 0 x1.Name x1.Version ([]:List Int) x1.Stores x1.Unique))))
def kP (x3:((List (List Int))×Int)):Nat→Int→ByteArray→Int→List M.aA→List M.aH→Option (M.Database×Int)
 | 0,_,_,_,_,_=>none
 | nL1+1,v7,w4_0,w4_1,r50000,r50001=>if (decide (v7<(List.length x3.1:Int)))=true then ((idx x3.1 v7).bind fun x16=>((mR x16).bind fun x21=>(if (!x21.2)=true then (some ((⟨w4_0,w4_1,r50000,r50001⟩:M.Database),v7)) else ((pE (⟨w4_0,w4_1,r50000,r50001⟩:M.Database) x21.1).bind fun x24=>(kP x3 nL1 (i64.wrap (v7+1)) x24.1.Name x24.1.Version x24.1.Stores x24.1.Unique))))) else (some ((⟨w4_0,w4_1,r50000,r50001⟩:M.Database),(List.length x3.1:Int)))
def rO (p0:M.bF):Option (M.Database×Int):=
 (dG p0.Base).bind fun x1=>((sS p0.Log).bind fun x3=>(kP x3 fuel 0 x1.Name x1.Version x1.Stores x1.Unique))
def mW (p0:List Int) (p1:Int) (p2:List Int):Option ((List Int)×Bool):=
 (app 1 ([]:List Int) p0).bind fun x1=>((bC p0 p2).bind fun x8=>((oE p1 p2).bind fun x10=>((bD x8 x10).bind fun x12=>(if (decide (p1<0))=true then (some (p0,false)) else (if (decide ((List.length x12:Int)>4000))=true then (some (p0,false)) else (some (x12,true)))))))
def jM (p0:M.bF) (p1:List M.Op):Option (M.bF×Bool):=
 (nQ p0).bind fun x1=>((rO p0).bind fun x3=>((pE x3.1 p1).bind fun x5=>((mT p1).bind fun x7=>(if (!x5.2.2)=true then (some (x1,false)) else (if ((List.length x7:Int)==0)=true then (some (x1,false)) else (if (x3.2 != p0.Count)=true then (some (x1,false)) else ((mW p0.Log p0.Count x7).bind fun x12=>(if (!x12.2)=true then (some (x1,false)) else (some ((⟨x1.Base,x12.1,(i64.wrap (p0.Count+1))⟩:M.bF),true))))))))))
def lR (p0:M.aG):Option M.aG:=
 (app 72 ([]:List M.aT) p0.Writes).bind fun x1=>(some p0)
def nU (p0:M.Sync):Option M.Sync:=
 (lR p0.aG).bind fun x1=>(some (⟨x1,p0.Tries,p0.WaitUntil⟩:M.Sync))
def nW (p0:M.aD):Option M.aD:=
 (bH p0.Base).bind fun x1=>((nU p0.Sync).bind fun x3=>(some (⟨x1,p0.Seen,x3⟩:M.aD)))
def eV (p0:M.aG) (p1:M.Key) (p2:ByteArray) (p3:Int):Option (M.aG×Bool):=
 (lR p0).bind fun x1=>((eW p0).bind fun x3=>(if (!x3)=true then (some (x1,false)) else ((app 72 x1.Writes ([(⟨p0.Device,p0.Next,p1,p2,p3⟩:M.aT)])).bind fun x6=>((eW (⟨x1.Device,(i64.wrap (p0.Next+1)),(x1.Writes++[(⟨p0.Device,p0.Next,p1,p2,p3⟩:M.aT)])⟩:M.aG)).bind fun x16=>(if (!x16)=true then ((lR p0).bind fun x19=>(some (x19,false))) else (some ((⟨x1.Device,(i64.wrap (p0.Next+1)),(x1.Writes++[(⟨p0.Device,p0.Next,p1,p2,p3⟩:M.aT)])⟩:M.aG),true)))))))
def gI (p0:M.aA) (p1:M.aT):Option (M.aA×Bool):=
 (iN p0 p1.Key).bind fun x1=>(if (decide (x1≥0))=true then ((idx p0.Items x1).bind fun x4=>((eX x4.aC p1.Field p1.N).bind fun x9=>(if (!x9.2)=true then ((bH p0).bind fun x12=>(some (x12,false))) else ((cZ p0 p1.Key x9.1).bind fun x14=>(some (x14.1,x14.2)))))) else ((eX (⟨([]:List M.Field)⟩:M.aC) p1.Field p1.N).bind fun x16=>(if (!x16.2)=true then ((bH p0).bind fun x19=>(some (x19,false))) else ((cZ p0 p1.Key x16.1).bind fun x21=>(some (x21.1,x21.2))))))
def fS (p1:List M.aT):Nat→Int→ByteArray→Int→List M.Item→Option M.aA
 | 0,_,_,_,_=>none
 | nL1+1,v6,w5_0,w5_2,r50000=>if (decide (v6<(List.length p1:Int)))=true then ((idx p1 v6).bind fun x12=>((gI (⟨w5_0,r50000,w5_2⟩:M.aA) x12).bind fun x17=>(if x17.2=true then (fS p1 nL1 (i64.wrap (v6+1)) x17.1.Name x17.1.Auto x17.1.Items) else (fS p1 nL1 (i64.wrap (v6+1)) w5_0 w5_2 r50000)))) else (some (⟨w5_0,r50000,w5_2⟩:M.aA))
def oQ (p0:M.aA) (p1:List M.aT):Option M.aA:=
 (bH p0).bind fun x1=>(fS p1 fuel 0 x1.Name x1.Auto x1.Items)
def sI (p0:M.aD):Option M.aA:=
 (oQ p0.Base p0.Sync.aG.Writes).bind fun x1=>(some x1)
def hJ (p0:M.aD) (p1:M.Key) (p2:ByteArray) (p3:Int):Option (M.aD×Bool):=
 (nW p0).bind fun x1=>((eV p0.Sync.aG p1 p2 p3).bind fun x3=>((sI p0).bind fun x5=>((gI x5 (⟨0,0,p1,p2,p3⟩:M.aT)).bind fun x7=>((iW p0).bind fun x9=>(if (!x9)=true then (some (x1,false)) else (if (!x3.2)=true then (some (x1,false)) else (if (!x7.2)=true then (some (x1,false)) else (some ((⟨x1.Base,x1.Seen,(⟨x3.1,x1.Sync.Tries,x1.Sync.WaitUntil⟩:M.Sync)⟩:M.aD),true)))))))))
def pX (p0:M.Response):Option M.Response:=
 (app 1 ([]:List Int) p0.Body).bind fun x1=>(some p0)
def iI (p0:M.Cache):Nat→Int→List M.Cached→Option M.Cache
 | 0,_,_=>none
 | nL1+1,v4,r50000=>if (decide (v4<(List.length p0.Entries:Int)))=true then ((idx p0.Entries v4).bind fun x11=>((pX x11.Response).bind fun x16=>((app 88 r50000 ([(⟨x11.Site,x11.Path,x16⟩:M.Cached)])).bind fun x18=>(iI p0 nL1 (i64.wrap (v4+1)) (r50000++[(⟨x11.Site,x11.Path,x16⟩:M.Cached)]))))) else (some (⟨p0.Version,r50000⟩:M.Cache))
def rQ (p0:M.Cache):Option M.Cache:=
 iI p0 fuel 0 ([]:List M.Cached)
def jZ (p0:M.aE):Nat→Int→List M.Cache→Option M.aE
 | 0,_,_=>none
 | nL1+1,v4,r50000=>if (decide (v4<(List.length p0.Caches:Int)))=true then ((idx p0.Caches v4).bind fun x11=>((rQ x11).bind fun x16=>((app 32 r50000 ([x16])).bind fun x18=>(jZ p0 nL1 (i64.wrap (v4+1)) (r50000++[x16]))))) else (some (⟨r50000⟩:M.aE))
def bX (p0:M.aE):Option M.aE:=
 jZ p0 fuel 0 ([]:List M.Cache)
def gW (p0:M.aE) (p1:Int) (x1:M.aE):Nat→Int→Option (M.aE×Bool)
 | 0,_=>none
 | nL1+1,v7=>if (decide (v7<(List.length p0.Caches:Int)))=true then ((idx p0.Caches v7).bind fun x14=>(if (decide (x14.Version<p1))=true then (gW p0 p1 x1 nL1 (i64.wrap (v7+1))) else ((xA x1.Caches v7).bind fun x20=>((app 32 ([]:List M.Cache) (List.take v7.toNat x1.Caches)).bind fun x22=>((app 32 (List.take v7.toNat x1.Caches) ([(⟨p1,([]:List M.Cached)⟩:M.Cache)])).bind fun x36=>((app 32 ((List.take v7.toNat x1.Caches)++[(⟨p1,([]:List M.Cached)⟩:M.Cache)]) (List.drop v7.toNat x1.Caches)).bind fun x49=>((bR p0).bind fun x59=>(if (!x59)=true then ((bX p0).bind fun x62=>(some (x62,false))) else ((bR (⟨(((List.take v7.toNat x1.Caches)++[(⟨p1,([]:List M.Cached)⟩:M.Cache)])++(List.drop v7.toNat x1.Caches))⟩:M.aE)).bind fun x64=>(if (!x64)=true then ((bX p0).bind fun x67=>(some (x67,false))) else (some ((⟨(((List.take v7.toNat x1.Caches)++[(⟨p1,([]:List M.Cached)⟩:M.Cache)])++(List.drop v7.toNat x1.Caches))⟩:M.aE),true)))))))))))) else ((xA x1.Caches v7).bind fun x69=>((app 32 ([]:List M.Cache) (List.take v7.toNat x1.Caches)).bind fun x71=>((app 32 (List.take v7.toNat x1.Caches) ([(⟨p1,([]:List M.Cached)⟩:M.Cache)])).bind fun x85=>((app 32 ((List.take v7.toNat x1.Caches)++[(⟨p1,([]:List M.Cached)⟩:M.Cache)]) (List.drop v7.toNat x1.Caches)).bind fun x98=>((bR p0).bind fun x108=>(if (!x108)=true then ((bX p0).bind fun x111=>(some (x111,false))) else ((bR (⟨(((List.take v7.toNat x1.Caches)++[(⟨p1,([]:List M.Cached)⟩:M.Cache)])++(List.drop v7.toNat x1.Caches))⟩:M.aE)).bind fun x113=>(if (!x113)=true then ((bX p0).bind fun x116=>(some (x116,false))) else (some ((⟨(((List.take v7.toNat x1.Caches)++[(⟨p1,([]:List M.Cached)⟩:M.Cache)])++(List.drop v7.toNat x1.Caches))⟩:M.aE),true))))))))))
def jD (p0:M.aE) (p1:Int):Option (M.aE×Bool):=
 (bX p0).bind fun x1=>(gW p0 p1 x1 fuel 0)
def dX (p0:M.aK) (x36:(M.Bucket×Bool)) (w5_7:ByteArray) (w5_8:Int) (w5_12:Int) (r50000:List M.aA) (r50001:List M.aH) (r50002:List Int):Nat→Int→ByteArray→Int→Int→Int→Int→Int→Int→Int→Int→List M.Item→List M.aT→Option (Int×Int×M.Bucket)
 | 0,_,_,_,_,_,_,_,_,_,_,_,_=>none
 | nL2+1,v10_L2,w5_13_L2,w5_15_L2,w5_16_L2,w5_17_L2,w5_18_L2,w5_20_L2,w5_21_L2,w7059000_1_L2,w7059000_2_L2,r50100_L2,r50101_L2=>if (decide (v10_L2>0))=true then ((dB (⟨p0.b,w7059000_1_L2,w7059000_2_L2⟩:M.aK)).bind fun x138=>((eC (⟨p0.b,x138.1,x138.2.1⟩:M.aK)).bind fun x140=>((aJ (⟨p0.b,x140.1,x140.2.1⟩:M.aK) 6).bind fun x142=>((hJ (⟨(⟨w5_13_L2,r50100_L2,w5_15_L2⟩:M.aA),w5_16_L2,(⟨(⟨w5_17_L2,w5_18_L2,r50101_L2⟩:M.aG),w5_20_L2,w5_21_L2⟩:M.Sync)⟩:M.aD) x138.2.2 x140.2.2 x142.2.2).bind fun x144=>(dX p0 x36 w5_7 w5_8 w5_12 r50000 r50001 r50002 nL2 (i64.wrap (v10_L2-1)) x144.1.Base.Name x144.1.Base.Auto x144.1.Seen x144.1.Sync.aG.Device x144.1.Sync.aG.Next x144.1.Sync.Tries x144.1.Sync.WaitUntil x142.1 x142.2.1 x144.1.Base.Items x144.1.Sync.aG.Writes))))) else ((bS (⟨p0.b,w7059000_1_L2,w7059000_2_L2⟩:M.aK) 2).bind fun x160=>(if x160.2.2=true then ((aJ (⟨p0.b,x160.1,x160.2.1⟩:M.aK) 3).bind fun x177=>((jD x36.1.Caches (i64.wrap (1+x177.2.2))).bind fun x192=>((aJ (⟨p0.b,x177.1,x177.2.1⟩:M.aK) 50).bind fun x194=>((bS (⟨p0.b,x194.1,x194.2.1⟩:M.aK) 4).bind fun x209=>(some (x209.1,x209.2.1,(⟨x36.1.Site,x36.1.Top,(⟨x36.1.Registration.Site,x36.1.Registration.Installing,x36.1.Registration.Waiting,(i64.wrap (1+x177.2.2))⟩:M.Registration),x192.1,(⟨(⟨w5_7,w5_8,r50000,r50001⟩:M.Database),r50002,w5_12⟩:M.bF),(⟨(⟨w5_13_L2,r50100_L2,w5_15_L2⟩:M.aA),w5_16_L2,(⟨(⟨w5_17_L2,w5_18_L2,r50101_L2⟩:M.aG),w5_20_L2,w5_21_L2⟩:M.Sync)⟩:M.aD),x194.2.2,x209.2.2⟩:M.Bucket))))))) else ((aJ (⟨p0.b,x160.1,x160.2.1⟩:M.aK) 50).bind fun x211=>((bS (⟨p0.b,x211.1,x211.2.1⟩:M.aK) 4).bind fun x226=>(some (x226.1,x226.2.1,(⟨x36.1.Site,x36.1.Top,x36.1.Registration,x36.1.Caches,(⟨(⟨w5_7,w5_8,r50000,r50001⟩:M.Database),r50002,w5_12⟩:M.bF),(⟨(⟨w5_13_L2,r50100_L2,w5_15_L2⟩:M.aA),w5_16_L2,(⟨(⟨w5_17_L2,w5_18_L2,r50101_L2⟩:M.aG),w5_20_L2,w5_21_L2⟩:M.Sync)⟩:M.aD),x211.2.2,x226.2.2⟩:M.Bucket)))))))
def dZ (p0:M.aK) (x36:(M.Bucket×Bool)):Nat→Int→ByteArray→Int→Int→Int→Int→List M.aA→List M.aH→List Int→Option (Int×Int×M.Bucket)
 | 0,_,_,_,_,_,_,_,_,_=>none
 | nL1+1,v7,w5_7,w5_8,w5_12,w7059000_1,w7059000_2,r50000,r50001,r50002=>if (decide (v7>0))=true then ((dB (⟨p0.b,w7059000_1,w7059000_2⟩:M.aK)).bind fun x82=>((fX (⟨p0.b,x82.1,x82.2.1⟩:M.aK)).bind fun x84=>((jM (⟨(⟨w5_7,w5_8,r50000,r50001⟩:M.Database),r50002,w5_12⟩:M.bF) ([(⟨1,(⟨#[110,111,116,101,115]⟩:ByteArray),x82.2.2,x84.2.2,(⟨#[]⟩:ByteArray)⟩:M.Op)])).bind fun x86=>(dZ p0 x36 nL1 (i64.wrap (v7-1)) x86.1.Base.Name x86.1.Base.Version x86.1.Count x84.1 x84.2.1 x86.1.Base.Stores x86.1.Base.Unique x86.1.Log)))) else ((aJ (⟨p0.b,w7059000_1,w7059000_2⟩:M.aK) 3).bind fun x107=>(dX p0 x36 w5_7 w5_8 w5_12 r50000 r50001 r50002 fuel x107.2.2 x36.1.aD.Base.Name x36.1.aD.Base.Auto x36.1.aD.Seen x36.1.aD.Sync.aG.Device x36.1.aD.Sync.aG.Next x36.1.aD.Sync.Tries x36.1.aD.Sync.WaitUntil x107.1 x107.2.1 x36.1.aD.Base.Items x36.1.aD.Sync.aG.Writes))
def pP (p0:M.aK):Option (Int×Int×M.Bucket):=
 (kA p0).bind fun x4=>(((bS (⟨p0.b,x4.1,x4.2.1⟩:M.aK) 3).bind fun x21=>(if x21.2.2=true then ((kA (⟨p0.b,x21.1,x21.2.1⟩:M.aK)).bind fun x32=>(some (x32.2.2,x32.1,x32.2.1))) else (some (x4.2.2,x21.1,x21.2.1)))).bind fun x12=>((aJ (⟨p0.b,x12.2.1,x12.2.2⟩:M.aK) 3).bind fun x34=>((mQ x4.2.2 x12.1 (i64.wrap (1+x34.2.2))).bind fun x36=>((aJ (⟨p0.b,x34.1,x34.2.1⟩:M.aK) 4).bind fun x51=>(dZ p0 x36 fuel x51.2.2 x36.1.bF.Base.Name x36.1.bF.Base.Version x36.1.bF.Count x51.1 x51.2.1 x36.1.bF.Base.Stores x36.1.bF.Base.Unique x36.1.bF.Log)))))
def sY (p0:M.aK):Option (Int×Int×ByteArray):=
 (fT p0 ([(⟨#[105,110,100,101,120]⟩:ByteArray),(⟨#[115,116,121,108,101]⟩:ByteArray),(⟨#[99,111,100,101]⟩:ByteArray),(⟨#[100,97,116,97]⟩:ByteArray)])).bind fun x4=>(some (x4.1,x4.2.1,x4.2.2))
def jX (p0:M.aK) (p1:Int):Nat→Int→List Int→Int→Int→Option (Int×Int×(List Int))
 | 0,_,_,_,_=>none
 | nL1+1,v6,r7,w7059000_1,w7059000_2=>if (decide (v6<p1))=true then ((lO (⟨p0.b,w7059000_1,w7059000_2⟩:M.aK)).bind fun x19=>((app 1 r7 ([(IntKind.u8.wrap x19.2.2)])).bind fun x21=>(jX p0 p1 nL1 (i64.wrap (v6+1)) (r7++[(IntKind.u8.wrap x19.2.2)]) x19.1 x19.2.1))) else (some (w7059000_1,w7059000_2,r7))
def pZ (p0:M.aK) (p1:Int):Option (Int×Int×(List Int)):=
 jX p0 p1 fuel 0 ([]:List Int) p0.i p0.h
def cG (p0:M.aK) (p1:List Int):Option (Int×Int×Int):=
 (aJ p0 (List.length p1:Int)).bind fun x5=>((idx p1 x5.2.2).bind fun x7=>(some (x5.1,x5.2.1,x7)))
def kO (p0:M.aK):Option (Int×Int×M.Response):=
 (aJ p0 3).bind fun x4=>((aJ (⟨p0.b,x4.1,x4.2.1⟩:M.aK) 4).bind fun x6=>((aJ (⟨p0.b,x6.1,x6.2.1⟩:M.aK) 6).bind fun x8=>((pZ (⟨p0.b,x8.1,x8.2.1⟩:M.aK) x8.2.2).bind fun x10=>((bS (⟨p0.b,x10.1,x10.2.1⟩:M.aK) 2).bind fun x12=>((aJ (⟨p0.b,x12.1,x12.2.1⟩:M.aK) 14).bind fun x22=>(if (x22.2.2==0)=true then ((cG (⟨p0.b,x22.1,x22.2.1⟩:M.aK) ([0,4,5])).bind fun x34=>(some (x34.1,x34.2.1,(⟨x34.2.2,200,(i64.wrap (1+x6.2.2)),x10.2.2,x12.2.2⟩:M.Response)))) else (if (x22.2.2==1)=true then ((cG (⟨p0.b,x22.1,x22.2.1⟩:M.aK) ([(-1),0,404,999,1000])).bind fun x37=>(some (x37.1,x37.2.1,(⟨(i64.wrap (1+x4.2.2)),x37.2.2,(i64.wrap (1+x6.2.2)),x10.2.2,x12.2.2⟩:M.Response)))) else (if (x22.2.2==2)=true then ((cG (⟨p0.b,x22.1,x22.2.1⟩:M.aK) ([60,61])).bind fun x40=>((pZ (⟨p0.b,x40.1,x40.2.1⟩:M.aK) x40.2.2).bind fun x42=>(some (x42.1,x42.2.1,(⟨(i64.wrap (1+x4.2.2)),200,(i64.wrap (1+x6.2.2)),x42.2.2,x12.2.2⟩:M.Response))))) else (some (x22.1,x22.2.1,(⟨(i64.wrap (1+x4.2.2)),200,(i64.wrap (1+x6.2.2)),x10.2.2,x12.2.2⟩:M.Response)))))))))))
def gM (p0:M.aE) (p1:Int):Nat→Int→Option Int
 | 0,_=>none
 | nL1+1,v5=>if (decide (v5<(List.length p0.Caches:Int)))=true then ((idx p0.Caches v5).bind fun x7=>(if (x7.Version==p1)=true then (some v5) else (gM p0 p1 nL1 (i64.wrap (v5+1))))) else (some (-1))
def pT (p0:M.aE) (p1:Int):Option Int:=
 gM p0 p1 fuel 0
def hY (p0:M.Cache) (p1:ByteArray) (p2:ByteArray):Nat→Int→Option Int
 | 0,_=>none
 | nL1+1,v7=>if (decide (v7<(List.length p0.Entries:Int)))=true then ((idx p0.Entries v7).bind fun x8=>(if (x8.Site.toList==p1.toList)=true then (if (x8.Path.toList==p2.toList)=true then (some v7) else (hY p0 p1 p2 nL1 (i64.wrap (v7+1)))) else (hY p0 p1 p2 nL1 (i64.wrap (v7+1))))) else (some (-1))
def sR (p0:M.Cache) (p1:ByteArray) (p2:ByteArray):Option Int:=
 hY p0 p1 p2 fuel 0
def iU (p0:M.aE) (p1:Int) (p2:ByteArray) (p3:ByteArray) (p4:M.Response):Option (M.aE×Bool):=
 (bX p0).bind fun x1=>((pT p0 p1).bind fun x3=>(if (decide (x3<0))=true then (some (x1,false)) else ((pX p4).bind fun x6=>((idx x1.Caches x3).bind fun x8=>((sR x8 p2 p3).bind fun x13=>(if (decide (x13≥0))=true then ((idx x8.Entries x13).bind fun x32=>((bR p0).bind fun x45=>(if (!x45)=true then ((bX p0).bind fun x48=>(some (x48,false))) else ((bR (⟨(List.set x1.Caches x3.toNat (⟨x8.Version,(List.set x8.Entries x13.toNat (⟨p2,p3,x6⟩:M.Cached))⟩:M.Cache))⟩:M.aE)).bind fun x50=>(if (!x50)=true then ((bX p0).bind fun x53=>(some (x53,false))) else (some ((⟨(List.set x1.Caches x3.toNat (⟨x8.Version,(List.set x8.Entries x13.toNat (⟨p2,p3,x6⟩:M.Cached))⟩:M.Cache))⟩:M.aE),true))))))) else ((app 88 x8.Entries ([(⟨p2,p3,x6⟩:M.Cached)])).bind fun x70=>((bR p0).bind fun x80=>(if (!x80)=true then ((bX p0).bind fun x83=>(some (x83,false))) else ((bR (⟨(List.set x1.Caches x3.toNat (⟨x8.Version,(x8.Entries++[(⟨p2,p3,x6⟩:M.Cached)])⟩:M.Cache))⟩:M.aE)).bind fun x85=>(if (!x85)=true then ((bX p0).bind fun x88=>(some (x88,false))) else (some ((⟨(List.set x1.Caches x3.toNat (⟨x8.Version,(x8.Entries++[(⟨p2,p3,x6⟩:M.Cached)])⟩:M.Cache))⟩:M.aE),true)))))))))))))
def iY (p0:M.aK):Nat→Int→Int→Int→List M.Cache→Option (Int×Int×M.aE)
 | 0,_,_,_,_=>none
 | nL2+1,v5_L2,w7059000_1_L2,w7059000_2_L2,r50100_L2=>if (decide (v5_L2>0))=true then ((aJ (⟨p0.b,w7059000_1_L2,w7059000_2_L2⟩:M.aK) 4).bind fun x58=>((kA (⟨p0.b,x58.1,x58.2.1⟩:M.aK)).bind fun x60=>((sY (⟨p0.b,x60.1,x60.2.1⟩:M.aK)).bind fun x62=>((kO (⟨p0.b,x62.1,x62.2.1⟩:M.aK)).bind fun x64=>((iU (⟨r50100_L2⟩:M.aE) (i64.wrap (1+x58.2.2)) x60.2.2 x62.2.2 x64.2.2).bind fun x66=>(iY p0 nL2 (i64.wrap (v5_L2-1)) x64.1 x64.2.1 x66.1.Caches)))))) else (some (w7059000_1_L2,w7059000_2_L2,(⟨r50100_L2⟩:M.aE)))
def kW (p0:M.aK):Nat→Int→Int→Int→List M.Cache→Option (Int×Int×M.aE)
 | 0,_,_,_,_=>none
 | nL1+1,v4,w7059000_1,w7059000_2,r50000=>if (decide (v4>0))=true then ((aJ (⟨p0.b,w7059000_1,w7059000_2⟩:M.aK) 4).bind fun x24=>((jD (⟨r50000⟩:M.aE) (i64.wrap (1+x24.2.2))).bind fun x26=>(kW p0 nL1 (i64.wrap (v4-1)) x24.1 x24.2.1 x26.1.Caches))) else ((aJ (⟨p0.b,w7059000_1,w7059000_2⟩:M.aK) 5).bind fun x37=>(iY p0 fuel x37.2.2 x37.1 x37.2.1 r50000))
def uB (p0:M.aK):Option (Int×Int×M.aE):=
 (aJ p0 3).bind fun x4=>(kW p0 fuel x4.2.2 x4.1 x4.2.1 ([]:List M.Cache))
def kX (x14:(Int×Int×Int)):Nat→Int→List M.Cache→Option (Int×Int×M.aE)
 | 0,_,_=>none
 | nL1+1,v4,r50000=>if (decide (v4≤4))=true then ((jD (⟨r50000⟩:M.aE) v4).bind fun x81=>(kX x14 nL1 (i64.wrap (v4+1)) x81.1.Caches)) else (some (x14.1,x14.2.1,(⟨r50000⟩:M.aE)))
def sC (p0:M.aK):Option (Int×Int×M.aE):=
 (uB p0).bind fun x4=>((aJ (⟨p0.b,x4.1,x4.2.1⟩:M.aK) 12).bind fun x14=>(if (x14.2.2==0)=true then ((cG (⟨p0.b,x14.1,x14.2.1⟩:M.aK) ([0,1,9,1000000000001])).bind fun x26=>((app 32 x4.2.2.Caches ([(⟨x26.2.2,([]:List M.Cached)⟩:M.Cache)])).bind fun x28=>(some (x26.1,x26.2.1,(⟨(x4.2.2.Caches++[(⟨x26.2.2,([]:List M.Cached)⟩:M.Cache)])⟩:M.aE))))) else (if (x14.2.2==1)=true then (if (decide ((List.length x4.2.2.Caches:Int)>0))=true then ((idx x4.2.2.Caches 0).bind fun x40=>((fT (⟨p0.b,x14.1,x14.2.1⟩:M.aK) ([(⟨#[105,110,100,101,120]⟩:ByteArray),(⟨#[]⟩:ByteArray),(⟨#[122,122]⟩:ByteArray)])).bind fun x56=>((kO (⟨p0.b,x56.1,x56.2.1⟩:M.aK)).bind fun x58=>((app 88 x40.Entries ([(⟨(⟨#[98,97,110,107]⟩:ByteArray),x56.2.2,x58.2.2⟩:M.Cached)])).bind fun x60=>(some (x58.1,x58.2.1,(⟨(List.set x4.2.2.Caches (0:Int).toNat (⟨x40.Version,(x40.Entries++[(⟨(⟨#[98,97,110,107]⟩:ByteArray),x56.2.2,x58.2.2⟩:M.Cached)])⟩:M.Cache))⟩:M.aE))))))) else (some (x14.1,x14.2.1,x4.2.2))) else (if (x14.2.2==2)=true then (kX x14 fuel 1 x4.2.2.Caches) else (some (x14.1,x14.2.1,x4.2.2))))))
def oH (p0:M.aK):Option (Int×Int×Int):=
 (aJ p0 9).bind fun x4=>((cG (⟨p0.b,x4.1,x4.2.1⟩:M.aK) ([0,1,2,(-1),255,256,(-1000000000000),1000000000000,x4.2.2])).bind fun x6=>(some (x6.1,x6.2.1,x6.2.2)))
def tV (p0:M.aK):Option (Int×Int×M.Key):=
 (fT p0 ([(⟨#[]⟩:ByteArray),(⟨#[97]⟩:ByteArray),(⟨#[97,98]⟩:ByteArray),(⟨#[98]⟩:ByteArray),(⟨#[122,57]⟩:ByteArray),(⟨#[97,98,99,100,101,102,103,104,105,106,107,108]⟩:ByteArray)])).bind fun x4=>((aJ (⟨p0.b,x4.1,x4.2.1⟩:M.aK) 3).bind fun x12=>(if (x12.2.2==0)=true then (some (x12.1,x12.2.1,(⟨2,0,x4.2.2⟩:M.Key))) else (if (x12.2.2==1)=true then ((oH (⟨p0.b,x12.1,x12.2.1⟩:M.aK)).bind fun x23=>(some (x23.1,x23.2.1,(⟨3,x23.2.2,x4.2.2⟩:M.Key)))) else ((oH (⟨p0.b,x12.1,x12.2.1⟩:M.aK)).bind fun x25=>(some (x25.1,x25.2.1,(⟨1,x25.2.2,(⟨#[]⟩:ByteArray)⟩:M.Key)))))))
def jQ (p0:M.aK):Nat→Int→ByteArray→Int→Int→Int→List M.Item→Option (Int×Int×M.aA)
 | 0,_,_,_,_,_,_=>none
 | nL1+1,v6,w5_0,w5_2,w7059000_1,w7059000_2,r50000=>if (decide (v6>0))=true then ((dB (⟨p0.b,w7059000_1,w7059000_2⟩:M.aK)).bind fun x25=>((fX (⟨p0.b,x25.1,x25.2.1⟩:M.aK)).bind fun x27=>((cZ (⟨w5_0,r50000,w5_2⟩:M.aA) x25.2.2 x27.2.2).bind fun x29=>(jQ p0 nL1 (i64.wrap (v6-1)) x29.1.Name x29.1.Auto x27.1 x27.2.1 x29.1.Items)))) else ((bS (⟨p0.b,w7059000_1,w7059000_2⟩:M.aK) 8).bind fun x40=>(if x40.2.2=true then ((tV (⟨p0.b,x40.1,x40.2.1⟩:M.aK)).bind fun x52=>((fX (⟨p0.b,x52.1,x52.2.1⟩:M.aK)).bind fun x54=>((cZ (⟨w5_0,r50000,w5_2⟩:M.aA) x52.2.2 x54.2.2).bind fun x56=>(some (x54.1,x54.2.1,x56.1))))) else (some (x40.1,x40.2.1,(⟨w5_0,r50000,w5_2⟩:M.aA)))))
def kB (p0:M.aK) (p1:ByteArray):Option (Int×Int×M.aA):=
 (cG p0 ([0,2,4,6])).bind fun x5=>(jQ p0 fuel x5.2.2 p1 0 x5.1 x5.2.1 ([]:List M.Item))
def jN (p0:M.Database) (p1:M.gK):Nat→Int→Option Int
 | 0,_=>none
 | nL1+1,v5=>if (decide (v5<(List.length p0.Unique:Int)))=true then ((idx p0.Unique v5).bind fun x8=>(if (x8.aA.toList==p1.aA.toList)=true then (if (x8.Field.toList==p1.Field.toList)=true then (some v5) else (jN p0 p1 nL1 (i64.wrap (v5+1)))) else (jN p0 p1 nL1 (i64.wrap (v5+1))))) else (some (-1))
def vJ (p0:M.Database) (p1:M.gK):Option Int:=
 jN p0 p1 fuel 0
def pJ (p0:M.Database) (p1:ByteArray) (r50000:List M.aA):Nat→Int→List M.aH→Option M.Database
 | 0,_,_=>none
 | nL2+1,v7,r50100=>if (decide (v7<(List.length p0.Unique:Int)))=true then ((idx p0.Unique v7).bind fun x44=>(if (!(x44.aA.toList==p1.toList))=true then ((app 32 r50100 ([x44])).bind fun x50=>(pJ p0 p1 r50000 nL2 (i64.wrap (v7+1)) (r50100++[x44]))) else (pJ p0 p1 r50000 nL2 (i64.wrap (v7+1)) r50100))) else (some (⟨p0.Name,p0.Version,r50000,r50100⟩:M.Database))
def pR (p0:M.Database) (p1:ByteArray):Nat→Int→List M.aA→Option M.Database
 | 0,_,_=>none
 | nL1+1,v6,r50000=>if (decide (v6<(List.length p0.Stores:Int)))=true then ((idx p0.Stores v6).bind fun x12=>(if (!(x12.Name.toList==p1.toList))=true then ((bH x12).bind fun x18=>((app 48 r50000 ([x18])).bind fun x20=>(pR p0 p1 nL1 (i64.wrap (v6+1)) (r50000++[x18])))) else (pR p0 p1 nL1 (i64.wrap (v6+1)) r50000))) else (pJ p0 p1 r50000 fuel 0 ([]:List M.aH))
def zT (p0:M.Database) (p1:ByteArray):Option M.Database:=
 pR p0 p1 fuel 0 ([]:List M.aA)
def jI (p0:M.Database) (p1:M.gK) (x1:M.Database):Nat→Int→Option (M.Database×Bool)
 | 0,_=>none
 | nL1+1,v9=>(if (decide (v9<(List.length p0.Stores:Int)))=true then ((idx p0.Stores v9).bind fun x53=>(some (Op.bytesLess x53.Name.toList p1.aA.toList))) else (some false)).bind fun x37=>(if x37=true then (jI p0 p1 x1 nL1 (i64.wrap (v9+1))) else ((xA x1.Stores v9).bind fun x59=>((app 48 ([]:List M.aA) (List.take v9.toNat x1.Stores)).bind fun x61=>((app 48 (List.take v9.toNat x1.Stores) ([(⟨p1.aA,([]:List M.Item),0⟩:M.aA)])).bind fun x77=>((app 48 ((List.take v9.toNat x1.Stores)++[(⟨p1.aA,([]:List M.Item),0⟩:M.aA)]) (List.drop v9.toNat x1.Stores)).bind fun x91=>(((bJ p0).bind fun x114=>(if (!x114)=true then (some true) else ((bJ (⟨x1.Name,x1.Version,(((List.take v9.toNat x1.Stores)++[(⟨p1.aA,([]:List M.Item),0⟩:M.aA)])++(List.drop v9.toNat x1.Stores)),x1.Unique⟩:M.Database)).bind fun x117=>(some (!x117))))).bind fun x102=>(if x102=true then ((dG p0).bind fun x120=>(some (x120,false))) else (some ((⟨x1.Name,x1.Version,(((List.take v9.toNat x1.Stores)++[(⟨p1.aA,([]:List M.Item),0⟩:M.aA)])++(List.drop v9.toNat x1.Stores)),x1.Unique⟩:M.Database),true)))))))))
def gU (p0:M.Database) (p1:M.gK):Option (M.Database×Bool):=
 (dG p0).bind fun x1=>((kV p0 p1.aA).bind fun x3=>((vJ p0 p1).bind fun x5=>((if (p1.Kind==1)=true then (some (decide (x3<0))) else (some false)).bind fun x7=>(if x7=true then (jI p0 p1 x1 fuel 0) else ((if (p1.Kind==2)=true then (some (decide (x3≥0))) else (some false)).bind fun x122=>(if x122=true then ((zT p0 p1.aA).bind fun x140=>(((bJ p0).bind fun x154=>(if (!x154)=true then (some true) else ((bJ x140).bind fun x157=>(some (!x157))))).bind fun x142=>(if x142=true then ((dG p0).bind fun x160=>(some (x160,false))) else (some (x140,true))))) else ((if (p1.Kind==3)=true then (if (decide (x3≥0))=true then (some (decide (x5<0))) else (some false)) else (some false)).bind fun x162=>(if x162=true then ((app 32 x1.Unique ([(⟨p1.aA,p1.Field⟩:M.aH)])).bind fun x180=>(((bJ p0).bind fun x203=>(if (!x203)=true then (some true) else ((bJ (⟨x1.Name,x1.Version,x1.Stores,(x1.Unique++[(⟨p1.aA,p1.Field⟩:M.aH)])⟩:M.Database)).bind fun x206=>(some (!x206))))).bind fun x191=>(if x191=true then ((dG p0).bind fun x209=>(some (x209,false))) else (some ((⟨x1.Name,x1.Version,x1.Stores,(x1.Unique++[(⟨p1.aA,p1.Field⟩:M.aH)])⟩:M.Database),true))))) else ((if (p1.Kind==4)=true then (some (decide (x5≥0))) else (some false)).bind fun x211=>(if x211=true then ((xA x1.Unique x5).bind fun x226=>((wM x1.Unique (i64.wrap (x5+1))).bind fun x228=>((app 32 (List.take x5.toNat x1.Unique) (List.drop (i64.wrap (x5+1)).toNat x1.Unique)).bind fun x230=>(((bJ p0).bind fun x253=>(if (!x253)=true then (some true) else ((bJ (⟨x1.Name,x1.Version,x1.Stores,((List.take x5.toNat x1.Unique)++(List.drop (i64.wrap (x5+1)).toNat x1.Unique))⟩:M.Database)).bind fun x256=>(some (!x256))))).bind fun x241=>(if x241=true then ((dG p0).bind fun x259=>(some (x259,false))) else (some ((⟨x1.Name,x1.Version,x1.Stores,((List.take x5.toNat x1.Unique)++(List.drop (i64.wrap (x5+1)).toNat x1.Unique))⟩:M.Database),true))))))) else (some (x1,false))))))))))))
def uK (p0:M.aK):Option (Int×Int×M.Database):=
 (kB p0 (⟨#[110,111,116,101,115]⟩:ByteArray)).bind fun x4=>((kB (⟨p0.b,x4.1,x4.2.1⟩:M.aK) (⟨#[116,97,103,115]⟩:ByteArray)).bind fun x6=>((aPg 48 ([x4.2.2,x6.2.2])).bind fun x8=>((bS (⟨p0.b,x6.1,x6.2.1⟩:M.aK) 2).bind fun x18=>(if x18.2.2=true then ((kB (⟨p0.b,x18.1,x18.2.1⟩:M.aK) (⟨#[108,105,115,116,115]⟩:ByteArray)).bind fun x30=>((app 48 ([x30.2.2]) ([x4.2.2,x6.2.2])).bind fun x32=>((bS (⟨p0.b,x30.1,x30.2.1⟩:M.aK) 3).bind fun x42=>(if x42.2.2=true then ((eC (⟨p0.b,x42.1,x42.2.1⟩:M.aK)).bind fun x54=>((gU (⟨(⟨#[97,112,112]⟩:ByteArray),1,([x30.2.2]++[x4.2.2,x6.2.2]),([]:List M.aH)⟩:M.Database) (⟨3,(⟨#[110,111,116,101,115]⟩:ByteArray),x54.2.2⟩:M.gK)).bind fun x56=>(some (x54.1,x54.2.1,x56.1)))) else (some (x42.1,x42.2.1,(⟨(⟨#[97,112,112]⟩:ByteArray),1,([x30.2.2]++[x4.2.2,x6.2.2]),([]:List M.aH)⟩:M.Database))))))) else ((bS (⟨p0.b,x18.1,x18.2.1⟩:M.aK) 3).bind fun x58=>(if x58.2.2=true then ((eC (⟨p0.b,x58.1,x58.2.1⟩:M.aK)).bind fun x70=>((gU (⟨(⟨#[97,112,112]⟩:ByteArray),1,[x4.2.2,x6.2.2],([]:List M.aH)⟩:M.Database) (⟨3,(⟨#[110,111,116,101,115]⟩:ByteArray),x70.2.2⟩:M.gK)).bind fun x72=>(some (x70.1,x70.2.1,x72.1)))) else (some (x58.1,x58.2.1,(⟨(⟨#[97,112,112]⟩:ByteArray),1,[x4.2.2,x6.2.2],([]:List M.aH)⟩:M.Database)))))))))
def xL (p0:M.aK):Option (Int×Int×M.Op):=
 (aJ p0 6).bind fun x4=>((fT (⟨p0.b,x4.1,x4.2.1⟩:M.aK) ([(⟨#[110,111,116,101,115]⟩:ByteArray),(⟨#[116,97,103,115]⟩:ByteArray),(⟨#[110,111,116,101,115]⟩:ByteArray),(⟨#[108,105,115,116,115]⟩:ByteArray)])).bind fun x6=>((dB (⟨p0.b,x6.1,x6.2.1⟩:M.aK)).bind fun x8=>(if ((i64.wrap (1+x4.2.2))==1)=true then ((fX (⟨p0.b,x8.1,x8.2.1⟩:M.aK)).bind fun x18=>(some (x18.1,x18.2.1,(⟨(i64.wrap (1+x4.2.2)),x6.2.2,x8.2.2,x18.2.2,(⟨#[]⟩:ByteArray)⟩:M.Op)))) else (if ((i64.wrap (1+x4.2.2))==2)=true then ((fX (⟨p0.b,x8.1,x8.2.1⟩:M.aK)).bind fun x21=>(some (x21.1,x21.2.1,(⟨(i64.wrap (1+x4.2.2)),x6.2.2,x8.2.2,x21.2.2,(⟨#[]⟩:ByteArray)⟩:M.Op)))) else (if ((i64.wrap (1+x4.2.2))==6)=true then ((eC (⟨p0.b,x8.1,x8.2.1⟩:M.aK)).bind fun x24=>(some (x24.1,x24.2.1,(⟨(i64.wrap (1+x4.2.2)),x6.2.2,x8.2.2,(⟨([]:List M.Field)⟩:M.aC),x24.2.2⟩:M.Op)))) else (if ((i64.wrap (1+x4.2.2))==5)=true then ((bS (⟨p0.b,x8.1,x8.2.1⟩:M.aK) 2).bind fun x27=>(if x27.2.2=true then ((dB (⟨p0.b,x27.1,x27.2.1⟩:M.aK)).bind fun x38=>(some (x38.1,x38.2.1,(⟨1,x6.2.2,x38.2.2,(⟨([]:List M.Field)⟩:M.aC),(⟨#[]⟩:ByteArray)⟩:M.Op)))) else (some (x27.1,x27.2.1,(⟨(i64.wrap (1+x4.2.2)),x6.2.2,(⟨0,0,(⟨#[]⟩:ByteArray)⟩:M.Key),(⟨([]:List M.Field)⟩:M.aC),(⟨#[]⟩:ByteArray)⟩:M.Op))))) else (some (x8.1,x8.2.1,(⟨(i64.wrap (1+x4.2.2)),x6.2.2,x8.2.2,(⟨([]:List M.Field)⟩:M.aC),(⟨#[]⟩:ByteArray)⟩:M.Op)))))))))
def mO (p0:M.aK):Nat→Int→List M.Op→Int→Int→Option (Int×Int×(List M.Op))
 | 0,_,_,_,_=>none
 | nL1+1,v6,r7,w7059000_1,w7059000_2=>if (decide (v6>0))=true then ((xL (⟨p0.b,w7059000_1,w7059000_2⟩:M.aK)).bind fun x26=>((app 96 r7 ([x26.2.2])).bind fun x28=>(mO p0 nL1 (i64.wrap (v6-1)) (r7++[x26.2.2]) x26.1 x26.2.1))) else (some (w7059000_1,w7059000_2,r7))
def wC (p0:M.aK) (p1:Int):Option (Int×Int×(List M.Op)):=
 (aJ p0 (i64.wrap (p1+1))).bind fun x11=>(mO p0 fuel x11.2.2 ([]:List M.Op) x11.1 x11.2.1)
def jY (p0:M.aK):Nat→Int→ByteArray→Int→Int→Int→Int→List M.aA→List M.aH→List Int→Option (Int×Int×M.bF)
 | 0,_,_,_,_,_,_,_,_,_=>none
 | nL1+1,v4,w3_0,w3_1,w3_5,w7059000_1,w7059000_2,r50000,r50001,r50002=>if (decide (v4>0))=true then ((wC (⟨p0.b,w7059000_1,w7059000_2⟩:M.aK) 3).bind fun x39=>((jM (⟨(⟨w3_0,w3_1,r50000,r50001⟩:M.Database),r50002,w3_5⟩:M.bF) x39.2.2).bind fun x41=>(jY p0 nL1 (i64.wrap (v4-1)) x41.1.Base.Name x41.1.Base.Version x41.1.Count x39.1 x39.2.1 x41.1.Base.Stores x41.1.Base.Unique x41.1.Log))) else (some (w7059000_1,w7059000_2,(⟨(⟨w3_0,w3_1,r50000,r50001⟩:M.Database),r50002,w3_5⟩:M.bF)))
def sX (p0:M.aK):Option (Int×Int×M.bF):=
 (uK p0).bind fun x4=>((aJ (⟨p0.b,x4.1,x4.2.1⟩:M.aK) 5).bind fun x15=>(jY p0 fuel x15.2.2 x4.2.2.Name x4.2.2.Version 0 x15.1 x15.2.1 x4.2.2.Stores x4.2.2.Unique ([]:List Int)))
def uM (p0:M.aK) (p1:List Int):Option (Int×Int×(List Int)):=
 (app 1 ([]:List Int) p1).bind fun x5=>((aJ p0 6).bind fun x12=>(if (x12.2.2==0)=true then (if (decide ((List.length p1:Int)>0))=true then ((aJ (⟨p0.b,x12.1,x12.2.1⟩:M.aK) (List.length p1:Int)).bind fun x22=>((aJ (⟨p0.b,x22.1,x22.2.1⟩:M.aK) 256).bind fun x24=>((idx p1 x22.2.2).bind fun x26=>(some (x24.1,x24.2.1,(List.set p1 x22.2.2.toNat (IntKind.u8.wrap x24.2.2))))))) else (some (x12.1,x12.2.1,p1))) else (if (x12.2.2==1)=true then ((aJ (⟨p0.b,x12.1,x12.2.1⟩:M.aK) (i64.wrap ((List.length p1:Int)+1))).bind fun x32=>((xA p1 x32.2.2).bind fun x34=>(some (x32.1,x32.2.1,(List.take x32.2.2.toNat p1))))) else (if (x12.2.2==2)=true then ((cG (⟨p0.b,x12.1,x12.2.1⟩:M.aK) ([0,1,128,255])).bind fun x37=>((app 1 p1 ([(IntKind.u8.wrap x37.2.2)])).bind fun x39=>(some (x37.1,x37.2.1,(p1++[(IntKind.u8.wrap x37.2.2)]))))) else (some (x12.1,x12.2.1,p1))))))
def sD (p0:M.aK):Option (Int×Int×M.bF):=
 (sX p0).bind fun x4=>((aJ (⟨p0.b,x4.1,x4.2.1⟩:M.aK) 10).bind fun x16=>(if (x16.2.2==0)=true then (some (x16.1,x16.2.1,(⟨x4.2.2.Base,x4.2.2.Log,(i64.wrap (x4.2.2.Count+1))⟩:M.bF))) else (if (x16.2.2==1)=true then ((uM (⟨p0.b,x16.1,x16.2.1⟩:M.aK) x4.2.2.Log).bind fun x31=>(some (x31.1,x31.2.1,(⟨x4.2.2.Base,x31.2.2,x4.2.2.Count⟩:M.bF)))) else (if (x16.2.2==2)=true then ((mW x4.2.2.Log x4.2.2.Count ([1,2])).bind fun x34=>(some (x16.1,x16.2.1,(⟨x4.2.2.Base,x34.1,(i64.wrap (x4.2.2.Count+1))⟩:M.bF)))) else (some (x16.1,x16.2.1,x4.2.2))))))
def lX (p0:M.Server) (p1:Int):Nat→Int→Option Int
 | 0,_=>none
 | nL1+1,v5=>if (decide (v5<(List.length p0.aP:Int)))=true then ((idx p0.aP v5).bind fun x7=>(if (x7.Device==p1)=true then (some x7.Seq) else (lX p0 p1 nL1 (i64.wrap (v5+1))))) else (some 0)
def nV (p0:M.Server) (p1:Int):Option Int:=
 lX p0 p1 fuel 0
def iE (p0:M.Server):Option M.Server:=
 (bH p0.aA).bind fun x1=>((app 16 ([]:List M.aP) p0.aP).bind fun x3=>((app 72 ([]:List M.aT) p0.Changes).bind fun x5=>(some (⟨x1,p0.aP,p0.Changes⟩:M.Server))))
def fR (p0:M.Server):Nat→Int→Option Bool
 | 0,_=>none
 | nL2+1,v4=>if (decide (v4<(List.length p0.Changes:Int)))=true then ((idx p0.Changes v4).bind fun x29=>((fP x29).bind fun x34=>(if (!x34)=true then (some false) else (fR p0 nL2 (i64.wrap (v4+1)))))) else ((iF p0.aA).bind fun x37=>(if x37=true then (if (p0.aA.Name.toList==(⟨#[110,111,116,101,115]⟩:ByteArray).toList)=true then (some (decide ((List.length p0.aP:Int)≤60))) else (some false)) else (some false)))
def eQ (p0:M.Server):Nat→Int→Option Bool
 | 0,_=>none
 | nL1+1,v3=>if (decide (v3<(List.length p0.aP:Int)))=true then ((idx p0.aP v3).bind fun x6=>((bB x6.Device 1 1000000).bind fun x11=>(if (!x11)=true then (some false) else ((bB x6.Seq 0 1000000).bind fun x14=>(if (!x14)=true then (some false) else (if (decide (v3>0))=true then ((idx p0.aP (i64.wrap (v3-1))).bind fun x18=>(if (decide (x18.Device≥x6.Device))=true then (some false) else (eQ p0 nL1 (i64.wrap (v3+1))))) else (eQ p0 nL1 (i64.wrap (v3+1))))))))) else (fR p0 fuel 0)
def mK (p0:M.Server):Option Bool:=
 eQ p0 fuel 0
def lZ (p0:List M.aP) (p1:Int) (p2:Int):Nat→Int→Option (List M.aP)
 | 0,_=>none
 | nL1+1,v8=>if (decide (v8<(List.length p0:Int)))=true then ((idx p0 v8).bind fun x17=>(if (decide (x17.Device<p1))=true then (lZ p0 p1 p2 nL1 (i64.wrap (v8+1))) else (if (x17.Device==p1)=true then (some (List.set p0 v8.toNat (⟨x17.Device,p2⟩:M.aP))) else ((xA p0 v8).bind fun x24=>((app 16 ([]:List M.aP) (List.take v8.toNat p0)).bind fun x26=>((app 16 (List.take v8.toNat p0) ([(⟨p1,p2⟩:M.aP)])).bind fun x28=>((wM p0 v8).bind fun x30=>((app 16 ((List.take v8.toNat p0)++[(⟨p1,p2⟩:M.aP)]) (List.drop v8.toNat p0)).bind fun x32=>(some (((List.take v8.toNat p0)++[(⟨p1,p2⟩:M.aP)])++(List.drop v8.toNat p0))))))))))) else ((xA p0 v8).bind fun x34=>((app 16 ([]:List M.aP) (List.take v8.toNat p0)).bind fun x36=>((app 16 (List.take v8.toNat p0) ([(⟨p1,p2⟩:M.aP)])).bind fun x38=>((wM p0 v8).bind fun x40=>((app 16 ((List.take v8.toNat p0)++[(⟨p1,p2⟩:M.aP)]) (List.drop v8.toNat p0)).bind fun x42=>(some (((List.take v8.toNat p0)++[(⟨p1,p2⟩:M.aP)])++(List.drop v8.toNat p0))))))))
def sW (p0:List M.aP) (p1:Int) (p2:Int):Option (List M.aP):=
 (app 16 ([]:List M.aP) p0).bind fun x1=>(lZ p0 p1 p2 fuel 0)
def bZ (p0:M.Server) (p1:M.aT):Option (M.Server×Int):=
 (iE p0).bind fun x1=>((mK p0).bind fun x3=>(if (!x3)=true then (some (x1,4)) else ((fP p1).bind fun x6=>(if (!x6)=true then (some (x1,4)) else ((sW p0.aP p1.Device p1.Seq).bind fun x9=>((nV p0 p1.Device).bind fun x11=>(if (decide ((List.length x9:Int)>60))=true then (some (x1,4)) else (if (decide (p1.Seq≤x11))=true then (some (x1,2)) else (if (decide (p1.Seq>(i64.wrap (x11+1))))=true then (some (x1,3)) else ((gI p0.aA p1).bind fun x16=>(if x16.2=true then ((app 72 x1.Changes ([p1])).bind fun x19=>(some ((⟨x16.1,x9,(x1.Changes++[p1])⟩:M.Server),1))) else ((app 72 x1.Changes ([p1])).bind fun x31=>(some ((⟨x1.aA,x9,(x1.Changes++[p1])⟩:M.Server),1))))))))))))))
def gS (p0:M.aK):Nat→Int→ByteArray→Int→Int→Int→List M.Item→List M.aP→List M.aT→Option (Int×Int×M.Server)
 | 0,_,_,_,_,_,_,_,_=>none
 | nL1+1,v4,w3_0,w3_2,w7059000_1,w7059000_2,r50000,r50001,r50002=>if (decide (v4>0))=true then ((aJ (⟨p0.b,w7059000_1,w7059000_2⟩:M.aK) 3).bind fun x37=>((nV (⟨(⟨w3_0,r50000,w3_2⟩:M.aA),r50001,r50002⟩:M.Server) (i64.wrap (1+x37.2.2))).bind fun x51=>((dB (⟨p0.b,x37.1,x37.2.1⟩:M.aK)).bind fun x53=>((eC (⟨p0.b,x53.1,x53.2.1⟩:M.aK)).bind fun x55=>((aJ (⟨p0.b,x55.1,x55.2.1⟩:M.aK) 6).bind fun x57=>((bZ (⟨(⟨w3_0,r50000,w3_2⟩:M.aA),r50001,r50002⟩:M.Server) (⟨(i64.wrap (1+x37.2.2)),(i64.wrap (x51+1)),x53.2.2,x55.2.2,x57.2.2⟩:M.aT)).bind fun x59=>(gS p0 nL1 (i64.wrap (v4-1)) x59.1.aA.Name x59.1.aA.Auto x57.1 x57.2.1 x59.1.aA.Items x59.1.aP x59.1.Changes))))))) else (some (w7059000_1,w7059000_2,(⟨(⟨w3_0,r50000,w3_2⟩:M.aA),r50001,r50002⟩:M.Server)))
def pK (p0:M.aK):Option (Int×Int×M.Server):=
 (kB p0 (⟨#[110,111,116,101,115]⟩:ByteArray)).bind fun x4=>((aJ (⟨p0.b,x4.1,x4.2.1⟩:M.aK) 6).bind fun x14=>(gS p0 fuel x14.2.2 x4.2.2.Name x4.2.2.Auto x14.1 x14.2.1 x4.2.2.Items ([]:List M.aP) ([]:List M.aT)))
def oK (p0:M.Server) (p1:Int):Option (M.aD×Bool):=
 (iX p1).bind fun x1=>((bH p0.aA).bind fun x3=>(if (!x1.2)=true then (some ((⟨(⟨(⟨#[]⟩:ByteArray),([]:List M.Item),0⟩:M.aA),0,(⟨(⟨0,0,([]:List M.aT)⟩:M.aG),0,0⟩:M.Sync)⟩:M.aD),false)) else ((mK p0).bind fun x6=>(if (!x6)=true then (some ((⟨(⟨(⟨#[]⟩:ByteArray),([]:List M.Item),0⟩:M.aA),0,(⟨(⟨0,0,([]:List M.aT)⟩:M.aG),0,0⟩:M.Sync)⟩:M.aD),false)) else ((iW (⟨x3,(List.length p0.Changes:Int),(⟨x1.1,0,0⟩:M.Sync)⟩:M.aD)).bind fun x9=>(if (!x9)=true then (some ((⟨(⟨(⟨#[]⟩:ByteArray),([]:List M.Item),0⟩:M.aA),0,(⟨(⟨0,0,([]:List M.aT)⟩:M.aG),0,0⟩:M.Sync)⟩:M.aD),false)) else (some ((⟨x3,(List.length p0.Changes:Int),(⟨x1.1,0,0⟩:M.Sync)⟩:M.aD),true))))))))
def sH (p0:M.aG):Option (M.aT×Bool):=
 if ((List.length p0.Writes:Int)==0)=true then (some ((⟨0,0,(⟨0,0,(⟨#[]⟩:ByteArray)⟩:M.Key),(⟨#[]⟩:ByteArray),0⟩:M.aT),false)) else ((idx p0.Writes 0).bind fun x2=>(some (x2,true)))
def jL (p0:M.aG) (p1:Int) (x1:M.aG):Nat→Int→Option (M.aG×Int)
 | 0,_=>none
 | nL1+1,v7=>if (decide (v7<(List.length p0.Writes:Int)))=true then ((idx p0.Writes v7).bind fun x17=>(if (decide (x17.Seq≤p1))=true then (jL p0 p1 x1 nL1 (i64.wrap (v7+1))) else ((wM p0.Writes v7).bind fun x23=>((app 72 ([]:List M.aT) (List.drop v7.toNat p0.Writes)).bind fun x25=>(some ((⟨x1.Device,x1.Next,(List.drop v7.toNat p0.Writes)⟩:M.aG),v7)))))) else ((wM p0.Writes v7).bind fun x27=>((app 72 ([]:List M.aT) (List.drop v7.toNat p0.Writes)).bind fun x29=>(some ((⟨x1.Device,x1.Next,(List.drop v7.toNat p0.Writes)⟩:M.aG),v7))))
def cA (p0:M.aG) (p1:Int):Option (M.aG×Int):=
 (lR p0).bind fun x1=>((eW p0).bind fun x3=>(if (!x3)=true then (some (x1,0)) else (jL p0 p1 x1 fuel 0)))
def eS (p0:Int) (p1:Int):Option Int:=
 if (decide (p1<p0))=true then (some p1) else (some p0)
def jT (p0:Int):Nat→Int→Int→Option Int
 | 0,_,_=>none
 | nL1+1,v3,v4=>if (decide (v4<p0))=true then (if (decide (v3<64))=true then (jT p0 nL1 (i64.wrap (2*v3)) (i64.wrap (v4+1))) else (some v3)) else (some v3)
def eZ (p0:Int):Option Int:=
 jT p0 fuel 1 0
def rR (p0:M.Sync) (p1:M.Server) (p2:Int) (p3:Int):Option (M.Sync×M.Server×Int):=
 (nU p0).bind fun x1=>((sH p0.aG).bind fun x3=>(if (!x3.2)=true then ((iE p1).bind fun x6=>(some (x1,x6,0))) else ((eW p0.aG).bind fun x8=>(if (!x8)=true then ((iE p1).bind fun x11=>(some (x1,x11,0))) else (if (decide (p2<p0.WaitUntil))=true then ((iE p1).bind fun x14=>(some (x1,x14,0))) else ((bB p2 0 1000000000000).bind fun x16=>(if (!x16)=true then ((iE p1).bind fun x19=>(some (x1,x19,0))) else ((iE p1).bind fun x21=>(if (p3==0)=true then ((bZ x21 x3.1).bind fun x24=>(if (p3==3)=true then ((bZ x24.1 x3.1).bind fun x46=>(if (x46.2==1)=true then ((cA p0.aG x3.1.Seq).bind fun x49=>(some ((⟨x49.1,0,0⟩:M.Sync),x46.1,1))) else (if (x46.2==2)=true then ((cA p0.aG x3.1.Seq).bind fun x52=>(some ((⟨x52.1,0,0⟩:M.Sync),x46.1,1))) else ((eS 59 p0.Tries).bind fun x54=>((eS 60 (i64.wrap (x54+1))).bind fun x56=>((eZ x56).bind fun x58=>(some ((⟨x1.aG,x56,(i64.wrap (p2+x58))⟩:M.Sync),x46.1,2)))))))) else (if (x24.2==1)=true then ((cA p0.aG x3.1.Seq).bind fun x81=>(some ((⟨x81.1,0,0⟩:M.Sync),x24.1,1))) else (if (x24.2==2)=true then ((cA p0.aG x3.1.Seq).bind fun x84=>(some ((⟨x84.1,0,0⟩:M.Sync),x24.1,1))) else ((eS 59 p0.Tries).bind fun x86=>((eS 60 (i64.wrap (x86+1))).bind fun x88=>((eZ x88).bind fun x90=>(some ((⟨x1.aG,x88,(i64.wrap (p2+x90))⟩:M.Sync),x24.1,2))))))))) else (if (p3==2)=true then ((bZ x21 x3.1).bind fun x93=>(if (p3==3)=true then ((bZ x93.1 x3.1).bind fun x115=>(if (x115.2==1)=true then ((cA p0.aG x3.1.Seq).bind fun x118=>(some ((⟨x118.1,0,0⟩:M.Sync),x115.1,1))) else (if (x115.2==2)=true then ((cA p0.aG x3.1.Seq).bind fun x121=>(some ((⟨x121.1,0,0⟩:M.Sync),x115.1,1))) else ((eS 59 p0.Tries).bind fun x123=>((eS 60 (i64.wrap (x123+1))).bind fun x125=>((eZ x125).bind fun x127=>(some ((⟨x1.aG,x125,(i64.wrap (p2+x127))⟩:M.Sync),x115.1,2)))))))) else ((eS 59 p0.Tries).bind fun x149=>((eS 60 (i64.wrap (x149+1))).bind fun x151=>((eZ x151).bind fun x153=>(some ((⟨x1.aG,x151,(i64.wrap (p2+x153))⟩:M.Sync),x93.1,2))))))) else (if (p3==3)=true then ((bZ x21 x3.1).bind fun x156=>((bZ x156.1 x3.1).bind fun x177=>(if (x177.2==1)=true then ((cA p0.aG x3.1.Seq).bind fun x180=>(some ((⟨x180.1,0,0⟩:M.Sync),x177.1,1))) else (if (x177.2==2)=true then ((cA p0.aG x3.1.Seq).bind fun x183=>(some ((⟨x183.1,0,0⟩:M.Sync),x177.1,1))) else ((eS 59 p0.Tries).bind fun x185=>((eS 60 (i64.wrap (x185+1))).bind fun x187=>((eZ x187).bind fun x189=>(some ((⟨x1.aG,x187,(i64.wrap (p2+x189))⟩:M.Sync),x177.1,2))))))))) else ((eS 59 p0.Tries).bind fun x207=>((eS 60 (i64.wrap (x207+1))).bind fun x209=>((eZ x209).bind fun x211=>(some ((⟨x1.aG,x209,(i64.wrap (p2+x211))⟩:M.Sync),x21,2))))))))))))))))
def nN (p0:M.aD) (p1:M.Server):Option (M.aD×Int):=
 (nW p0).bind fun x1=>((iW p0).bind fun x3=>(if (!x3)=true then (some (x1,0)) else ((mK p1).bind fun x6=>(if (!x6)=true then (some (x1,0)) else (if (decide (p0.Seen>(List.length p1.Changes:Int)))=true then (some (x1,0)) else ((wM p1.Changes p0.Seen).bind fun x10=>((oQ p0.Base (List.drop p0.Seen.toNat p1.Changes)).bind fun x12=>((nV p1 p0.Sync.aG.Device).bind fun x14=>((cA p0.Sync.aG x14).bind fun x16=>(some ((⟨x12,(List.length p1.Changes:Int),(⟨x16.1,x1.Sync.Tries,x1.Sync.WaitUntil⟩:M.Sync)⟩:M.aD),(i64.wrap ((List.length p1.Changes:Int)-p0.Seen)))))))))))))
def dR (p0:M.aK):Nat→Int→ByteArray→Int→Int→Int→Int→Int→Int→Int→Int→ByteArray→Int→List M.Item→List M.aT→List M.Item→List M.aP→List M.aT→Option (Int×Int×M.aD×M.Server)
 | 0,_,_,_,_,_,_,_,_,_,_,_,_,_,_,_,_,_=>none
 | nL1+1,v7,w5_0,w5_2,w5_3,w5_4,w5_5,w5_7,w5_8,w7059000_1,w7059000_2,w4_0,w4_2,r50000,r50001,r50002,r50003,r50004=>if (decide (v7>0))=true then ((aJ (⟨p0.b,w7059000_1,w7059000_2⟩:M.aK) 5).bind fun x57=>(if (x57.2.2==0)=true then ((dB (⟨p0.b,x57.1,x57.2.1⟩:M.aK)).bind fun x78=>((eC (⟨p0.b,x78.1,x78.2.1⟩:M.aK)).bind fun x80=>((aJ (⟨p0.b,x80.1,x80.2.1⟩:M.aK) 6).bind fun x82=>((hJ (⟨(⟨w5_0,r50000,w5_2⟩:M.aA),w5_3,(⟨(⟨w5_4,w5_5,r50001⟩:M.aG),w5_7,w5_8⟩:M.Sync)⟩:M.aD) x78.2.2 x80.2.2 x82.2.2).bind fun x84=>(dR p0 nL1 (i64.wrap (v7-1)) x84.1.Base.Name x84.1.Base.Auto x84.1.Seen x84.1.Sync.aG.Device x84.1.Sync.aG.Next x84.1.Sync.Tries x84.1.Sync.WaitUntil x82.1 x82.2.1 w4_0 w4_2 x84.1.Base.Items x84.1.Sync.aG.Writes r50002 r50003 r50004))))) else (if (x57.2.2==1)=true then ((dB (⟨p0.b,x57.1,x57.2.1⟩:M.aK)).bind fun x104=>((eC (⟨p0.b,x104.1,x104.2.1⟩:M.aK)).bind fun x106=>((aJ (⟨p0.b,x106.1,x106.2.1⟩:M.aK) 6).bind fun x108=>((hJ (⟨(⟨w5_0,r50000,w5_2⟩:M.aA),w5_3,(⟨(⟨w5_4,w5_5,r50001⟩:M.aG),w5_7,w5_8⟩:M.Sync)⟩:M.aD) x104.2.2 x106.2.2 x108.2.2).bind fun x110=>(dR p0 nL1 (i64.wrap (v7-1)) x110.1.Base.Name x110.1.Base.Auto x110.1.Seen x110.1.Sync.aG.Device x110.1.Sync.aG.Next x110.1.Sync.Tries x110.1.Sync.WaitUntil x108.1 x108.2.1 w4_0 w4_2 x110.1.Base.Items x110.1.Sync.aG.Writes r50002 r50003 r50004))))) else (if (x57.2.2==2)=true then ((aJ (⟨p0.b,x57.1,x57.2.1⟩:M.aK) 4).bind fun x130=>((rR (⟨(⟨w5_4,w5_5,r50001⟩:M.aG),w5_7,w5_8⟩:M.Sync) (⟨(⟨w4_0,r50002,w4_2⟩:M.aA),r50003,r50004⟩:M.Server) w5_8 x130.2.2).bind fun x132=>(dR p0 nL1 (i64.wrap (v7-1)) w5_0 w5_2 w5_3 x132.1.aG.Device x132.1.aG.Next x132.1.Tries x132.1.WaitUntil x130.1 x130.2.1 x132.2.1.aA.Name x132.2.1.aA.Auto r50000 x132.1.aG.Writes x132.2.1.aA.Items x132.2.1.aP x132.2.1.Changes))) else (if (x57.2.2==3)=true then ((aJ (⟨p0.b,x57.1,x57.2.1⟩:M.aK) 3).bind fun x160=>((nV (⟨(⟨w4_0,r50002,w4_2⟩:M.aA),r50003,r50004⟩:M.Server) (i64.wrap (1+x160.2.2))).bind fun x180=>((dB (⟨p0.b,x160.1,x160.2.1⟩:M.aK)).bind fun x182=>((eC (⟨p0.b,x182.1,x182.2.1⟩:M.aK)).bind fun x184=>((aJ (⟨p0.b,x184.1,x184.2.1⟩:M.aK) 6).bind fun x186=>((bZ (⟨(⟨w4_0,r50002,w4_2⟩:M.aA),r50003,r50004⟩:M.Server) (⟨(i64.wrap (1+x160.2.2)),(i64.wrap (x180+1)),x182.2.2,x184.2.2,x186.2.2⟩:M.aT)).bind fun x188=>(dR p0 nL1 (i64.wrap (v7-1)) w5_0 w5_2 w5_3 w5_4 w5_5 w5_7 w5_8 x186.1 x186.2.1 x188.1.aA.Name x188.1.aA.Auto r50000 r50001 x188.1.aA.Items x188.1.aP x188.1.Changes))))))) else ((nN (⟨(⟨w5_0,r50000,w5_2⟩:M.aA),w5_3,(⟨(⟨w5_4,w5_5,r50001⟩:M.aG),w5_7,w5_8⟩:M.Sync)⟩:M.aD) (⟨(⟨w4_0,r50002,w4_2⟩:M.aA),r50003,r50004⟩:M.Server)).bind fun x207=>(dR p0 nL1 (i64.wrap (v7-1)) x207.1.Base.Name x207.1.Base.Auto x207.1.Seen x207.1.Sync.aG.Device x207.1.Sync.aG.Next x207.1.Sync.Tries x207.1.Sync.WaitUntil x57.1 x57.2.1 w4_0 w4_2 x207.1.Base.Items x207.1.Sync.aG.Writes r50002 r50003 r50004))))))) else (some (w7059000_1,w7059000_2,(⟨(⟨w5_0,r50000,w5_2⟩:M.aA),w5_3,(⟨(⟨w5_4,w5_5,r50001⟩:M.aG),w5_7,w5_8⟩:M.Sync)⟩:M.aD),(⟨(⟨w4_0,r50002,w4_2⟩:M.aA),r50003,r50004⟩:M.Server)))
def tH (p0:M.aK):Option (Int×Int×M.aD×M.Server):=
 (pK p0).bind fun x4=>((oK x4.2.2 4).bind fun x18=>((aJ (⟨p0.b,x4.1,x4.2.1⟩:M.aK) 6).bind fun x20=>(dR p0 fuel x20.2.2 x18.1.Base.Name x18.1.Base.Auto x18.1.Seen x18.1.Sync.aG.Device x18.1.Sync.aG.Next x18.1.Sync.Tries x18.1.Sync.WaitUntil x20.1 x20.2.1 x4.2.2.aA.Name x4.2.2.aA.Auto x18.1.Base.Items x18.1.Sync.aG.Writes x4.2.2.aA.Items x4.2.2.aP x4.2.2.Changes)))
def tR (p0:M.aK):Option (Int×Int×M.Key):=
 (tV p0).bind fun x4=>((aJ (⟨p0.b,x4.1,x4.2.1⟩:M.aK) 10).bind fun x13=>(if (x13.2.2==0)=true then ((aJ (⟨p0.b,x13.1,x13.2.1⟩:M.aK) 5).bind fun x24=>(some (x24.1,x24.2.1,(⟨x24.2.2,x4.2.2.N,x4.2.2.Text⟩:M.Key)))) else (if (x13.2.2==1)=true then ((cG (⟨p0.b,x13.1,x13.2.1⟩:M.aK) ([(-1000000000001),1000000000001,5])).bind fun x27=>(some (x27.1,x27.2.1,(⟨x4.2.2.Kind,x27.2.2,x4.2.2.Text⟩:M.Key)))) else (if (x13.2.2==2)=true then ((fT (⟨p0.b,x13.1,x13.2.1⟩:M.aK) ([(⟨#[65]⟩:ByteArray),(⟨#[97,32,98]⟩:ByteArray),(⟨#[97,98,99,100,101,102,103,104,105,106,107,108,109]⟩:ByteArray),(⟨#[120,39]⟩:ByteArray)])).bind fun x30=>(some (x30.1,x30.2.1,(⟨x4.2.2.Kind,x4.2.2.N,x30.2.2⟩:M.Key)))) else (some (x13.1,x13.2.1,x4.2.2))))))
def mB (x14:(Int×Int×Int)):Nat→Int→List M.Field→Option (Int×Int×M.aC)
 | 0,_,_=>none
 | nL1+1,v28,r50000=>if (decide (v28<((6:Nat):Int)))=true then ((idx ([(⟨#[100]⟩:ByteArray),(⟨#[101]⟩:ByteArray),(⟨#[102]⟩:ByteArray),(⟨#[103]⟩:ByteArray),(⟨#[104]⟩:ByteArray),(⟨#[105]⟩:ByteArray)]) v28).bind fun x58=>((eX (⟨r50000⟩:M.aC) x58 1).bind fun x63=>(mB x14 nL1 (i64.wrap (v28+1)) x63.1.Fields))) else (some (x14.1,x14.2.1,(⟨r50000⟩:M.aC)))
def vX (p0:M.aK):Option (Int×Int×M.aC):=
 (fX p0).bind fun x4=>((aJ (⟨p0.b,x4.1,x4.2.1⟩:M.aK) 12).bind fun x14=>(if (x14.2.2==0)=true then ((fT (⟨p0.b,x14.1,x14.2.1⟩:M.aK) ([(⟨#[]⟩:ByteArray),(⟨#[65]⟩:ByteArray),(⟨#[122,122,122,122,122,122,122,122,122]⟩:ByteArray),(⟨#[122]⟩:ByteArray),(⟨#[97]⟩:ByteArray)])).bind fun x26=>((cG (⟨p0.b,x26.1,x26.2.1⟩:M.aK) ([0,(-1),1000000000,1000000001])).bind fun x28=>((app 24 x4.2.2.Fields ([(⟨x26.2.2,x28.2.2⟩:M.Field)])).bind fun x30=>(some (x28.1,x28.2.1,(⟨(x4.2.2.Fields++[(⟨x26.2.2,x28.2.2⟩:M.Field)])⟩:M.aC)))))) else (if (x14.2.2==1)=true then (mB x14 fuel 0 x4.2.2.Fields) else (some (x14.1,x14.2.1,x4.2.2)))))
def rH (p0:M.aA) (p1:M.aC):Option (M.aA×M.Key×Bool):=
 if (decide (p0.Auto≥1000000))=true then ((bH p0).bind fun x2=>(some (x2,(⟨0,0,(⟨#[]⟩:ByteArray)⟩:M.Key),false))) else ((pW p0 (⟨1,(i64.wrap (p0.Auto+1)),(⟨#[]⟩:ByteArray)⟩:M.Key) p1).bind fun x4=>(if (!x4.2)=true then ((bH p0).bind fun x7=>(some (x7,(⟨0,0,(⟨#[]⟩:ByteArray)⟩:M.Key),false))) else (some (x4.1,(⟨1,(i64.wrap (p0.Auto+1)),(⟨#[]⟩:ByteArray)⟩:M.Key),true))))
def oZ (x14:(Int×Int×Int)):Nat→ByteArray→Int→List M.Item→Option (Int×Int×M.aA)
 | 0,_,_,_=>none
 | nL1+1,w3_0,w3_2,r50000=>if (decide ((List.length r50000:Int)<16))=true then ((iF (⟨w3_0,r50000,w3_2⟩:M.aA)).bind fun x48=>(if x48=true then ((rH (⟨w3_0,r50000,w3_2⟩:M.aA) (⟨([]:List M.Field)⟩:M.aC)).bind fun x51=>(oZ x14 nL1 x51.1.Name x51.1.Auto x51.1.Items)) else (some (x14.1,x14.2.1,(⟨w3_0,r50000,w3_2⟩:M.aA))))) else (some (x14.1,x14.2.1,(⟨w3_0,r50000,w3_2⟩:M.aA)))
def vO (p0:M.aK):Option (Int×Int×M.aA):=
 (kB p0 (⟨#[110,111,116,101,115]⟩:ByteArray)).bind fun x4=>((aJ (⟨p0.b,x4.1,x4.2.1⟩:M.aK) 12).bind fun x14=>(if (x14.2.2==0)=true then ((fT (⟨p0.b,x14.1,x14.2.1⟩:M.aK) ([(⟨#[]⟩:ByteArray),(⟨#[81]⟩:ByteArray),(⟨#[97,98,99,100,101,102,103,104,105]⟩:ByteArray)])).bind fun x26=>(some (x26.1,x26.2.1,(⟨x26.2.2,x4.2.2.Items,x4.2.2.Auto⟩:M.aA)))) else (if (x14.2.2==1)=true then ((cG (⟨p0.b,x14.1,x14.2.1⟩:M.aK) ([(-1),999999,1000000,1000001])).bind fun x29=>(some (x29.1,x29.2.1,(⟨x4.2.2.Name,x4.2.2.Items,x29.2.2⟩:M.aA)))) else (if (x14.2.2==2)=true then ((tR (⟨p0.b,x14.1,x14.2.1⟩:M.aK)).bind fun x32=>((vX (⟨p0.b,x32.1,x32.2.1⟩:M.aK)).bind fun x34=>((app 56 x4.2.2.Items ([(⟨x32.2.2,x34.2.2⟩:M.Item)])).bind fun x36=>(some (x34.1,x34.2.1,(⟨x4.2.2.Name,(x4.2.2.Items++[(⟨x32.2.2,x34.2.2⟩:M.Item)]),x4.2.2.Auto⟩:M.aA)))))) else (if (x14.2.2==3)=true then (oZ x14 fuel x4.2.2.Name x4.2.2.Auto x4.2.2.Items) else (some (x14.1,x14.2.1,x4.2.2)))))))
def gO (p0:M.aK):Nat→Int→Int→Int→Int→Int→List M.aT→Option (Int×Int×M.aG)
 | 0,_,_,_,_,_,_=>none
 | nL1+1,v7,w5_0,w5_1,w7059000_1,w7059000_2,r50000=>if (decide (v7>0))=true then ((dB (⟨p0.b,w7059000_1,w7059000_2⟩:M.aK)).bind fun x28=>((eC (⟨p0.b,x28.1,x28.2.1⟩:M.aK)).bind fun x30=>((aJ (⟨p0.b,x30.1,x30.2.1⟩:M.aK) 6).bind fun x32=>((eV (⟨w5_0,w5_1,r50000⟩:M.aG) x28.2.2 x30.2.2 x32.2.2).bind fun x34=>(gO p0 nL1 (i64.wrap (v7-1)) x34.1.Device x34.1.Next x32.1 x32.2.1 x34.1.Writes))))) else ((bS (⟨p0.b,w7059000_1,w7059000_2⟩:M.aK) 3).bind fun x45=>(if x45.2.2=true then ((aJ (⟨p0.b,x45.1,x45.2.1⟩:M.aK) 4).bind fun x57=>((cA (⟨w5_0,w5_1,r50000⟩:M.aG) x57.2.2).bind fun x59=>(some (x57.1,x57.2.1,x59.1)))) else (some (x45.1,x45.2.1,(⟨w5_0,w5_1,r50000⟩:M.aG)))))
def pS (p0:M.aK) (p1:Int):Option (Int×Int×M.aG):=
 (iX p1).bind fun x5=>((cG p0 ([0,2,4,6])).bind fun x7=>(gO p0 fuel x7.2.2 x5.1.Device x5.1.Next x7.1 x7.2.1 x5.1.Writes))
def mZ (p0:M.aK):Nat→Int→Int→Int→Int→List M.aT→Option (Int×Int×M.aG)
 | 0,_,_,_,_,_=>none
 | nL1+1,w3_0,w3_1,w7059000_1,w7059000_2,r50000=>if (decide ((List.length r50000:Int)<20))=true then ((eW (⟨w3_0,w3_1,r50000⟩:M.aG)).bind fun x50=>(if x50=true then ((dB (⟨p0.b,w7059000_1,w7059000_2⟩:M.aK)).bind fun x53=>((eV (⟨w3_0,w3_1,r50000⟩:M.aG) x53.2.2 (⟨#[97]⟩:ByteArray) 1).bind fun x55=>(mZ p0 nL1 x55.1.Device x55.1.Next x53.1 x53.2.1 x55.1.Writes))) else (some (w7059000_1,w7059000_2,(⟨w3_0,w3_1,r50000⟩:M.aG))))) else (some (w7059000_1,w7059000_2,(⟨w3_0,w3_1,r50000⟩:M.aG)))
def tZ (p0:M.aK):Option (Int×Int×M.aG):=
 (aJ p0 3).bind fun x4=>((pS (⟨p0.b,x4.1,x4.2.1⟩:M.aK) (i64.wrap (1+x4.2.2))).bind fun x6=>((aJ (⟨p0.b,x6.1,x6.2.1⟩:M.aK) 12).bind fun x16=>(if (x16.2.2==0)=true then ((cG (⟨p0.b,x16.1,x16.2.1⟩:M.aK) ([0,9,1000001])).bind fun x28=>(some (x28.1,x28.2.1,(⟨x28.2.2,x6.2.2.Next,x6.2.2.Writes⟩:M.aG)))) else (if (x16.2.2==1)=true then ((cG (⟨p0.b,x16.1,x16.2.1⟩:M.aK) ([0,3,1000000,1000001])).bind fun x31=>(some (x31.1,x31.2.1,(⟨x6.2.2.Device,x31.2.2,x6.2.2.Writes⟩:M.aG)))) else (if (x16.2.2==2)=true then ((tR (⟨p0.b,x16.1,x16.2.1⟩:M.aK)).bind fun x34=>((cG (⟨p0.b,x34.1,x34.2.1⟩:M.aK) ([0,(-1)])).bind fun x36=>((app 72 x6.2.2.Writes ([(⟨x6.2.2.Device,x6.2.2.Next,x34.2.2,(⟨#[97]⟩:ByteArray),x36.2.2⟩:M.aT)])).bind fun x38=>(some (x36.1,x36.2.1,(⟨x6.2.2.Device,x6.2.2.Next,(x6.2.2.Writes++[(⟨x6.2.2.Device,x6.2.2.Next,x34.2.2,(⟨#[97]⟩:ByteArray),x36.2.2⟩:M.aT)])⟩:M.aG)))))) else (if (x16.2.2==3)=true then (mZ p0 fuel x6.2.2.Device x6.2.2.Next x16.1 x16.2.1 x6.2.2.Writes) else (some (x16.1,x16.2.1,x6.2.2))))))))
def uH (p0:M.aK):Option (Int×Int×M.aD):=
 (tH p0).bind fun x4=>((aJ (⟨p0.b,x4.1,x4.2.1⟩:M.aK) 12).bind fun x15=>(if (x15.2.2==0)=true then ((vO (⟨p0.b,x15.1,x15.2.1⟩:M.aK)).bind fun x28=>(some (x28.1,x28.2.1,(⟨x28.2.2,x4.2.2.1.Seen,x4.2.2.1.Sync⟩:M.aD)))) else (if (x15.2.2==1)=true then ((cG (⟨p0.b,x15.1,x15.2.1⟩:M.aK) ([(-1),9,1000000000001])).bind fun x31=>(some (x31.1,x31.2.1,(⟨x4.2.2.1.Base,x31.2.2,x4.2.2.1.Sync⟩:M.aD)))) else (if (x15.2.2==2)=true then ((tZ (⟨p0.b,x15.1,x15.2.1⟩:M.aK)).bind fun x34=>(some (x34.1,x34.2.1,(⟨x4.2.2.1.Base,x4.2.2.1.Seen,(⟨x34.2.2,x4.2.2.1.Sync.Tries,x4.2.2.1.Sync.WaitUntil⟩:M.Sync)⟩:M.aD)))) else (some (x15.1,x15.2.1,x4.2.2.1))))))
set_option maxRecDepth 40000 in
def jC (x4:(Int×Int×M.Bucket)) (x19:(Int×Int×Int)):Nat→List Int→Option (Int×Int×M.Bucket)
 | 0,_=>none
 | nL1+1,r5=>if (decide ((List.length r5:Int)<2600))=true then ((app 1 r5 ([0])).bind fun x65=>(jC x4 x19 nL1 (r5++[0]))) else (some (x19.1,x19.2.1,(⟨x4.2.2.Site,x4.2.2.Top,x4.2.2.Registration,x4.2.2.Caches,(⟨x4.2.2.bF.Base,r5,x4.2.2.bF.Count⟩:M.bF),x4.2.2.aD,x4.2.2.LastUsed,x4.2.2.Persistent⟩:M.Bucket)))
set_option maxRecDepth 40000 in
theorem aH9:type_of% @jC.eq_2:=@jC.eq_2
def sE (p0:M.aK):Option (Int×Int×M.Bucket):=
 (pP p0).bind fun x4=>((aJ (⟨p0.b,x4.1,x4.2.1⟩:M.aK) 14).bind fun x19=>(if (x19.2.2==0)=true then ((fT (⟨p0.b,x19.1,x19.2.1⟩:M.aK) ([(⟨#[]⟩:ByteArray),(⟨#[122,122,122]⟩:ByteArray)])).bind fun x36=>(some (x36.1,x36.2.1,(⟨x36.2.2,x4.2.2.Top,x4.2.2.Registration,x4.2.2.Caches,x4.2.2.bF,x4.2.2.aD,x4.2.2.LastUsed,x4.2.2.Persistent⟩:M.Bucket)))) else (if (x19.2.2==1)=true then ((sC (⟨p0.b,x19.1,x19.2.1⟩:M.aK)).bind fun x39=>(some (x39.1,x39.2.1,(⟨x4.2.2.Site,x4.2.2.Top,x4.2.2.Registration,x39.2.2,x4.2.2.bF,x4.2.2.aD,x4.2.2.LastUsed,x4.2.2.Persistent⟩:M.Bucket)))) else (if (x19.2.2==2)=true then ((sD (⟨p0.b,x19.1,x19.2.1⟩:M.aK)).bind fun x42=>(some (x42.1,x42.2.1,(⟨x4.2.2.Site,x4.2.2.Top,x4.2.2.Registration,x4.2.2.Caches,x42.2.2,x4.2.2.aD,x4.2.2.LastUsed,x4.2.2.Persistent⟩:M.Bucket)))) else (if (x19.2.2==3)=true then ((uH (⟨p0.b,x19.1,x19.2.1⟩:M.aK)).bind fun x45=>(some (x45.1,x45.2.1,(⟨x4.2.2.Site,x4.2.2.Top,x4.2.2.Registration,x4.2.2.Caches,x4.2.2.bF,x45.2.2,x4.2.2.LastUsed,x4.2.2.Persistent⟩:M.Bucket)))) else (if (x19.2.2==4)=true then ((cG (⟨p0.b,x19.1,x19.2.1⟩:M.aK) ([(-1),1000000000001])).bind fun x48=>(some (x48.1,x48.2.1,(⟨x4.2.2.Site,x4.2.2.Top,x4.2.2.Registration,x4.2.2.Caches,x4.2.2.bF,x4.2.2.aD,x48.2.2,x4.2.2.Persistent⟩:M.Bucket)))) else (if (x19.2.2==5)=true then (jC x4 x19 fuel x4.2.2.bF.Log) else (some (x19.1,x19.2.1,x4.2.2)))))))))
def jH (p0:List Int):Option (M.Bucket×M.bF):=
 (tQ p0).bind fun x1=>((sE x1).bind fun x10=>((sD (⟨x1.b,x10.1,x10.2.1⟩:M.aK)).bind fun x27=>(some (x10.2.2,x27.2.2))))
def bA (p0:Int) (p1:Int) (p2:Int):Option Bool:=
 if (decide (p1≤p0))=true then (some (decide (p0≤p2))) else (some false)
def fA (p0:ByteArray) (p1:Int) (p2:Bool):Nat→Int→Option Bool
 | 0,_=>none
 | nL1+1,v7=>if (decide (v7<(p0.size:Int)))=true then ((aNn p0 v7).bind fun x7=>(if (decide ((x7.toNat:Int)≥97))=true then (if (decide ((x7.toNat:Int)≤122))=true then (fA p0 p1 p2 nL1 (i64.wrap (v7+1))) else (if p2=true then (if (!((x7.toNat:Int)==47))=true then (some false) else (fA p0 p1 p2 nL1 (i64.wrap (v7+1)))) else (some false))) else (if p2=true then (if (!((x7.toNat:Int)==47))=true then (some false) else (fA p0 p1 p2 nL1 (i64.wrap (v7+1)))) else (some false)))) else ((bA (p0.size:Int) 1 p1).bind fun x17=>(some x17))
def uC (p0:ByteArray) (p1:Int) (p2:Bool):Option Bool:=
 fA p0 p1 p2 fuel 0
def dO (p0:ByteArray):Option Bool:=
 (uC p0 8 false).bind fun x1=>(some x1)
def cO (p0:M.Registration):Nat→Int→Int→Option Bool
 | 0,_,_=>none
 | nL1+1,v3,v14=>if (decide (v14<((3:Nat):Int)))=true then ((idx ([p0.Active,p0.Waiting,p0.Installing]) v14).bind fun x18=>((bA x18 0 1000000000000).bind fun x23=>(if (!x23)=true then (some false) else (if (x18 != 0)=true then (if (decide (x18≤v3))=true then (some false) else (cO p0 nL1 (if x18>v3 then x18 else v3) (i64.wrap (v14+1)))) else (cO p0 nL1 (if x18>v3 then x18 else v3) (i64.wrap (v14+1))))))) else ((dO p0.Site).bind fun x28=>(some x28))
def nL (p0:M.Registration):Option Bool:=
 cO p0 fuel 0 0
def pI (p0:M.Cached) (c0:ByteArray) (c1:ByteArray):Option Bool:=
 if (p0.Site.toList==c0.toList)=true then (some (p0.Path.toList==c1.toList)) else (some false)
def bQ (p0:List M.Cached) (p1:M.Cached→Option Bool):Nat→Int→Option Int
 | 0,_=>none
 | nL1+1,v8=>if (decide (v8<(List.length p0:Int)))=true then ((idx p0 v8).bind fun x7=>((p1 x7).bind fun x12=>(if x12=true then (some v8) else (bQ p0 p1 nL1 (i64.wrap (v8+1)))))) else (some (-1))
def gC (p0:List M.Cached) (p1:M.Cached→Option Bool):Option Int:=
 bQ p0 p1 fuel 0
def pV (p0:M.Cache) (p1:ByteArray) (p2:ByteArray):Option Int:=
 (gC p0.Entries (fun z0=>pI z0 p1 p2)).bind fun x1=>(some x1)
def lT (p0:M.Response):Option Bool:=
 (bA p0.Type_ 1 4).bind fun x1=>(if x1=true then ((bA p0.Status 0 999).bind fun x4=>(if x4=true then ((bA p0.Version 0 1000000000000).bind fun x7=>(if x7=true then (some (decide ((List.length p0.Body:Int)≤60))) else (some false))) else (some false))) else (some false))
def dP (x8:M.Cache) (k25:Int→Option Bool):Nat→Int→Option Bool
 | 0,_=>none
 | nL2+1,v44_L2=>if (decide (v44_L2<(List.length x8.Entries:Int)))=true then ((idx x8.Entries v44_L2).bind fun x38=>((dO x38.Site).bind fun x43=>(if (!x43)=true then (some false) else ((dO x38.Path).bind fun x46=>(if (!x46)=true then (some false) else ((pV x8 x38.Site x38.Path).bind fun x49=>(if (x49 != v44_L2)=true then (some false) else ((lT x38.Response).bind fun x52=>(if (!x52)=true then (some false) else (dP x8 k25 nL2 (i64.wrap (v44_L2+1)))))))))))) else (k25 v44_L2)
def dE (x8:M.Cache) (k57:Int→Option Bool):Nat→Int→Option Bool
 | 0,_=>none
 | nL3+1,v44_L3=>if (decide (v44_L3<(List.length x8.Entries:Int)))=true then ((idx x8.Entries v44_L3).bind fun x70=>((dO x70.Site).bind fun x75=>(if (!x75)=true then (some false) else ((dO x70.Path).bind fun x78=>(if (!x78)=true then (some false) else ((pV x8 x70.Site x70.Path).bind fun x81=>(if (x81 != v44_L3)=true then (some false) else ((lT x70.Response).bind fun x84=>(if (!x84)=true then (some false) else (dE x8 k57 nL3 (i64.wrap (v44_L3+1)))))))))))) else (k57 v44_L3)
def dN (p0:M.aE):Nat→Int→Option Bool
 | 0,_=>none
 | nL1+1,v10=>if (decide (v10<(List.length p0.Caches:Int)))=true then ((idx p0.Caches v10).bind fun x8=>((bA x8.Version 1 1000000000000).bind fun x13=>(if (!x13)=true then (some false) else (if (decide (v10>0))=true then ((idx p0.Caches (i64.wrap (v10-1))).bind fun x17=>(if (decide (x8.Version≤x17.Version))=true then (some false) else (if (decide ((List.length x8.Entries:Int)>12))=true then (some false) else (dP x8 (fun (v44_L2:Int)=>dN p0 nL1 (i64.wrap (v10+1))) fuel 0)))) else (if (decide ((List.length x8.Entries:Int)>12))=true then (some false) else (dE x8 (fun (v44_L3:Int)=>dN p0 nL1 (i64.wrap (v10+1))) fuel 0)))))) else (some (decide ((List.length p0.Caches:Int)≤4)))
def oD (p0:M.aE):Option Bool:=
 dN p0 fuel 0
def dA (p0:ByteArray):Nat→Int→Option Bool
 | 0,_=>none
 | nL1+1,v3=>if (decide (v3<(p0.size:Int)))=true then ((aNn p0 v3).bind fun x5=>(if (decide ((x5.toNat:Int)≥97))=true then (if (decide ((x5.toNat:Int)≤122))=true then (dA p0 nL1 (i64.wrap (v3+1))) else (if (decide ((x5.toNat:Int)≥48))=true then (if (!(decide ((x5.toNat:Int)≤57)))=true then (some false) else (dA p0 nL1 (i64.wrap (v3+1)))) else (some false))) else (if (decide ((x5.toNat:Int)≥48))=true then (if (!(decide ((x5.toNat:Int)≤57)))=true then (some false) else (dA p0 nL1 (i64.wrap (v3+1)))) else (some false)))) else (some (decide ((p0.size:Int)≤12)))
def pG (p0:ByteArray):Option Bool:=
 dA p0 fuel 0
def nD (p0:M.Key):Option Bool:=
 (bA p0.Kind 1 3).bind fun x1=>(if (!x1)=true then (some false) else ((bA p0.N (-1000000000000) 1000000000000).bind fun x4=>(if (!x4)=true then (some false) else ((pG p0.Text).bind fun x7=>(if (!x7)=true then (some false) else (if (p0.Kind==2)=true then (if (!(p0.N != 0))=true then (if (p0.Kind==1)=true then (some (!(!(p0.Text.toList==(⟨#[]⟩:ByteArray).toList)))) else (some true)) else (some false)) else (if (p0.Kind==1)=true then (some (!(!(p0.Text.toList==(⟨#[]⟩:ByteArray).toList)))) else (some true))))))))
def eR (p0:M.aC):Nat→Int→Option Bool
 | 0,_=>none
 | nL1+1,v8=>if (decide (v8<(List.length p0.Fields:Int)))=true then ((idx p0.Fields v8).bind fun x8=>((dO x8.Name).bind fun x13=>(if (!x13)=true then (some false) else ((bA x8.N 0 1000000000).bind fun x16=>(if (!x16)=true then (some false) else (if (decide (v8>0))=true then ((idx p0.Fields (i64.wrap (v8-1))).bind fun x20=>(if (Op.bytesLess x8.Name.toList x20.Name.toList||x8.Name.toList==x20.Name.toList)=true then (some false) else (eR p0 nL1 (i64.wrap (v8+1))))) else (eR p0 nL1 (i64.wrap (v8+1))))))))) else (some (decide ((List.length p0.Fields:Int)≤6)))
def oI (p0:M.aC):Option Bool:=
 eR p0 fuel 0
def nB (p0:Int) (p1:Int):Option Int:=
 if (decide (p0<p1))=true then (some (-1)) else (if (decide (p0>p1))=true then (some 1) else (some 0))
def jE (p0:ByteArray) (p1:ByteArray):Option Int:=some (Lib.compareBytes p0.data.toList p1.data.toList)
def sB (p0:ByteArray) (p1:ByteArray):Option Int:=
 (jE p0 p1).bind fun x1=>(some x1)
def kL (p0:M.Key) (p1:M.Key):Option Int:=
 (nD p0).bind fun x1=>(if (!x1)=true then (some 0) else ((nD p1).bind fun x4=>(if (!x4)=true then (some 0) else ((nB p0.Kind p1.Kind).bind fun x7=>(if (x7 != 0)=true then (some x7) else ((nB p0.N p1.N).bind fun x10=>(if (x10 != 0)=true then (some x10) else ((sB p0.Text p1.Text).bind fun x13=>(some x13)))))))))
def fH (p0:M.aA):Nat→Int→Option Bool
 | 0,_=>none
 | nL1+1,v8=>if (decide (v8<(List.length p0.Items:Int)))=true then ((idx p0.Items v8).bind fun x8=>((nD x8.Key).bind fun x13=>(if (!x13)=true then (some false) else ((oI x8.aC).bind fun x16=>(if (!x16)=true then (some false) else (if (decide (v8>0))=true then ((idx p0.Items (i64.wrap (v8-1))).bind fun x20=>((kL x20.Key x8.Key).bind fun x25=>(if (decide (x25≥0))=true then (some false) else (fH p0 nL1 (i64.wrap (v8+1)))))) else (fH p0 nL1 (i64.wrap (v8+1))))))))) else ((dO p0.Name).bind fun x28=>(if x28=true then (if (decide ((List.length p0.Items:Int)≤16))=true then ((bA p0.Auto 0 1000000).bind fun x32=>(some x32)) else (some false)) else (some false)))
def pY (p0:M.aA):Option Bool:=
 fH p0 fuel 0
def nE (p0:M.aA) (c0:ByteArray):Option Bool:=
 some (p0.Name.toList==c0.toList)
def bV (p0:List M.aA) (p1:M.aA→Option Bool):Nat→Int→Option Int
 | 0,_=>none
 | nL1+1,v8=>if (decide (v8<(List.length p0:Int)))=true then ((idx p0 v8).bind fun x7=>((p1 x7).bind fun x12=>(if x12=true then (some v8) else (bV p0 p1 nL1 (i64.wrap (v8+1)))))) else (some (-1))
def hH (p0:List M.aA) (p1:M.aA→Option Bool):Option Int:=
 bV p0 p1 fuel 0
def pH (p0:M.Database) (p1:ByteArray):Option Int:=
 (hH p0.Stores (fun z0=>nE z0 p1)).bind fun x1=>(some x1)
def cR (p0:List M.aH) (p1:M.aH):Nat→Int→Option Int
 | 0,_=>none
 | nL1+1,v8=>if (decide (v8<(List.length p0:Int)))=true then ((idx p0 v8).bind fun x8=>(if ((p1.aA.toList==x8.aA.toList)&&(p1.Field.toList==x8.Field.toList))=true then (some v8) else (cR p0 p1 nL1 (i64.wrap (v8+1))))) else (some (-1))
def iL (p0:List M.aH) (p1:M.aH):Option Int:=
 cR p0 p1 fuel 0
def fL (p0:List M.aH) (p1:M.aH):Option Bool:=
 (iL p0 p1).bind fun x1=>(some (decide (x1≥0)))
def pF (p0:M.Field) (c0:ByteArray):Option Bool:=
 some (p0.Name.toList==c0.toList)
def bU (p0:List M.Field) (p1:M.Field→Option Bool):Nat→Int→Option Int
 | 0,_=>none
 | nL1+1,v8=>if (decide (v8<(List.length p0:Int)))=true then ((idx p0 v8).bind fun x7=>((p1 x7).bind fun x12=>(if x12=true then (some v8) else (bU p0 p1 nL1 (i64.wrap (v8+1)))))) else (some (-1))
def hT (p0:List M.Field) (p1:M.Field→Option Bool):Option Int:=
 bU p0 p1 fuel 0
def vG (p0:M.aC) (p1:ByteArray):Option Int:=
 (hT p0.Fields (fun z0=>pF z0 p1)).bind fun x1=>(some x1)
def iM (p0:M.aC) (p1:ByteArray):Option (Int×Bool):=
 (vG p0 p1).bind fun x1=>(if (decide (x1<0))=true then (some (0,false)) else ((idx p0.Fields x1).bind fun x4=>(some (x4.N,true))))
def nF (p0:M.Item) (p1:M.Item) (p2:ByteArray):Option Bool:=
 (iM p0.aC p2).bind fun x1=>((iM p1.aC p2).bind fun x3=>(if (decide (x1.1<x3.1))=true then (some true) else (if (x1.1==x3.1)=true then ((kL p0.Key p1.Key).bind fun x7=>(some (decide (x7<0)))) else (some false))))
def oP (p0:M.aC):Option M.aC:=
 (app 24 ([]:List M.Field) p0.Fields).bind fun x1=>(some p0)
def oT (p0:M.Item):Option M.Item:=
 (oP p0.aC).bind fun x1=>(some (⟨p0.Key,x1⟩:M.Item))
def jS (p1:ByteArray) (r11:List M.Item) (x15:M.Item) (k24:Int→Option (List M.Item)):Nat→Int→Option (List M.Item)
 | 0,_=>none
 | nL2+1,v10_L2=>if (decide (v10_L2>0))=true then ((idx r11 (i64.wrap (v10_L2-1))).bind fun x36=>((nF x15 x36 p1).bind fun x41=>(if x41=true then (jS p1 r11 x15 k24 nL2 (i64.wrap (v10_L2-1))) else (k24 v10_L2)))) else (k24 v10_L2)
def gX (p0:M.aA) (p1:ByteArray):Nat→Int→List M.Item→Option (List M.Item)
 | 0,_,_=>none
 | nL1+1,v15,r11=>if (decide (v15<(List.length p0.Items:Int)))=true then ((idx p0.Items v15).bind fun x15=>((iM x15.aC p1).bind fun x20=>(if (!x20.2)=true then (gX p0 p1 nL1 (i64.wrap (v15+1)) r11) else (jS p1 r11 x15 (fun (v10_L2:Int)=>(oT x15).bind fun x55=>((aLm 56 r11 v10_L2 ([x55])).bind fun x57=>(gX p0 p1 nL1 (i64.wrap (v15+1)) (List.take v10_L2.toNat r11++([x55]++List.drop v10_L2.toNat r11))))) fuel (List.length r11:Int))))) else (some r11)
def sV (p0:M.aA) (p1:ByteArray):Option (List M.Item):=
 gX p0 p1 fuel 0 ([]:List M.Item)
def dV (p1:ByteArray) (x1:(List M.Item)):Nat→Int→Option (M.Key×M.Key×Bool)
 | 0,_=>none
 | nL1+1,v8=>if (decide (v8<(List.length x1:Int)))=true then ((idx x1 (i64.wrap (v8-1))).bind fun x13=>((iM x13.aC p1).bind fun x18=>((idx x1 v8).bind fun x20=>((iM x20.aC p1).bind fun x25=>(if (x18.1==x25.1)=true then (some (x13.Key,x20.Key,true)) else (dV p1 x1 nL1 (i64.wrap (v8+1)))))))) else (some ((⟨0,0,(⟨#[]⟩:ByteArray)⟩:M.Key),(⟨0,0,(⟨#[]⟩:ByteArray)⟩:M.Key),false))
def fU (p0:M.aA) (p1:ByteArray):Option (M.Key×M.Key×Bool):=
 (sV p0 p1).bind fun x1=>(dV p1 x1 fuel 1)
def dM (p0:M.Database):Nat→Int→Option Bool
 | 0,_=>none
 | nL2+1,v64=>if (decide (v64<(List.length p0.Unique:Int)))=true then ((idx p0.Unique v64).bind fun x38=>((pH p0 x38.aA).bind fun x43=>(if (decide (x43<0))=true then (some false) else ((dO x38.Field).bind fun x46=>(if (!x46)=true then (some false) else ((xA p0.Unique v64).bind fun x49=>((fL (List.take v64.toNat p0.Unique) x38).bind fun x51=>(if x51=true then (some false) else ((idx p0.Stores x43).bind fun x54=>((fU x54 x38.Field).bind fun x59=>(if x59.2.2=true then (some false) else (dM p0 nL2 (i64.wrap (v64+1)))))))))))))) else (some true)
def dI (p0:M.Database):Nat→Int→Option Bool
 | 0,_=>none
 | nL1+1,v36=>if (decide (v36<(List.length p0.Stores:Int)))=true then ((idx p0.Stores v36).bind fun x16=>((pY x16).bind fun x21=>(if (!x21)=true then (some false) else (if (decide (v36>0))=true then ((idx p0.Stores (i64.wrap (v36-1))).bind fun x25=>(if (Op.bytesLess x16.Name.toList x25.Name.toList||x16.Name.toList==x25.Name.toList)=true then (some false) else (dI p0 nL1 (i64.wrap (v36+1))))) else (dI p0 nL1 (i64.wrap (v36+1))))))) else (dM p0 fuel 0)
def oC (p0:M.Database):Option Bool:=
 (dO p0.Name).bind fun x1=>(if (!x1)=true then (some false) else ((bA p0.Version 0 1000).bind fun x4=>(if (!x4)=true then (some false) else (if (decide ((List.length p0.Stores:Int)>4))=true then (some false) else (if (decide ((List.length p0.Unique:Int)>4))=true then (some false) else (dI p0 fuel 0))))))
def lD (p0:M.aT):Option Bool:=
 (bA p0.Device 1 1000000).bind fun x1=>(if x1=true then ((bA p0.Seq 1 1000000).bind fun x4=>(if x4=true then ((nD p0.Key).bind fun x7=>(if x7=true then ((dO p0.Field).bind fun x10=>(if x10=true then ((bA p0.N 0 1000000000).bind fun x13=>(some x13)) else (some false))) else (some false))) else (some false))) else (some false))
def iK (p0:M.aG):Nat→Int→Option Bool
 | 0,_=>none
 | nL1+1,v12=>if (decide (v12<(List.length p0.Writes:Int)))=true then ((idx p0.Writes v12).bind fun x9=>((lD x9).bind fun x14=>(if (!x14)=true then (some false) else (if (x9.Device != p0.Device)=true then (some false) else (if (x9.Seq != (i64.wrap ((i64.wrap (p0.Next-(List.length p0.Writes:Int)))+v12)))=true then (some false) else (iK p0 nL1 (i64.wrap (v12+1)))))))) else ((bA p0.Device 1 1000000).bind fun x19=>(if x19=true then ((bA p0.Next 1 1000000).bind fun x22=>(if x22=true then (some (decide ((List.length p0.Writes:Int)≤20))) else (some false))) else (some false)))
def oL (p0:M.aG):Option Bool:=
 iK p0 fuel 0
def pQ (p0:M.aD):Option Bool:=
 (pY p0.Base).bind fun x1=>(if x1=true then (if (p0.Base.Name.toList==(⟨#[110,111,116,101,115]⟩:ByteArray).toList)=true then ((bA p0.Seen 0 1000000000000).bind fun x5=>(if x5=true then ((oL p0.Sync.aG).bind fun x8=>(some x8)) else (some false))) else (some false)) else (some false))
def oY (p0:M.Response) (p1:Bool):Option Int:=
 if p1=true then (some 76) else (some (i64.wrap (16+(List.length p0.Body:Int))))
def fN (x7:M.Cache) (k13:Int→Int→Option Int):Nat→Int→Int→Option Int
 | 0,_,_=>none
 | nL2+1,v3_L2,v18_L2=>if (decide (v18_L2<(List.length x7.Entries:Int)))=true then ((idx x7.Entries v18_L2).bind fun x23=>((oY x23.Response (x23.Response.Type_==3)).bind fun x28=>(fN x7 k13 nL2 (i64.wrap (v3_L2+x28)) (i64.wrap (v18_L2+1))))) else (k13 v3_L2 v18_L2)
def dL (p0:M.aE):Nat→Int→Int→Option Int
 | 0,_,_=>none
 | nL1+1,v3,v11=>if (decide (v11<(List.length p0.Caches:Int)))=true then ((idx p0.Caches v11).bind fun x7=>(fN x7 (fun (v3_L2:Int) (v18_L2:Int)=>dL p0 nL1 v3_L2 (i64.wrap (v11+1))) fuel v3 0)) else (some v3)
def oS (p0:M.aE):Option Int:=
 dL p0 fuel 0 0
def dY (p0:M.Key):Nat→Int→List Int→Option (List Int)
 | 0,_,_=>none
 | nL1+1,v4,r12=>if (decide (v4≥0))=true then (if (decide (0≤(i64.wrap (8*v4))))=true then ((app 1 r12 ([(IntKind.u8.wrap (Int.fdiv (i64.wrap (p0.N+1000000000000)) (2^(min (i64.wrap (8*v4)).toNat IntKind.i64.bits))))])).bind fun x18=>(dY p0 nL1 (i64.wrap (v4-1)) (r12++[(IntKind.u8.wrap (Int.fdiv (i64.wrap (p0.N+1000000000000)) (2^(min (i64.wrap (8*v4)).toNat IntKind.i64.bits))))]))) else none) else ((app 1 r12 (cH p0.Text)).bind fun x26=>(some (r12++cH p0.Text)))
def pO (p0:M.Key):Option (List Int):=
 (nD p0).bind fun x1=>(if (!x1)=true then (some ([]:List Int)) else (if (p0.Kind != 2)=true then (dY p0 fuel 5 ([(IntKind.u8.wrap p0.Kind)])) else ((app 1 ([(IntKind.u8.wrap p0.Kind)]) (cH p0.Text)).bind fun x28=>(some ([(IntKind.u8.wrap p0.Kind)]++cH p0.Text)))))
def iZ (p0:List Int):Option (List Int):=
 (app 1 ([]:List Int) p0).bind fun x1=>(some p0)
def eA  : Nat→Int→List Int→Option (List Int)
 | 0,_,_=>none
 | nL1+1,v1,r7=>if (decide (v1≥128))=true then ((app 1 r7 ([(IntKind.u8.wrap (i64.wrap ((Int.tmod v1 128)+128)))])).bind fun x11=>(eA nL1 (i64.wrap (Int.tdiv v1 128)) (r7++[(IntKind.u8.wrap (i64.wrap ((Int.tmod v1 128)+128)))]))) else ((app 1 r7 ([(IntKind.u8.wrap v1)])).bind fun x17=>(some (r7++[(IntKind.u8.wrap v1)])))
def fM (p0:List Int) (p1:Int):Option (List Int):=
 (iZ p0).bind fun x1=>((bA p1 0 1000000000000).bind fun x3=>(if (!x3)=true then (some x1) else (eA fuel p1 x1)))
def nH (p0:List Int) (p1:List Int):Option (List Int):=
 (fM p0 (List.length p1:Int)).bind fun x1=>((app 1 x1 p1).bind fun x3=>(some (x1++p1)))
def eO (p0:M.aC):Nat→Int→List Int→Option (List Int)
 | 0,_,_=>none
 | nL1+1,v17,r50000=>if (decide (v17<(List.length p0.Fields:Int)))=true then ((idx p0.Fields v17).bind fun x13=>((nH r50000 (cH x13.Name)).bind fun x18=>((fM x18 x13.N).bind fun x20=>(eO p0 nL1 (i64.wrap (v17+1)) x20)))) else (some r50000)
def mG (p0:M.aC):Option (List Int):=
 (oI p0).bind fun x1=>(if (!x1)=true then (some ([]:List Int)) else ((fM ([]:List Int) (List.length p0.Fields:Int)).bind fun x4=>(eO p0 fuel 0 x4)))
def gJ (p0:M.aA):Nat→Int→Int→Option Int
 | 0,_,_=>none
 | nL1+1,v3,v9=>if (decide (v9<(List.length p0.Items:Int)))=true then ((idx p0.Items v9).bind fun x7=>((pO x7.Key).bind fun x12=>((mG x7.aC).bind fun x14=>(gJ p0 nL1 (i64.wrap (v3+(i64.wrap ((List.length x12:Int)+(List.length x14:Int))))) (i64.wrap (v9+1)))))) else (some v3)
def mV (p0:M.aA):Option Int:=
 gJ p0 fuel 0 0
def eL (p0:M.Database):Nat→Int→Int→Option Int
 | 0,_,_=>none
 | nL1+1,v3,v9=>if (decide (v9<(List.length p0.Stores:Int)))=true then ((idx p0.Stores v9).bind fun x7=>((mV x7).bind fun x12=>(eL p0 nL1 (i64.wrap (v3+x12)) (i64.wrap (v9+1))))) else (some v3)
def mF (p0:M.Database):Option Int:=
 eL p0 fuel 0 0
def uF (p0:M.bF):Option Int:=
 (mF p0.Base).bind fun x1=>(some (i64.wrap (x1+(List.length p0.Log:Int))))
def lQ (p0:M.Bucket):Option Int:=
 (oS p0.Caches).bind fun x1=>((uF p0.bF).bind fun x3=>((mV p0.aD.Base).bind fun x5=>(some (i64.wrap ((i64.wrap ((i64.wrap (x1+x3))+x5))+(i64.wrap (40*(List.length p0.aD.Sync.aG.Writes:Int))))))))
def fZ (p0:M.Bucket):Option Bool:=
 (dO p0.Site).bind fun x1=>(if x1=true then ((dO p0.Top).bind fun x4=>(if x4=true then ((nL p0.Registration).bind fun x7=>(if x7=true then (if (p0.Registration.Site.toList==p0.Site.toList)=true then ((oD p0.Caches).bind fun x11=>(if x11=true then ((oC p0.bF.Base).bind fun x14=>(if x14=true then ((pQ p0.aD).bind fun x17=>(if x17=true then ((bA p0.LastUsed 0 1000000000000).bind fun x20=>(if x20=true then ((lQ p0).bind fun x23=>(some (decide (x23≤2500)))) else (some false))) else (some false))) else (some false))) else (some false))) else (some false)) else (some false))) else (some false))) else (some false))
def mI (p0:M.Response):Option M.Response:=
 (iZ p0.Body).bind fun x1=>(some (⟨p0.Type_,p0.Status,p0.Version,x1,p0.Shares⟩:M.Response))
def eK (x11:M.Cache) (k17:Int→List M.Cached→Option M.aE):Nat→Int→List M.Cached→Option M.aE
 | 0,_,_=>none
 | nL2+1,v23_L2,r50000_L2=>if (decide (v23_L2<(List.length x11.Entries:Int)))=true then ((idx x11.Entries v23_L2).bind fun x34=>((mI x34.Response).bind fun x39=>((app 88 r50000_L2 ([(⟨x34.Site,x34.Path,x39⟩:M.Cached)])).bind fun x41=>(eK x11 k17 nL2 (i64.wrap (v23_L2+1)) (r50000_L2++[(⟨x34.Site,x34.Path,x39⟩:M.Cached)]))))) else (k17 v23_L2 r50000_L2)
def dC (p0:M.aE):Nat→Int→List M.Cache→Option M.aE
 | 0,_,_=>none
 | nL1+1,v13,r50100=>if (decide (v13<(List.length p0.Caches:Int)))=true then ((idx p0.Caches v13).bind fun x11=>(eK x11 (fun (v23_L2:Int) (r50000_L2:List M.Cached)=>(app 32 r50100 ([(⟨x11.Version,r50000_L2⟩:M.Cache)])).bind fun x58=>(dC p0 nL1 (i64.wrap (v13+1)) (r50100++[(⟨x11.Version,r50000_L2⟩:M.Cache)]))) fuel 0 ([]:List M.Cached))) else (some (⟨r50100⟩:M.aE))
def mH (p0:M.aE):Option M.aE:=
 dC p0 fuel 0 ([]:List M.Cache)
def gN (p0:M.aA):Nat→Int→List M.Item→Option M.aA
 | 0,_,_=>none
 | nL1+1,v14,r50000=>if (decide (v14<(List.length p0.Items:Int)))=true then ((idx p0.Items v14).bind fun x11=>((oT x11).bind fun x16=>((app 56 r50000 ([x16])).bind fun x18=>(gN p0 nL1 (i64.wrap (v14+1)) (r50000++[x16]))))) else (some (⟨p0.Name,r50000,p0.Auto⟩:M.aA))
def mY (p0:M.aA):Option M.aA:=
 gN p0 fuel 0 ([]:List M.Item)
def eM (p0:M.Database):Nat→Int→List M.aA→Option M.Database
 | 0,_,_=>none
 | nL1+1,v18,r50000=>if (decide (v18<(List.length p0.Stores:Int)))=true then ((idx p0.Stores v18).bind fun x22=>((mY x22).bind fun x27=>((app 48 r50000 ([x27])).bind fun x29=>(eM p0 nL1 (i64.wrap (v18+1)) (r50000++[x27]))))) else (some (⟨p0.Name,p0.Version,r50000,p0.Unique⟩:M.Database))
def mM (p0:M.Database):Option M.Database:=
 (app 32 ([]:List M.aH) p0.Unique).bind fun x1=>(eM p0 fuel 0 ([]:List M.aA))
def rK (p0:M.bF):Option M.bF:=
 (mM p0.Base).bind fun x1=>((iZ p0.Log).bind fun x3=>(some (⟨x1,x3,p0.Count⟩:M.bF)))
def oU (p0:M.aG):Option M.aG:=
 (app 72 ([]:List M.aT) p0.Writes).bind fun x1=>(some p0)
def rU (p0:M.Sync):Option M.Sync:=
 (oU p0.aG).bind fun x1=>(some (⟨x1,p0.Tries,p0.WaitUntil⟩:M.Sync))
def nI (p0:M.aD):Option M.aD:=
 (mY p0.Base).bind fun x1=>((rU p0.Sync).bind fun x3=>(some (⟨x1,p0.Seen,x3⟩:M.aD)))
def jO (p0:M.Bucket):Option M.Bucket:=
 (mH p0.Caches).bind fun x1=>((rK p0.bF).bind fun x3=>((nI p0.aD).bind fun x5=>(some (⟨p0.Site,p0.Top,p0.Registration,x1,x3,x5,p0.LastUsed,p0.Persistent⟩:M.Bucket))))
def iV (p0:M.Bucket) (p1:M.Bucket):Option (M.Bucket×Bool):=
 (fZ p0).bind fun x1=>(if (!x1)=true then ((jO p0).bind fun x4=>(some (x4,false))) else ((fZ p1).bind fun x6=>(if (!x6)=true then ((jO p0).bind fun x9=>(some (x9,false))) else ((jO p1).bind fun x11=>(some (x11,true))))))
def nC (p0:M.Bucket) (p1:M.bF):Option (M.Bucket×Bool):=
 (iV p0 (⟨p0.Site,p0.Top,p0.Registration,p0.Caches,p1,p0.aD,p0.LastUsed,p0.Persistent⟩:M.Bucket)).bind fun x1=>(some (x1.1,x1.2))
def lP (p0:M.Bucket):Option M.Bucket:=
 (bX p0.Caches).bind fun x1=>((nQ p0.bF).bind fun x3=>((nW p0.aD).bind fun x5=>(some (⟨p0.Site,p0.Top,p0.Registration,x1,x3,x5,p0.LastUsed,p0.Persistent⟩:M.Bucket))))
def jA (p0:M.Bucket) (p1:M.Bucket):Option (M.Bucket×Bool):=
 (iQ p0).bind fun x1=>(if (!x1)=true then ((lP p0).bind fun x4=>(some (x4,false))) else ((iQ p1).bind fun x6=>(if (!x6)=true then ((lP p0).bind fun x9=>(some (x9,false))) else (some (p1,true)))))
def nJ (p0:M.Bucket) (p1:M.bF):Option (M.Bucket×Bool):=
 (lP p0).bind fun x1=>((nQ p1).bind fun x3=>((jA p0 (⟨x1.Site,x1.Top,x1.Registration,x1.Caches,x3,x1.aD,x1.LastUsed,x1.Persistent⟩:M.Bucket)).bind fun x5=>(if x5.2=true then (some ((⟨x1.Site,x1.Top,x1.Registration,x1.Caches,x3,x1.aD,x1.LastUsed,x1.Persistent⟩:M.Bucket),true)) else (some (x5.1,false)))))
def cN (p0:List M.Cache) (p1:List M.Cache) (p2:M.Cache→M.Cache→Option Bool):Nat→Int→Option Bool
 | 0,_=>none
 | nL1+1,v17=>if (decide (v17<(List.length p0:Int)))=true then ((idx p0 v17).bind fun x9=>((idx p1 v17).bind fun x14=>((p2 x9 x14).bind fun x19=>(if (!x19)=true then (some false) else (cN p0 p1 p2 nL1 (i64.wrap (v17+1))))))) else (some true)
def hE (p0:List M.Cache) (p1:List M.Cache) (p2:M.Cache→M.Cache→Option Bool):Option Bool:=
 if ((List.length p0:Int) != (List.length p1:Int))=true then (some false) else (cN p0 p1 p2 fuel 0)
def cF (p0:List M.Cached) (p1:List M.Cached) (p2:M.Cached→M.Cached→Option Bool):Nat→Int→Option Bool
 | 0,_=>none
 | nL1+1,v17=>if (decide (v17<(List.length p0:Int)))=true then ((idx p0 v17).bind fun x9=>((idx p1 v17).bind fun x14=>((p2 x9 x14).bind fun x19=>(if (!x19)=true then (some false) else (cF p0 p1 p2 nL1 (i64.wrap (v17+1))))))) else (some true)
def fY (p0:List M.Cached) (p1:List M.Cached) (p2:M.Cached→M.Cached→Option Bool):Option Bool:=
 if ((List.length p0:Int) != (List.length p1:Int))=true then (some false) else (cF p0 p1 p2 fuel 0)
def fW (p0:List Int) (p1:List Int):Nat→Int→Option Bool
 | 0,_=>none
 | nL1+1,v13=>if (decide (v13<(List.length p0:Int)))=true then ((idx p0 v13).bind fun x8=>((idx p1 v13).bind fun x13=>(if (x8 != x13)=true then (some false) else (fW p0 p1 nL1 (i64.wrap (v13+1)))))) else (some true)
def mN (p0:List Int) (p1:List Int):Option Bool:=
 if ((List.length p0:Int) != (List.length p1:Int))=true then (some false) else (fW p0 p1 fuel 0)
def lS (p0:List Int) (p1:List Int):Option Bool:=
 (mN p0 p1).bind fun x1=>(some x1)
def kG (p0:M.Response) (p1:M.Response):Option Bool:=
 if (p0.Type_==p1.Type_)=true then (if (p0.Status==p1.Status)=true then (if (p0.Version==p1.Version)=true then ((lS p0.Body p1.Body).bind fun x4=>(if x4=true then (some (p0.Shares==p1.Shares)) else (some false))) else (some false)) else (some false)) else (some false)
def kJ (p0:M.Cached) (p1:M.Cached):Option Bool:=
 if (p0.Site.toList==p1.Site.toList)=true then (if (p0.Path.toList==p1.Path.toList)=true then ((kG p0.Response p1.Response).bind fun x3=>(some x3)) else (some false)) else (some false)
def kS (p0:M.Cache) (p1:M.Cache):Option Bool:=
 if (p0.Version==p1.Version)=true then ((fY p0.Entries p1.Entries (fun z0 z1=>kJ z0 z1)).bind fun x2=>(some x2)) else (some false)
def kD (p0:M.aE) (p1:M.aE):Option Bool:=
 (hE p0.Caches p1.Caches (fun z0 z1=>kS z0 z1)).bind fun x1=>(some x1)
def cM (p0:List M.aA) (p1:List M.aA) (p2:M.aA→M.aA→Option Bool):Nat→Int→Option Bool
 | 0,_=>none
 | nL1+1,v17=>if (decide (v17<(List.length p0:Int)))=true then ((idx p0 v17).bind fun x9=>((idx p1 v17).bind fun x14=>((p2 x9 x14).bind fun x19=>(if (!x19)=true then (some false) else (cM p0 p1 p2 nL1 (i64.wrap (v17+1))))))) else (some true)
def hZ (p0:List M.aA) (p1:List M.aA) (p2:M.aA→M.aA→Option Bool):Option Bool:=
 if ((List.length p0:Int) != (List.length p1:Int))=true then (some false) else (cM p0 p1 p2 fuel 0)
def cT (p0:List M.Item) (p1:List M.Item) (p2:M.Item→M.Item→Option Bool):Nat→Int→Option Bool
 | 0,_=>none
 | nL1+1,v17=>if (decide (v17<(List.length p0:Int)))=true then ((idx p0 v17).bind fun x9=>((idx p1 v17).bind fun x14=>((p2 x9 x14).bind fun x19=>(if (!x19)=true then (some false) else (cT p0 p1 p2 nL1 (i64.wrap (v17+1))))))) else (some true)
def iH (p0:List M.Item) (p1:List M.Item) (p2:M.Item→M.Item→Option Bool):Option Bool:=
 if ((List.length p0:Int) != (List.length p1:Int))=true then (some false) else (cT p0 p1 p2 fuel 0)
def fI (p0:List M.Field) (p1:List M.Field):Nat→Int→Option Bool
 | 0,_=>none
 | nL1+1,v13=>if (decide (v13<(List.length p0:Int)))=true then ((idx p0 v13).bind fun x8=>((idx p1 v13).bind fun x13=>(if (!((x8.Name.toList==x13.Name.toList)&&(x8.N==x13.N)))=true then (some false) else (fI p0 p1 nL1 (i64.wrap (v13+1)))))) else (some true)
def lF (p0:List M.Field) (p1:List M.Field):Option Bool:=
 if ((List.length p0:Int) != (List.length p1:Int))=true then (some false) else (fI p0 p1 fuel 0)
def mE (p0:M.aC) (p1:M.aC):Option Bool:=
 (lF p0.Fields p1.Fields).bind fun x1=>(some x1)
def lY (p0:M.Item) (p1:M.Item):Option Bool:=
 if ((p0.Key.Kind==p1.Key.Kind)&&((p0.Key.N==p1.Key.N)&&(p0.Key.Text.toList==p1.Key.Text.toList)))=true then ((mE p0.aC p1.aC).bind fun x2=>(some x2)) else (some false)
def fQ (p0:M.aA) (p1:M.aA):Option Bool:=
 if (p0.Name.toList==p1.Name.toList)=true then (if (p0.Auto==p1.Auto)=true then ((iH p0.Items p1.Items (fun z0 z1=>lY z0 z1)).bind fun x3=>(some x3)) else (some false)) else (some false)
def dW (p0:List M.aH) (p1:List M.aH):Nat→Int→Option Bool
 | 0,_=>none
 | nL1+1,v13=>if (decide (v13<(List.length p0:Int)))=true then ((idx p0 v13).bind fun x8=>((idx p1 v13).bind fun x13=>(if (!((x8.aA.toList==x13.aA.toList)&&(x8.Field.toList==x13.Field.toList)))=true then (some false) else (dW p0 p1 nL1 (i64.wrap (v13+1)))))) else (some true)
def iP (p0:List M.aH) (p1:List M.aH):Option Bool:=
 if ((List.length p0:Int) != (List.length p1:Int))=true then (some false) else (dW p0 p1 fuel 0)
def kF (p0:M.Database) (p1:M.Database):Option Bool:=
 if (p0.Name.toList==p1.Name.toList)=true then (if (p0.Version==p1.Version)=true then ((hZ p0.Stores p1.Stores (fun z0 z1=>fQ z0 z1)).bind fun x3=>(if x3=true then ((iP p0.Unique p1.Unique).bind fun x6=>(some x6)) else (some false))) else (some false)) else (some false)
def oJ (p0:M.bF) (p1:M.bF):Option Bool:=
 (kF p0.Base p1.Base).bind fun x1=>(if x1=true then ((lS p0.Log p1.Log).bind fun x4=>(if x4=true then (some (p0.Count==p1.Count)) else (some false))) else (some false))
def fE (p0:List M.aT) (p1:List M.aT):Nat→Int→Option Bool
 | 0,_=>none
 | nL1+1,v13=>if (decide (v13<(List.length p0:Int)))=true then ((idx p0 v13).bind fun x8=>((idx p1 v13).bind fun x13=>(if (!((x8.Device==x13.Device)&&((x8.Seq==x13.Seq)&&((x8.Key.Kind==x13.Key.Kind)&&((x8.Key.N==x13.Key.N)&&((x8.Key.Text.toList==x13.Key.Text.toList)&&((x8.Field.toList==x13.Field.toList)&&(x8.N==x13.N))))))))=true then (some false) else (fE p0 p1 nL1 (i64.wrap (v13+1)))))) else (some true)
def lE (p0:List M.aT) (p1:List M.aT):Option Bool:=
 if ((List.length p0:Int) != (List.length p1:Int))=true then (some false) else (fE p0 p1 fuel 0)
def lI (p0:M.aG) (p1:M.aG):Option Bool:=
 if (p0.Device==p1.Device)=true then (if (p0.Next==p1.Next)=true then ((lE p0.Writes p1.Writes).bind fun x3=>(some x3)) else (some false)) else (some false)
def oV (p0:M.Sync) (p1:M.Sync):Option Bool:=
 (lI p0.aG p1.aG).bind fun x1=>(if x1=true then (if (p0.Tries==p1.Tries)=true then (some (p0.WaitUntil==p1.WaitUntil)) else (some false)) else (some false))
def lB (p0:M.aD) (p1:M.aD):Option Bool:=
 (fQ p0.Base p1.Base).bind fun x1=>(if x1=true then (if (p0.Seen==p1.Seen)=true then ((oV p0.Sync p1.Sync).bind fun x5=>(some x5)) else (some false)) else (some false))
def gQ (p0:M.Bucket) (p1:M.Bucket):Option Bool:=
 if (p0.Site.toList==p1.Site.toList)=true then (if (p0.Top.toList==p1.Top.toList)=true then (if ((p0.Registration.Site.toList==p1.Registration.Site.toList)&&((p0.Registration.Installing==p1.Registration.Installing)&&((p0.Registration.Waiting==p1.Registration.Waiting)&&(p0.Registration.Active==p1.Registration.Active))))=true then ((kD p0.Caches p1.Caches).bind fun x4=>(if x4=true then ((oJ p0.bF p1.bF).bind fun x7=>(if x7=true then ((lB p0.aD p1.aD).bind fun x10=>(if x10=true then (if (p0.LastUsed==p1.LastUsed)=true then (some (p0.Persistent==p1.Persistent)) else (some false)) else (some false))) else (some false))) else (some false))) else (some false)) else (some false)) else (some false)
def uJ (p0:M.aK):Option (Int×Int×M.Registration):=
 (kA p0).bind fun x4=>(((bS (⟨p0.b,x4.1,x4.2.1⟩:M.aK) 2).bind fun x23=>(if x23.2.2=true then ((aJ (⟨p0.b,x23.1,x23.2.1⟩:M.aK) 2).bind fun x35=>(some ((i64.wrap ((i64.wrap (0+1))+x35.2.2)),(i64.wrap ((i64.wrap (0+1))+x35.2.2)),x35.1,x35.2.1))) else (some (0,0,x23.1,x23.2.1)))).bind fun x13=>(((bS (⟨p0.b,x13.2.2.1,x13.2.2.2⟩:M.aK) 2).bind fun x55=>(if x55.2.2=true then ((aJ (⟨p0.b,x55.1,x55.2.1⟩:M.aK) 2).bind fun x67=>(some ((i64.wrap ((i64.wrap (x13.1+1))+x67.2.2)),(i64.wrap ((i64.wrap (x13.1+1))+x67.2.2)),x67.1,x67.2.1))) else (some (x13.1,0,x55.1,x55.2.1)))).bind fun x45=>(((bS (⟨p0.b,x45.2.2.1,x45.2.2.2⟩:M.aK) 2).bind fun x86=>(if x86.2.2=true then ((aJ (⟨p0.b,x86.1,x86.2.1⟩:M.aK) 2).bind fun x98=>(some ((i64.wrap ((i64.wrap (x45.1+1))+x98.2.2)),x98.1,x98.2.1))) else (some (0,x86.1,x86.2.1)))).bind fun x77=>(((aJ (⟨p0.b,x77.2.1,x77.2.2⟩:M.aK) 14).bind fun x117=>(if (x117.2.2==0)=true then (some ((⟨#[]⟩:ByteArray),x45.2.1,x117.1,x117.2.1)) else (if (x117.2.2==1)=true then ((cG (⟨p0.b,x117.1,x117.2.1⟩:M.aK) ([(-1),1,9,1000000000001])).bind fun x129=>(some (x4.2.2,x129.2.2,x129.1,x129.2.1))) else (some (x4.2.2,x45.2.1,x117.1,x117.2.1))))).bind fun x108=>(some (x108.2.2.1,x108.2.2.2,(⟨x108.1,x77.1,x108.2.1,x13.2.1⟩:M.Registration)))))))
def gZ (p0:List Int):Option (M.Bucket×M.aE×M.Registration):=
 (tQ p0).bind fun x1=>((sE x1).bind fun x12=>((sC (⟨x1.b,x12.1,x12.2.1⟩:M.aK)).bind fun x31=>((uJ (⟨x1.b,x31.1,x31.2.1⟩:M.aK)).bind fun x53=>((bS (⟨x1.b,x53.1,x53.2.1⟩:M.aK) 2).bind fun x77=>(if x77.2.2=true then (some (x12.2.2,x31.2.2,(⟨x12.2.2.Site,x53.2.2.Installing,x53.2.2.Waiting,x53.2.2.Active⟩:M.Registration))) else (some (x12.2.2,x31.2.2,x53.2.2)))))))
def lG (p0:M.Bucket) (p1:M.aE) (p2:M.Registration):Option (M.Bucket×Bool):=
 (iV p0 (⟨p0.Site,p0.Top,p2,p1,p0.bF,p0.aD,p0.LastUsed,p0.Persistent⟩:M.Bucket)).bind fun x1=>(some (x1.1,x1.2))
def lH (p0:M.Bucket) (p1:M.aE) (p2:M.Registration):Option (M.Bucket×Bool):=
 (lP p0).bind fun x1=>((bX p1).bind fun x3=>((jA p0 (⟨x1.Site,x1.Top,p2,x3,x1.bF,x1.aD,x1.LastUsed,x1.Persistent⟩:M.Bucket)).bind fun x5=>(if x5.2=true then (some ((⟨x1.Site,x1.Top,p2,x3,x1.bF,x1.aD,x1.LastUsed,x1.Persistent⟩:M.Bucket),true)) else (some (x5.1,false)))))
def aAq (p0:List Int) (p1:Int):Option Int:=
 if (decide (p1<(List.length p0:Int)))=true then ((idx p0 p1).bind fun x2=>(some (i64.wrap x2))) else (some (Int.tmod (i64.wrap ((i64.wrap (p1*31))+(i64.wrap ((List.length p0:Int)*7)))) 256))
def tK (p0:Int):Option (M.aG×Bool):=
 (oL (⟨p0,1,([]:List M.aT)⟩:M.aG)).bind fun x1=>(if (!x1)=true then (some ((⟨0,0,([]:List M.aT)⟩:M.aG),false)) else (some ((⟨p0,1,([]:List M.aT)⟩:M.aG),true)))
def pM (p0:ByteArray) (p1:ByteArray) (p2:Int):Option (M.Bucket×Bool):=
 (tK p2).bind fun x1=>(if (!x1.2)=true then (some ((⟨(⟨#[]⟩:ByteArray),(⟨#[]⟩:ByteArray),(⟨(⟨#[]⟩:ByteArray),0,0,0⟩:M.Registration),(⟨([]:List M.Cache)⟩:M.aE),(⟨(⟨(⟨#[]⟩:ByteArray),0,([]:List M.aA),([]:List M.aH)⟩:M.Database),([]:List Int),0⟩:M.bF),(⟨(⟨(⟨#[]⟩:ByteArray),([]:List M.Item),0⟩:M.aA),0,(⟨(⟨0,0,([]:List M.aT)⟩:M.aG),0,0⟩:M.Sync)⟩:M.aD),0,false⟩:M.Bucket),false)) else ((fZ (⟨p0,p1,(⟨p0,0,0,0⟩:M.Registration),(⟨([]:List M.Cache)⟩:M.aE),(⟨(⟨(⟨#[97,112,112]⟩:ByteArray),1,[(⟨(⟨#[110,111,116,101,115]⟩:ByteArray),([]:List M.Item),0⟩:M.aA)],([]:List M.aH)⟩:M.Database),([]:List Int),0⟩:M.bF),(⟨(⟨(⟨#[110,111,116,101,115]⟩:ByteArray),([]:List M.Item),0⟩:M.aA),0,(⟨x1.1,0,0⟩:M.Sync)⟩:M.aD),0,false⟩:M.Bucket)).bind fun x12=>(if (!x12)=true then (some ((⟨(⟨#[]⟩:ByteArray),(⟨#[]⟩:ByteArray),(⟨(⟨#[]⟩:ByteArray),0,0,0⟩:M.Registration),(⟨([]:List M.Cache)⟩:M.aE),(⟨(⟨(⟨#[]⟩:ByteArray),0,([]:List M.aA),([]:List M.aH)⟩:M.Database),([]:List Int),0⟩:M.bF),(⟨(⟨(⟨#[]⟩:ByteArray),([]:List M.Item),0⟩:M.aA),0,(⟨(⟨0,0,([]:List M.aT)⟩:M.aG),0,0⟩:M.Sync)⟩:M.aD),0,false⟩:M.Bucket),false)) else (some ((⟨p0,p1,(⟨p0,0,0,0⟩:M.Registration),(⟨([]:List M.Cache)⟩:M.aE),(⟨(⟨(⟨#[97,112,112]⟩:ByteArray),1,[(⟨(⟨#[110,111,116,101,115]⟩:ByteArray),([]:List M.Item),0⟩:M.aA)],([]:List M.aH)⟩:M.Database),([]:List Int),0⟩:M.bF),(⟨(⟨(⟨#[110,111,116,101,115]⟩:ByteArray),([]:List M.Item),0⟩:M.aA),0,(⟨x1.1,0,0⟩:M.Sync)⟩:M.aD),0,false⟩:M.Bucket),true)))))
def pL (p0:List Int):Option Bool:=
 (aA7 p0).bind fun x1=>(if x1=true then (some true) else ((jH p0).bind fun x4=>((nC x4.1 x4.2).bind fun x6=>((nJ x4.1 x4.2).bind fun x8=>((if (!(x6.2==x8.2))=true then (some true) else ((gQ x6.1 x8.1).bind fun x24=>(if (!x24)=true then (some true) else (if x6.2=true then ((lQ x6.1).bind fun x28=>(if (decide (x28>2500))=true then (some true) else (if (!x6.2)=true then ((gQ x6.1 x4.1).bind fun x32=>(some (!x32))) else (some false)))) else (if (!x6.2)=true then ((gQ x6.1 x4.1).bind fun x35=>(some (!x35))) else (some false)))))).bind fun x10=>(if x10=true then (some false) else ((gZ p0).bind fun x38=>((lG x38.1 x38.2.1 x38.2.2).bind fun x40=>((lH x38.1 x38.2.1 x38.2.2).bind fun x42=>((if (!(x40.2==x42.2))=true then (some true) else (if x40.2=true then ((lQ x40.1).bind fun x59=>(if (decide (x59>2500))=true then (some true) else (some (!((x40.1.Registration.Site.toList==x38.2.2.Site.toList)&&((x40.1.Registration.Installing==x38.2.2.Installing)&&((x40.1.Registration.Waiting==x38.2.2.Waiting)&&(x40.1.Registration.Active==x38.2.2.Active)))))))) else (some false))).bind fun x44=>(if x44=true then (some false) else ((aAq p0 0).bind fun x63=>((pM (⟨#[98,97,110,107]⟩:ByteArray) (⟨#[115,104,111,112]⟩:ByteArray) (i64.wrap (1+x63))).bind fun x65=>((if x65.2=true then ((fZ x65.1).bind fun x72=>(if x72=true then ((lQ x65.1).bind fun x75=>(if (x75==0)=true then ((fZ x4.1).bind fun x78=>((iQ x4.1).bind fun x80=>(some (x78==x80)))) else (some false))) else (some false))) else (some false)).bind fun x67=>(some x67)))))))))))))))
end Go.Proofs.YtidhkhdnjonjfaaGreat.gen
