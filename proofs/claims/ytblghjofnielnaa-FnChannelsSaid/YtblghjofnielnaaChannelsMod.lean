/-
  Helper text. No conditions.
-/
import Derived.Test.YtblghjofnielnaaShT
namespace Go.Proofs.Ytblghjofnielnaa.gen
open Go Go.Sh
open Go.IntKind (i64)
set_option linter.unusedVariables false
set_option linter.unusedSimpArgs false
structure M.aU where
 b:List Int
 i:Int
 h:Int
def M.aU.en (x:M.aU):List D:=[.sl (List.map enB x.b),.int .i64 x.i,.int .i64 x.h]
structure M.bB where
 To:Int
 From:Int
 N:Int
def M.bB.en (x:M.bB):List D:=[.int .i64 x.To,.int .i64 x.From,.int .i64 x.N]
theorem M.bB.en.fl (l:List M.bB):(List.map M.bB.en l).all (fun y=>y.all D.flat)=true:=sP (fun _=>rfl) l
structure M.Channel where
 Mails:List M.bB
def M.Channel.en (x:M.Channel):List D:=[.sl (List.map M.bB.en x.Mails)]
structure M.Instr where
 Kind:Int
 R:Int
 N:Int
 Text:ByteArray
def M.Instr.en (x:M.Instr):List D:=[.int .i64 x.Kind,.int .i64 x.R,.int .i64 x.N,.str x.Text]
theorem M.Instr.en.fl (l:List M.Instr):(List.map M.Instr.en l).all (fun y=>y.all D.flat)=true:=sP (fun _=>rfl) l
structure M.Machine where
 Script:List M.Instr
 Pc:Int
 Regs:List Int
 Steps:Int
 Done:Bool
 Wait:Bool
def M.Machine.en (x:M.Machine):List D:=[.sl (List.map M.Instr.en x.Script),.int .i64 x.Pc,.sl (List.map enI x.Regs),.int .i64 x.Steps,.bool x.Done,.bool x.Wait]
structure M.aF where
 Path:ByteArray
 Version:Int
def M.aF.en (x:M.aF):List D:=[.str x.Path,.int .i64 x.Version]
theorem M.aF.en.fl (l:List M.aF):(List.map M.aF.en l).all (fun y=>y.all D.flat)=true:=sP (fun _=>rfl) l
structure M.aO where
 Id:Int
 Site:ByteArray
 Top:ByteArray
 Version:Int
 aF:List M.aF
 Machine:M.Machine
def M.aO.en (x:M.aO):List D:=[.int .i64 x.Id,.str x.Site,.str x.Top,.int .i64 x.Version,.sl (List.map M.aF.en x.aF),.sl (List.map M.Instr.en x.Machine.Script),.int .i64 x.Machine.Pc,.sl (List.map enI x.Machine.Regs),.int .i64 x.Machine.Steps,.bool x.Machine.Done,.bool x.Machine.Wait]
structure M.Response where
 Type_:Int
 Status:Int
 Version:Int
 Body:List Int
 Shares:Bool
def M.Response.en (x:M.Response):List D:=[.int .i64 x.Type_,.int .i64 x.Status,.int .i64 x.Version,.sl (List.map enB x.Body),.bool x.Shares]
def jQ (p0:List Int):Option Bool:=
 some (decide ((List.length p0:Int)>1048576))
def cX (p0:List Int):Nat→Int→Int→Option M.aU
 | 0,_,_=>none
 | nL1+1,v3,v4=>if (decide (v4<(List.length p0:Int)))=true then (if (decide (v4<4000))=true then ((idx p0 v4).bind fun x7=>(cX p0 nL1 (i64.wrap (BitVec.ofInt (IntKind.i64.bits) (i64.wrap ((i64.wrap ((i64.wrap (v3*137))+(i64.wrap x7)))+11))&&&BitVec.ofInt (IntKind.i64.bits) 1073741823).toNat) (i64.wrap (v4+1)))) else (some (⟨p0,0,v3⟩:M.aU))) else (some (⟨p0,0,v3⟩:M.aU))
def gB (p0:List Int):Option M.aU:=
 cX p0 fuel (i64.wrap (193017+(List.length p0:Int))) 0
def dJ (p0:M.aU):Option (Int×Int×Int):=
 if (decide (p0.i<(List.length p0.b:Int)))=true then ((idx p0.b p0.i).bind fun x5=>(some ((i64.wrap (p0.i+1)),(i64.wrap ((i64.wrap (p0.h*6364136223846793005))+1442695040888963407)),(i64.wrap (BitVec.ofInt (IntKind.i64.bits) (i64.wrap ((i64.wrap (BitVec.ofInt (IntKind.i64.bits) (i64.wrap (BitVec.ofInt (IntKind.i64.bits) (Int.fdiv (i64.wrap ((i64.wrap (p0.h*6364136223846793005))+1442695040888963407)) (2^(min (33:Int).toNat IntKind.i64.bits))) ^^^ BitVec.ofInt (IntKind.i64.bits) (Int.fdiv (i64.wrap ((i64.wrap (p0.h*6364136223846793005))+1442695040888963407)) (2^(min (47:Int).toNat IntKind.i64.bits)))).toNat)&&&BitVec.ofInt (IntKind.i64.bits) 255).toNat)+(i64.wrap x5)))&&&BitVec.ofInt (IntKind.i64.bits) 255).toNat)))) else (some (p0.i,(i64.wrap ((i64.wrap (p0.h*6364136223846793005))+1442695040888963407)),(i64.wrap (BitVec.ofInt (IntKind.i64.bits) (i64.wrap (BitVec.ofInt (IntKind.i64.bits) (Int.fdiv (i64.wrap ((i64.wrap (p0.h*6364136223846793005))+1442695040888963407)) (2^(min (33:Int).toNat IntKind.i64.bits))) ^^^ BitVec.ofInt (IntKind.i64.bits) (Int.fdiv (i64.wrap ((i64.wrap (p0.h*6364136223846793005))+1442695040888963407)) (2^(min (47:Int).toNat IntKind.i64.bits)))).toNat)&&&BitVec.ofInt (IntKind.i64.bits) 255).toNat)))
def aE (p0:M.aU) (p1:Int):Option (Int×Int×Int):=
 if (decide (p1≤0))=true then (some (p0.i,p0.h,0)) else (if (decide (p1≤256))=true then ((dJ p0).bind fun x7=>(if (decide (p1=0))=true then none else (some (x7.1,x7.2.1,(Int.tmod x7.2.2 p1))))) else ((dJ p0).bind fun x10=>((dJ (⟨p0.b,x10.1,x10.2.1⟩:M.aU)).bind fun x17=>((dJ (⟨p0.b,x17.1,x17.2.1⟩:M.aU)).bind fun x25=>(if (decide (p1=0))=true then none else (some (x25.1,x25.2.1,(Int.tmod (i64.wrap ((i64.wrap ((i64.wrap (x10.2.2*65536))+(i64.wrap (x17.2.2*256))))+x25.2.2)) p1))))))))
def gA (p0:M.aU) (p1:List Int):Option (Int×Int×Int):=
 (aE p0 (List.length p1:Int)).bind fun x5=>((idx p1 x5.2.2).bind fun x7=>(some (x5.1,x5.2.1,x7)))
def bE (p0:M.aU):Nat→Int→Int→Int→List M.bB→Option (Int×Int×M.Channel)
 | 0,_,_,_,_=>none
 | nL1+1,v4,w7059000_1,w7059000_2,r50000=>if (decide (v4>0))=true then ((aE (⟨p0.b,w7059000_1,w7059000_2⟩:M.aU) 4).bind fun x24=>((aE (⟨p0.b,x24.1,x24.2.1⟩:M.aU) 4).bind fun x26=>((aE (⟨p0.b,x26.1,x26.2.1⟩:M.aU) 9).bind fun x28=>((app 24 r50000 ([(⟨(i64.wrap (1+x24.2.2)),(i64.wrap (1+x26.2.2)),x28.2.2⟩:M.bB)])).bind fun x30=>(bE p0 nL1 (i64.wrap (v4-1)) x28.1 x28.2.1 (r50000++[(⟨(i64.wrap (1+x24.2.2)),(i64.wrap (1+x26.2.2)),x28.2.2⟩:M.bB)])))))) else (some (w7059000_1,w7059000_2,(⟨r50000⟩:M.Channel)))
def dS (p0:M.aU):Option (Int×Int×M.Channel):=
 (gA p0 ([0,2,5,19,20])).bind fun x4=>(bE p0 fuel x4.2.2 x4.1 x4.2.1 ([]:List M.bB))
def cV (p0:M.aU) (p1:List ByteArray):Option (Int×Int×ByteArray):=
 (aE p0 (List.length p1:Int)).bind fun x5=>((idx p1 x5.2.2).bind fun x7=>(some (x5.1,x5.2.1,x7)))
def eE (p0:M.aU):Option (Int×Int×ByteArray):=
 (cV p0 ([(⟨#[98,97,110,107]⟩:ByteArray),(⟨#[115,104,111,112]⟩:ByteArray),(⟨#[110,101,119,115]⟩:ByteArray)])).bind fun x4=>(some (x4.1,x4.2.1,x4.2.2))
def fO (p0:M.aU) (p1:Int):Option (Int×Int×Bool):=
 (aE p0 p1).bind fun x5=>(some (x5.1,x5.2.1,(x5.2.2==0)))
def dZ (p0:M.aU):Option (Int×Int×ByteArray):=
 (cV p0 ([(⟨#[97]⟩:ByteArray),(⟨#[98]⟩:ByteArray),(⟨#[99]⟩:ByteArray),(⟨#[100,111,110,101]⟩:ByteArray),(⟨#[116,105,116,108,101]⟩:ByteArray)])).bind fun x4=>(some (x4.1,x4.2.1,x4.2.2))
def eH (p0:M.aU) (p1:Int):Option (Int×Int×M.Instr):=
 (aE p0 9).bind fun x5=>((aE (⟨p0.b,x5.1,x5.2.1⟩:M.aU) 4).bind fun x7=>(if ((i64.wrap (1+x5.2.2))==1)=true then ((aE (⟨p0.b,x7.1,x7.2.1⟩:M.aU) 6).bind fun x18=>(some (x18.1,x18.2.1,(⟨(i64.wrap (1+x5.2.2)),x7.2.2,x18.2.2,(⟨#[]⟩:ByteArray)⟩:M.Instr)))) else (if ((i64.wrap (1+x5.2.2))==2)=true then ((aE (⟨p0.b,x7.1,x7.2.1⟩:M.aU) 4).bind fun x21=>(some (x21.1,x21.2.1,(⟨(i64.wrap (1+x5.2.2)),x7.2.2,x21.2.2,(⟨#[]⟩:ByteArray)⟩:M.Instr)))) else (if ((i64.wrap (1+x5.2.2))==3)=true then ((aE (⟨p0.b,x7.1,x7.2.1⟩:M.aU) (i64.wrap (p1+1))).bind fun x24=>(some (x24.1,x24.2.1,(⟨(i64.wrap (1+x5.2.2)),x7.2.2,x24.2.2,(⟨#[]⟩:ByteArray)⟩:M.Instr)))) else (if ((i64.wrap (1+x5.2.2))==4)=true then ((aE (⟨p0.b,x7.1,x7.2.1⟩:M.aU) (i64.wrap (p1+1))).bind fun x27=>(some (x27.1,x27.2.1,(⟨(i64.wrap (1+x5.2.2)),0,x27.2.2,(⟨#[]⟩:ByteArray)⟩:M.Instr)))) else (if ((i64.wrap (1+x5.2.2))==5)=true then ((cV (⟨p0.b,x7.1,x7.2.1⟩:M.aU) ([(⟨#[105,110,100,101,120]⟩:ByteArray),(⟨#[115,116,121,108,101]⟩:ByteArray),(⟨#[100,97,116,97]⟩:ByteArray)])).bind fun x37=>(some (x37.1,x37.2.1,(⟨(i64.wrap (1+x5.2.2)),x7.2.2,0,x37.2.2⟩:M.Instr)))) else (if ((i64.wrap (1+x5.2.2))==6)=true then ((aE (⟨p0.b,x7.1,x7.2.1⟩:M.aU) 4).bind fun x40=>((dZ (⟨p0.b,x40.1,x40.2.1⟩:M.aU)).bind fun x49=>(some (x49.1,x49.2.1,(⟨(i64.wrap (1+x5.2.2)),x7.2.2,x40.2.2,x49.2.2⟩:M.Instr))))) else (if ((i64.wrap (1+x5.2.2))==7)=true then ((aE (⟨p0.b,x7.1,x7.2.1⟩:M.aU) 4).bind fun x52=>((dZ (⟨p0.b,x52.1,x52.2.1⟩:M.aU)).bind fun x61=>(some (x61.1,x61.2.1,(⟨(i64.wrap (1+x5.2.2)),x7.2.2,x52.2.2,x61.2.2⟩:M.Instr))))) else (if ((i64.wrap (1+x5.2.2))==8)=true then ((aE (⟨p0.b,x7.1,x7.2.1⟩:M.aU) 4).bind fun x64=>((dZ (⟨p0.b,x64.1,x64.2.1⟩:M.aU)).bind fun x73=>(some (x73.1,x73.2.1,(⟨(i64.wrap (1+x5.2.2)),x7.2.2,x64.2.2,x73.2.2⟩:M.Instr))))) else (if ((i64.wrap (1+x5.2.2))==9)=true then (some (x7.1,x7.2.1,(⟨(i64.wrap (1+x5.2.2)),0,0,(⟨#[]⟩:ByteArray)⟩:M.Instr))) else (some (x7.1,x7.2.1,(⟨(i64.wrap (1+x5.2.2)),x7.2.2,0,(⟨#[]⟩:ByteArray)⟩:M.Instr)))))))))))))
def bI (p0:M.aU) (x4:(Int×Int×Int)):Nat→Int→List M.Instr→Int→Int→Option (Int×Int×(List M.Instr))
 | 0,_,_,_,_=>none
 | nL1+1,v5,r8,w7059000_1,w7059000_2=>if (decide (v5<x4.2.2))=true then ((eH (⟨p0.b,w7059000_1,w7059000_2⟩:M.aU) x4.2.2).bind fun x24=>((app 40 r8 ([x24.2.2])).bind fun x26=>(bI p0 x4 nL1 (i64.wrap (v5+1)) (r8++[x24.2.2]) x24.1 x24.2.1))) else (some (w7059000_1,w7059000_2,r8))
def dB (p0:M.aU):Option (Int×Int×(List M.Instr)):=
 (aE p0 8).bind fun x4=>(bI p0 x4 fuel 0 ([]:List M.Instr) x4.1 x4.2.1)
def cY (p0:Int) (p1:Int) (p2:Int):Option Bool:=
 if (decide (p0≥p1))=true then (some (decide (p0≤p2))) else (some false)
def cA (p0:ByteArray):Nat→Int→Option Bool
 | 0,_=>none
 | nL1+1,v3=>if (decide (v3<(p0.size:Int)))=true then ((aAu p0 v3).bind fun x5=>(if (decide ((x5.toNat:Int)<97))=true then (some false) else (if (decide ((x5.toNat:Int)>122))=true then (some false) else (cA p0 nL1 (i64.wrap (v3+1)))))) else ((cY (p0.size:Int) 1 8).bind fun x11=>(some x11))
def dF (p0:ByteArray):Option Bool:=
 cA p0 fuel 0
def dK (p0:M.Instr) (p1:Int):Option Bool:=
 (if (p0.Kind==5)=true then (some true) else ((cY p0.Kind 6 8).bind fun x9=>(some x9))).bind fun x1=>((if (p0.Kind==1)=true then (some 1000) else (if (p0.Kind==2)=true then (some 3) else ((if (p0.Kind==3)=true then (some (p0.Kind==3)) else (some (p0.Kind==4))).bind fun x20=>(if x20=true then (some p1) else ((if (p0.Kind==6)=true then (some (p0.Kind==6)) else (if (p0.Kind==7)=true then (some (p0.Kind==7)) else (some (p0.Kind==8)))).bind fun x32=>(if x32=true then (some 100) else (some 0))))))).bind fun x11=>(((cY p0.Kind 1 9).bind fun x50=>(if (!x50)=true then (some true) else ((cY p0.R 0 3).bind fun x53=>(if (!x53)=true then (some true) else ((cY p0.N 0 x11).bind fun x56=>(some (!x56))))))).bind fun x43=>(if x43=true then (some false) else ((if (p0.Kind==4)=true then (some (p0.R != 0)) else (if (p0.Kind==9)=true then (some (p0.R != 0)) else (some false))).bind fun x59=>(if x59=true then (some false) else ((if x1=true then ((dF p0.Text).bind fun x74=>(if x74=true then (some true) else (some false))) else (some (p0.Text.toList==(⟨#[]⟩:ByteArray).toList))).bind fun x69=>(some x69)))))))
def bV (p0:List M.Instr):Nat→Int→Option Bool
 | 0,_=>none
 | nL1+1,v3=>if (decide (v3<(List.length p0:Int)))=true then ((idx p0 v3).bind fun x5=>((dK x5 (List.length p0:Int)).bind fun x10=>(if (!x10)=true then (some false) else (bV p0 nL1 (i64.wrap (v3+1)))))) else (some (decide ((List.length p0:Int)≤16)))
def eJ (p0:List M.Instr):Option Bool:=
 bV p0 fuel 0
def dC (p0:List M.Instr):Option (List M.Instr):=
 (app 40 ([]:List M.Instr) p0).bind fun x1=>(some p0)
def dR (p0:List M.Instr):Option M.Machine:=
 (eJ p0).bind fun x8=>(if (!x8)=true then (some (⟨([]:List M.Instr),0,[0,0,0,0],0,true,false⟩:M.Machine)) else ((dC p0).bind fun x11=>(some (⟨x11,0,[0,0,0,0],0,false,false⟩:M.Machine))))
def cN (p0:M.aO):Nat→Int→Option Bool
 | 0,_=>none
 | nL1+1,v3=>if (decide (v3<(List.length p0.aF:Int)))=true then ((idx p0.aF v3).bind fun x6=>((dF x6.Path).bind fun x11=>(if (!x11)=true then (some false) else (if (x6.Version != p0.Version)=true then (some false) else (cN p0 nL1 (i64.wrap (v3+1))))))) else ((cY p0.Id 1 1000000000000).bind fun x15=>(if x15=true then ((dF p0.Site).bind fun x18=>(if x18=true then ((dF p0.Top).bind fun x21=>(if x21=true then ((cY p0.Version 1 1000000000000).bind fun x24=>(if x24=true then (some (decide ((List.length p0.aF:Int)≤8))) else (some false))) else (some false))) else (some false))) else (some false)))
def dI (p0:M.aO):Option Bool:=
 cN p0 fuel 0
def cQ (p0:Int) (p1:ByteArray) (p2:ByteArray) (p3:Int) (p4:List M.Instr):Option (M.aO×Bool):=
 (dR p4).bind fun x1=>((dI (⟨p0,p1,p2,p3,([]:List M.aF),x1⟩:M.aO)).bind fun x3=>(if (!x3)=true then (some ((⟨0,(⟨#[]⟩:ByteArray),(⟨#[]⟩:ByteArray),0,([]:List M.aF),(⟨([]:List M.Instr),0,([]:List Int),0,false,false⟩:M.Machine)⟩:M.aO),false)) else (some ((⟨p0,p1,p2,p3,([]:List M.aF),x1⟩:M.aO),true))))
def dM (p0:M.aU):Option (Int×Int×ByteArray):=
 (cV p0 ([(⟨#[105,110,100,101,120]⟩:ByteArray),(⟨#[115,116,121,108,101]⟩:ByteArray),(⟨#[99,111,100,101]⟩:ByteArray),(⟨#[100,97,116,97]⟩:ByteArray)])).bind fun x4=>(some (x4.1,x4.2.1,x4.2.2))
def fD (p0:M.Machine):Option M.Machine:=
 (dC p0.Script).bind fun x1=>((app 8 ([]:List Int) p0.Regs).bind fun x3=>(some (⟨x1,p0.Pc,p0.Regs,p0.Steps,p0.Done,p0.Wait⟩:M.Machine)))
def cH (p0:M.aO):Option M.aO:=
 (app 24 ([]:List M.aF) p0.aF).bind fun x1=>((fD p0.Machine).bind fun x11=>(some (⟨p0.Id,p0.Site,p0.Top,p0.Version,p0.aF,x11⟩:M.aO)))
def cK (p0:M.aO) (p1:ByteArray) (p2:M.Response):Option (M.aO×Bool):=
 (cH p0).bind fun x1=>((app 24 x1.aF ([(⟨p1,p2.Version⟩:M.aF)])).bind fun x3=>(if (p2.Status != 200)=true then ((cH p0).bind fun x18=>(some (x18,false))) else (if (p2.Version != p0.Version)=true then ((cH p0).bind fun x21=>(some (x21,false))) else ((dI p0).bind fun x23=>(if (!x23)=true then ((cH p0).bind fun x26=>(some (x26,false))) else ((dI (⟨x1.Id,x1.Site,x1.Top,x1.Version,(x1.aF++[(⟨p1,p2.Version⟩:M.aF)]),x1.Machine⟩:M.aO)).bind fun x28=>(if (!x28)=true then ((cH p0).bind fun x31=>(some (x31,false))) else (some ((⟨x1.Id,x1.Site,x1.Top,x1.Version,(x1.aF++[(⟨p1,p2.Version⟩:M.aF)]),x1.Machine⟩:M.aO),true)))))))))
def cG (p0:M.aU):Nat→Int→Int→ByteArray→ByteArray→Int→Int→Int→Bool→Bool→Int→Int→List M.aF→List M.Instr→List Int→Option (Int×Int×M.aO)
 | 0,_,_,_,_,_,_,_,_,_,_,_,_,_,_=>none
 | nL1+1,v7,w5_0,w5_1,w5_2,w5_3,w5_6,w5_8,w5_9,w5_10,w7059000_1,w7059000_2,r50000,r50001,r50002=>if (decide (v7>0))=true then ((dM (⟨p0.b,w7059000_1,w7059000_2⟩:M.aU)).bind fun x75=>((cK (⟨w5_0,w5_1,w5_2,w5_3,r50000,(⟨r50001,w5_6,r50002,w5_8,w5_9,w5_10⟩:M.Machine)⟩:M.aO) x75.2.2 (⟨0,200,w5_3,([]:List Int),false⟩:M.Response)).bind fun x77=>(cG p0 nL1 (i64.wrap (v7-1)) x77.1.Id x77.1.Site x77.1.Top x77.1.Version x77.1.Machine.Pc x77.1.Machine.Steps x77.1.Machine.Done x77.1.Machine.Wait x75.1 x75.2.1 x77.1.aF x77.1.Machine.Script x77.1.Machine.Regs))) else (some (w7059000_1,w7059000_2,(⟨w5_0,w5_1,w5_2,w5_3,r50000,(⟨r50001,w5_6,r50002,w5_8,w5_9,w5_10⟩:M.Machine)⟩:M.aO)))
def cF (p0:M.aU):Nat→Int→Int→ByteArray→ByteArray→Int→Int→Int→Bool→Bool→Int→Int→List M.aF→List M.Instr→List Int→Option (Int×Int×M.aO)
 | 0,_,_,_,_,_,_,_,_,_,_,_,_,_,_=>none
 | nL2+1,v7,w5_0,w5_1,w5_2,w5_3,w5_6,w5_8,w5_9,w5_10,w7059000_1,w7059000_2,r50000,r50001,r50002=>if (decide (v7>0))=true then ((dM (⟨p0.b,w7059000_1,w7059000_2⟩:M.aU)).bind fun x133=>((cK (⟨w5_0,w5_1,w5_2,w5_3,r50000,(⟨r50001,w5_6,r50002,w5_8,w5_9,w5_10⟩:M.Machine)⟩:M.aO) x133.2.2 (⟨0,200,w5_3,([]:List Int),false⟩:M.Response)).bind fun x135=>(cF p0 nL2 (i64.wrap (v7-1)) x135.1.Id x135.1.Site x135.1.Top x135.1.Version x135.1.Machine.Pc x135.1.Machine.Steps x135.1.Machine.Done x135.1.Machine.Wait x133.1 x133.2.1 x135.1.aF x135.1.Machine.Script x135.1.Machine.Regs))) else (some (w7059000_1,w7059000_2,(⟨w5_0,w5_1,w5_2,w5_3,r50000,(⟨r50001,w5_6,r50002,w5_8,w5_9,w5_10⟩:M.Machine)⟩:M.aO)))
def eV (p0:M.aU):Option (Int×Int×M.aO):=
 (eE p0).bind fun x4=>((fO (⟨p0.b,x4.1,x4.2.1⟩:M.aU) 3).bind fun x12=>(if x12.2.2=true then ((eE (⟨p0.b,x12.1,x12.2.1⟩:M.aU)).bind fun x23=>((aE (⟨p0.b,x23.1,x23.2.1⟩:M.aU) 9).bind fun x32=>((aE (⟨p0.b,x32.1,x32.2.1⟩:M.aU) 3).bind fun x34=>((dB (⟨p0.b,x34.1,x34.2.1⟩:M.aU)).bind fun x36=>((cQ (i64.wrap (1+x32.2.2)) x4.2.2 x23.2.2 (i64.wrap (1+x34.2.2)) x36.2.2).bind fun x38=>((aE (⟨p0.b,x36.1,x36.2.1⟩:M.aU) 3).bind fun x50=>(cG p0 fuel x50.2.2 x38.1.Id x38.1.Site x38.1.Top x38.1.Version x38.1.Machine.Pc x38.1.Machine.Steps x38.1.Machine.Done x38.1.Machine.Wait x50.1 x50.2.1 x38.1.aF x38.1.Machine.Script x38.1.Machine.Regs))))))) else ((aE (⟨p0.b,x12.1,x12.2.1⟩:M.aU) 9).bind fun x90=>((aE (⟨p0.b,x90.1,x90.2.1⟩:M.aU) 3).bind fun x92=>((dB (⟨p0.b,x92.1,x92.2.1⟩:M.aU)).bind fun x94=>((cQ (i64.wrap (1+x90.2.2)) x4.2.2 x4.2.2 (i64.wrap (1+x92.2.2)) x94.2.2).bind fun x96=>((aE (⟨p0.b,x94.1,x94.2.1⟩:M.aU) 3).bind fun x108=>(cF p0 fuel x108.2.2 x96.1.Id x96.1.Site x96.1.Top x96.1.Version x96.1.Machine.Pc x96.1.Machine.Steps x96.1.Machine.Done x96.1.Machine.Wait x108.1 x108.2.1 x96.1.aF x96.1.Machine.Script x96.1.Machine.Regs))))))))
def bP (p0:M.aU):Nat→Int→List M.aO→Int→Int→Option (Int×Int×(List M.aO))
 | 0,_,_,_,_=>none
 | nL1+1,v4,r6,w7059000_1,w7059000_2=>if (decide (v4>0))=true then ((eV (⟨p0.b,w7059000_1,w7059000_2⟩:M.aU)).bind fun x24=>((cV (⟨p0.b,x24.1,x24.2.1⟩:M.aU) ([(⟨#[98,97,110,107]⟩:ByteArray),(⟨#[115,104,111,112]⟩:ByteArray)])).bind fun x37=>((cV (⟨p0.b,x37.1,x37.2.1⟩:M.aU) ([(⟨#[98,97,110,107]⟩:ByteArray),(⟨#[115,104,111,112]⟩:ByteArray)])).bind fun x50=>((app 144 r6 ([(⟨(i64.wrap ((List.length r6:Int)+1)),x37.2.2,x50.2.2,x24.2.2.Version,x24.2.2.aF,x24.2.2.Machine⟩:M.aO)])).bind fun x63=>(bP p0 nL1 (i64.wrap (v4-1)) (r6++[(⟨(i64.wrap ((List.length r6:Int)+1)),x37.2.2,x50.2.2,x24.2.2.Version,x24.2.2.aF,x24.2.2.Machine⟩:M.aO)]) x50.1 x50.2.1))))) else (some (w7059000_1,w7059000_2,r6))
def dV (p0:M.aU):Option (Int×Int×(List M.aO)):=
 (aE p0 5).bind fun x9=>(bP p0 fuel x9.2.2 ([]:List M.aO) x9.1 x9.2.1)
def cT (p0:List Int):Option (M.Channel×(List M.aO)×Int×Int):=
 (gB p0).bind fun x1=>((dS x1).bind fun x8=>((dV (⟨x1.b,x8.1,x8.2.1⟩:M.aU)).bind fun x18=>((aE (⟨x1.b,x18.1,x18.2.1⟩:M.aU) 6).bind fun x30=>((aE (⟨x1.b,x30.1,x30.2.1⟩:M.aU) 9).bind fun x32=>(some (x8.2.2,x18.2.2,x30.2.2,x32.2.2))))))
def bH (p0:M.Channel):Option M.Channel:=
 (app 24 ([]:List M.bB) p0.Mails).bind fun x1=>(some p0)
def dH (p0:M.aO) (c0:Int):Option Bool:=
 some (p0.Id==c0)
def aQ (p0:List M.aO) (p1:M.aO→Option Bool):Nat→Int→Option Int
 | 0,_=>none
 | nL1+1,v8=>if (decide (v8<(List.length p0:Int)))=true then ((idx p0 v8).bind fun x7=>((p1 x7).bind fun x12=>(if x12=true then (some v8) else (aQ p0 p1 nL1 (i64.wrap (v8+1)))))) else (some (-1))
def bK (p0:List M.aO) (p1:M.aO→Option Bool):Option Int:=
 aQ p0 p1 fuel 0
def eD (p0:M.aO) (p1:M.aO):Option Bool:=
 if (p0.Site.toList==p1.Site.toList)=true then (if (p0.Top.toList==p1.Top.toList)=true then (some (p0.Id != p1.Id)) else (some false)) else (some false)
def bO (p0:M.Channel) (p1:Int):Nat→Int→List M.bB→Option (List M.bB)
 | 0,_,_=>none
 | nL1+1,v12,r8=>if (decide (v12<(List.length p0.Mails:Int)))=true then ((idx p0.Mails v12).bind fun x15=>(if (x15.To==p1)=true then ((app 24 r8 ([x15])).bind fun x21=>(bO p0 p1 nL1 (i64.wrap (v12+1)) (r8++[x15]))) else (bO p0 p1 nL1 (i64.wrap (v12+1)) r8))) else (some r8)
def aH (p0:M.Channel) (p1:Int):Option (List M.bB):=
 bO p0 p1 fuel 0 ([]:List M.bB)
def aT (p1:List M.aO) (p2:Int) (p3:Int) (x3:Int):Nat→Int→Int→List M.bB→Option (M.Channel×Int)
 | 0,_,_,_=>none
 | nL1+1,v12,v25,r16=>if (decide (v25<(List.length p1:Int)))=true then ((idx p1 v25).bind fun x22=>((idx p1 x3).bind fun x27=>((eD x27 x22).bind fun x32=>(if x32=true then ((aH (⟨r16⟩:M.Channel) x22.Id).bind fun x35=>(if (decide ((List.length x35:Int)<5))=true then ((app 24 r16 ([(⟨x22.Id,p2,p3⟩:M.bB)])).bind fun x38=>(aT p1 p2 p3 x3 nL1 (i64.wrap (v12+1)) (i64.wrap (v25+1)) (r16++[(⟨x22.Id,p2,p3⟩:M.bB)]))) else (aT p1 p2 p3 x3 nL1 v12 (i64.wrap (v25+1)) r16))) else (aT p1 p2 p3 x3 nL1 v12 (i64.wrap (v25+1)) r16))))) else (some ((⟨r16⟩:M.Channel),v12))
def eC (p0:M.Channel) (p1:List M.aO) (p2:Int) (p3:Int):Option (M.Channel×Int):=
 (bH p0).bind fun x1=>((bK p1 (fun z0=>dH z0 p2)).bind fun x3=>(if (decide (x3<0))=true then (some (x1,0)) else (aT p1 p2 p3 x3 fuel 0 0 x1.Mails)))
def fB (p0:M.Channel):Option M.Channel:=
 (app 24 ([]:List M.bB) p0.Mails).bind fun x1=>(some p0)
def cE (p0:List M.aO) (p1:Int):Nat→Int→Option Int
 | 0,_=>none
 | nL1+1,v5=>if (decide (v5<(List.length p0:Int)))=true then ((idx p0 v5).bind fun x6=>(if (x6.Id==p1)=true then (some v5) else (cE p0 p1 nL1 (i64.wrap (v5+1))))) else (some (-1))
def eW (p0:List M.aO) (p1:Int):Option Int:=
 cE p0 p1 fuel 0
def fA (p0:M.aO) (p1:M.aO):Option Bool:=
 if (p0.Site.toList==p1.Site.toList)=true then (if (p0.Top.toList==p1.Top.toList)=true then (some (p0.Id != p1.Id)) else (some false)) else (some false)
def bN (p0:M.Channel) (p1:Int):Nat→Int→List M.bB→Option (List M.bB)
 | 0,_,_=>none
 | nL1+1,v6,r7=>if (decide (v6<(List.length p0.Mails:Int)))=true then ((idx p0.Mails v6).bind fun x15=>(if (x15.To==p1)=true then ((app 24 r7 ([x15])).bind fun x21=>(bN p0 p1 nL1 (i64.wrap (v6+1)) (r7++[x15]))) else (bN p0 p1 nL1 (i64.wrap (v6+1)) r7))) else (some r7)
def eM (p0:M.Channel) (p1:Int):Option (List M.bB):=
 bN p0 p1 fuel 0 ([]:List M.bB)
def aW (p1:List M.aO) (p2:Int) (p3:Int) (x3:Int):Nat→Int→Int→List M.bB→Option (M.Channel×Int)
 | 0,_,_,_=>none
 | nL1+1,v12,v13,r15=>if (decide (v13<(List.length p1:Int)))=true then ((idx p1 x3).bind fun x19=>((idx p1 v13).bind fun x24=>((fA x19 x24).bind fun x29=>(if x29=true then ((eM (⟨r15⟩:M.Channel) x24.Id).bind fun x32=>(if (decide ((List.length x32:Int)<5))=true then ((app 24 r15 ([(⟨x24.Id,p2,p3⟩:M.bB)])).bind fun x35=>(aW p1 p2 p3 x3 nL1 (i64.wrap (v12+1)) (i64.wrap (v13+1)) (r15++[(⟨x24.Id,p2,p3⟩:M.bB)]))) else (aW p1 p2 p3 x3 nL1 v12 (i64.wrap (v13+1)) r15))) else (aW p1 p2 p3 x3 nL1 v12 (i64.wrap (v13+1)) r15))))) else (some ((⟨r15⟩:M.Channel),v12))
def eB (p0:M.Channel) (p1:List M.aO) (p2:Int) (p3:Int):Option (M.Channel×Int):=
 (fB p0).bind fun x1=>((eW p1 p2).bind fun x3=>(if (decide (x3<0))=true then (some (x1,0)) else (aW p1 p2 p3 x3 fuel 0 0 x1.Mails)))
def bX (p0:M.bB) (c0:Int):Option Bool:=
 some (p0.To==c0)
def aP (p0:List M.bB) (p1:M.bB→Option Bool):Nat→Int→Option Int
 | 0,_=>none
 | nL1+1,v8=>if (decide (v8<(List.length p0:Int)))=true then ((idx p0 v8).bind fun x7=>((p1 x7).bind fun x12=>(if x12=true then (some v8) else (aP p0 p1 nL1 (i64.wrap (v8+1)))))) else (some (-1))
def bD (p0:List M.bB) (p1:M.bB→Option Bool):Option Int:=
 aP p0 p1 fuel 0
def cM (p0:M.Channel) (p1:Int):Option (M.Channel×M.bB×Bool):=
 (bH p0).bind fun x1=>((bD p0.Mails (fun z0=>bX z0 p1)).bind fun x3=>(if (decide (x3<0))=true then (some (x1,(⟨0,0,0⟩:M.bB),false)) else ((xE x1.Mails x3 (i64.wrap (x3+1))).bind fun x6=>((idx p0.Mails x3).bind fun x8=>(some ((⟨(List.take x3.toNat x1.Mails++List.drop (i64.wrap (x3+1)).toNat x1.Mails)⟩:M.Channel),x8,true))))))
def dD (p0:M.bB) (c0:Int):Option Bool:=
 some (p0.To==c0)
def aM (p1:M.bB→Option Bool):Nat→Int→Int→List M.bB→Option (List M.bB)
 | 0,_,_,_=>none
 | nL1+1,v5,v6,r59000=>if (decide (v6<(List.length r59000:Int)))=true then ((idx r59000 v6).bind fun x11=>((p1 x11).bind fun x16=>(if (!x16)=true then ((idx r59000 v5).bind fun x19=>(aM p1 nL1 (i64.wrap (v5+1)) (i64.wrap (v6+1)) (List.set r59000 v5.toNat x11))) else (aM p1 nL1 v5 (i64.wrap (v6+1)) r59000)))) else ((oF r59000 v5).bind fun x30=>(some (List.take v5.toNat r59000)))
def bR (p0:List M.bB) (p1:M.bB→Option Bool):Option (List M.bB):=
 (bD p0 p1).bind fun x1=>(if (x1==(-1))=true then (some p0) else (aM p1 fuel x1 (i64.wrap (x1+1)) p0))
def bA (p0:M.Channel) (p1:Int):Option M.Channel:=
 (bH p0).bind fun x1=>((bR x1.Mails (fun z0=>dD z0 p1)).bind fun x3=>(some (⟨x3⟩:M.Channel)))
def aZ (x4:(M.Channel×(List M.aO)×Int×Int)) (v11:Int) (x51:M.bB) (k57:Bool→Int→Option Bool):Nat→Bool→Int→Option Bool
 | 0,_,_=>none
 | nL3+1,v15_L3,v16_L3=>if (decide (v16_L3<(List.length x4.2.1:Int)))=true then (if v15_L3=true then (aZ x4 v11 x51 k57 nL3 true (i64.wrap (v16_L3+1))) else ((idx x4.2.1 v16_L3).bind fun x77=>(if (x77.Id==x51.To)=true then (if (decide (v11≥0))=true then ((idx x4.2.1 v11).bind fun x84=>((eD x84 x77).bind fun x89=>(aZ x4 v11 x51 k57 nL3 x89 (i64.wrap (v16_L3+1))))) else (aZ x4 v11 x51 k57 nL3 false (i64.wrap (v16_L3+1)))) else (aZ x4 v11 x51 k57 nL3 false (i64.wrap (v16_L3+1)))))) else (k57 v15_L3 v16_L3)
def bM (x4:(M.Channel×(List M.aO)×Int×Int)) (x6:(M.Channel×Int)) (x8:(M.Channel×Int)) (v11:Int):Nat→Int→Option Bool
 | 0,_=>none
 | nL2+1,v13=>if (decide (v13<(List.length x6.1.Mails:Int)))=true then ((idx x6.1.Mails v13).bind fun x51=>(aZ x4 v11 x51 (fun (v15_L3:Bool) (v16_L3:Int)=>(idx x8.1.Mails v13).bind fun x91=>(if (!((x51.To==x91.To)&&((x51.From==x91.From)&&(x51.N==x91.N))))=true then (some false) else (if (x51.From != x4.2.2.1)=true then (some false) else (if (x51.N != x4.2.2.2)=true then (some false) else (if (x51.To==x4.2.2.1)=true then (some false) else (if (!v15_L3)=true then (some false) else (bM x4 x6 x8 v11 nL2 (i64.wrap (v13+1))))))))) fuel false 0)) else ((cM x6.1 1).bind fun x101=>((aH x6.1 1).bind fun x103=>(if (!(x101.2.2==(decide ((List.length x103:Int)>0))))=true then (some false) else (if (!x101.2.2)=true then ((bA x6.1 1).bind fun x107=>((aH x107 1).bind fun x109=>(if ((List.length x109:Int)==0)=true then ((bA x6.1 1).bind fun x112=>((aH x112 2).bind fun x114=>((aH x6.1 2).bind fun x116=>(some ((List.length x114:Int)==(List.length x116:Int)))))) else (some false)))) else ((idx x103 0).bind fun x118=>(if ((x101.2.1.To==x118.To)&&((x101.2.1.From==x118.From)&&(x101.2.1.N==x118.N)))=true then ((aH x101.1 1).bind fun x124=>(if ((List.length x124:Int)==(i64.wrap ((List.length x103:Int)-1)))=true then (if ((List.length x101.1.Mails:Int)==(i64.wrap ((List.length x6.1.Mails:Int)-1)))=true then ((bA x6.1 1).bind fun x128=>((aH x128 1).bind fun x130=>(if ((List.length x130:Int)==0)=true then ((bA x6.1 1).bind fun x133=>((aH x133 2).bind fun x135=>((aH x6.1 2).bind fun x137=>(some ((List.length x135:Int)==(List.length x137:Int)))))) else (some false)))) else (some false)) else (some false))) else (some false)))))))
def bF (x4:(M.Channel×(List M.aO)×Int×Int)) (x6:(M.Channel×Int)) (x8:(M.Channel×Int)):Nat→Int→Int→Option Bool
 | 0,_,_=>none
 | nL1+1,v11,v12=>if (decide (v12<(List.length x4.2.1:Int)))=true then ((idx x4.2.1 v12).bind fun x30=>(if (x30.Id==x4.2.2.1)=true then (if (decide (v11<0))=true then (bF x4 x6 x8 nL1 v12 (i64.wrap (v12+1))) else (bF x4 x6 x8 nL1 v11 (i64.wrap (v12+1)))) else (bF x4 x6 x8 nL1 v11 (i64.wrap (v12+1))))) else (bM x4 x6 x8 v11 fuel (List.length x4.1.Mails:Int))
def dP (p0:List Int):Option Bool:=
 (jQ p0).bind fun x1=>(if x1=true then (some true) else ((cT p0).bind fun x4=>((eC x4.1 x4.2.1 x4.2.2.1 x4.2.2.2).bind fun x6=>((eB x4.1 x4.2.1 x4.2.2.1 x4.2.2.2).bind fun x8=>(if (x6.2 != x8.2)=true then (some false) else (if ((List.length x6.1.Mails:Int) != (i64.wrap ((List.length x4.1.Mails:Int)+x6.2)))=true then (some false) else (if ((List.length x6.1.Mails:Int) != (List.length x8.1.Mails:Int))=true then (some false) else (bF x4 x6 x8 fuel (-1) 0))))))))
end Go.Proofs.Ytblghjofnielnaa.gen
