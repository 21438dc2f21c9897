/-
  Helper text. No conditions.
-/
import Derived.Test.YtipmihbgjolaaaaGreatLoadedFilesShT
set_option linter.unusedVariables false
set_option linter.unusedSimpArgs false
namespace Go.Proofs.YtipmihbgjolaaaaGreat.gen
open Go Go.Sh
open Go.IntKind (i64)
structure M.aQ where
 b:List Int
 i:Int
 h:Int
def M.aQ.en (x:M.aQ):List D:=[.sl (List.map enB x.b),.int .i64 x.i,.int .i64 x.h]
structure M.aE4 where
 aFD:ByteArray
 aFY:Int
 aFg:Int
 aFl:Int
def M.aE4.en (x:M.aE4):List D:=[.str x.aFD,.int .i64 x.aFY,.int .i64 x.aFg,.int .i64 x.aFl]
theorem M.aE4.en.fl (l:List M.aE4):(List.map M.aE4.en l).all (λy=>y.all D.flat)=true:=FH (λ_=>rfl) l
structure M.aE9 where
 aFu:Int
 aFm:Int
 aE3:Int
 aFw:List Int
 aFz:Bool
def M.aE9.en (x:M.aE9):List D:=[.int .i64 x.aFu,.int .i64 x.aFm,.int .i64 x.aE3,.sl (List.map enB x.aFw),.bool x.aFz]
structure M.aFL where
 aFD:ByteArray
 aFo:ByteArray
 aE9:M.aE9
def M.aFL.en (x:M.aFL):List D:=[.str x.aFD,.str x.aFo,.int .i64 x.aE9.aFu,.int .i64 x.aE9.aFm,.int .i64 x.aE9.aE3,.sl (List.map enB x.aE9.aFw),.bool x.aE9.aFz]
structure M.aFE where
 aE3:Int
 aFK:List M.aFL
def M.aFE.en (x:M.aFE):List D:=[.int .i64 x.aE3,.sl (List.map M.aFL.en x.aFK)]
structure M.aE where
 aE6:List M.aFE
def M.aE.en (x:M.aE):List D:=[.sl (List.map M.aFE.en x.aE6)]
structure M.Key where
 aFU:Int
 N:Int
 aFb:ByteArray
def M.Key.en (x:M.Key):List D:=[.int .i64 x.aFU,.int .i64 x.N,.str x.aFb]
theorem M.Key.en.fl (l:List M.Key):(List.map M.Key.en l).all (λy=>y.all D.flat)=true:=FH (λ_=>rfl) l
structure M.Field where
 Name:ByteArray
 N:Int
def M.Field.en (x:M.Field):List D:=[.str x.Name,.int .i64 x.N]
theorem M.Field.en.fl (l:List M.Field):(List.map M.Field.en l).all (λy=>y.all D.flat)=true:=FH (λ_=>rfl) l
structure M.aD where
 aFA:List M.Field
def M.aD.en (x:M.aD):List D:=[.sl (List.map M.Field.en x.aFA)]
structure M.aFP where
 Key:M.Key
 aD:M.aD
def M.aFP.en (x:M.aFP):List D:=[.int .i64 x.Key.aFU,.int .i64 x.Key.N,.str x.Key.aFb,.sl (List.map M.Field.en x.aD.aFA)]
structure M.aC where
 Name:ByteArray
 aE7:List M.aFP
 aFZ:Int
def M.aC.en (x:M.aC):List D:=[.str x.Name,.sl (List.map M.aFP.en x.aE7),.int .i64 x.aFZ]
structure M.aN where
 aC:ByteArray
 Field:ByteArray
def M.aN.en (x:M.aN):List D:=[.str x.aC,.str x.Field]
theorem M.aN.en.fl (l:List M.aN):(List.map M.aN.en l).all (λy=>y.all D.flat)=true:=FH (λ_=>rfl) l
structure M.aE5 where
 Name:ByteArray
 aE3:Int
 aFH:List M.aC
 aFQ:List M.aN
def M.aE5.en (x:M.aE5):List D:=[.str x.Name,.int .i64 x.aE3,.sl (List.map M.aC.en x.aFH),.sl (List.map M.aN.en x.aFQ)]
structure M.bV where
 aFT:M.aE5
 Log:List Int
 aFk:Int
def M.bV.en (x:M.bV):List D:=[.str x.aFT.Name,.int .i64 x.aFT.aE3,.sl (List.map M.aC.en x.aFT.aFH),.sl (List.map M.aN.en x.aFT.aFQ),.sl (List.map enB x.Log),.int .i64 x.aFk]
structure M.bD where
 aFC:Int
 Seq:Int
 Key:M.Key
 Field:ByteArray
 N:Int
def M.bD.en (x:M.bD):List D:=[.int .i64 x.aFC,.int .i64 x.Seq,.int .i64 x.Key.aFU,.int .i64 x.Key.N,.str x.Key.aFb,.str x.Field,.int .i64 x.N]
theorem M.bD.en.fl (l:List M.bD):(List.map M.bD.en l).all (λy=>y.all D.flat)=true:=FH (λ_=>rfl) l
structure M.aM where
 aFC:Int
 aFd:Int
 aFO:List M.bD
def M.aM.en (x:M.aM):List D:=[.int .i64 x.aFC,.int .i64 x.aFd,.sl (List.map M.bD.en x.aFO)]
structure M.aFS where
 aM:M.aM
 aFi:Int
 aFX:Int
def M.aFS.en (x:M.aFS):List D:=[.int .i64 x.aM.aFC,.int .i64 x.aM.aFd,.sl (List.map M.bD.en x.aM.aFO),.int .i64 x.aFi,.int .i64 x.aFX]
structure M.aG where
 aFT:M.aC
 aFq:Int
 aFS:M.aFS
def M.aG.en (x:M.aG):List D:=[.str x.aFT.Name,.sl (List.map M.aFP.en x.aFT.aE7),.int .i64 x.aFT.aFZ,.int .i64 x.aFq,.int .i64 x.aFS.aM.aFC,.int .i64 x.aFS.aM.aFd,.sl (List.map M.bD.en x.aFS.aM.aFO),.int .i64 x.aFS.aFi,.int .i64 x.aFS.aFX]
structure M.aJ where
 aFD:ByteArray
 Top:ByteArray
 aE4:M.aE4
 aE6:M.aE
 bV:M.bV
 aG:M.aG
 aFf:Int
 aFc:Bool
def M.aJ.en (x:M.aJ):List D:=[.str x.aFD,.str x.Top,.str x.aE4.aFD,.int .i64 x.aE4.aFY,.int .i64 x.aE4.aFg,.int .i64 x.aE4.aFl,.sl (List.map M.aFE.en x.aE6.aE6),.str x.bV.aFT.Name,.int .i64 x.bV.aFT.aE3,.sl (List.map M.aC.en x.bV.aFT.aFH),.sl (List.map M.aN.en x.bV.aFT.aFQ),.sl (List.map enB x.bV.Log),.int .i64 x.bV.aFk,.str x.aG.aFT.Name,.sl (List.map M.aFP.en x.aG.aFT.aE7),.int .i64 x.aG.aFT.aFZ,.int .i64 x.aG.aFq,.int .i64 x.aG.aFS.aM.aFC,.int .i64 x.aG.aFS.aM.aFd,.sl (List.map M.bD.en x.aG.aFS.aM.aFO),.int .i64 x.aG.aFS.aFi,.int .i64 x.aG.aFS.aFX,.int .i64 x.aFf,.bool x.aFc]
structure M.aA where
 aE8:List M.aJ
def M.aA.en (x:M.aA):List D:=[.sl (List.map M.aJ.en x.aE8)]
structure M.aU where
 aFo:ByteArray
 aE3:Int
def M.aU.en (x:M.aU):List D:=[.str x.aFo,.int .i64 x.aE3]
theorem M.aU.en.fl (l:List M.aU):(List.map M.aU.en l).all (λy=>y.all D.flat)=true:=FH (λ_=>rfl) l
structure M.Instr where
 aFU:Int
 R:Int
 N:Int
 aFb:ByteArray
def M.Instr.en (x:M.Instr):List D:=[.int .i64 x.aFU,.int .i64 x.R,.int .i64 x.N,.str x.aFb]
theorem M.Instr.en.fl (l:List M.Instr):(List.map M.Instr.en l).all (λy=>y.all D.flat)=true:=FH (λ_=>rfl) l
structure M.aFI where
 aFn:List M.Instr
 Pc:Int
 aFv:List Int
 aFs:Int
 aF1:Bool
 aF3:Bool
def M.aFI.en (x:M.aFI):List D:=[.sl (List.map M.Instr.en x.aFn),.int .i64 x.Pc,.sl (List.map enI x.aFv),.int .i64 x.aFs,.bool x.aF1,.bool x.aF3]
structure M.bC where
 Id:Int
 aFD:ByteArray
 Top:ByteArray
 aE3:Int
 aU:List M.aU
 aFI:M.aFI
def M.bC.en (x:M.bC):List D:=[.int .i64 x.Id,.str x.aFD,.str x.Top,.int .i64 x.aE3,.sl (List.map M.aU.en x.aU),.sl (List.map M.Instr.en x.aFI.aFn),.int .i64 x.aFI.Pc,.sl (List.map enI x.aFI.aFv),.int .i64 x.aFI.aFs,.bool x.aFI.aF1,.bool x.aFI.aF3]
structure M.mZ where
 Name:ByteArray
 bC:Int
 aFj:Bool
 aF0:Bool
def M.mZ.en (x:M.mZ):List D:=[.str x.Name,.int .i64 x.bC,.bool x.aFj,.bool x.aF0]
theorem M.mZ.en.fl (l:List M.mZ):(List.map M.mZ.en l).all (λy=>y.all D.flat)=true:=FH (λ_=>rfl) l
structure M.aR where
 aFM:List M.mZ
def M.aR.en (x:M.aR):List D:=[.sl (List.map M.mZ.en x.aFM)]
structure M.tB where
 To:Int
 aF5:Int
 N:Int
def M.tB.en (x:M.tB):List D:=[.int .i64 x.To,.int .i64 x.aF5,.int .i64 x.N]
theorem M.tB.en.fl (l:List M.tB):(List.map M.tB.en l).all (λy=>y.all D.flat)=true:=FH (λ_=>rfl) l
structure M.aFB where
 aFa:List M.tB
def M.aFB.en (x:M.aFB):List D:=[.sl (List.map M.tB.en x.aFa)]
structure M.aFD where
 Name:ByteArray
 aE3:Int
 aFe:List ByteArray
 aFj:Bool
def M.aFD.en (x:M.aFD):List D:=[.str x.Name,.int .i64 x.aE3,.sl (List.map enS x.aFe),.bool x.aFj]
structure M.aO where
 aFC:Int
 Seq:Int
def M.aO.en (x:M.aO):List D:=[.int .i64 x.aFC,.int .i64 x.Seq]
theorem M.aO.en.fl (l:List M.aO):(List.map M.aO.en l).all (λy=>y.all D.flat)=true:=FH (λ_=>rfl) l
structure M.aFG where
 aC:M.aC
 aO:List M.aO
 aFV:List M.bD
def M.aFG.en (x:M.aFG):List D:=[.str x.aC.Name,.sl (List.map M.aFP.en x.aC.aE7),.int .i64 x.aC.aFZ,.sl (List.map M.aO.en x.aO),.sl (List.map M.bD.en x.aFV)]
structure M.World where
 Now:Int
 aFW:Bool
 aFC:Int
 aA:M.aA
 aFF:List M.bC
 aFJ:Int
 aFM:M.aR
 aFB:M.aFB
 aFR:List M.aFD
 aFN:List M.aFG
def M.World.en (x:M.World):List D:=[.int .i64 x.Now,.bool x.aFW,.int .i64 x.aFC,.sl (List.map M.aJ.en x.aA.aE8),.sl (List.map M.bC.en x.aFF),.int .i64 x.aFJ,.sl (List.map M.mZ.en x.aFM.aFM),.sl (List.map M.tB.en x.aFB.aFa),.sl (List.map M.aFD.en x.aFR),.sl (List.map M.aFG.en x.aFN)]
structure M.Op where
 aFU:Int
 aC:ByteArray
 Key:M.Key
 aD:M.aD
 Field:ByteArray
def M.Op.en (x:M.Op):List D:=[.int .i64 x.aFU,.str x.aC,.int .i64 x.Key.aFU,.int .i64 x.Key.N,.str x.Key.aFb,.sl (List.map M.Field.en x.aD.aFA),.str x.Field]
structure M.gE where
 aF2:Bool
 aFr:Bool
 Low:M.Key
 aFx:M.Key
def M.gE.en (x:M.gE):List D:=[.bool x.aF2,.bool x.aFr,.int .i64 x.Low.aFU,.int .i64 x.Low.N,.str x.Low.aFb,.int .i64 x.aFx.aFU,.int .i64 x.aFx.N,.str x.aFx.aFb]
theorem M.gE.en.fl (l:List M.gE):(List.map M.gE.en l).all (λy=>y.all D.flat)=true:=FH (λ_=>rfl) l
structure M.kM where
 aFU:Int
 aC:ByteArray
 Field:ByteArray
def M.kM.en (x:M.kM):List D:=[.int .i64 x.aFU,.str x.aC,.str x.Field]
theorem M.kM.en.fl (l:List M.kM):(List.map M.kM.en l).all (λy=>y.all D.flat)=true:=FH (λ_=>rfl) l
def FC (p0:List Int):Option Bool:=
 some (decide ((List.length p0:Int)>1048576))
set_option maxRecDepth 40000 in
def mO (p0:List Int):Nat->Int->Int->Option M.aQ
 | 0,_,_=>none
 | aa+1,v3,v4=>if (decide (v4<(List.length p0:Int)))=true then (if (decide (v4<4000))=true then ((idx p0 v4).bind λx7=>(mO p0 aa (i64.wrap (BitVec.ofInt (IntKind.i64.bits) (i64.wrap ((i64.wrap ((i64.wrap (v3*137))+(i64.wrap x7)))+11))&&&BitVec.ofInt (IntKind.i64.bits) 1073741823).toNat) (i64.wrap (v4+1)))) else (some (⟨p0,0,v3⟩:M.aQ))) else (some (⟨p0,0,v3⟩:M.aQ))
set_option maxRecDepth 40000 in
theorem Qi:type_of% @mO.eq_2:=@mO.eq_2
def BX (p0:List Int):Option M.aQ:=
 mO p0 fuel (i64.wrap (193017+(List.length p0:Int))) 0
def rY (p0:M.aQ):Option (Int×Int×Int):=
 if (decide (p0.i<(List.length p0.b:Int)))=true then ((idx p0.b p0.i).bind λx5=>(some ((i64.wrap (p0.i+1)),(i64.wrap ((i64.wrap (p0.h*6364136223846793005))+1442695040888963407)),(i64.wrap (BitVec.ofInt (IntKind.i64.bits) (i64.wrap ((i64.wrap (BitVec.ofInt (IntKind.i64.bits) (i64.wrap (BitVec.ofInt (IntKind.i64.bits) (Int.fdiv (i64.wrap ((i64.wrap (p0.h*6364136223846793005))+1442695040888963407)) (2^(min (33:Int).toNat IntKind.i64.bits))) ^^^ BitVec.ofInt (IntKind.i64.bits) (Int.fdiv (i64.wrap ((i64.wrap (p0.h*6364136223846793005))+1442695040888963407)) (2^(min (47:Int).toNat IntKind.i64.bits)))).toNat)&&&BitVec.ofInt (IntKind.i64.bits) 255).toNat)+(i64.wrap x5)))&&&BitVec.ofInt (IntKind.i64.bits) 255).toNat)))) else (some (p0.i,(i64.wrap ((i64.wrap (p0.h*6364136223846793005))+1442695040888963407)),(i64.wrap (BitVec.ofInt (IntKind.i64.bits) (i64.wrap (BitVec.ofInt (IntKind.i64.bits) (Int.fdiv (i64.wrap ((i64.wrap (p0.h*6364136223846793005))+1442695040888963407)) (2^(min (33:Int).toNat IntKind.i64.bits))) ^^^ BitVec.ofInt (IntKind.i64.bits) (Int.fdiv (i64.wrap ((i64.wrap (p0.h*6364136223846793005))+1442695040888963407)) (2^(min (47:Int).toNat IntKind.i64.bits)))).toNat)&&&BitVec.ofInt (IntKind.i64.bits) 255).toNat)))
def aF (p0:M.aQ) (p1:Int):Option (Int×Int×Int):=
 if (decide (p1<=0))=true then (some (p0.i,p0.h,0)) else (if (decide (p1<=256))=true then ((rY p0).bind λx7=>(if (decide (p1=0))=true then none else (some (x7.1,x7.2.1,(Int.tmod x7.2.2 p1))))) else ((rY p0).bind λaa=>((rY (⟨p0.b,aa.1,aa.2.1⟩:M.aQ)).bind λae=>((rY (⟨p0.b,ae.1,ae.2.1⟩:M.aQ)).bind λaf=>(if (decide (p1=0))=true then none else (some (af.1,af.2.1,(Int.tmod (i64.wrap ((i64.wrap ((i64.wrap (aa.2.2*65536))+(i64.wrap (ae.2.2*256))))+af.2.2)) p1))))))))
def bA (p0:Int) (p1:Int) (p2:Int):Option Bool:=
 if (decide (p0>=p1))=true then (some (decide (p0<=p2))) else (some false)
def sV  : Option (List ByteArray):=
 some ([(⟨#[98,97,110,107]⟩:ByteArray),(⟨#[110,101,119,115]⟩:ByteArray),(⟨#[115,104,111,112]⟩:ByteArray)])
def yS (p0:Int) (x4:(List ByteArray)):Nat->Int->List M.aFD->List M.aFG->Option M.World
 | 0,_,_,_=>none
 | ah+1,v5,aa,ae=>if (decide (v5<(List.length x4:Int)))=true then ((idx x4 v5).bind λaf=>((app 56 aa ([(⟨af,1,[(⟨#[99,111,100,101]⟩:ByteArray),(⟨#[100,97,116,97]⟩:ByteArray),(⟨#[105,110,100,101,120]⟩:ByteArray),(⟨#[115,116,121,108,101]⟩:ByteArray)],(af.toList==(⟨#[110,101,119,115]⟩:ByteArray).toList)⟩:M.aFD)])).bind λai=>((app 96 ae ([(⟨(⟨(⟨#[110,111,116,101,115]⟩:ByteArray),([]:List M.aFP),0⟩:M.aC),([]:List M.aO),([]:List M.bD)⟩:M.aFG)])).bind λaj=>(yS p0 x4 ah (i64.wrap (v5+1)) (aa++[(⟨af,1,[(⟨#[99,111,100,101]⟩:ByteArray),(⟨#[100,97,116,97]⟩:ByteArray),(⟨#[105,110,100,101,120]⟩:ByteArray),(⟨#[115,116,121,108,101]⟩:ByteArray)],(af.toList==(⟨#[110,101,119,115]⟩:ByteArray).toList)⟩:M.aFD)]) (ae++[(⟨(⟨(⟨#[110,111,116,101,115]⟩:ByteArray),([]:List M.aFP),0⟩:M.aC),([]:List M.aO),([]:List M.bD)⟩:M.aFG)]))))) else (some (⟨0,true,p0,(⟨([]:List M.aJ)⟩:M.aA),([]:List M.bC),1,(⟨([]:List M.mZ)⟩:M.aR),(⟨([]:List M.tB)⟩:M.aFB),aa,ae⟩:M.World))
def zE (p0:Int):Option M.World:=
 (bA p0 1 1000000).bind λx1=>(if (!x1)=true then (some (⟨0,false,0,(⟨([]:List M.aJ)⟩:M.aA),([]:List M.bC),0,(⟨([]:List M.mZ)⟩:M.aR),(⟨([]:List M.tB)⟩:M.aFB),([]:List M.aFD),([]:List M.aFG)⟩:M.World)) else ((sV).bind λx4=>(yS p0 x4 fuel 0 ([]:List M.aFD) ([]:List M.aFG))))
def sA (p0:M.aE9):Option M.aE9:=
 (app 1 ([]:List Int) p0.aFw).bind λx1=>(some p0)
def mC (p0:M.aFE):Nat->Int->List M.aFL->Option M.aFE
 | 0,_,_=>none
 | ah+1,v4,aa=>if (decide (v4<(List.length p0.aFK:Int)))=true then ((idx p0.aFK v4).bind λae=>((sA ae.aE9).bind λaf=>((app 88 aa ([(⟨ae.aFD,ae.aFo,af⟩:M.aFL)])).bind λai=>(mC p0 ah (i64.wrap (v4+1)) (aa++[(⟨ae.aFD,ae.aFo,af⟩:M.aFL)]))))) else (some (⟨p0.aE3,aa⟩:M.aFE))
def zL (p0:M.aFE):Option M.aFE:=
 mC p0 fuel 0 ([]:List M.aFL)
def oJ (p0:M.aE):Nat->Int->List M.aFE->Option M.aE
 | 0,_,_=>none
 | af+1,v4,aa=>if (decide (v4<(List.length p0.aE6:Int)))=true then ((idx p0.aE6 v4).bind λah=>((zL ah).bind λae=>((app 32 aa ([ae])).bind λai=>(oJ p0 af (i64.wrap (v4+1)) (aa++[ae]))))) else (some (⟨aa⟩:M.aE))
def dC (p0:M.aE):Option M.aE:=
 oJ p0 fuel 0 ([]:List M.aFE)
def cC (p0:M.aD):Option M.aD:=
 (app 24 ([]:List M.Field) p0.aFA).bind λx1=>(some p0)
def xH (p0:M.aFP):Option M.aFP:=
 (cC p0.aD).bind λx1=>(some (⟨p0.Key,x1⟩:M.aFP))
def pY (p0:M.aC):Nat->Int->List M.aFP->Option M.aC
 | 0,_,_=>none
 | af+1,v4,aa=>if (decide (v4<(List.length p0.aE7:Int)))=true then ((idx p0.aE7 v4).bind λah=>((xH ah).bind λae=>((app 56 aa ([ae])).bind λai=>(pY p0 af (i64.wrap (v4+1)) (aa++[ae]))))) else (some (⟨p0.Name,aa,p0.aFZ⟩:M.aC))
def bS (p0:M.aC):Option M.aC:=
 pY p0 fuel 0 ([]:List M.aFP)
def rA (p0:M.aE5):Nat->Int->List M.aC->Option M.aE5
 | 0,_,_=>none
 | af+1,v4,aa=>if (decide (v4<(List.length p0.aFH:Int)))=true then ((idx p0.aFH v4).bind λah=>((bS ah).bind λae=>((app 48 aa ([ae])).bind λai=>(rA p0 af (i64.wrap (v4+1)) (aa++[ae]))))) else (some (⟨p0.Name,p0.aE3,aa,p0.aFQ⟩:M.aE5))
def eK (p0:M.aE5):Option M.aE5:=
 (app 32 ([]:List M.aN) p0.aFQ).bind λx1=>(rA p0 fuel 0 ([]:List M.aC))
def yK (p0:M.bV):Option M.bV:=
 (eK p0.aFT).bind λx1=>((app 1 ([]:List Int) p0.Log).bind λx3=>(some (⟨x1,p0.Log,p0.aFk⟩:M.bV)))
def sB (p0:M.aM):Option M.aM:=
 (app 72 ([]:List M.bD) p0.aFO).bind λx1=>(some p0)
def vQ (p0:M.aFS):Option M.aFS:=
 (sB p0.aM).bind λx1=>(some (⟨x1,p0.aFi,p0.aFX⟩:M.aFS))
def vY (p0:M.aG):Option M.aG:=
 (bS p0.aFT).bind λx1=>((vQ p0.aFS).bind λx3=>(some (⟨x1,p0.aFq,x3⟩:M.aG)))
def lV (p0:M.aJ):Option M.aJ:=
 (dC p0.aE6).bind λx1=>((yK p0.bV).bind λx3=>((vY p0.aG).bind λx5=>(some (⟨p0.aFD,p0.Top,p0.aE4,x1,x3,x5,p0.aFf,p0.aFc⟩:M.aJ))))
def nM (p0:M.aA):Nat->Int->List M.aJ->Option M.aA
 | 0,_,_=>none
 | af+1,v4,aa=>if (decide (v4<(List.length p0.aE8:Int)))=true then ((idx p0.aE8 v4).bind λah=>((lV ah).bind λae=>((app 328 aa ([ae])).bind λai=>(nM p0 af (i64.wrap (v4+1)) (aa++[ae]))))) else (some (⟨aa⟩:M.aA))
def fB (p0:M.aA):Option M.aA:=
 nM p0 fuel 0 ([]:List M.aJ)
def uC (p0:List M.Instr):Option (List M.Instr):=
 (app 40 ([]:List M.Instr) p0).bind λx1=>(some p0)
def AE (p0:M.aFI):Option M.aFI:=
 (uC p0.aFn).bind λx1=>((app 8 ([]:List Int) p0.aFv).bind λx3=>(some (⟨x1,p0.Pc,p0.aFv,p0.aFs,p0.aF1,p0.aF3⟩:M.aFI)))
def lW (p0:M.bC):Option M.bC:=
 (app 24 ([]:List M.aU) p0.aU).bind λx1=>((AE p0.aFI).bind λaa=>(some (⟨p0.Id,p0.aFD,p0.Top,p0.aE3,p0.aU,aa⟩:M.bC)))
def vX (p0:M.aR):Option M.aR:=
 (app 32 ([]:List M.mZ) p0.aFM).bind λx1=>(some p0)
def oL (p0:M.aFB):Option M.aFB:=
 (app 24 ([]:List M.tB) p0.aFa).bind λx1=>(some p0)
def AG (p0:M.aFD):Option M.aFD:=
 (app 16 ([]:List ByteArray) p0.aFe).bind λx1=>(some p0)
def gH (p0:M.aFG):Option M.aFG:=
 (bS p0.aC).bind λx1=>((app 16 ([]:List M.aO) p0.aO).bind λx3=>((app 72 ([]:List M.bD) p0.aFV).bind λx5=>(some (⟨x1,p0.aO,p0.aFV⟩:M.aFG))))
def iS (p0:M.World) (x1:M.aA) (ah:List M.bC) (ai:M.aR) (aj:M.aFB) (ak:List M.aFD):Nat->Int->List M.aFG->Option M.World
 | 0,_,_=>none
 | al+1,v6,ae=>if (decide (v6<(List.length p0.aFN:Int)))=true then ((idx p0.aFN v6).bind λaf=>((gH af).bind λaa=>((app 96 ae ([aa])).bind λao=>(iS p0 x1 ah ai aj ak al (i64.wrap (v6+1)) (ae++[aa]))))) else (some (⟨p0.Now,p0.aFW,p0.aFC,x1,ah,p0.aFJ,ai,aj,ak,ae⟩:M.World))
def iV (p0:M.World) (x1:M.aA) (ae:List M.bC) (af:M.aR) (ah:M.aFB):Nat->Int->List M.aFD->Option M.World
 | 0,_,_=>none
 | aj+1,v5,aa=>if (decide (v5<(List.length p0.aFR:Int)))=true then ((idx p0.aFR v5).bind λak=>((AG ak).bind λai=>((app 56 aa ([ai])).bind λal=>(iV p0 x1 ae af ah aj (i64.wrap (v5+1)) (aa++[ai]))))) else (iS p0 x1 ae af ah aa fuel 0 ([]:List M.aFG))
def lJ (p0:M.World) (x1:M.aA):Nat->Int->List M.bC->Option M.World
 | 0,_,_=>none
 | af+1,v4,aa=>if (decide (v4<(List.length p0.aFF:Int)))=true then ((idx p0.aFF v4).bind λah=>((lW ah).bind λae=>((app 144 aa ([ae])).bind λak=>(lJ p0 x1 af (i64.wrap (v4+1)) (aa++[ae]))))) else ((vX p0.aFM).bind λai=>((oL p0.aFB).bind λaj=>(iV p0 x1 aa ai aj fuel 0 ([]:List M.aFD))))
def eB (p0:M.World):Option M.World:=
 (fB p0.aA).bind λx1=>(lJ p0 x1 fuel 0 ([]:List M.bC))
def nO (p0:List M.bC) (p1:Int):Nat->Int->Option Int
 | 0,_=>none
 | aa+1,v5=>if (decide (v5<(List.length p0:Int)))=true then ((idx p0 v5).bind λx6=>(if (x6.Id==p1)=true then (some v5) else (nO p0 p1 aa (i64.wrap (v5+1))))) else (some (-1))
def yO (p0:List M.bC) (p1:Int):Option Int:=
 nO p0 p1 fuel 0
def pW (p0:M.World) (p1:Int):Option Int:=
 (yO p0.aFF p1).bind λx1=>(some x1)
def nA (p0:ByteArray):Nat->Int->Option Bool
 | 0,_=>none
 | aa+1,v3=>if (decide (v3<(p0.size:Int)))=true then ((VO p0 v3).bind λx5=>(if (decide ((x5.toNat:Int)<97))=true then (some false) else (if (decide ((x5.toNat:Int)>122))=true then (some false) else (nA p0 aa (i64.wrap (v3+1)))))) else ((bA (p0.size:Int) 1 8).bind λae=>(some ae))
def bT (p0:ByteArray):Option Bool:=
 nA p0 fuel 0
def kH (p0:M.aFD):Nat->Int->Option Bool
 | 0,_=>none
 | aa+1,v3=>if (decide (v3<(List.length p0.aFe:Int)))=true then ((idx p0.aFe v3).bind λx6=>((bT x6).bind λae=>(if (!ae)=true then (some false) else (if (decide (v3>0))=true then ((idx p0.aFe (i64.wrap (v3-1))).bind λaf=>(if (!(Op.bytesLess af.toList x6.toList))=true then (some false) else (kH p0 aa (i64.wrap (v3+1))))) else (kH p0 aa (i64.wrap (v3+1))))))) else ((bT p0.Name).bind λah=>(if ah=true then ((bA p0.aE3 1 1000000000000).bind λai=>(if ai=true then ((bA (List.length p0.aFe:Int) 1 6).bind λaj=>(some aj)) else (some false))) else (some false)))
def xL (p0:M.aFD):Option Bool:=
 kH p0 fuel 0
def iK (p0:ByteArray):Nat->Int->Option Bool
 | 0,_=>none
 | aa+1,v3=>if (decide (v3<(p0.size:Int)))=true then ((VO p0 v3).bind λx5=>(if (decide ((x5.toNat:Int)<97))=true then (if (decide ((x5.toNat:Int)<48))=true then (some false) else (if (decide ((x5.toNat:Int)>57))=true then (some false) else (iK p0 aa (i64.wrap (v3+1))))) else (if (decide ((x5.toNat:Int)>122))=true then (if (decide ((x5.toNat:Int)<48))=true then (some false) else (if (decide ((x5.toNat:Int)>57))=true then (some false) else (iK p0 aa (i64.wrap (v3+1))))) else (iK p0 aa (i64.wrap (v3+1)))))) else (some (decide ((p0.size:Int)<=12)))
def zW (p0:ByteArray):Option Bool:=
 iK p0 fuel 0
def fG (p0:M.Key):Option Bool:=
 (bA p0.aFU 1 3).bind λx1=>(if x1=true then ((bA p0.N (-1000000000000) 1000000000000).bind λx4=>(if x4=true then (if (p0.aFU != 2)=true then ((zW p0.aFb).bind λx8=>(if x8=true then (if (p0.aFU != 1)=true then (some true) else (some (p0.aFb.toList==(⟨#[]⟩:ByteArray).toList))) else (some false))) else (if (p0.N==0)=true then ((zW p0.aFb).bind λaa=>(if aa=true then (if (p0.aFU != 1)=true then (some true) else (some (p0.aFb.toList==(⟨#[]⟩:ByteArray).toList))) else (some false))) else (some false))) else (some false))) else (some false))
def jI (p0:M.bD):Option Bool:=
 (bA p0.aFC 1 1000000).bind λx1=>(if x1=true then ((bA p0.Seq 1 1000000).bind λx4=>(if x4=true then ((fG p0.Key).bind λx7=>(if x7=true then ((bT p0.Field).bind λaa=>(if aa=true then ((bA p0.N 0 1000000000).bind λae=>(some ae)) else (some false))) else (some false))) else (some false))) else (some false))
def gR (p0:M.aD):Nat->Int->Option Bool
 | 0,_=>none
 | aa+1,v3=>if (decide (v3<(List.length p0.aFA:Int)))=true then ((idx p0.aFA v3).bind λx6=>((bT x6.Name).bind λae=>(if (!ae)=true then (some false) else ((bA x6.N 0 1000000000).bind λaf=>(if (!af)=true then (some false) else (if (decide (v3>0))=true then ((idx p0.aFA (i64.wrap (v3-1))).bind λah=>(if (!(Op.bytesLess ah.Name.toList x6.Name.toList))=true then (some false) else (gR p0 aa (i64.wrap (v3+1))))) else (gR p0 aa (i64.wrap (v3+1))))))))) else (some (decide ((List.length p0.aFA:Int)<=6)))
def bJ (p0:M.aD):Option Bool:=
 gR p0 fuel 0
def zY (p0:Bool) (p1:Bool):Option Int:=
 if p0=true then (some (-1)) else (if p1=true then (some 1) else (some 0))
def bG (p0:M.Key) (p1:M.Key):Option Int:=
 (fG p0).bind λx1=>(if (!x1)=true then (some 0) else ((fG p1).bind λx4=>(if (!x4)=true then (some 0) else (if (p0.aFU != p1.aFU)=true then ((zY (decide (p0.aFU<p1.aFU)) true).bind λx8=>(some x8)) else (if (p0.N != p1.N)=true then ((zY (decide (p0.N<p1.N)) true).bind λaa=>(some aa)) else ((zY (Op.bytesLess p0.aFb.toList p1.aFb.toList) (!(Op.bytesLess p0.aFb.toList p1.aFb.toList||p0.aFb.toList==p1.aFb.toList))).bind λae=>(some ae)))))))
def iW (p0:M.aC):Nat->Int->Option Bool
 | 0,_=>none
 | aa+1,v3=>if (decide (v3<(List.length p0.aE7:Int)))=true then ((idx p0.aE7 v3).bind λx6=>((fG x6.Key).bind λae=>(if (!ae)=true then (some false) else ((bJ x6.aD).bind λaf=>(if (!af)=true then (some false) else (if (decide (v3>0))=true then ((idx p0.aE7 (i64.wrap (v3-1))).bind λah=>((bG ah.Key x6.Key).bind λai=>(if (decide (ai>=0))=true then (some false) else (iW p0 aa (i64.wrap (v3+1)))))) else (iW p0 aa (i64.wrap (v3+1))))))))) else ((bT p0.Name).bind λaj=>(if aj=true then (if (decide ((List.length p0.aE7:Int)<=16))=true then ((bA p0.aFZ 0 1000000).bind λak=>(some ak)) else (some false)) else (some false)))
def lX (p0:M.aC):Option Bool:=
 iW p0 fuel 0
def jJ (p0:M.aFG):Nat->Int->Option Bool
 | 0,_=>none
 | aa+1,v4=>if (decide (v4<(List.length p0.aFV:Int)))=true then ((idx p0.aFV v4).bind λae=>((jI ae).bind λaf=>(if (!af)=true then (some false) else (jJ p0 aa (i64.wrap (v4+1)))))) else ((lX p0.aC).bind λah=>(if ah=true then (if (p0.aC.Name.toList==(⟨#[110,111,116,101,115]⟩:ByteArray).toList)=true then (some (decide ((List.length p0.aO:Int)<=60))) else (some false)) else (some false)))
def gS (p0:M.aFG):Nat->Int->Option Bool
 | 0,_=>none
 | aa+1,v3=>if (decide (v3<(List.length p0.aO:Int)))=true then ((idx p0.aO v3).bind λx6=>((bA x6.aFC 1 1000000).bind λae=>(if (!ae)=true then (some false) else ((bA x6.Seq 0 1000000).bind λaf=>(if (!af)=true then (some false) else (if (decide (v3>0))=true then ((idx p0.aO (i64.wrap (v3-1))).bind λah=>(if (decide (ah.aFC>=x6.aFC))=true then (some false) else (gS p0 aa (i64.wrap (v3+1))))) else (gS p0 aa (i64.wrap (v3+1))))))))) else (jJ p0 fuel 0)
def oU (p0:M.aFG):Option Bool:=
 gS p0 fuel 0
def pT (p0:M.bC):Nat->Int->Option Bool
 | 0,_=>none
 | aa+1,v3=>if (decide (v3<(List.length p0.aU:Int)))=true then ((idx p0.aU v3).bind λx6=>((bT x6.aFo).bind λae=>(if (!ae)=true then (some false) else (if (x6.aE3 != p0.aE3)=true then (some false) else (pT p0 aa (i64.wrap (v3+1))))))) else ((bA p0.Id 1 1000000000000).bind λaf=>(if af=true then ((bT p0.aFD).bind λah=>(if ah=true then ((bT p0.Top).bind λai=>(if ai=true then ((bA p0.aE3 1 1000000000000).bind λaj=>(if aj=true then (some (decide ((List.length p0.aU:Int)<=8))) else (some false))) else (some false))) else (some false))) else (some false)))
def rX (p0:M.bC):Option Bool:=
 pT p0 fuel 0
def gK (p0:M.aA) (p1:ByteArray) (p2:ByteArray):Nat->Int->Option Int
 | 0,_=>none
 | aa+1,v7=>if (decide (v7<(List.length p0.aE8:Int)))=true then ((idx p0.aE8 v7).bind λx8=>(if (x8.aFD.toList==p1.toList)=true then (if (x8.Top.toList==p2.toList)=true then (some v7) else (gK p0 p1 p2 aa (i64.wrap (v7+1)))) else (gK p0 p1 p2 aa (i64.wrap (v7+1))))) else (some (-1))
def iU (p0:M.aA) (p1:ByteArray) (p2:ByteArray):Option Int:=
 gK p0 p1 p2 fuel 0
def bZ (p0:M.aE4):Nat->Int->Int->Option Bool
 | 0,_,_=>none
 | ae+1,v3,v5=>if (decide (v5<((3:Nat):Int)))=true then ((idx ([p0.aFl,p0.aFg,p0.aFY]) v5).bind λaa=>((bA aa 0 1000000000000).bind λaf=>(if (!af)=true then (some false) else (if (aa != 0)=true then (if (decide (aa<=v3))=true then (some false) else (bZ p0 ae aa (i64.wrap (v5+1)))) else (bZ p0 ae v3 (i64.wrap (v5+1))))))) else ((bT p0.aFD).bind λah=>(some ah))
def lN (p0:M.aE4):Option Bool:=
 bZ p0 fuel 0 0
def wW (p0:M.aE9):Option Bool:=
 (bA p0.aFu 1 4).bind λx1=>(if x1=true then ((bA p0.aFm 0 999).bind λx4=>(if x4=true then ((bA p0.aE3 0 1000000000000).bind λx7=>(if x7=true then (some (decide ((List.length p0.aFw:Int)<=60))) else (some false))) else (some false))) else (some false))
def gJ (p0:List M.aFL) (v3:Int) (x5:M.aFL) (ae:Int->Option Bool):Nat->Int->Option Bool
 | 0,_=>none
 | af+1,aa=>if (decide (aa<v3))=true then ((idx p0 aa).bind λah=>(if (ah.aFD.toList==x5.aFD.toList)=true then (if (ah.aFo.toList==x5.aFo.toList)=true then (some false) else (gJ p0 v3 x5 ae af (i64.wrap (aa+1)))) else (gJ p0 v3 x5 ae af (i64.wrap (aa+1))))) else (ae aa)
def eM (p0:List M.aFL):Nat->Int->Option Bool
 | 0,_=>none
 | ae+1,v3=>if (decide (v3<(List.length p0:Int)))=true then ((idx p0 v3).bind λx5=>((bT x5.aFD).bind λaf=>(if (!af)=true then (some false) else ((bT x5.aFo).bind λah=>(if (!ah)=true then (some false) else ((wW x5.aE9).bind λai=>(if (!ai)=true then (some false) else (gJ p0 v3 x5 (λ(aa:Int)=>eM p0 ae (i64.wrap (v3+1))) fuel 0)))))))) else (some (decide ((List.length p0:Int)<=12)))
def sE (p0:List M.aFL):Option Bool:=
 eM p0 fuel 0
def eJ (p0:M.aE):Nat->Int->Option Bool
 | 0,_=>none
 | aa+1,v3=>if (decide (v3<(List.length p0.aE6:Int)))=true then ((idx p0.aE6 v3).bind λx6=>((bA x6.aE3 1 1000000000000).bind λae=>(if (!ae)=true then (some false) else (if (decide (v3>0))=true then ((idx p0.aE6 (i64.wrap (v3-1))).bind λaf=>(if (decide (af.aE3>=x6.aE3))=true then (some false) else ((sE x6.aFK).bind λah=>(if (!ah)=true then (some false) else (eJ p0 aa (i64.wrap (v3+1))))))) else ((sE x6.aFK).bind λai=>(if (!ai)=true then (some false) else (eJ p0 aa (i64.wrap (v3+1))))))))) else (some (decide ((List.length p0.aE6:Int)<=4)))
def cE (p0:M.aE):Option Bool:=
 eJ p0 fuel 0
def kY (p0:M.aE5) (p1:ByteArray):Nat->Int->Option Int
 | 0,_=>none
 | aa+1,v5=>if (decide (v5<(List.length p0.aFH:Int)))=true then ((idx p0.aFH v5).bind λx7=>(if (x7.Name.toList==p1.toList)=true then (some v5) else (kY p0 p1 aa (i64.wrap (v5+1))))) else (some (-1))
def pR (p0:M.aE5) (p1:ByteArray):Option Int:=
 kY p0 p1 fuel 0
def pG (p0:M.aD) (p1:ByteArray):Nat->Int->Option (Int×Bool)
 | 0,_=>none
 | aa+1,v6=>if (decide (v6<(List.length p0.aFA:Int)))=true then ((idx p0.aFA v6).bind λx7=>(if (x7.Name.toList==p1.toList)=true then (some (x7.N,true)) else (pG p0 p1 aa (i64.wrap (v6+1))))) else (some (0,false))
def kA (p0:M.aD) (p1:ByteArray):Option (Int×Bool):=
 pG p0 p1 fuel 0
def Br (p0:M.aFP) (p1:M.aFP) (p2:ByteArray):Option Bool:=
 (kA p0.aD p2).bind λx1=>((kA p1.aD p2).bind λx3=>(if (decide (x1.1<x3.1))=true then (some true) else (if (x1.1==x3.1)=true then ((bG p0.Key p1.Key).bind λx7=>(some (decide (x7<0)))) else (some false))))
def nI (p1:ByteArray) (ae:List M.aFP) (ah:M.aFP) (af:Int->Option (List M.aFP)):Nat->Int->Option (List M.aFP)
 | 0,_=>none
 | ai+1,aa=>if (decide (aa>0))=true then ((idx ae (i64.wrap (aa-1))).bind λaj=>((Br ah aj p1).bind λak=>(if ak=true then (nI p1 ae ah af ai (i64.wrap (aa-1))) else (af aa)))) else (af aa)
def lC (p0:M.aC) (p1:ByteArray):Nat->Int->List M.aFP->Option (List M.aFP)
 | 0,_,_=>none
 | ai+1,v6,aa=>if (decide (v6<(List.length p0.aE7:Int)))=true then ((idx p0.aE7 v6).bind λaf=>((kA af.aD p1).bind λaj=>(if (!aj.2)=true then (lC p0 p1 ai (i64.wrap (v6+1)) aa) else (nI p1 aa af (λ(ae:Int)=>(Ap aa ae).bind λal=>((app 56 ([]:List M.aFP) (List.take ae.toNat aa)).bind λao=>((xH af).bind λah=>((app 56 (List.take ae.toNat aa) ([ah])).bind λaq=>((app 56 ((List.take ae.toNat aa)++[ah]) (List.drop ae.toNat aa)).bind λak=>(lC p0 p1 ai (i64.wrap (v6+1)) (((List.take ae.toNat aa)++[ah])++(List.drop ae.toNat aa)))))))) fuel (List.length aa:Int))))) else (some aa)
def AF (p0:M.aC) (p1:ByteArray):Option (List M.aFP):=
 lC p0 p1 fuel 0 ([]:List M.aFP)
def lL (p1:ByteArray) (x1:(List M.aFP)):Nat->Int->Option (M.Key×M.Key×Bool)
 | 0,_=>none
 | af+1,v8=>if (decide (v8<(List.length x1:Int)))=true then ((idx x1 (i64.wrap (v8-1))).bind λaa=>((kA aa.aD p1).bind λah=>((idx x1 v8).bind λae=>((kA ae.aD p1).bind λai=>(if (ah.1==ai.1)=true then (some (aa.Key,ae.Key,true)) else (lL p1 x1 af (i64.wrap (v8+1)))))))) else (some ((⟨0,0,(⟨#[]⟩:ByteArray)⟩:M.Key),(⟨0,0,(⟨#[]⟩:ByteArray)⟩:M.Key),false))
def uM (p0:M.aC) (p1:ByteArray):Option (M.Key×M.Key×Bool):=
 (AF p0 p1).bind λx1=>(lL p1 x1 fuel 1)
def gI (p0:M.aE5) (v4:Int) (ae:M.aN) (af:Int->Option Bool):Nat->Int->Option Bool
 | 0,_=>none
 | ai+1,aa=>if (decide (aa<v4))=true then ((idx p0.aFQ aa).bind λah=>(if ((ah.aC.toList==ae.aC.toList)&&(ah.Field.toList==ae.Field.toList))=true then (some false) else (gI p0 v4 ae af ai (i64.wrap (aa+1))))) else (af aa)
def eQ (p0:M.aE5):Nat->Int->Option Bool
 | 0,_=>none
 | ah+1,v4=>if (decide (v4<(List.length p0.aFQ:Int)))=true then ((idx p0.aFQ v4).bind λaa=>((pR p0 aa.aC).bind λae=>(if (decide (ae<0))=true then (some false) else ((bT aa.Field).bind λai=>(if (!ai)=true then (some false) else ((idx p0.aFH ae).bind λaj=>((uM aj aa.Field).bind λak=>(if ak.2.2=true then (some false) else (gI p0 v4 aa (λ(af:Int)=>eQ p0 ah (i64.wrap (v4+1))) fuel 0))))))))) else ((bT p0.Name).bind λal=>(if al=true then ((bA p0.aE3 0 1000).bind λao=>(if ao=true then (if (decide ((List.length p0.aFH:Int)<=4))=true then (some (decide ((List.length p0.aFQ:Int)<=4))) else (some false)) else (some false))) else (some false)))
def eP (p0:M.aE5):Nat->Int->Option Bool
 | 0,_=>none
 | aa+1,v3=>if (decide (v3<(List.length p0.aFH:Int)))=true then ((idx p0.aFH v3).bind λx6=>((lX x6).bind λae=>(if (!ae)=true then (some false) else (if (decide (v3>0))=true then ((idx p0.aFH (i64.wrap (v3-1))).bind λaf=>(if (!(Op.bytesLess af.Name.toList x6.Name.toList))=true then (some false) else (eP p0 aa (i64.wrap (v3+1))))) else (eP p0 aa (i64.wrap (v3+1))))))) else (eQ p0 fuel 0)
def bU (p0:M.aE5):Option Bool:=
 eP p0 fuel 0
def mD (p0:M.aM):Nat->Int->Option Bool
 | 0,_=>none
 | ae+1,v4=>if (decide (v4<(List.length p0.aFO:Int)))=true then ((idx p0.aFO v4).bind λaa=>((jI aa).bind λaf=>(if (!af)=true then (some false) else (if (aa.aFC != p0.aFC)=true then (some false) else (if (aa.Seq != (i64.wrap ((i64.wrap (p0.aFd-(List.length p0.aFO:Int)))+v4)))=true then (some false) else (mD p0 ae (i64.wrap (v4+1)))))))) else (some true)
def iD (p0:M.aM):Option Bool:=
 (bA p0.aFC 1 1000000).bind λx1=>(if (!x1)=true then (some false) else ((bA p0.aFd 1 1000000).bind λx4=>(if (!x4)=true then (some false) else (if (decide ((List.length p0.aFO:Int)>20))=true then (some false) else (mD p0 fuel 0)))))
def mW (p0:M.aG):Option Bool:=
 (lX p0.aFT).bind λx1=>(if x1=true then (if (p0.aFT.Name.toList==(⟨#[110,111,116,101,115]⟩:ByteArray).toList)=true then ((bA p0.aFq 0 1000000000000).bind λx5=>(if x5=true then ((iD p0.aFS.aM).bind λx8=>(some x8)) else (some false))) else (some false)) else (some false))
def wN (p0:M.aE9) (p1:Bool):Option Int:=
 if p1=true then (some 76) else (some (i64.wrap (16+(List.length p0.aFw:Int))))
def jG (p0:M.aE) (v4:Int) (k8:Int->Int->Option Int):Nat->Int->Int->Option Int
 | 0,_,_=>none
 | ai+1,ae,aa=>(idx p0.aE6 v4).bind λaf=>(if (decide (aa<(List.length af.aFK:Int)))=true then ((idx af.aFK aa).bind λah=>((wN ah.aE9 (ah.aE9.aFu==3)).bind λaj=>(jG p0 v4 k8 ai (i64.wrap (ae+aj)) (i64.wrap (aa+1))))) else (k8 ae aa))
def eH (p0:M.aE):Nat->Int->Int->Option Int
 | 0,_,_=>none
 | af+1,v3,v4=>if (decide (v4<(List.length p0.aE6:Int)))=true then (jG p0 v4 (λ(aa:Int) (ae:Int)=>eH p0 af aa (i64.wrap (v4+1))) fuel v3 0) else (some v3)
def wG (p0:M.aE):Option Int:=
 eH p0 fuel 0 0
def bF (p0:M.Key):Nat->Int->List Int->Option (List Int)
 | 0,_,_=>none
 | ae+1,v4,aa=>if (decide (v4>=0))=true then (if (p0.aFU != 2)=true then (if (decide (0<=(i64.wrap (8*v4))))=true then ((app 1 aa ([(IntKind.u8.wrap (i64.wrap (BitVec.ofInt (IntKind.i64.bits) (Int.fdiv (i64.wrap (p0.N+1000000000000)) (2^(min (i64.wrap (8*v4)).toNat IntKind.i64.bits)))&&&BitVec.ofInt (IntKind.i64.bits) 255).toNat))])).bind λaf=>(bF p0 ae (i64.wrap (v4-1)) (aa++[(IntKind.u8.wrap (i64.wrap (BitVec.ofInt (IntKind.i64.bits) (Int.fdiv (i64.wrap (p0.N+1000000000000)) (2^(min (i64.wrap (8*v4)).toNat IntKind.i64.bits)))&&&BitVec.ofInt (IntKind.i64.bits) 255).toNat))]))) else none) else ((app 1 aa (bO p0.aFb)).bind λah=>(some (aa++(bO p0.aFb))))) else ((app 1 aa (bO p0.aFb)).bind λai=>(some (aa++(bO p0.aFb))))
def kD (p0:M.Key):Option (List Int):=
 (fG p0).bind λx1=>(if (!x1)=true then (some ([]:List Int)) else (bF p0 fuel 5 ([(IntKind.u8.wrap p0.aFU)])))
def cK  : Nat->Int->List Int->Option (List Int)
 | 0,_,_=>none
 | aa+1,v1,r6=>if (decide (v1>127))=true then ((app 1 r6 ([(IntKind.u8.wrap (i64.wrap (BitVec.ofInt (IntKind.i64.bits) (i64.wrap (BitVec.ofInt (IntKind.i64.bits) v1&&&BitVec.ofInt (IntKind.i64.bits) 127).toNat)|||BitVec.ofInt (IntKind.i64.bits) 128).toNat))])).bind λae=>(cK aa (Int.fdiv v1 (2^(min (7:Int).toNat IntKind.i64.bits))) (r6++[(IntKind.u8.wrap (i64.wrap (BitVec.ofInt (IntKind.i64.bits) (i64.wrap (BitVec.ofInt (IntKind.i64.bits) v1&&&BitVec.ofInt (IntKind.i64.bits) 127).toNat)|||BitVec.ofInt (IntKind.i64.bits) 128).toNat))]))) else ((app 1 r6 ([(IntKind.u8.wrap v1)])).bind λaf=>(some (r6++[(IntKind.u8.wrap v1)])))
def bP (p0:List Int) (p1:Int):Option (List Int):=
 (app 1 ([]:List Int) p0).bind λx1=>((bA p1 0 1000000000000).bind λx7=>(if (!x7)=true then (some p0) else (cK fuel p1 p0)))
def bN (p0:List Int) (p1:List Int):Option (List Int):=
 (bP p0 (List.length p1:Int)).bind λx1=>((app 1 x1 p1).bind λx3=>(some (x1++p1)))
def cQ (p0:M.aD):Nat->Int->List Int->Option (List Int)
 | 0,_,_=>none
 | af+1,v4,aa=>if (decide (v4<(List.length p0.aFA:Int)))=true then ((idx p0.aFA v4).bind λae=>((bN aa (bO ae.Name)).bind λah=>((bP ah ae.N).bind λai=>(cQ p0 af (i64.wrap (v4+1)) ai)))) else (some aa)
def fZ (p0:M.aD):Option (List Int):=
 (bJ p0).bind λx1=>(if (!x1)=true then (some ([]:List Int)) else ((bP ([]:List Int) (List.length p0.aFA:Int)).bind λx4=>(cQ p0 fuel 0 x4)))
def kR (p0:M.aC):Nat->Int->Int->Option Int
 | 0,_,_=>none
 | aa+1,v3,v4=>if (decide (v4<(List.length p0.aE7:Int)))=true then ((idx p0.aE7 v4).bind λx7=>((kD x7.Key).bind λae=>((fZ x7.aD).bind λaf=>(kR p0 aa (i64.wrap ((i64.wrap (v3+(List.length ae:Int)))+(List.length af:Int))) (i64.wrap (v4+1)))))) else (some v3)
def uF (p0:M.aC):Option Int:=
 kR p0 fuel 0 0
def gO (p0:M.aE5):Nat->Int->Int->Option Int
 | 0,_,_=>none
 | aa+1,v3,v4=>if (decide (v4<(List.length p0.aFH:Int)))=true then ((idx p0.aFH v4).bind λx7=>((uF x7).bind λae=>(gO p0 aa (i64.wrap (v3+ae)) (i64.wrap (v4+1))))) else (some v3)
def tC (p0:M.aE5):Option Int:=
 gO p0 fuel 0 0
def Bl (p0:M.bV):Option Int:=
 (tC p0.aFT).bind λx1=>(some (i64.wrap (x1+(List.length p0.Log:Int))))
def AK (p0:M.aJ):Option Int:=
 (wG p0.aE6).bind λx1=>((Bl p0.bV).bind λx3=>((uF p0.aG.aFT).bind λx5=>(some (i64.wrap ((i64.wrap ((i64.wrap (x1+x3))+x5))+(i64.wrap (40*(List.length p0.aG.aFS.aM.aFO:Int))))))))
def wT (p0:M.aJ):Option Bool:=
 (bT p0.aFD).bind λx1=>(if x1=true then ((bT p0.Top).bind λx4=>(if x4=true then ((lN p0.aE4).bind λx7=>(if x7=true then (if (p0.aE4.aFD.toList==p0.aFD.toList)=true then ((cE p0.aE6).bind λaa=>(if aa=true then ((bU p0.bV.aFT).bind λae=>(if ae=true then ((mW p0.aG).bind λaf=>(if af=true then ((bA p0.aFf 0 1000000000000).bind λah=>(if ah=true then ((AK p0).bind λai=>(some (decide (ai<=2500)))) else (some false))) else (some false))) else (some false))) else (some false))) else (some false)) else (some false))) else (some false))) else (some false))
def yJ (p0:M.aJ) (p1:ByteArray) (p2:ByteArray):Option Bool:=
 if (Op.bytesLess p0.aFD.toList p1.toList)=true then (some true) else (if (p0.aFD.toList==p1.toList)=true then (some (Op.bytesLess p0.Top.toList p2.toList)) else (some false))
def gA (p0:M.aA):Nat->Int->Option Bool
 | 0,_=>none
 | aa+1,v3=>if (decide (v3<(List.length p0.aE8:Int)))=true then ((idx p0.aE8 v3).bind λx6=>((wT x6).bind λae=>(if (!ae)=true then (some false) else (if (decide (v3>0))=true then ((idx p0.aE8 (i64.wrap (v3-1))).bind λaf=>((yJ af x6.aFD x6.Top).bind λah=>(if (!ah)=true then (some false) else (gA p0 aa (i64.wrap (v3+1)))))) else (gA p0 aa (i64.wrap (v3+1))))))) else (some (decide ((List.length p0.aE8:Int)<=9)))
def cH (p0:M.aA):Option Bool:=
 gA p0 fuel 0
def dM (p0:ByteArray):Nat->Int->Option Bool
 | 0,_=>none
 | aa+1,v3=>if (decide (v3<(p0.size:Int)))=true then ((VO p0 v3).bind λx5=>(if (decide ((x5.toNat:Int)<97))=true then (if ((x5.toNat:Int) != 47)=true then (some false) else (dM p0 aa (i64.wrap (v3+1)))) else (if (decide ((x5.toNat:Int)>122))=true then (if ((x5.toNat:Int) != 47)=true then (some false) else (dM p0 aa (i64.wrap (v3+1)))) else (dM p0 aa (i64.wrap (v3+1)))))) else ((bA (p0.size:Int) 1 30).bind λae=>(some ae))
def wA (p0:ByteArray):Option Bool:=
 dM p0 fuel 0
def cO (p0:M.aR) (v3:Int) (x6:M.mZ) (ae:Int->Option Bool):Nat->Int->Option Bool
 | 0,_=>none
 | af+1,aa=>if (decide (aa<v3))=true then ((idx p0.aFM aa).bind λah=>(if x6.aF0=true then (if (ah.Name.toList==x6.Name.toList)=true then (if (!ah.aF0)=true then (some false) else (if (!x6.aFj)=true then (some false) else (if (!ah.aFj)=true then (some false) else (cO p0 v3 x6 ae af (i64.wrap (aa+1)))))) else (cO p0 v3 x6 ae af (i64.wrap (aa+1)))) else (cO p0 v3 x6 ae af (i64.wrap (aa+1))))) else (ae aa)
def fI (p0:M.aR):Nat->Int->Option Bool
 | 0,_=>none
 | ae+1,v3=>if (decide (v3<(List.length p0.aFM:Int)))=true then ((idx p0.aFM v3).bind λx6=>((wA x6.Name).bind λaf=>(if (!af)=true then (some false) else ((bA x6.bC 1 1000000000000).bind λah=>(if (!ah)=true then (some false) else (cO p0 v3 x6 (λ(aa:Int)=>fI p0 ae (i64.wrap (v3+1))) fuel 0)))))) else (some (decide ((List.length p0.aFM:Int)<=12)))
def vG (p0:M.aR):Option Bool:=
 fI p0 fuel 0
def dS (p0:M.World):Nat->Int->Option Bool
 | 0,_=>none
 | ae+1,v4=>if (decide (v4<(List.length p0.aFF:Int)))=true then ((idx p0.aFF v4).bind λaa=>((rX aa).bind λaf=>(if (!af)=true then (some false) else (if (decide (aa.Id>=p0.aFJ))=true then (some false) else (if (decide (v4>0))=true then ((idx p0.aFF (i64.wrap (v4-1))).bind λah=>(if (decide (ah.Id>=aa.Id))=true then (some false) else ((iU p0.aA aa.aFD aa.Top).bind λai=>(if (decide (ai<0))=true then (some false) else (dS p0 ae (i64.wrap (v4+1))))))) else ((iU p0.aA aa.aFD aa.Top).bind λaj=>(if (decide (aj<0))=true then (some false) else (dS p0 ae (i64.wrap (v4+1)))))))))) else ((bA p0.Now 0 999999990000).bind λak=>(if ak=true then ((bA p0.aFC 1 1000000).bind λal=>(if al=true then ((cH p0.aA).bind λao=>(if ao=true then ((bA p0.aFJ 1 1000000000000).bind λaq=>(if aq=true then ((vG p0.aFM).bind λar=>(some ar)) else (some false))) else (some false))) else (some false))) else (some false)))
def lF (p0:M.World):Nat->Int->Option Bool
 | 0,_=>none
 | aa+1,v3=>if (decide (v3<3))=true then ((idx p0.aFR v3).bind λx9=>((xL x9).bind λae=>(if (!ae)=true then (some false) else ((sV).bind λaf=>((idx af v3).bind λah=>(if (!(x9.Name.toList==ah.toList))=true then (some false) else ((idx p0.aFN v3).bind λai=>((oU ai).bind λaj=>(if (!aj)=true then (some false) else (lF p0 aa (i64.wrap (v3+1)))))))))))) else (dS p0 fuel 0)
def iJ (p0:M.World):Option Bool:=
 if ((List.length p0.aFR:Int) != 3)=true then (some false) else (if ((List.length p0.aFN:Int) != 3)=true then (some false) else (if (decide ((List.length p0.aFF:Int)>6))=true then (some false) else (lF p0 fuel 0)))
def mV (p0:List M.mZ) (p1:Int) (p2:M.mZ):Nat->Int->Option Bool
 | 0,_=>none
 | aa+1,v7=>if (decide (v7<p1))=true then ((idx p0 v7).bind λx8=>(if (x8.Name.toList==p2.Name.toList)=true then (if (!x8.aF0)=true then (some false) else (if (!x8.aFj)=true then (some false) else (if (!p2.aFj)=true then (some false) else (mV p0 p1 p2 aa (i64.wrap (v7+1)))))) else (mV p0 p1 p2 aa (i64.wrap (v7+1))))) else (some true)
def AZ (p0:List M.mZ) (p1:Int) (p2:M.mZ):Option Bool:=
 mV p0 p1 p2 fuel 0
def eN  : Nat->Int->List M.mZ->Option M.aR
 | 0,_,_=>none
 | ae+1,v4,r6=>if (decide (v4<(List.length r6:Int)))=true then ((idx r6 v4).bind λaa=>(if (!aa.aF0)=true then ((AZ r6 v4 aa).bind λaf=>(if af=true then (eN ae (i64.wrap (v4+1)) (List.set r6 v4.toNat (⟨aa.Name,aa.bC,aa.aFj,true⟩:M.mZ))) else (eN ae (i64.wrap (v4+1)) r6))) else (eN ae (i64.wrap (v4+1)) r6))) else (some (⟨r6⟩:M.aR))
def sM (p0:M.aR):Option M.aR:=
 (vX p0).bind λx1=>(eN fuel 0 x1.aFM)
def eF (p0:M.aR) (p1:Int):Nat->Int->List M.mZ->Option M.aR
 | 0,_,_=>none
 | af+1,v6,aa=>if (decide (v6<(List.length p0.aFM:Int)))=true then ((idx p0.aFM v6).bind λae=>(if (ae.bC != p1)=true then ((app 32 aa ([ae])).bind λai=>(eF p0 p1 af (i64.wrap (v6+1)) (aa++[ae]))) else (eF p0 p1 af (i64.wrap (v6+1)) aa))) else ((sM (⟨aa⟩:M.aR)).bind λah=>(some ah))
def sY (p0:M.aR) (p1:Int):Option M.aR:=
 eF p0 p1 fuel 0 ([]:List M.mZ)
def hY (p0:M.aFB) (p1:Int):Nat->Int->List M.tB->Option M.aFB
 | 0,_,_=>none
 | af+1,v6,aa=>if (decide (v6<(List.length p0.aFa:Int)))=true then ((idx p0.aFa v6).bind λae=>(if (ae.To != p1)=true then ((app 24 aa ([ae])).bind λah=>(hY p0 p1 af (i64.wrap (v6+1)) (aa++[ae]))) else (hY p0 p1 af (i64.wrap (v6+1)) aa))) else (some (⟨aa⟩:M.aFB))
def yA (p0:M.aFB) (p1:Int):Option M.aFB:=
 hY p0 p1 fuel 0 ([]:List M.tB)
def tT (p0:M.World) (p1:Int):Option (M.World×Bool):=
 (eB p0).bind λx1=>((pW p0 p1).bind λx3=>((iJ p0).bind λx5=>(if (!x5)=true then (some (x1,false)) else (if (decide (x3<0))=true then (some (x1,false)) else ((Ap x1.aFF x3).bind λx9=>((B5 x1.aFF (i64.wrap (x3+1))).bind λaf=>((app 144 (List.take x3.toNat x1.aFF) (List.drop (i64.wrap (x3+1)).toNat x1.aFF)).bind λah=>((sY p0.aFM p1).bind λaa=>((yA p0.aFB p1).bind λae=>(some ((⟨x1.Now,x1.aFW,x1.aFC,x1.aA,((List.take x3.toNat x1.aFF)++(List.drop (i64.wrap (x3+1)).toNat x1.aFF)),x1.aFJ,aa,ae,x1.aFR,x1.aFN⟩:M.World),true)))))))))))
def dB (p0:M.aQ) (p1:List ByteArray):Option (Int×Int×ByteArray):=
 (aF p0 (List.length p1:Int)).bind λx5=>((idx p1 x5.2.2).bind λx7=>(some (x5.1,x5.2.1,x7)))
def yM (p0:M.aQ):Option (Int×Int×ByteArray):=
 (dB p0 ([(⟨#[98,97,110,107]⟩:ByteArray),(⟨#[110,101,119,115]⟩:ByteArray),(⟨#[115,104,111,112]⟩:ByteArray)])).bind λx4=>(some (x4.1,x4.2.1,x4.2.2))
def cA (p0:M.aQ) (p1:Int):Option (Int×Int×Bool):=
 (aF p0 p1).bind λx5=>(some (x5.1,x5.2.1,(x5.2.2==0)))
def dA (p0:M.aQ):Option (Int×Int×ByteArray):=
 (dB p0 ([(⟨#[97]⟩:ByteArray),(⟨#[98]⟩:ByteArray),(⟨#[99]⟩:ByteArray),(⟨#[100,111,110,101]⟩:ByteArray),(⟨#[116,105,116,108,101]⟩:ByteArray)])).bind λx4=>(some (x4.1,x4.2.1,x4.2.2))
def zS (p0:M.aQ) (p1:Int):Option (Int×Int×M.Instr):=
 (aF p0 9).bind λx5=>((aF (⟨p0.b,x5.1,x5.2.1⟩:M.aQ) 4).bind λx7=>(if ((i64.wrap (1+x5.2.2))==1)=true then ((aF (⟨p0.b,x7.1,x7.2.1⟩:M.aQ) 6).bind λaa=>(some (aa.1,aa.2.1,(⟨(i64.wrap (1+x5.2.2)),x7.2.2,aa.2.2,(⟨#[]⟩:ByteArray)⟩:M.Instr)))) else (if ((i64.wrap (1+x5.2.2))==2)=true then ((aF (⟨p0.b,x7.1,x7.2.1⟩:M.aQ) 4).bind λae=>(some (ae.1,ae.2.1,(⟨(i64.wrap (1+x5.2.2)),x7.2.2,ae.2.2,(⟨#[]⟩:ByteArray)⟩:M.Instr)))) else (if ((i64.wrap (1+x5.2.2))==3)=true then ((aF (⟨p0.b,x7.1,x7.2.1⟩:M.aQ) (i64.wrap (p1+1))).bind λaf=>(some (af.1,af.2.1,(⟨(i64.wrap (1+x5.2.2)),x7.2.2,af.2.2,(⟨#[]⟩:ByteArray)⟩:M.Instr)))) else (if ((i64.wrap (1+x5.2.2))==4)=true then ((aF (⟨p0.b,x7.1,x7.2.1⟩:M.aQ) (i64.wrap (p1+1))).bind λah=>(some (ah.1,ah.2.1,(⟨(i64.wrap (1+x5.2.2)),0,ah.2.2,(⟨#[]⟩:ByteArray)⟩:M.Instr)))) else (if ((i64.wrap (1+x5.2.2))==5)=true then ((dB (⟨p0.b,x7.1,x7.2.1⟩:M.aQ) ([(⟨#[105,110,100,101,120]⟩:ByteArray),(⟨#[115,116,121,108,101]⟩:ByteArray),(⟨#[100,97,116,97]⟩:ByteArray)])).bind λai=>(some (ai.1,ai.2.1,(⟨(i64.wrap (1+x5.2.2)),x7.2.2,0,ai.2.2⟩:M.Instr)))) else (if ((i64.wrap (1+x5.2.2))==6)=true then ((aF (⟨p0.b,x7.1,x7.2.1⟩:M.aQ) 4).bind λaj=>((dA (⟨p0.b,aj.1,aj.2.1⟩:M.aQ)).bind λak=>(some (ak.1,ak.2.1,(⟨(i64.wrap (1+x5.2.2)),x7.2.2,aj.2.2,ak.2.2⟩:M.Instr))))) else (if ((i64.wrap (1+x5.2.2))==7)=true then ((aF (⟨p0.b,x7.1,x7.2.1⟩:M.aQ) 4).bind λal=>((dA (⟨p0.b,al.1,al.2.1⟩:M.aQ)).bind λao=>(some (ao.1,ao.2.1,(⟨(i64.wrap (1+x5.2.2)),x7.2.2,al.2.2,ao.2.2⟩:M.Instr))))) else (if ((i64.wrap (1+x5.2.2))==8)=true then ((aF (⟨p0.b,x7.1,x7.2.1⟩:M.aQ) 4).bind λaq=>((dA (⟨p0.b,aq.1,aq.2.1⟩:M.aQ)).bind λar=>(some (ar.1,ar.2.1,(⟨(i64.wrap (1+x5.2.2)),x7.2.2,aq.2.2,ar.2.2⟩:M.Instr))))) else (if ((i64.wrap (1+x5.2.2))==9)=true then (some (x7.1,x7.2.1,(⟨(i64.wrap (1+x5.2.2)),0,0,(⟨#[]⟩:ByteArray)⟩:M.Instr))) else (some (x7.1,x7.2.1,(⟨(i64.wrap (1+x5.2.2)),x7.2.2,0,(⟨#[]⟩:ByteArray)⟩:M.Instr)))))))))))))
def kL (p0:M.aQ) (x4:(Int×Int×Int)):Nat->Int->List M.Instr->Int->Int->Option (Int×Int×(List M.Instr))
 | 0,_,_,_,_=>none
 | ah+1,v5,r8,aa,ae=>if (decide (v5<x4.2.2))=true then ((zS (⟨p0.b,aa,ae⟩:M.aQ) x4.2.2).bind λaf=>((app 40 r8 ([af.2.2])).bind λai=>(kL p0 x4 ah (i64.wrap (v5+1)) (r8++[af.2.2]) af.1 af.2.1))) else (some (aa,ae,r8))
def pX (p0:M.aQ):Option (Int×Int×(List M.Instr)):=
 (aF p0 8).bind λx4=>(kL p0 x4 fuel 0 ([]:List M.Instr) x4.1 x4.2.1)
def jH (p0:ByteArray) (x1:(List ByteArray)):Nat->Int->Option Int
 | 0,_=>none
 | aa+1,v4=>if (decide (v4<(List.length x1:Int)))=true then ((idx x1 v4).bind λx9=>(if (x9.toList==p0.toList)=true then (some v4) else (jH p0 x1 aa (i64.wrap (v4+1))))) else (some (-1))
def oH (p0:ByteArray):Option Int:=
 (sV).bind λx1=>(jH p0 x1 fuel 0)
def xJ (p0:M.World):Option Int:=
 some (i64.wrap ((i64.wrap (1000*p0.aFC))+p0.aFJ))
def mX (p0:Int):Option (M.aM×Bool):=
 (iD (⟨p0,1,([]:List M.bD)⟩:M.aM)).bind λx1=>(if (!x1)=true then (some ((⟨0,0,([]:List M.bD)⟩:M.aM),false)) else (some ((⟨p0,1,([]:List M.bD)⟩:M.aM),true)))
def pQ (p0:ByteArray) (p1:ByteArray) (p2:Int):Option (M.aJ×Bool):=
 (mX p2).bind λx1=>(if (!x1.2)=true then (some ((⟨(⟨#[]⟩:ByteArray),(⟨#[]⟩:ByteArray),(⟨(⟨#[]⟩:ByteArray),0,0,0⟩:M.aE4),(⟨([]:List M.aFE)⟩:M.aE),(⟨(⟨(⟨#[]⟩:ByteArray),0,([]:List M.aC),([]:List M.aN)⟩:M.aE5),([]:List Int),0⟩:M.bV),(⟨(⟨(⟨#[]⟩:ByteArray),([]:List M.aFP),0⟩:M.aC),0,(⟨(⟨0,0,([]:List M.bD)⟩:M.aM),0,0⟩:M.aFS)⟩:M.aG),0,false⟩:M.aJ),false)) else ((wT (⟨p0,p1,(⟨p0,0,0,0⟩:M.aE4),(⟨([]:List M.aFE)⟩:M.aE),(⟨(⟨(⟨#[97,112,112]⟩:ByteArray),1,[(⟨(⟨#[110,111,116,101,115]⟩:ByteArray),([]:List M.aFP),0⟩:M.aC)],([]:List M.aN)⟩:M.aE5),([]:List Int),0⟩:M.bV),(⟨(⟨(⟨#[110,111,116,101,115]⟩:ByteArray),([]:List M.aFP),0⟩:M.aC),0,(⟨x1.1,0,0⟩:M.aFS)⟩:M.aG),0,false⟩:M.aJ)).bind λaa=>(if (!aa)=true then (some ((⟨(⟨#[]⟩:ByteArray),(⟨#[]⟩:ByteArray),(⟨(⟨#[]⟩:ByteArray),0,0,0⟩:M.aE4),(⟨([]:List M.aFE)⟩:M.aE),(⟨(⟨(⟨#[]⟩:ByteArray),0,([]:List M.aC),([]:List M.aN)⟩:M.aE5),([]:List Int),0⟩:M.bV),(⟨(⟨(⟨#[]⟩:ByteArray),([]:List M.aFP),0⟩:M.aC),0,(⟨(⟨0,0,([]:List M.bD)⟩:M.aM),0,0⟩:M.aFS)⟩:M.aG),0,false⟩:M.aJ),false)) else (some ((⟨p0,p1,(⟨p0,0,0,0⟩:M.aE4),(⟨([]:List M.aFE)⟩:M.aE),(⟨(⟨(⟨#[97,112,112]⟩:ByteArray),1,[(⟨(⟨#[110,111,116,101,115]⟩:ByteArray),([]:List M.aFP),0⟩:M.aC)],([]:List M.aN)⟩:M.aE5),([]:List Int),0⟩:M.bV),(⟨(⟨(⟨#[110,111,116,101,115]⟩:ByteArray),([]:List M.aFP),0⟩:M.aC),0,(⟨x1.1,0,0⟩:M.aFS)⟩:M.aG),0,false⟩:M.aJ),true)))))
def kU (p0:M.aA) (p1:M.aJ) (x1:M.aA):Nat->Int->Option (M.aA×Bool)
 | 0,_=>none
 | al+1,v8=>if (decide (v8<(List.length p0.aE8:Int)))=true then ((idx p0.aE8 v8).bind λao=>((yJ ao p1.aFD p1.Top).bind λaq=>(if aq=true then (kU p0 p1 x1 al (i64.wrap (v8+1))) else ((Ap x1.aE8 v8).bind λbd=>((app 328 ([]:List M.aJ) (List.take v8.toNat x1.aE8)).bind λbf=>((lV p1).bind λae=>((app 328 (List.take v8.toNat x1.aE8) ([ae])).bind λbg=>((app 328 ((List.take v8.toNat x1.aE8)++[ae]) (List.drop v8.toNat x1.aE8)).bind λbh=>((cH p0).bind λar=>(if (!ar)=true then ((fB p0).bind λav=>(some (av,false))) else ((cH (⟨(((List.take v8.toNat x1.aE8)++[ae])++(List.drop v8.toNat x1.aE8))⟩:M.aA)).bind λaw=>(if (!aw)=true then ((fB p0).bind λaf=>(some (af,false))) else (some ((⟨(((List.take v8.toNat x1.aE8)++[ae])++(List.drop v8.toNat x1.aE8))⟩:M.aA),true)))))))))))))) else ((Ap x1.aE8 v8).bind λax=>((app 328 ([]:List M.aJ) (List.take v8.toNat x1.aE8)).bind λay=>((lV p1).bind λaa=>((app 328 (List.take v8.toNat x1.aE8) ([aa])).bind λaz=>((app 328 ((List.take v8.toNat x1.aE8)++[aa]) (List.drop v8.toNat x1.aE8)).bind λba=>((cH p0).bind λah=>(if (!ah)=true then ((fB p0).bind λai=>(some (ai,false))) else ((cH (⟨(((List.take v8.toNat x1.aE8)++[aa])++(List.drop v8.toNat x1.aE8))⟩:M.aA)).bind λaj=>(if (!aj)=true then ((fB p0).bind λak=>(some (ak,false))) else (some ((⟨(((List.take v8.toNat x1.aE8)++[aa])++(List.drop v8.toNat x1.aE8))⟩:M.aA),true)))))))))))
def iI (p0:M.aA) (p1:M.aJ):Option (M.aA×Bool):=
 (fB p0).bind λx1=>((iU p0 p1.aFD p1.Top).bind λx3=>(if (decide (x3>=0))=true then ((lV p1).bind λx6=>((idx x1.aE8 x3).bind λx8=>((cH p0).bind λaa=>(if (!aa)=true then ((fB p0).bind λae=>(some (ae,false))) else ((cH (⟨(List.set x1.aE8 x3.toNat x6)⟩:M.aA)).bind λaf=>(if (!af)=true then ((fB p0).bind λah=>(some (ah,false))) else (some ((⟨(List.set x1.aE8 x3.toNat x6)⟩:M.aA),true)))))))) else (kU p0 p1 x1 fuel 0)))
def nS (p0:M.aE4) (p1:M.aFD) (p2:Bool):Option Int:=
 if (p0.aFl != 0)=true then (some p0.aFl) else (if p2=true then (some p1.aE3) else (some 0))
def vJ (p0:M.Instr) (p1:Int):Option Bool:=
 (if (p0.aFU==5)=true then (some true) else ((bA p0.aFU 6 8).bind λx9=>(some x9))).bind λx1=>((if (p0.aFU==1)=true then (some 1000) else (if (p0.aFU==2)=true then (some 3) else ((if (p0.aFU==3)=true then (some (p0.aFU==3)) else (some (p0.aFU==4))).bind λaa=>(if aa=true then (some p1) else ((if (p0.aFU==6)=true then (some (p0.aFU==6)) else (if (p0.aFU==7)=true then (some (p0.aFU==7)) else (some (p0.aFU==8)))).bind λae=>(if ae=true then (some 100) else (some 0))))))).bind λaf=>(((bA p0.aFU 1 9).bind λah=>(if (!ah)=true then (some true) else ((bA p0.R 0 3).bind λai=>(if (!ai)=true then (some true) else ((bA p0.N 0 af).bind λaj=>(some (!aj))))))).bind λak=>(if ak=true then (some false) else ((if (p0.aFU==4)=true then (some (p0.R != 0)) else (if (p0.aFU==9)=true then (some (p0.R != 0)) else (some false))).bind λal=>(if al=true then (some false) else ((if x1=true then ((bT p0.aFb).bind λao=>(if ao=true then (some true) else (some false))) else (some (p0.aFb.toList==(⟨#[]⟩:ByteArray).toList))).bind λaq=>(some aq)))))))
def mK (p0:List M.Instr):Nat->Int->Option Bool
 | 0,_=>none
 | aa+1,v3=>if (decide (v3<(List.length p0:Int)))=true then ((idx p0 v3).bind λx5=>((vJ x5 (List.length p0:Int)).bind λae=>(if (!ae)=true then (some false) else (mK p0 aa (i64.wrap (v3+1)))))) else (some (decide ((List.length p0:Int)<=16)))
def zT (p0:List M.Instr):Option Bool:=
 mK p0 fuel 0
def wY (p0:List M.Instr):Option M.aFI:=
 (zT p0).bind λx8=>(if (!x8)=true then (some (⟨([]:List M.Instr),0,[0,0,0,0],0,true,false⟩:M.aFI)) else ((uC p0).bind λaa=>(some (⟨aa,0,[0,0,0,0],0,false,false⟩:M.aFI))))
def kF (p0:Int) (p1:ByteArray) (p2:ByteArray) (p3:Int) (p4:List M.Instr):Option (M.bC×Bool):=
 (wY p4).bind λx1=>((rX (⟨p0,p1,p2,p3,([]:List M.aU),x1⟩:M.bC)).bind λx3=>(if (!x3)=true then (some ((⟨0,(⟨#[]⟩:ByteArray),(⟨#[]⟩:ByteArray),0,([]:List M.aU),(⟨([]:List M.Instr),0,([]:List Int),0,false,false⟩:M.aFI)⟩:M.bC),false)) else (some ((⟨p0,p1,p2,p3,([]:List M.aU),x1⟩:M.bC),true))))
def cF  : Option M.aE9:=
 some (⟨4,0,0,([]:List Int),false⟩:M.aE9)
def kO (p0:M.aE) (p1:Int):Nat->Int->Option Int
 | 0,_=>none
 | aa+1,v5=>if (decide (v5<(List.length p0.aE6:Int)))=true then ((idx p0.aE6 v5).bind λx7=>(if (x7.aE3==p1)=true then (some v5) else (kO p0 p1 aa (i64.wrap (v5+1))))) else (some (-1))
def uJ (p0:M.aE) (p1:Int):Option Int:=
 kO p0 p1 fuel 0
def lP (p0:M.aFE) (p1:ByteArray) (p2:ByteArray):Nat->Int->Option Int
 | 0,_=>none
 | aa+1,v7=>if (decide (v7<(List.length p0.aFK:Int)))=true then ((idx p0.aFK v7).bind λx8=>(if (x8.aFD.toList==p1.toList)=true then (if (x8.aFo.toList==p2.toList)=true then (some v7) else (lP p0 p1 p2 aa (i64.wrap (v7+1)))) else (lP p0 p1 p2 aa (i64.wrap (v7+1))))) else (some (-1))
def yH (p0:M.aFE) (p1:ByteArray) (p2:ByteArray):Option Int:=
 lP p0 p1 p2 fuel 0
def wL (p0:M.aE) (p1:Int) (p2:ByteArray) (p3:ByteArray):Option (M.aE9×Bool):=
 (uJ p0 p1).bind λx1=>(if (decide (x1<0))=true then ((cF).bind λx4=>(some (x4,false))) else ((idx p0.aE6 x1).bind λx6=>((yH x6 p2 p3).bind λaa=>(if (decide (aa<0))=true then ((cF).bind λae=>(some (ae,false))) else ((idx x6.aFK aa).bind λaf=>((sA af.aE9).bind λah=>(some (ah,true))))))))
def CC (p0:Int) (p1:Int):Option Int:=
 if (decide (p1>p0))=true then (some p1) else (some p0)
def rM (p0:M.aFD) (p1:Int):Option Bool:=
 (xL p0).bind λx1=>(if x1=true then ((CC 1 (i64.wrap ((i64.wrap (p0.aE3-2))+1))).bind λx4=>((bA p1 x4 p0.aE3).bind λx6=>(some x6))) else (some false))
def nR (p0:M.aFD) (p1:ByteArray):Nat->Int->Option Bool
 | 0,_=>none
 | aa+1,v5=>if (decide (v5<(List.length p0.aFe:Int)))=true then ((idx p0.aFe v5).bind λx7=>(if (x7.toList==p1.toList)=true then (some true) else (nR p0 p1 aa (i64.wrap (v5+1))))) else (some false)
def Ar (p0:M.aFD) (p1:ByteArray):Option Bool:=
 nR p0 p1 fuel 0
def hH (p0:List Int):Nat->Int->List Int->Option (List Int)
 | 0,_,_=>none
 | ae+1,v4,r7=>if (decide (v4<(List.length p0:Int)))=true then ((idx p0 v4).bind λaa=>((app 8 r7 ([(i64.wrap aa)])).bind λaf=>(hH p0 ae (i64.wrap (v4+1)) (r7++[(i64.wrap aa)])))) else (some r7)
def pO (p0:List Int):Option (List Int):=
 hH p0 fuel 0 ([(List.length p0:Int)])
def Dm (p0:Int) (p1:Int):Option Int:=
 (bA p1 1 1000000000000).bind λx1=>(if (!x1)=true then (some 0) else (if (decide (p1=0))=true then none else (some (Int.tmod (i64.wrap ((Int.tmod p0 p1)+p1)) p1))))
def vO (p0:List Int):Nat->Int->Int->Option Int
 | 0,_,_=>none
 | aa+1,v3,v4=>if (decide (v4<(List.length p0:Int)))=true then ((idx p0 v4).bind λx6=>((Dm x6 2147483647).bind λae=>(vO p0 aa (Int.tmod (i64.wrap ((i64.wrap ((i64.wrap (v3*1000003))+ae))+13)) 2147483647) (i64.wrap (v4+1))))) else (some v3)
def BC (p0:List Int):Option Int:=
 vO p0 fuel 11 0
def uB (p0:Int) (p1:List Int):Option Int:=
 (app 8 ([p0]) p1).bind λx1=>((app 8 ([p0]++p1) ([p0])).bind λx3=>((BC (([p0]++p1)++[p0])).bind λx5=>(some x5)))
def iQ (p0:Int) (p1:ByteArray):Option Int:=
 (pO (bO p1)).bind λx1=>((uB p0 x1).bind λx3=>((CC 1 x3).bind λx5=>(some x5)))
def tX (x5:Int):Nat->Int->List Int->Option (List Int)
 | 0,_,_=>none
 | ae+1,v9,aa=>if (decide (v9>=0))=true then (if (decide (0<=(i64.wrap (8*v9))))=true then ((app 1 aa ([(IntKind.u8.wrap (i64.wrap (BitVec.ofInt (IntKind.i64.bits) (Int.fdiv x5 (2^(min (i64.wrap (8*v9)).toNat IntKind.i64.bits)))&&&BitVec.ofInt (IntKind.i64.bits) 255).toNat))])).bind λaf=>(tX x5 ae (i64.wrap (v9-1)) (aa++[(IntKind.u8.wrap (i64.wrap (BitVec.ofInt (IntKind.i64.bits) (Int.fdiv x5 (2^(min (i64.wrap (8*v9)).toNat IntKind.i64.bits)))&&&BitVec.ofInt (IntKind.i64.bits) 255).toNat))]))) else none) else (some aa)
def Bc (p0:M.aFD) (p1:ByteArray) (p2:Int):Option (List Int):=
 (iQ 107 p0.Name).bind λx1=>((iQ 109 p1).bind λx3=>((uB (i64.wrap (1+p2)) ([103,x1,x3])).bind λx5=>(tX x5 fuel 5 ([]:List Int))))
def yB (p0:M.aFD) (p1:ByteArray) (p2:Int):Option M.aE9:=
 (xL p0).bind λx1=>(if (!x1)=true then ((cF).bind λx4=>(some x4)) else ((rM p0 p2).bind λx6=>(if (!x6)=true then (some (⟨1,404,p0.aE3,([]:List Int),false⟩:M.aE9)) else ((Ar p0 p1).bind λx9=>(if (!x9)=true then (some (⟨1,404,p0.aE3,([]:List Int),false⟩:M.aE9)) else ((Bc p0 p1 p2).bind λaa=>(some (⟨1,200,p2,aa,p0.aFj⟩:M.aE9))))))))
def jK (p0:M.aE) (p1:M.aFD) (p2:Int) (p3:ByteArray) (p4:Bool):Option M.aE9:=
 (wL p0 p2 p1.Name p3).bind λx1=>(if x1.2=true then (some x1.1) else (if p4=true then ((yB p1 p3 p2).bind λx5=>(some x5)) else ((cF).bind λx7=>(some x7))))
def gB (p0:M.World) (p1:M.bC) (p2:ByteArray):Option M.aE9:=
 (iU p0.aA p1.aFD p1.Top).bind λx1=>((oH p1.aFD).bind λx3=>(if (decide (x1<0))=true then ((cF).bind λx6=>(some x6)) else (if (decide (x3<0))=true then ((cF).bind λx9=>(some x9)) else ((idx p0.aA.aE8 x1).bind λaa=>((idx p0.aFR x3).bind λae=>((jK aa.aE6 ae p1.aE3 p2 p0.aFW).bind λaf=>(some af)))))))
def hU (p0:M.bC) (p1:ByteArray) (p2:M.aE9):Option (M.bC×Bool):=
 (lW p0).bind λx1=>((app 24 x1.aU ([(⟨p1,p2.aE3⟩:M.aU)])).bind λx3=>(if (p2.aFm != 200)=true then ((lW p0).bind λaa=>(some (aa,false))) else (if (p2.aE3 != p0.aE3)=true then ((lW p0).bind λae=>(some (ae,false))) else ((rX p0).bind λaf=>(if (!af)=true then ((lW p0).bind λah=>(some (ah,false))) else ((rX (⟨x1.Id,x1.aFD,x1.Top,x1.aE3,(x1.aU++[(⟨p1,p2.aE3⟩:M.aU)]),x1.aFI⟩:M.bC)).bind λai=>(if (!ai)=true then ((lW p0).bind λaj=>(some (aj,false))) else (some ((⟨x1.Id,x1.aFD,x1.Top,x1.aE3,(x1.aU++[(⟨p1,p2.aE3⟩:M.aU)]),x1.aFI⟩:M.bC),true)))))))))
def sP (p0:M.World) (p1:ByteArray) (p2:ByteArray) (p3:List M.Instr):Option (M.World×Int×Bool):=
 (eB p0).bind λx1=>((oH p1).bind λx3=>((iJ p0).bind λx5=>(if (!x5)=true then (some (x1,0,false)) else (if (decide (x3<0))=true then (some (x1,0,false)) else ((oH p2).bind λx9=>(if (decide (x9<0))=true then (some (x1,0,false)) else ((xJ p0).bind λbg=>((pQ p1 p2 bg).bind λah=>((iU p0.aA p1 p2).bind λbf=>(if (decide (bf>=0))=true then ((idx p0.aA.aE8 bf).bind λbh=>((lV bh).bind λai=>((iI p0.aA (⟨ai.aFD,ai.Top,ai.aE4,ai.aE6,ai.bV,ai.aG,p0.Now,ai.aFc⟩:M.aJ)).bind λaj=>((idx p0.aFR x3).bind λbj=>((nS ai.aE4 bj p0.aFW).bind λbl=>((kF p0.aFJ p1 p2 bl p3).bind λak=>(if (!aj.2)=true then ((eB p0).bind λbm=>(some (bm,0,false))) else (if (!ak.2)=true then ((eB p0).bind λbn=>(some (bn,0,false))) else ((gB (⟨x1.Now,x1.aFW,x1.aFC,aj.1,x1.aFF,x1.aFJ,x1.aFM,x1.aFB,x1.aFR,x1.aFN⟩:M.World) ak.1 (⟨#[105,110,100,101,120]⟩:ByteArray)).bind λbo=>((hU ak.1 (⟨#[105,110,100,101,120]⟩:ByteArray) bo).bind λal=>((app 144 x1.aFF ([al.1])).bind λbt=>(if (!al.2)=true then ((eB p0).bind λbq=>(some (bq,0,false))) else ((iJ (⟨x1.Now,x1.aFW,x1.aFC,aj.1,(x1.aFF++[al.1]),(i64.wrap (p0.aFJ+1)),x1.aFM,x1.aFB,x1.aFR,x1.aFN⟩:M.World)).bind λao=>(if (!ao)=true then ((eB p0).bind λaq=>(some (aq,0,false))) else (some ((⟨x1.Now,x1.aFW,x1.aFC,aj.1,(x1.aFF++[al.1]),(i64.wrap (p0.aFJ+1)),x1.aFM,x1.aFB,x1.aFR,x1.aFN⟩:M.World),ak.1.Id,true)))))))))))))))) else ((iI p0.aA (⟨ah.1.aFD,ah.1.Top,ah.1.aE4,ah.1.aE6,ah.1.bV,ah.1.aG,p0.Now,ah.1.aFc⟩:M.aJ)).bind λaa=>((idx p0.aFR x3).bind λar=>((nS ah.1.aE4 ar p0.aFW).bind λav=>((kF p0.aFJ p1 p2 av p3).bind λae=>(if (!aa.2)=true then ((eB p0).bind λaw=>(some (aw,0,false))) else (if (!ae.2)=true then ((eB p0).bind λax=>(some (ax,0,false))) else ((gB (⟨x1.Now,x1.aFW,x1.aFC,aa.1,x1.aFF,x1.aFJ,x1.aFM,x1.aFB,x1.aFR,x1.aFN⟩:M.World) ae.1 (⟨#[105,110,100,101,120]⟩:ByteArray)).bind λay=>((hU ae.1 (⟨#[105,110,100,101,120]⟩:ByteArray) ay).bind λaf=>((app 144 x1.aFF ([af.1])).bind λbr=>(if (!af.2)=true then ((eB p0).bind λaz=>(some (az,0,false))) else ((iJ (⟨x1.Now,x1.aFW,x1.aFC,aa.1,(x1.aFF++[af.1]),(i64.wrap (p0.aFJ+1)),x1.aFM,x1.aFB,x1.aFR,x1.aFN⟩:M.World)).bind λba=>(if (!ba)=true then ((eB p0).bind λbd=>(some (bd,0,false))) else (some ((⟨x1.Now,x1.aFW,x1.aFC,aa.1,(x1.aFF++[af.1]),(i64.wrap (p0.aFJ+1)),x1.aFM,x1.aFB,x1.aFR,x1.aFN⟩:M.World),ae.1.Id,true))))))))))))))))))))))))
def fE (p0:M.aQ):Nat->Int->Int->Bool->Int->Int->Int->Int->List M.aJ->List M.bC->List M.mZ->List M.tB->List M.aFD->List M.aFG->Option (Int×Int×M.World)
 | 0,_,_,_,_,_,_,_,_,_,_,_,_,_=>none
 | bn+1,v4,av,aw,ax,ar,ak,al,ae,af,ah,ai,aa,aj=>if (decide (v4>0))=true then ((aF (⟨p0.b,ak,al⟩:M.aQ) 6).bind λay=>(if (ay.2.2==0)=true then ((aF (⟨p0.b,ay.1,ay.2.1⟩:M.aQ) (i64.wrap (ar+1))).bind λbo=>((tT (⟨av,aw,ax,(⟨ae⟩:M.aA),af,ar,(⟨ah⟩:M.aR),(⟨ai⟩:M.aFB),aa,aj⟩:M.World) bo.2.2).bind λbd=>(fE p0 bn (i64.wrap (v4-1)) bd.1.Now bd.1.aFW bd.1.aFC bd.1.aFJ bo.1 bo.2.1 bd.1.aA.aE8 bd.1.aFF bd.1.aFM.aFM bd.1.aFB.aFa bd.1.aFR bd.1.aFN))) else (if (ay.2.2==1)=true then ((aF (⟨p0.b,ay.1,ay.2.1⟩:M.aQ) 5).bind λbq=>(fE p0 bn (i64.wrap (v4-1)) (i64.wrap (av+bq.2.2)) aw ax ar bq.1 bq.2.1 ae af ah ai aa aj)) else (if (ay.2.2==2)=true then ((aF (⟨p0.b,ay.1,ay.2.1⟩:M.aQ) 3).bind λbf=>((aF (⟨p0.b,bf.1,bf.2.1⟩:M.aQ) 3).bind λbg=>((idx aa bf.2.2).bind λbh=>(fE p0 bn (i64.wrap (v4-1)) av aw ax ar bg.1 bg.2.1 ae af ah ai (List.set aa bf.2.2.toNat (⟨bh.Name,(i64.wrap (1+bg.2.2)),bh.aFe,bh.aFj⟩:M.aFD)) aj)))) else ((yM (⟨p0.b,ay.1,ay.2.1⟩:M.aQ)).bind λaz=>((cA (⟨p0.b,az.1,az.2.1⟩:M.aQ) 3).bind λba=>(if ba.2.2=true then ((yM (⟨p0.b,ba.1,ba.2.1⟩:M.aQ)).bind λbj=>((pX (⟨p0.b,bj.1,bj.2.1⟩:M.aQ)).bind λbl=>((sP (⟨av,aw,ax,(⟨ae⟩:M.aA),af,ar,(⟨ah⟩:M.aR),(⟨ai⟩:M.aFB),aa,aj⟩:M.World) az.2.2 bj.2.2 bl.2.2).bind λao=>(fE p0 bn (i64.wrap (v4-1)) ao.1.Now ao.1.aFW ao.1.aFC ao.1.aFJ bl.1 bl.2.1 ao.1.aA.aE8 ao.1.aFF ao.1.aFM.aFM ao.1.aFB.aFa ao.1.aFR ao.1.aFN)))) else ((pX (⟨p0.b,ba.1,ba.2.1⟩:M.aQ)).bind λbm=>((sP (⟨av,aw,ax,(⟨ae⟩:M.aA),af,ar,(⟨ah⟩:M.aR),(⟨ai⟩:M.aFB),aa,aj⟩:M.World) az.2.2 az.2.2 bm.2.2).bind λaq=>(fE p0 bn (i64.wrap (v4-1)) aq.1.Now aq.1.aFW aq.1.aFC aq.1.aFJ bm.1 bm.2.1 aq.1.aA.aE8 aq.1.aFF aq.1.aFM.aFM aq.1.aFB.aFa aq.1.aFR aq.1.aFN)))))))))) else (some (ak,al,(⟨av,aw,ax,(⟨ae⟩:M.aA),af,ar,(⟨ah⟩:M.aR),(⟨ai⟩:M.aFB),aa,aj⟩:M.World)))
def yY (p0:M.aQ):Option (Int×Int×M.World):=
 (aF p0 3).bind λx4=>((zE (i64.wrap (1+x4.2.2))).bind λx6=>((aF (⟨p0.b,x4.1,x4.2.1⟩:M.aQ) 5).bind λaa=>(fE p0 fuel aa.2.2 x6.Now x6.aFW x6.aFC x6.aFJ aa.1 aa.2.1 x6.aA.aE8 x6.aFF x6.aFM.aFM x6.aFB.aFa x6.aFR x6.aFN)))
def bM (p0:M.aQ) (p1:List Int):Option (Int×Int×Int):=
 (aF p0 (List.length p1:Int)).bind λx5=>((idx p1 x5.2.2).bind λx7=>(some (x5.1,x5.2.1,x7)))
def lY (p0:M.aQ):Option (Int×Int×ByteArray):=
 (dB p0 ([(⟨#[98,97,110,107]⟩:ByteArray),(⟨#[115,104,111,112]⟩:ByteArray),(⟨#[110,101,119,115]⟩:ByteArray)])).bind λx4=>(some (x4.1,x4.2.1,x4.2.2))
def dN (p0:M.aQ):Option (Int×Int×M.Key):=
 (aF p0 6).bind λx4=>(some (x4.1,x4.2.1,(⟨1,x4.2.2,(⟨#[]⟩:ByteArray)⟩:M.Key)))
def lZ (p0:M.aD) (p1:ByteArray) (p2:Int) (x1:M.aD):Nat->Int->Option (M.aD×Bool)
 | 0,_=>none
 | af+1,v9=>if (decide (v9<(List.length p0.aFA:Int)))=true then ((idx p0.aFA v9).bind λaa=>(if (Op.bytesLess aa.Name.toList p1.toList)=true then (lZ p0 p1 p2 x1 af (i64.wrap (v9+1))) else (if (aa.Name.toList==p1.toList)=true then ((idx x1.aFA v9).bind λae=>((bJ p0).bind λah=>(if (!ah)=true then ((cC p0).bind λai=>(some (ai,false))) else ((bJ (⟨(List.set x1.aFA v9.toNat (⟨ae.Name,p2⟩:M.Field))⟩:M.aD)).bind λaj=>(if (!aj)=true then ((cC p0).bind λak=>(some (ak,false))) else (some ((⟨(List.set x1.aFA v9.toNat (⟨ae.Name,p2⟩:M.Field))⟩:M.aD),true))))))) else ((Ap p0.aFA v9).bind λaz=>((app 24 ([]:List M.Field) (List.take v9.toNat p0.aFA)).bind λba=>((app 24 (List.take v9.toNat p0.aFA) ([(⟨p1,p2⟩:M.Field)])).bind λbd=>((B5 p0.aFA v9).bind λbf=>((app 24 ((List.take v9.toNat p0.aFA)++[(⟨p1,p2⟩:M.Field)]) (List.drop v9.toNat p0.aFA)).bind λbg=>((bJ p0).bind λal=>(if (!al)=true then ((cC p0).bind λao=>(some (ao,false))) else ((bJ (⟨(((List.take v9.toNat p0.aFA)++[(⟨p1,p2⟩:M.Field)])++(List.drop v9.toNat p0.aFA))⟩:M.aD)).bind λaq=>(if (!aq)=true then ((cC p0).bind λar=>(some (ar,false))) else (some ((⟨(((List.take v9.toNat p0.aFA)++[(⟨p1,p2⟩:M.Field)])++(List.drop v9.toNat p0.aFA))⟩:M.aD),true)))))))))))))) else ((Ap p0.aFA v9).bind λbh=>((app 24 ([]:List M.Field) (List.take v9.toNat p0.aFA)).bind λbj=>((app 24 (List.take v9.toNat p0.aFA) ([(⟨p1,p2⟩:M.Field)])).bind λbl=>((B5 p0.aFA v9).bind λbm=>((app 24 ((List.take v9.toNat p0.aFA)++[(⟨p1,p2⟩:M.Field)]) (List.drop v9.toNat p0.aFA)).bind λbn=>((bJ p0).bind λav=>(if (!av)=true then ((cC p0).bind λaw=>(some (aw,false))) else ((bJ (⟨(((List.take v9.toNat p0.aFA)++[(⟨p1,p2⟩:M.Field)])++(List.drop v9.toNat p0.aFA))⟩:M.aD)).bind λax=>(if (!ax)=true then ((cC p0).bind λay=>(some (ay,false))) else (some ((⟨(((List.take v9.toNat p0.aFA)++[(⟨p1,p2⟩:M.Field)])++(List.drop v9.toNat p0.aFA))⟩:M.aD),true)))))))))))
def iF (p0:M.aD) (p1:ByteArray) (p2:Int):Option (M.aD×Bool):=
 (cC p0).bind λx1=>(lZ p0 p1 p2 x1 fuel 0)
def mL (p0:M.aQ):Nat->Int->Int->Int->List M.Field->Option (Int×Int×M.aD)
 | 0,_,_,_,_=>none
 | aj+1,v4,aa,ae,af=>if (decide (v4>0))=true then ((dA (⟨p0.b,aa,ae⟩:M.aQ)).bind λah=>((aF (⟨p0.b,ah.1,ah.2.1⟩:M.aQ) 5).bind λai=>((iF (⟨af⟩:M.aD) ah.2.2 ai.2.2).bind λak=>(mL p0 aj (i64.wrap (v4-1)) ai.1 ai.2.1 ak.1.aFA)))) else (some (aa,ae,(⟨af⟩:M.aD)))
def jV (p0:M.aQ):Option (Int×Int×M.aD):=
 (aF p0 4).bind λx4=>(mL p0 fuel x4.2.2 x4.1 x4.2.1 ([]:List M.Field))
def dW (p0:List Int) (p1:Int):Nat->Int->Int->Option (Int×Int×Bool)
 | 0,_,_=>none
 | aa+1,v7,v8=>if (decide (v8<6))=true then (if (decide (p1<0))=true then (some (0,0,false)) else (if (decide (p1>=(i64.wrap ((List.length p0:Int)-v8))))=true then (some (0,0,false)) else ((idx p0 (i64.wrap (p1+v8))).bind λx9=>(if (decide (0<=(i64.wrap (7*v8))))=true then (if (decide ((i64.wrap x9)<128))=true then (if ((i64.wrap x9)==0)=true then (if (decide (v8>0))=true then (some (0,0,false)) else (if (decide ((i64.wrap (BitVec.ofInt (IntKind.i64.bits) v7|||BitVec.ofInt (IntKind.i64.bits) (i64.wrap ((i64.wrap (BitVec.ofInt (IntKind.i64.bits) (i64.wrap x9)&&&BitVec.ofInt (IntKind.i64.bits) 127).toNat)*2^(min (i64.wrap (7*v8)).toNat IntKind.i64.bits)))).toNat)>1000000000000))=true then (some (0,0,false)) else (some ((i64.wrap (BitVec.ofInt (IntKind.i64.bits) v7|||BitVec.ofInt (IntKind.i64.bits) (i64.wrap ((i64.wrap (BitVec.ofInt (IntKind.i64.bits) (i64.wrap x9)&&&BitVec.ofInt (IntKind.i64.bits) 127).toNat)*2^(min (i64.wrap (7*v8)).toNat IntKind.i64.bits)))).toNat),(i64.wrap ((i64.wrap (p1+v8))+1)),true)))) else (if (decide ((i64.wrap (BitVec.ofInt (IntKind.i64.bits) v7|||BitVec.ofInt (IntKind.i64.bits) (i64.wrap ((i64.wrap (BitVec.ofInt (IntKind.i64.bits) (i64.wrap x9)&&&BitVec.ofInt (IntKind.i64.bits) 127).toNat)*2^(min (i64.wrap (7*v8)).toNat IntKind.i64.bits)))).toNat)>1000000000000))=true then (some (0,0,false)) else (some ((i64.wrap (BitVec.ofInt (IntKind.i64.bits) v7|||BitVec.ofInt (IntKind.i64.bits) (i64.wrap ((i64.wrap (BitVec.ofInt (IntKind.i64.bits) (i64.wrap x9)&&&BitVec.ofInt (IntKind.i64.bits) 127).toNat)*2^(min (i64.wrap (7*v8)).toNat IntKind.i64.bits)))).toNat),(i64.wrap ((i64.wrap (p1+v8))+1)),true)))) else (dW p0 p1 aa (i64.wrap (BitVec.ofInt (IntKind.i64.bits) v7|||BitVec.ofInt (IntKind.i64.bits) (i64.wrap ((i64.wrap (BitVec.ofInt (IntKind.i64.bits) (i64.wrap x9)&&&BitVec.ofInt (IntKind.i64.bits) 127).toNat)*2^(min (i64.wrap (7*v8)).toNat IntKind.i64.bits)))).toNat) (i64.wrap (v8+1)))) else none)))) else (some (0,0,false))
def fD (p0:List Int) (p1:Int):Option (Int×Int×Bool):=
 dW p0 p1 fuel 0 0
def dU (p0:List Int) (p1:Int) (p2:Int):Option ((List Int)×Int×Bool):=
 (fD p0 p1).bind λx1=>(if (!x1.2.2)=true then (some (([]:List Int),0,false)) else (if (decide (x1.1>p2))=true then (some (([]:List Int),0,false)) else (if (decide (x1.1>(i64.wrap ((List.length p0:Int)-x1.2.1))))=true then (some (([]:List Int),0,false)) else ((S9 p0 x1.2.1 (i64.wrap (x1.2.1+x1.1))).bind λx6=>((app 1 ([]:List Int) (List.drop x1.2.1.toNat (List.take (i64.wrap (x1.2.1+x1.1)).toNat p0))).bind λx8=>(some ((List.drop x1.2.1.toNat (List.take (i64.wrap (x1.2.1+x1.1)).toNat p0)),(i64.wrap (x1.2.1+x1.1)),true)))))))
def wF (p0:Int) (p1:List Int):Option Int:=
 (pO p1).bind λx1=>((app 8 ([101,p0]) x1).bind λx3=>((BC ([101,p0]++x1)).bind λx5=>(some x5)))
def sK (p0:List Int):Nat->Int->List (List Int)->Option ((List (List Int))×Int)
 | 0,_,_=>none
 | ah+1,v5,aa=>if (decide (v5<(List.length p0:Int)))=true then ((dU p0 v5 4000).bind λae=>(if (!ae.2.2)=true then (some (aa,v5)) else ((fD p0 ae.2.1).bind λaf=>(if (!af.2.2)=true then (some (aa,v5)) else ((wF (List.length aa:Int) ae.1).bind λai=>(if (af.1 != ai)=true then (some (aa,v5)) else ((app 24 aa ([ae.1])).bind λaj=>(sK p0 ah af.2.1 (aa++[ae.1]))))))))) else (some (aa,v5))
def As (p0:List Int):Option ((List (List Int))×Int):=
 sK p0 fuel 0 ([]:List (List Int))
def kN (p0:List Int) (x2:Int):Nat->Int->Int->Option (M.Key×Bool)
 | 0,_,_=>none
 | aa+1,v6,v7=>if (decide (v7<7))=true then ((idx p0 v7).bind λae=>(kN p0 x2 aa (i64.wrap (BitVec.ofInt (IntKind.i64.bits) (i64.wrap (v6*2^(min (8:Int).toNat IntKind.i64.bits)))|||BitVec.ofInt (IntKind.i64.bits) (i64.wrap ae)).toNat) (i64.wrap (v7+1)))) else ((B5 p0 7).bind λah=>((toStr (List.drop (7:Int).toNat p0)).bind λai=>((fG (⟨(i64.wrap x2),(i64.wrap (v6-1000000000000)),(dD (List.drop (7:Int).toNat p0))⟩:M.Key)).bind λaf=>(if (!af)=true then (some ((⟨0,0,(⟨#[]⟩:ByteArray)⟩:M.Key),false)) else (some ((⟨(i64.wrap x2),(i64.wrap (v6-1000000000000)),(dD (List.drop (7:Int).toNat p0))⟩:M.Key),true))))))
def tQ (p0:List Int):Option (M.Key×Bool):=
 if ((List.length p0:Int)==0)=true then (some ((⟨0,0,(⟨#[]⟩:ByteArray)⟩:M.Key),false)) else ((idx p0 0).bind λx2=>(if ((i64.wrap x2) != 2)=true then (if (decide ((List.length p0:Int)<7))=true then (some ((⟨0,0,(⟨#[]⟩:ByteArray)⟩:M.Key),false)) else (kN p0 x2 fuel 0 1)) else ((B5 p0 1).bind λae=>((toStr (List.drop (1:Int).toNat p0)).bind λaf=>((fG (⟨(i64.wrap x2),0,(dD (List.drop (1:Int).toNat p0))⟩:M.Key)).bind λaa=>(if (!aa)=true then (some ((⟨0,0,(⟨#[]⟩:ByteArray)⟩:M.Key),false)) else (some ((⟨(i64.wrap x2),0,(dD (List.drop (1:Int).toNat p0))⟩:M.Key),true))))))))
def pV (p0:List Int) (x1:(Int×Int×Bool)):Nat->Int->Int->List M.Field->Option (M.aD×Int×Bool)
 | 0,_,_,_=>none
 | ah+1,v8,v11,aa=>if (decide (v11<x1.1))=true then ((dU p0 v8 8).bind λae=>(if (!ae.2.2)=true then (some ((⟨([]:List M.Field)⟩:M.aD),0,false)) else ((fD p0 ae.2.1).bind λaf=>(if (!af.2.2)=true then (some ((⟨([]:List M.Field)⟩:M.aD),0,false)) else ((toStr ae.1).bind λaj=>((app 24 aa ([(⟨(dD ae.1),af.1⟩:M.Field)])).bind λak=>(pV p0 x1 ah af.2.1 (i64.wrap (v11+1)) (aa++[(⟨(dD ae.1),af.1⟩:M.Field)])))))))) else ((bJ (⟨aa⟩:M.aD)).bind λai=>(some ((⟨aa⟩:M.aD),v8,ai)))
def Cm (p0:List Int) (p1:Int):Option (M.aD×Int×Bool):=
 (fD p0 p1).bind λx1=>(if (!x1.2.2)=true then (some ((⟨([]:List M.Field)⟩:M.aD),0,false)) else (if (decide (x1.1>6))=true then (some ((⟨([]:List M.Field)⟩:M.aD),0,false)) else (pV p0 x1 fuel x1.2.1 0 ([]:List M.Field))))
def oD (p0:List Int):Option (M.aD×Bool):=
 (Cm p0 0).bind λx1=>(if (!x1.2.2)=true then (some ((⟨([]:List M.Field)⟩:M.aD),false)) else (if (x1.2.1 != (List.length p0:Int))=true then (some ((⟨([]:List M.Field)⟩:M.aD),false)) else (some (x1.1,true))))
def AW (p0:List Int) (p1:Int):Option (M.Op×Int×Bool):=
 (fD p0 p1).bind λx1=>((dU p0 x1.2.1 100).bind λx3=>((dU p0 x3.2.1 100).bind λx5=>((dU p0 x5.2.1 200).bind λx7=>((dU p0 x7.2.1 100).bind λx9=>(if (!x1.2.2)=true then (some ((⟨0,(⟨#[]⟩:ByteArray),(⟨0,0,(⟨#[]⟩:ByteArray)⟩:M.Key),(⟨([]:List M.Field)⟩:M.aD),(⟨#[]⟩:ByteArray)⟩:M.Op),0,false)) else (if (!x3.2.2)=true then (some ((⟨0,(⟨#[]⟩:ByteArray),(⟨0,0,(⟨#[]⟩:ByteArray)⟩:M.Key),(⟨([]:List M.Field)⟩:M.aD),(⟨#[]⟩:ByteArray)⟩:M.Op),0,false)) else (if (!x5.2.2)=true then (some ((⟨0,(⟨#[]⟩:ByteArray),(⟨0,0,(⟨#[]⟩:ByteArray)⟩:M.Key),(⟨([]:List M.Field)⟩:M.aD),(⟨#[]⟩:ByteArray)⟩:M.Op),0,false)) else (if (!x7.2.2)=true then (some ((⟨0,(⟨#[]⟩:ByteArray),(⟨0,0,(⟨#[]⟩:ByteArray)⟩:M.Key),(⟨([]:List M.Field)⟩:M.aD),(⟨#[]⟩:ByteArray)⟩:M.Op),0,false)) else (if (!x9.2.2)=true then (some ((⟨0,(⟨#[]⟩:ByteArray),(⟨0,0,(⟨#[]⟩:ByteArray)⟩:M.Key),(⟨([]:List M.Field)⟩:M.aD),(⟨#[]⟩:ByteArray)⟩:M.Op),0,false)) else ((toStr x3.1).bind λaf=>((toStr x9.1).bind λah=>((tQ x5.1).bind λaa=>((oD x7.1).bind λae=>(some ((⟨x1.1,(dD x3.1),aa.1,ae.1,(dD x9.1)⟩:M.Op),x9.2.1,true)))))))))))))))
def BE (p0:M.Op):Option Bool:=
 (bA p0.aFU 1 6).bind λx1=>(if x1=true then ((bT p0.aC).bind λx4=>(if x4=true then (if (p0.aFU==5)=true then ((bJ p0.aD).bind λx8=>(if x8=true then (if (p0.aFU==6)=true then ((bT p0.Field).bind λaa=>(if aa=true then (some true) else (if (p0.aFU != 6)=true then (some (p0.Field.toList==(⟨#[]⟩:ByteArray).toList)) else (some false)))) else (if (p0.aFU != 6)=true then (some (p0.Field.toList==(⟨#[]⟩:ByteArray).toList)) else (some false))) else (some false))) else ((fG p0.Key).bind λae=>(if ae=true then ((bJ p0.aD).bind λaf=>(if af=true then (if (p0.aFU==6)=true then ((bT p0.Field).bind λah=>(if ah=true then (some true) else (if (p0.aFU != 6)=true then (some (p0.Field.toList==(⟨#[]⟩:ByteArray).toList)) else (some false)))) else (if (p0.aFU != 6)=true then (some (p0.Field.toList==(⟨#[]⟩:ByteArray).toList)) else (some false))) else (some false))) else (some false)))) else (some false))) else (some false))
def nT (p0:List M.Op):Nat->Int->List Int->Option (List Int)
 | 0,_,_=>none
 | af+1,v4,aa=>if (decide (v4<(List.length p0:Int)))=true then ((idx p0 v4).bind λae=>((BE ae).bind λah=>(if (!ah)=true then (some ([]:List Int)) else ((bP aa ae.aFU).bind λai=>((bN ai (bO ae.aC)).bind λaj=>((kD ae.Key).bind λak=>((bN aj ak).bind λal=>((fZ ae.aD).bind λao=>((bN al ao).bind λaq=>((bN aq (bO ae.Field)).bind λar=>(nT p0 af (i64.wrap (v4+1)) ar))))))))))) else (if (decide ((List.length p0:Int)>6))=true then (some ([]:List Int)) else (some aa))
def tR (p0:List M.Op):Option (List Int):=
 (bP ([]:List Int) (List.length p0:Int)).bind λx1=>(nT p0 fuel 0 x1)
def wP (p0:List Int) (p1:List Int):Option Bool:=
 (toStr p0).bind λx1=>((toStr p1).bind λx3=>(some ((dD p0).toList==(dD p1).toList)))
def kS (p0:List Int) (x1:(Int×Int×Bool)):Nat->Int->Int->List M.Op->Option ((List M.Op)×Bool)
 | 0,_,_,_=>none
 | af+1,v5,v8,aa=>if (decide (v8<x1.1))=true then ((AW p0 v5).bind λae=>(if (!ae.2.2)=true then (some (([]:List M.Op),false)) else ((app 96 aa ([ae.1])).bind λaj=>(kS p0 x1 af ae.2.1 (i64.wrap (v8+1)) (aa++[ae.1]))))) else ((tR aa).bind λah=>((wP ah p0).bind λai=>(if (!ai)=true then (some (([]:List M.Op),false)) else (some (aa,true)))))
def tP (p0:List Int):Option ((List M.Op)×Bool):=
 (fD p0 0).bind λx1=>(if (!x1.2.2)=true then (some (([]:List M.Op),false)) else (if (decide (x1.1>6))=true then (some (([]:List M.Op),false)) else (kS p0 x1 fuel x1.2.1 0 ([]:List M.Op))))
def mQ (p0:M.aC) (p1:M.Key):Nat->Int->Option Int
 | 0,_=>none
 | aa+1,v5=>if (decide (v5<(List.length p0.aE7:Int)))=true then ((idx p0.aE7 v5).bind λx8=>(if ((x8.Key.aFU==p1.aFU)&&((x8.Key.N==p1.N)&&(x8.Key.aFb.toList==p1.aFb.toList)))=true then (some v5) else (mQ p0 p1 aa (i64.wrap (v5+1))))) else (some (-1))
def mJ (p0:M.aC) (p1:M.Key):Option Int:=
 mQ p0 p1 fuel 0
def oC (p0:M.aC) (p1:M.Key) (p2:M.aD) (aa:M.aC):Nat->Int->Option (M.aC×Bool)
 | 0,_=>none
 | aj+1,v10=>if (decide (v10<(List.length p0.aE7:Int)))=true then ((idx p0.aE7 v10).bind λak=>((bG ak.Key p1).bind λal=>(if (decide (al<0))=true then (oC p0 p1 p2 aa aj (i64.wrap (v10+1))) else ((Ap aa.aE7 v10).bind λaw=>((app 56 ([]:List M.aFP) (List.take v10.toNat aa.aE7)).bind λax=>((cC p2).bind λaf=>((app 56 (List.take v10.toNat aa.aE7) ([(⟨p1,af⟩:M.aFP)])).bind λay=>((app 56 ((List.take v10.toNat aa.aE7)++[(⟨p1,af⟩:M.aFP)]) (List.drop v10.toNat aa.aE7)).bind λaz=>(if (p1.aFU==1)=true then ((bA p1.N (i64.wrap (p0.aFZ+1)) 1000000).bind λah=>(if ah=true then (some ((⟨aa.Name,(((List.take v10.toNat aa.aE7)++[(⟨p1,af⟩:M.aFP)])++(List.drop v10.toNat aa.aE7)),p1.N⟩:M.aC),true)) else (some ((⟨aa.Name,(((List.take v10.toNat aa.aE7)++[(⟨p1,af⟩:M.aFP)])++(List.drop v10.toNat aa.aE7)),aa.aFZ⟩:M.aC),true)))) else (some ((⟨aa.Name,(((List.take v10.toNat aa.aE7)++[(⟨p1,af⟩:M.aFP)])++(List.drop v10.toNat aa.aE7)),aa.aFZ⟩:M.aC),true))))))))))) else ((Ap aa.aE7 v10).bind λao=>((app 56 ([]:List M.aFP) (List.take v10.toNat aa.aE7)).bind λaq=>((cC p2).bind λae=>((app 56 (List.take v10.toNat aa.aE7) ([(⟨p1,ae⟩:M.aFP)])).bind λar=>((app 56 ((List.take v10.toNat aa.aE7)++[(⟨p1,ae⟩:M.aFP)]) (List.drop v10.toNat aa.aE7)).bind λav=>(if (p1.aFU==1)=true then ((bA p1.N (i64.wrap (p0.aFZ+1)) 1000000).bind λai=>(if ai=true then (some ((⟨aa.Name,(((List.take v10.toNat aa.aE7)++[(⟨p1,ae⟩:M.aFP)])++(List.drop v10.toNat aa.aE7)),p1.N⟩:M.aC),true)) else (some ((⟨aa.Name,(((List.take v10.toNat aa.aE7)++[(⟨p1,ae⟩:M.aFP)])++(List.drop v10.toNat aa.aE7)),aa.aFZ⟩:M.aC),true)))) else (some ((⟨aa.Name,(((List.take v10.toNat aa.aE7)++[(⟨p1,ae⟩:M.aFP)])++(List.drop v10.toNat aa.aE7)),aa.aFZ⟩:M.aC),true))))))))
def dZ (p0:M.aC) (p1:M.Key) (p2:M.aD):Option (M.aC×Bool):=
 (lX p0).bind λx1=>(if (!x1)=true then ((bS p0).bind λx4=>(some (x4,false))) else ((fG p1).bind λx6=>(if (!x6)=true then ((bS p0).bind λx9=>(some (x9,false))) else ((bJ p2).bind λaf=>(if (!af)=true then ((bS p0).bind λah=>(some (ah,false))) else ((bS p0).bind λaa=>((mJ p0 p1).bind λae=>(if (decide (ae>=0))=true then ((cC p2).bind λai=>((idx aa.aE7 ae).bind λaj=>(some ((⟨aa.Name,(List.set aa.aE7 ae.toNat (⟨aj.Key,ai⟩:M.aFP)),aa.aFZ⟩:M.aC),true)))) else (if (decide ((List.length p0.aE7:Int)>=16))=true then (some (aa,false)) else (oC p0 p1 p2 aa fuel 0))))))))))
def yL (p0:M.aC) (p1:M.Key) (p2:M.aD):Option (M.aC×Bool):=
 (mJ p0 p1).bind λx1=>(if (decide (x1>=0))=true then ((bS p0).bind λx4=>(some (x4,false))) else ((dZ p0 p1 p2).bind λx6=>(some (x6.1,x6.2))))
def xY (p0:M.Key) (p1:M.gE):Option Bool:=
 (fG p0).bind λx1=>(if (!x1)=true then (some false) else (if p1.aF2=true then ((fG p1.Low).bind λx5=>(if (!x5)=true then (some false) else (if p1.aFr=true then ((fG p1.aFx).bind λx9=>(if (!x9)=true then (some false) else (if (!p1.aF2)=true then (if (!p1.aFr)=true then (some true) else ((bG p0 p1.aFx).bind λaa=>(some (decide (aa<=0))))) else ((bG p1.Low p0).bind λae=>(if (decide (ae<=0))=true then (if (!p1.aFr)=true then (some true) else ((bG p0 p1.aFx).bind λaf=>(some (decide (af<=0))))) else (some false)))))) else (if (!p1.aF2)=true then (if (!p1.aFr)=true then (some true) else ((bG p0 p1.aFx).bind λah=>(some (decide (ah<=0))))) else ((bG p1.Low p0).bind λai=>(if (decide (ai<=0))=true then (if (!p1.aFr)=true then (some true) else ((bG p0 p1.aFx).bind λaj=>(some (decide (aj<=0))))) else (some false))))))) else (if p1.aFr=true then ((fG p1.aFx).bind λak=>(if (!ak)=true then (some false) else (if (!p1.aF2)=true then (if (!p1.aFr)=true then (some true) else ((bG p0 p1.aFx).bind λal=>(some (decide (al<=0))))) else ((bG p1.Low p0).bind λao=>(if (decide (ao<=0))=true then (if (!p1.aFr)=true then (some true) else ((bG p0 p1.aFx).bind λaq=>(some (decide (aq<=0))))) else (some false)))))) else (if (!p1.aF2)=true then (if (!p1.aFr)=true then (some true) else ((bG p0 p1.aFx).bind λar=>(some (decide (ar<=0))))) else ((bG p1.Low p0).bind λav=>(if (decide (av<=0))=true then (if (!p1.aFr)=true then (some true) else ((bG p0 p1.aFx).bind λaw=>(some (decide (aw<=0))))) else (some false)))))))
def iA (p0:M.aC) (p1:M.gE):Nat->Int->List M.aFP->Option (M.aC×Int)
 | 0,_,_=>none
 | ae+1,v7,aa=>if (decide (v7<(List.length p0.aE7:Int)))=true then ((idx p0.aE7 v7).bind λaf=>((xY af.Key p1).bind λai=>(if (!ai)=true then ((xH af).bind λah=>((app 56 aa ([ah])).bind λaj=>(iA p0 p1 ae (i64.wrap (v7+1)) (aa++[ah])))) else (iA p0 p1 ae (i64.wrap (v7+1)) aa)))) else (some ((⟨p0.Name,aa,p0.aFZ⟩:M.aC),(i64.wrap ((List.length p0.aE7:Int)-(List.length aa:Int)))))
def pP (p0:M.aC) (p1:M.gE):Option (M.aC×Int):=
 (lX p0).bind λx1=>(if (!x1)=true then ((bS p0).bind λx4=>(some (x4,0))) else (iA p0 p1 fuel 0 ([]:List M.aFP)))
def BV (p0:M.aC) (p1:M.Key) (p2:ByteArray):Option (M.aC×Int×Bool):=
 (mJ p0 p1).bind λx1=>(if (decide (x1>=0))=true then ((idx p0.aE7 x1).bind λx4=>((kA x4.aD p2).bind λx9=>((iF x4.aD p2 (i64.wrap (x9.1+1))).bind λah=>((dZ p0 p1 ah.1).bind λaa=>(if ah.2=true then (some (aa.1,(i64.wrap (x9.1+1)),aa.2)) else (some (aa.1,(i64.wrap (x9.1+1)),false))))))) else ((kA (⟨([]:List M.Field)⟩:M.aD) p2).bind λae=>((iF (⟨([]:List M.Field)⟩:M.aD) p2 (i64.wrap (ae.1+1))).bind λai=>((dZ p0 p1 ai.1).bind λaf=>(if ai.2=true then (some (af.1,(i64.wrap (ae.1+1)),af.2)) else (some (af.1,(i64.wrap (ae.1+1)),false)))))))
def AD (p0:M.aC) (p1:M.Op):Option (M.aC×Int×Bool):=
 if (p1.aFU==1)=true then ((dZ p0 p1.Key p1.aD).bind λx2=>(some (x2.1,1,x2.2))) else (if (p1.aFU==2)=true then ((yL p0 p1.Key p1.aD).bind λx5=>(some (x5.1,1,x5.2))) else (if (p1.aFU==3)=true then ((pP p0 (⟨true,true,p1.Key,p1.Key⟩:M.gE)).bind λx8=>(some (x8.1,x8.2,true))) else (if (p1.aFU==4)=true then ((mJ p0 p1.Key).bind λae=>(if (decide (ae<0))=true then ((bS p0).bind λah=>(some (ah,(-1),true))) else ((bS p0).bind λai=>((idx p0.aE7 ae).bind λaj=>(some (ai,(List.length aj.aD.aFA:Int),true)))))) else (if (p1.aFU==5)=true then ((pP p0 (⟨false,false,(⟨0,0,(⟨#[]⟩:ByteArray)⟩:M.Key),(⟨0,0,(⟨#[]⟩:ByteArray)⟩:M.Key)⟩:M.gE)).bind λaf=>(some (af.1,af.2,true))) else ((BV p0 p1.Key p1.Field).bind λaa=>(some (aa.1,aa.2.1,aa.2.2)))))))
def AS (p0:M.aE5) (p1:M.Op):Option (M.aE5×Int×Bool):=
 (eK p0).bind λx1=>((pR p0 p1.aC).bind λx3=>((bU p0).bind λx5=>(if (!x5)=true then (some (x1,0,false)) else ((BE p1).bind λx8=>(if (!x8)=true then (some (x1,0,false)) else (if (decide (x3<0))=true then (some (x1,0,false)) else ((idx p0.aFH x3).bind λae=>((AD ae p1).bind λaa=>((idx x1.aFH x3).bind λaj=>(if (!aa.2.2)=true then ((eK p0).bind λaf=>(some (af,0,false))) else ((bU (⟨x1.Name,x1.aE3,(List.set x1.aFH x3.toNat aa.1),x1.aFQ⟩:M.aE5)).bind λah=>(if (!ah)=true then ((eK p0).bind λai=>(some (ai,0,false))) else (some ((⟨x1.Name,x1.aE3,(List.set x1.aFH x3.toNat aa.1),x1.aFQ⟩:M.aE5),aa.2.1,true))))))))))))))
def tU (p0:M.aE5) (p1:List M.Op):Nat->Int->ByteArray->Int->List Int->List M.aC->List M.aN->Option (M.aE5×(List Int)×Bool)
 | 0,_,_,_,_,_,_=>none
 | ak+1,v9,ah,ai,aj,aa,ae=>if (decide (v9<(List.length p1:Int)))=true then ((idx p1 v9).bind λal=>((AS (⟨ah,ai,aa,ae⟩:M.aE5) al).bind λaf=>(if (!af.2.2)=true then ((eK p0).bind λao=>(some (ao,([]:List Int),false))) else ((app 8 aj ([af.2.1])).bind λaq=>(tU p0 p1 ak (i64.wrap (v9+1)) af.1.Name af.1.aE3 (aj++[af.2.1]) af.1.aFH af.1.aFQ))))) else (some ((⟨ah,ai,aa,ae⟩:M.aE5),aj,true))
def xN (p0:M.aE5) (p1:List M.Op):Option (M.aE5×(List Int)×Bool):=
 (eK p0).bind λx1=>((bU p0).bind λaa=>(if (!aa)=true then (some (x1,([]:List Int),false)) else (if (decide ((List.length p1:Int)>6))=true then (some (x1,([]:List Int),false)) else (tU p0 p1 fuel 0 x1.Name x1.aE3 ([]:List Int) x1.aFH x1.aFQ))))
def pK (x3:((List (List Int))×Int)):Nat->Int->ByteArray->Int->List M.aC->List M.aN->Option (M.aE5×Int)
 | 0,_,_,_,_,_=>none
 | ak+1,v7,af,ah,aa,ae=>if (decide (v7<(List.length x3.1:Int)))=true then ((idx x3.1 v7).bind λal=>((tP al).bind λaj=>(if (!aj.2)=true then (some ((⟨af,ah,aa,ae⟩:M.aE5),v7)) else ((xN (⟨af,ah,aa,ae⟩:M.aE5) aj.1).bind λai=>(pK x3 ak (i64.wrap (v7+1)) ai.1.Name ai.1.aE3 ai.1.aFH ai.1.aFQ))))) else (some ((⟨af,ah,aa,ae⟩:M.aE5),(List.length x3.1:Int)))
def zJ (p0:M.bV):Option (M.aE5×Int):=
 (eK p0.aFT).bind λx1=>((As p0.Log).bind λx3=>(pK x3 fuel 0 x1.Name x1.aE3 x1.aFH x1.aFQ))
def tZ (p0:List Int) (p1:Int) (p2:List Int):Option ((List Int)×Bool):=
 (app 1 ([]:List Int) p0).bind λx1=>((bN p0 p2).bind λx8=>((wF p1 p2).bind λae=>((bP x8 ae).bind λaa=>(if (decide (p1<0))=true then (some (p0,false)) else (if (decide ((List.length aa:Int)>4000))=true then (some (p0,false)) else (some (aa,true)))))))
def nK (p0:M.bV) (p1:List M.Op):Option (M.bV×Bool):=
 (yK p0).bind λx1=>((zJ p0).bind λx3=>((xN x3.1 p1).bind λx5=>((tR p1).bind λx7=>(if (!x5.2.2)=true then (some (x1,false)) else (if ((List.length x7:Int)==0)=true then (some (x1,false)) else (if (x3.2 != p0.aFk)=true then (some (x1,false)) else ((tZ p0.Log p0.aFk x7).bind λaa=>(if (!aa.2)=true then (some (x1,false)) else (some ((⟨x1.aFT,aa.1,(i64.wrap (p0.aFk+1))⟩:M.bV),true))))))))))
def iB (p0:M.aM) (p1:M.Key) (p2:ByteArray) (p3:Int):Option (M.aM×Bool):=
 (sB p0).bind λx1=>((iD p0).bind λx3=>(if (!x3)=true then (some (x1,false)) else ((app 72 x1.aFO ([(⟨p0.aFC,p0.aFd,p1,p2,p3⟩:M.bD)])).bind λx6=>((iD (⟨x1.aFC,(i64.wrap (p0.aFd+1)),(x1.aFO++[(⟨p0.aFC,p0.aFd,p1,p2,p3⟩:M.bD)])⟩:M.aM)).bind λaa=>(if (!aa)=true then ((sB p0).bind λae=>(some (ae,false))) else (some ((⟨x1.aFC,(i64.wrap (p0.aFd+1)),(x1.aFO++[(⟨p0.aFC,p0.aFd,p1,p2,p3⟩:M.bD)])⟩:M.aM),true)))))))
def kJ (p0:M.aC) (p1:M.bD):Option (M.aC×Bool):=
 (mJ p0 p1.Key).bind λx1=>(if (decide (x1>=0))=true then ((idx p0.aE7 x1).bind λx4=>((iF x4.aD p1.Field p1.N).bind λx9=>(if (!x9.2)=true then ((bS p0).bind λah=>(some (ah,false))) else ((dZ p0 p1.Key x9.1).bind λaa=>(some (aa.1,aa.2)))))) else ((iF (⟨([]:List M.Field)⟩:M.aD) p1.Field p1.N).bind λae=>(if (!ae.2)=true then ((bS p0).bind λai=>(some (ai,false))) else ((dZ p0 p1.Key ae.1).bind λaf=>(some (af.1,af.2))))))
def jL (p1:List M.bD):Nat->Int->ByteArray->Int->List M.aFP->Option M.aC
 | 0,_,_,_,_=>none
 | ai+1,v6,ae,af,aa=>if (decide (v6<(List.length p1:Int)))=true then ((idx p1 v6).bind λaj=>((kJ (⟨ae,aa,af⟩:M.aC) aj).bind λah=>(if ah.2=true then (jL p1 ai (i64.wrap (v6+1)) ah.1.Name ah.1.aFZ ah.1.aE7) else (jL p1 ai (i64.wrap (v6+1)) ae af aa)))) else (some (⟨ae,aa,af⟩:M.aC))
def wU (p0:M.aC) (p1:List M.bD):Option M.aC:=
 (bS p0).bind λx1=>(jL p1 fuel 0 x1.Name x1.aFZ x1.aE7)
def Ag (p0:M.aG):Option M.aC:=
 (wU p0.aFT p0.aFS.aM.aFO).bind λx1=>(some x1)
def lI (p0:M.aG) (p1:M.Key) (p2:ByteArray) (p3:Int):Option (M.aG×Bool):=
 (vY p0).bind λx1=>((iB p0.aFS.aM p1 p2 p3).bind λx3=>((Ag p0).bind λx5=>((kJ x5 (⟨0,0,p1,p2,p3⟩:M.bD)).bind λx7=>((mW p0).bind λx9=>(if (!x9)=true then (some (x1,false)) else (if (!x3.2)=true then (some (x1,false)) else (if (!x7.2)=true then (some (x1,false)) else (some ((⟨x1.aFT,x1.aFq,(⟨x3.1,x1.aFS.aFi,x1.aFS.aFX⟩:M.aFS)⟩:M.aG),true)))))))))
def kZ (p0:M.aE) (p1:Int) (x1:M.aE):Nat->Int->Option (M.aE×Bool)
 | 0,_=>none
 | ai+1,v7=>if (decide (v7<(List.length p0.aE6:Int)))=true then ((idx p0.aE6 v7).bind λaj=>(if (decide (aj.aE3<p1))=true then (kZ p0 p1 x1 ai (i64.wrap (v7+1))) else ((Ap x1.aE6 v7).bind λar=>((app 32 ([]:List M.aFE) (List.take v7.toNat x1.aE6)).bind λav=>((app 32 (List.take v7.toNat x1.aE6) ([(⟨p1,([]:List M.aFL)⟩:M.aFE)])).bind λaw=>((app 32 ((List.take v7.toNat x1.aE6)++[(⟨p1,([]:List M.aFL)⟩:M.aFE)]) (List.drop v7.toNat x1.aE6)).bind λax=>((cE p0).bind λak=>(if (!ak)=true then ((dC p0).bind λal=>(some (al,false))) else ((cE (⟨(((List.take v7.toNat x1.aE6)++[(⟨p1,([]:List M.aFL)⟩:M.aFE)])++(List.drop v7.toNat x1.aE6))⟩:M.aE)).bind λao=>(if (!ao)=true then ((dC p0).bind λaq=>(some (aq,false))) else (some ((⟨(((List.take v7.toNat x1.aE6)++[(⟨p1,([]:List M.aFL)⟩:M.aFE)])++(List.drop v7.toNat x1.aE6))⟩:M.aE),true)))))))))))) else ((Ap x1.aE6 v7).bind λay=>((app 32 ([]:List M.aFE) (List.take v7.toNat x1.aE6)).bind λaz=>((app 32 (List.take v7.toNat x1.aE6) ([(⟨p1,([]:List M.aFL)⟩:M.aFE)])).bind λba=>((app 32 ((List.take v7.toNat x1.aE6)++[(⟨p1,([]:List M.aFL)⟩:M.aFE)]) (List.drop v7.toNat x1.aE6)).bind λbd=>((cE p0).bind λaa=>(if (!aa)=true then ((dC p0).bind λae=>(some (ae,false))) else ((cE (⟨(((List.take v7.toNat x1.aE6)++[(⟨p1,([]:List M.aFL)⟩:M.aFE)])++(List.drop v7.toNat x1.aE6))⟩:M.aE)).bind λaf=>(if (!af)=true then ((dC p0).bind λah=>(some (ah,false))) else (some ((⟨(((List.take v7.toNat x1.aE6)++[(⟨p1,([]:List M.aFL)⟩:M.aFE)])++(List.drop v7.toNat x1.aE6))⟩:M.aE),true))))))))))
def nC (p0:M.aE) (p1:Int):Option (M.aE×Bool):=
 (dC p0).bind λx1=>(kZ p0 p1 x1 fuel 0)
def fR (p0:M.aQ) (az:(M.aJ×Bool)) (bh:ByteArray) (bj:Int) (ba:Int) (aw:List M.aC) (ax:List M.aN) (ay:List Int):Nat->Int->ByteArray->Int->Int->Int->Int->Int->Int->Int->Int->List M.aFP->List M.bD->Option (Int×Int×M.aJ)
 | 0,_,_,_,_,_,_,_,_,_,_,_,_=>none
 | bw+1,bd,ai,aj,ak,al,ao,aq,ar,aa,ae,af,ah=>if (decide (bd>0))=true then ((dN (⟨p0.b,aa,ae⟩:M.aQ)).bind λbl=>((dA (⟨p0.b,bl.1,bl.2.1⟩:M.aQ)).bind λbm=>((aF (⟨p0.b,bm.1,bm.2.1⟩:M.aQ) 6).bind λbn=>((lI (⟨(⟨ai,af,aj⟩:M.aC),ak,(⟨(⟨al,ao,ah⟩:M.aM),aq,ar⟩:M.aFS)⟩:M.aG) bl.2.2 bm.2.2 bn.2.2).bind λav=>(fR p0 az bh bj ba aw ax ay bw (i64.wrap (bd-1)) av.1.aFT.Name av.1.aFT.aFZ av.1.aFq av.1.aFS.aM.aFC av.1.aFS.aM.aFd av.1.aFS.aFi av.1.aFS.aFX bn.1 bn.2.1 av.1.aFT.aE7 av.1.aFS.aM.aFO))))) else ((cA (⟨p0.b,aa,ae⟩:M.aQ) 2).bind λbf=>(if bf.2.2=true then ((aF (⟨p0.b,bf.1,bf.2.1⟩:M.aQ) 3).bind λbg=>((nC az.1.aE6 (i64.wrap (1+bg.2.2))).bind λbu=>((aF (⟨p0.b,bg.1,bg.2.1⟩:M.aQ) 50).bind λbo=>((cA (⟨p0.b,bo.1,bo.2.1⟩:M.aQ) 4).bind λbq=>(some (bq.1,bq.2.1,(⟨az.1.aFD,az.1.Top,(⟨az.1.aE4.aFD,az.1.aE4.aFY,az.1.aE4.aFg,(i64.wrap (1+bg.2.2))⟩:M.aE4),bu.1,(⟨(⟨bh,bj,aw,ax⟩:M.aE5),ay,ba⟩:M.bV),(⟨(⟨ai,af,aj⟩:M.aC),ak,(⟨(⟨al,ao,ah⟩:M.aM),aq,ar⟩:M.aFS)⟩:M.aG),bo.2.2,bq.2.2⟩:M.aJ))))))) else ((aF (⟨p0.b,bf.1,bf.2.1⟩:M.aQ) 50).bind λbr=>((cA (⟨p0.b,br.1,br.2.1⟩:M.aQ) 4).bind λbt=>(some (bt.1,bt.2.1,(⟨az.1.aFD,az.1.Top,az.1.aE4,az.1.aE6,(⟨(⟨bh,bj,aw,ax⟩:M.aE5),ay,ba⟩:M.bV),(⟨(⟨ai,af,aj⟩:M.aC),ak,(⟨(⟨al,ao,ah⟩:M.aM),aq,ar⟩:M.aFS)⟩:M.aG),br.2.2,bt.2.2⟩:M.aJ)))))))
def fU (p0:M.aQ) (af:(M.aJ×Bool)):Nat->Int->ByteArray->Int->Int->Int->Int->List M.aC->List M.aN->List Int->Option (Int×Int×M.aJ)
 | 0,_,_,_,_,_,_,_,_,_=>none
 | ax+1,v7,aq,ar,ak,aa,ae,ah,ai,aj=>if (decide (v7>0))=true then ((dN (⟨p0.b,aa,ae⟩:M.aQ)).bind λav=>((jV (⟨p0.b,av.1,av.2.1⟩:M.aQ)).bind λaw=>((nK (⟨(⟨aq,ar,ah,ai⟩:M.aE5),aj,ak⟩:M.bV) ([(⟨1,(⟨#[110,111,116,101,115]⟩:ByteArray),av.2.2,aw.2.2,(⟨#[]⟩:ByteArray)⟩:M.Op)])).bind λao=>(fU p0 af ax (i64.wrap (v7-1)) ao.1.aFT.Name ao.1.aFT.aE3 ao.1.aFk aw.1 aw.2.1 ao.1.aFT.aFH ao.1.aFT.aFQ ao.1.Log)))) else ((aF (⟨p0.b,aa,ae⟩:M.aQ) 3).bind λal=>(fR p0 af aq ar ak ah ai aj fuel al.2.2 af.1.aG.aFT.Name af.1.aG.aFT.aFZ af.1.aG.aFq af.1.aG.aFS.aM.aFC af.1.aG.aFS.aM.aFd af.1.aG.aFS.aFi af.1.aG.aFS.aFX al.1 al.2.1 af.1.aG.aFT.aE7 af.1.aG.aFS.aM.aFO))
def uG (p0:M.aQ):Option (Int×Int×M.aJ):=
 (lY p0).bind λx4=>(((cA (⟨p0.b,x4.1,x4.2.1⟩:M.aQ) 3).bind λae=>(if ae.2.2=true then ((lY (⟨p0.b,ae.1,ae.2.1⟩:M.aQ)).bind λaf=>(some (af.2.2,af.1,af.2.1))) else (some (x4.2.2,ae.1,ae.2.1)))).bind λah=>((aF (⟨p0.b,ah.2.1,ah.2.2⟩:M.aQ) 3).bind λai=>((pQ x4.2.2 ah.1 (i64.wrap (1+ai.2.2))).bind λaa=>((aF (⟨p0.b,ai.1,ai.2.1⟩:M.aQ) 4).bind λaj=>(fU p0 aa fuel aj.2.2 aa.1.bV.aFT.Name aa.1.bV.aFT.aE3 aa.1.bV.aFk aj.1 aj.2.1 aa.1.bV.aFT.aFH aa.1.bV.aFT.aFQ aa.1.bV.Log)))))
def vU (p0:M.aQ):Option (Int×Int×ByteArray):=
 (dB p0 ([(⟨#[105,110,100,101,120]⟩:ByteArray),(⟨#[115,116,121,108,101]⟩:ByteArray),(⟨#[99,111,100,101]⟩:ByteArray),(⟨#[100,97,116,97]⟩:ByteArray)])).bind λx4=>(some (x4.1,x4.2.1,x4.2.2))
def oG (p0:M.aQ) (p1:Int):Nat->Int->List Int->Int->Int->Option (Int×Int×(List Int))
 | 0,_,_,_,_=>none
 | ah+1,v6,r7,aa,ae=>if (decide (v6<p1))=true then ((rY (⟨p0.b,aa,ae⟩:M.aQ)).bind λaf=>((app 1 r7 ([(IntKind.u8.wrap af.2.2)])).bind λai=>(oG p0 p1 ah (i64.wrap (v6+1)) (r7++[(IntKind.u8.wrap af.2.2)]) af.1 af.2.1))) else (some (aa,ae,r7))
def yN (p0:M.aQ) (p1:Int):Option (Int×Int×(List Int)):=
 oG p0 p1 fuel 0 ([]:List Int) p0.i p0.h
def pI (p0:M.aQ):Option (Int×Int×M.aE9):=
 (aF p0 3).bind λx4=>((aF (⟨p0.b,x4.1,x4.2.1⟩:M.aQ) 4).bind λx6=>((aF (⟨p0.b,x6.1,x6.2.1⟩:M.aQ) 6).bind λx8=>((yN (⟨p0.b,x8.1,x8.2.1⟩:M.aQ) x8.2.2).bind λaf=>((cA (⟨p0.b,af.1,af.2.1⟩:M.aQ) 2).bind λae=>((aF (⟨p0.b,ae.1,ae.2.1⟩:M.aQ) 14).bind λaa=>(if (aa.2.2==0)=true then ((bM (⟨p0.b,aa.1,aa.2.1⟩:M.aQ) ([0,4,5])).bind λah=>(some (ah.1,ah.2.1,(⟨ah.2.2,200,(i64.wrap (1+x6.2.2)),af.2.2,ae.2.2⟩:M.aE9)))) else (if (aa.2.2==1)=true then ((bM (⟨p0.b,aa.1,aa.2.1⟩:M.aQ) ([(-1),0,404,999,1000])).bind λai=>(some (ai.1,ai.2.1,(⟨(i64.wrap (1+x4.2.2)),ai.2.2,(i64.wrap (1+x6.2.2)),af.2.2,ae.2.2⟩:M.aE9)))) else (if (aa.2.2==2)=true then ((bM (⟨p0.b,aa.1,aa.2.1⟩:M.aQ) ([60,61])).bind λaj=>((yN (⟨p0.b,aj.1,aj.2.1⟩:M.aQ) aj.2.2).bind λak=>(some (ak.1,ak.2.1,(⟨(i64.wrap (1+x4.2.2)),200,(i64.wrap (1+x6.2.2)),ak.2.2,ae.2.2⟩:M.aE9))))) else (some (aa.1,aa.2.1,(⟨(i64.wrap (1+x4.2.2)),200,(i64.wrap (1+x6.2.2)),af.2.2,ae.2.2⟩:M.aE9)))))))))))
def mT (p0:M.aE) (p1:Int) (p2:ByteArray) (p3:ByteArray) (p4:M.aE9):Option (M.aE×Bool):=
 (dC p0).bind λx1=>((uJ p0 p1).bind λx3=>(if (decide (x3<0))=true then (some (x1,false)) else ((sA p4).bind λx6=>((idx x1.aE6 x3).bind λx8=>((yH x8 p2 p3).bind λaa=>(if (decide (aa>=0))=true then ((idx x8.aFK aa).bind λaq=>((cE p0).bind λae=>(if (!ae)=true then ((dC p0).bind λaf=>(some (af,false))) else ((cE (⟨(List.set x1.aE6 x3.toNat (⟨x8.aE3,(List.set x8.aFK aa.toNat (⟨p2,p3,x6⟩:M.aFL))⟩:M.aFE))⟩:M.aE)).bind λah=>(if (!ah)=true then ((dC p0).bind λai=>(some (ai,false))) else (some ((⟨(List.set x1.aE6 x3.toNat (⟨x8.aE3,(List.set x8.aFK aa.toNat (⟨p2,p3,x6⟩:M.aFL))⟩:M.aFE))⟩:M.aE),true))))))) else ((app 88 x8.aFK ([(⟨p2,p3,x6⟩:M.aFL)])).bind λar=>((cE p0).bind λaj=>(if (!aj)=true then ((dC p0).bind λak=>(some (ak,false))) else ((cE (⟨(List.set x1.aE6 x3.toNat (⟨x8.aE3,(x8.aFK++[(⟨p2,p3,x6⟩:M.aFL)])⟩:M.aFE))⟩:M.aE)).bind λal=>(if (!al)=true then ((dC p0).bind λao=>(some (ao,false))) else (some ((⟨(List.set x1.aE6 x3.toNat (⟨x8.aE3,(x8.aFK++[(⟨p2,p3,x6⟩:M.aFL)])⟩:M.aFE))⟩:M.aE),true)))))))))))))
def mY (p0:M.aQ):Nat->Int->Int->Int->List M.aFE->Option (Int×Int×M.aE)
 | 0,_,_,_,_=>none
 | ao+1,ah,aa,ae,af=>if (decide (ah>0))=true then ((aF (⟨p0.b,aa,ae⟩:M.aQ) 4).bind λai=>((lY (⟨p0.b,ai.1,ai.2.1⟩:M.aQ)).bind λaj=>((vU (⟨p0.b,aj.1,aj.2.1⟩:M.aQ)).bind λak=>((pI (⟨p0.b,ak.1,ak.2.1⟩:M.aQ)).bind λal=>((mT (⟨af⟩:M.aE) (i64.wrap (1+ai.2.2)) aj.2.2 ak.2.2 al.2.2).bind λaq=>(mY p0 ao (i64.wrap (ah-1)) al.1 al.2.1 aq.1.aE6)))))) else (some (aa,ae,(⟨af⟩:M.aE)))
def pS (p0:M.aQ):Nat->Int->Int->Int->List M.aFE->Option (Int×Int×M.aE)
 | 0,_,_,_,_=>none
 | aj+1,v4,aa,ae,af=>if (decide (v4>0))=true then ((aF (⟨p0.b,aa,ae⟩:M.aQ) 4).bind λah=>((nC (⟨af⟩:M.aE) (i64.wrap (1+ah.2.2))).bind λak=>(pS p0 aj (i64.wrap (v4-1)) ah.1 ah.2.1 ak.1.aE6))) else ((aF (⟨p0.b,aa,ae⟩:M.aQ) 5).bind λai=>(mY p0 fuel ai.2.2 ai.1 ai.2.1 af))
def A3 (p0:M.aQ):Option (Int×Int×M.aE):=
 (aF p0 3).bind λx4=>(pS p0 fuel x4.2.2 x4.1 x4.2.1 ([]:List M.aFE))
def pU (ae:(Int×Int×Int)):Nat->Int->List M.aFE->Option (Int×Int×M.aE)
 | 0,_,_=>none
 | af+1,v4,aa=>if (decide (v4<=4))=true then ((nC (⟨aa⟩:M.aE) v4).bind λah=>(pU ae af (i64.wrap (v4+1)) ah.1.aE6)) else (some (ae.1,ae.2.1,(⟨aa⟩:M.aE)))
def Bb (p0:M.aQ):Option (Int×Int×M.aE):=
 (A3 p0).bind λx4=>((aF (⟨p0.b,x4.1,x4.2.1⟩:M.aQ) 12).bind λaa=>(if (aa.2.2==0)=true then ((bM (⟨p0.b,aa.1,aa.2.1⟩:M.aQ) ([0,1,9,1000000000001])).bind λae=>((app 32 x4.2.2.aE6 ([(⟨ae.2.2,([]:List M.aFL)⟩:M.aFE)])).bind λaj=>(some (ae.1,ae.2.1,(⟨(x4.2.2.aE6++[(⟨ae.2.2,([]:List M.aFL)⟩:M.aFE)])⟩:M.aE))))) else (if (aa.2.2==1)=true then (if (decide ((List.length x4.2.2.aE6:Int)>0))=true then ((idx x4.2.2.aE6 0).bind λai=>((dB (⟨p0.b,aa.1,aa.2.1⟩:M.aQ) ([(⟨#[105,110,100,101,120]⟩:ByteArray),(⟨#[]⟩:ByteArray),(⟨#[122,122]⟩:ByteArray)])).bind λaf=>((pI (⟨p0.b,af.1,af.2.1⟩:M.aQ)).bind λah=>((app 88 ai.aFK ([(⟨(⟨#[98,97,110,107]⟩:ByteArray),af.2.2,ah.2.2⟩:M.aFL)])).bind λak=>(some (ah.1,ah.2.1,(⟨(List.set x4.2.2.aE6 (0:Int).toNat (⟨ai.aE3,(ai.aFK++[(⟨(⟨#[98,97,110,107]⟩:ByteArray),af.2.2,ah.2.2⟩:M.aFL)])⟩:M.aFE))⟩:M.aE))))))) else (some (aa.1,aa.2.1,x4.2.2))) else (if (aa.2.2==2)=true then (pU aa fuel 1 x4.2.2.aE6) else (some (aa.1,aa.2.1,x4.2.2))))))
def wI (p0:M.aQ):Option (Int×Int×Int):=
 (aF p0 9).bind λx4=>((bM (⟨p0.b,x4.1,x4.2.1⟩:M.aQ) ([0,1,2,(-1),255,256,(-1000000000000),1000000000000,x4.2.2])).bind λx6=>(some (x6.1,x6.2.1,x6.2.2)))
def AV (p0:M.aQ):Option (Int×Int×M.Key):=
 (dB p0 ([(⟨#[]⟩:ByteArray),(⟨#[97]⟩:ByteArray),(⟨#[97,98]⟩:ByteArray),(⟨#[98]⟩:ByteArray),(⟨#[122,57]⟩:ByteArray),(⟨#[97,98,99,100,101,102,103,104,105,106,107,108]⟩:ByteArray)])).bind λx4=>((aF (⟨p0.b,x4.1,x4.2.1⟩:M.aQ) 3).bind λaa=>(if (aa.2.2==0)=true then (some (aa.1,aa.2.1,(⟨2,0,x4.2.2⟩:M.Key))) else (if (aa.2.2==1)=true then ((wI (⟨p0.b,aa.1,aa.2.1⟩:M.aQ)).bind λae=>(some (ae.1,ae.2.1,(⟨3,ae.2.2,x4.2.2⟩:M.Key)))) else ((wI (⟨p0.b,aa.1,aa.2.1⟩:M.aQ)).bind λaf=>(some (af.1,af.2.1,(⟨1,af.2.2,(⟨#[]⟩:ByteArray)⟩:M.Key)))))))
def nU (p0:M.aQ):Nat->Int->ByteArray->Int->Int->Int->List M.aFP->Option (Int×Int×M.aC)
 | 0,_,_,_,_,_,_=>none
 | av+1,v6,ah,ai,aa,ae,af=>if (decide (v6>0))=true then ((dN (⟨p0.b,aa,ae⟩:M.aQ)).bind λak=>((jV (⟨p0.b,ak.1,ak.2.1⟩:M.aQ)).bind λal=>((dZ (⟨ah,af,ai⟩:M.aC) ak.2.2 al.2.2).bind λao=>(nU p0 av (i64.wrap (v6-1)) ao.1.Name ao.1.aFZ al.1 al.2.1 ao.1.aE7)))) else ((cA (⟨p0.b,aa,ae⟩:M.aQ) 8).bind λaj=>(if aj.2.2=true then ((AV (⟨p0.b,aj.1,aj.2.1⟩:M.aQ)).bind λaq=>((jV (⟨p0.b,aq.1,aq.2.1⟩:M.aQ)).bind λar=>((dZ (⟨ah,af,ai⟩:M.aC) aq.2.2 ar.2.2).bind λaw=>(some (ar.1,ar.2.1,aw.1))))) else (some (aj.1,aj.2.1,(⟨ah,af,ai⟩:M.aC)))))
def oM (p0:M.aQ) (p1:ByteArray):Option (Int×Int×M.aC):=
 (bM p0 ([0,2,4,6])).bind λx5=>(nU p0 fuel x5.2.2 p1 0 x5.1 x5.2.1 ([]:List M.aFP))
def nL (p0:M.aE5) (p1:M.kM):Nat->Int->Option Int
 | 0,_=>none
 | aa+1,v5=>if (decide (v5<(List.length p0.aFQ:Int)))=true then ((idx p0.aFQ v5).bind λx8=>(if (x8.aC.toList==p1.aC.toList)=true then (if (x8.Field.toList==p1.Field.toList)=true then (some v5) else (nL p0 p1 aa (i64.wrap (v5+1)))) else (nL p0 p1 aa (i64.wrap (v5+1))))) else (some (-1))
def BU (p0:M.aE5) (p1:M.kM):Option Int:=
 nL p0 p1 fuel 0
def xU (p0:M.aE5) (p1:ByteArray) (ae:List M.aC):Nat->Int->List M.aN->Option M.aE5
 | 0,_,_=>none
 | ah+1,v7,aa=>if (decide (v7<(List.length p0.aFQ:Int)))=true then ((idx p0.aFQ v7).bind λaf=>(if (!(af.aC.toList==p1.toList))=true then ((app 32 aa ([af])).bind λai=>(xU p0 p1 ae ah (i64.wrap (v7+1)) (aa++[af]))) else (xU p0 p1 ae ah (i64.wrap (v7+1)) aa))) else (some (⟨p0.Name,p0.aE3,ae,aa⟩:M.aE5))
def yD (p0:M.aE5) (p1:ByteArray):Nat->Int->List M.aC->Option M.aE5
 | 0,_,_=>none
 | ae+1,v6,aa=>if (decide (v6<(List.length p0.aFH:Int)))=true then ((idx p0.aFH v6).bind λaf=>(if (!(af.Name.toList==p1.toList))=true then ((bS af).bind λah=>((app 48 aa ([ah])).bind λai=>(yD p0 p1 ae (i64.wrap (v6+1)) (aa++[ah])))) else (yD p0 p1 ae (i64.wrap (v6+1)) aa))) else (xU p0 p1 aa fuel 0 ([]:List M.aN))
def D9 (p0:M.aE5) (p1:ByteArray):Option M.aE5:=
 yD p0 p1 fuel 0 ([]:List M.aC)
def nG (p0:M.aE5) (p1:M.kM) (x1:M.aE5):Nat->Int->Option (M.aE5×Bool)
 | 0,_=>none
 | ai+1,v9=>(if (decide (v9<(List.length p0.aFH:Int)))=true then ((idx p0.aFH v9).bind λaj=>(some (Op.bytesLess aj.Name.toList p1.aC.toList))) else (some false)).bind λak=>(if ak=true then (nG p0 p1 x1 ai (i64.wrap (v9+1))) else ((Ap x1.aFH v9).bind λal=>((app 48 ([]:List M.aC) (List.take v9.toNat x1.aFH)).bind λao=>((app 48 (List.take v9.toNat x1.aFH) ([(⟨p1.aC,([]:List M.aFP),0⟩:M.aC)])).bind λaq=>((app 48 ((List.take v9.toNat x1.aFH)++[(⟨p1.aC,([]:List M.aFP),0⟩:M.aC)]) (List.drop v9.toNat x1.aFH)).bind λar=>(((bU p0).bind λaa=>(if (!aa)=true then (some true) else ((bU (⟨x1.Name,x1.aE3,(((List.take v9.toNat x1.aFH)++[(⟨p1.aC,([]:List M.aFP),0⟩:M.aC)])++(List.drop v9.toNat x1.aFH)),x1.aFQ⟩:M.aE5)).bind λae=>(some (!ae))))).bind λaf=>(if af=true then ((eK p0).bind λah=>(some (ah,false))) else (some ((⟨x1.Name,x1.aE3,(((List.take v9.toNat x1.aFH)++[(⟨p1.aC,([]:List M.aFP),0⟩:M.aC)])++(List.drop v9.toNat x1.aFH)),x1.aFQ⟩:M.aE5),true)))))))))
def kX (p0:M.aE5) (p1:M.kM):Option (M.aE5×Bool):=
 (eK p0).bind λx1=>((pR p0 p1.aC).bind λx3=>((BU p0 p1).bind λx5=>((if (p1.aFU==1)=true then (some (decide (x3<0))) else (some false)).bind λx7=>(if x7=true then (nG p0 p1 x1 fuel 0) else ((if (p1.aFU==2)=true then (some (decide (x3>=0))) else (some false)).bind λae=>(if ae=true then ((D9 p0 p1.aC).bind λaa=>(((bU p0).bind λaf=>(if (!af)=true then (some true) else ((bU aa).bind λah=>(some (!ah))))).bind λai=>(if ai=true then ((eK p0).bind λaj=>(some (aj,false))) else (some (aa,true))))) else ((if (p1.aFU==3)=true then (if (decide (x3>=0))=true then (some (decide (x5<0))) else (some false)) else (some false)).bind λak=>(if ak=true then ((app 32 x1.aFQ ([(⟨p1.aC,p1.Field⟩:M.aN)])).bind λba=>(((bU p0).bind λal=>(if (!al)=true then (some true) else ((bU (⟨x1.Name,x1.aE3,x1.aFH,(x1.aFQ++[(⟨p1.aC,p1.Field⟩:M.aN)])⟩:M.aE5)).bind λao=>(some (!ao))))).bind λaq=>(if aq=true then ((eK p0).bind λar=>(some (ar,false))) else (some ((⟨x1.Name,x1.aE3,x1.aFH,(x1.aFQ++[(⟨p1.aC,p1.Field⟩:M.aN)])⟩:M.aE5),true))))) else ((if (p1.aFU==4)=true then (some (decide (x5>=0))) else (some false)).bind λav=>(if av=true then ((Ap x1.aFQ x5).bind λbd=>((B5 x1.aFQ (i64.wrap (x5+1))).bind λbf=>((app 32 (List.take x5.toNat x1.aFQ) (List.drop (i64.wrap (x5+1)).toNat x1.aFQ)).bind λbg=>(((bU p0).bind λaw=>(if (!aw)=true then (some true) else ((bU (⟨x1.Name,x1.aE3,x1.aFH,((List.take x5.toNat x1.aFQ)++(List.drop (i64.wrap (x5+1)).toNat x1.aFQ))⟩:M.aE5)).bind λax=>(some (!ax))))).bind λay=>(if ay=true then ((eK p0).bind λaz=>(some (az,false))) else (some ((⟨x1.Name,x1.aE3,x1.aFH,((List.take x5.toNat x1.aFQ)++(List.drop (i64.wrap (x5+1)).toNat x1.aFQ))⟩:M.aE5),true))))))) else (some (x1,false))))))))))))
def Bh (p0:M.aQ):Option (Int×Int×M.aE5):=
 (oM p0 (⟨#[110,111,116,101,115]⟩:ByteArray)).bind λx4=>((oM (⟨p0.b,x4.1,x4.2.1⟩:M.aQ) (⟨#[116,97,103,115]⟩:ByteArray)).bind λx6=>((YW 48 ([x4.2.2,x6.2.2])).bind λx8=>((cA (⟨p0.b,x6.1,x6.2.1⟩:M.aQ) 2).bind λaa=>(if aa.2.2=true then ((oM (⟨p0.b,aa.1,aa.2.1⟩:M.aQ) (⟨#[108,105,115,116,115]⟩:ByteArray)).bind λae=>((app 48 ([ae.2.2]) ([x4.2.2,x6.2.2])).bind λao=>((cA (⟨p0.b,ae.1,ae.2.1⟩:M.aQ) 3).bind λaf=>(if af.2.2=true then ((dA (⟨p0.b,af.1,af.2.1⟩:M.aQ)).bind λai=>((kX (⟨(⟨#[97,112,112]⟩:ByteArray),1,([ae.2.2]++[x4.2.2,x6.2.2]),([]:List M.aN)⟩:M.aE5) (⟨3,(⟨#[110,111,116,101,115]⟩:ByteArray),ai.2.2⟩:M.kM)).bind λak=>(some (ai.1,ai.2.1,ak.1)))) else (some (af.1,af.2.1,(⟨(⟨#[97,112,112]⟩:ByteArray),1,([ae.2.2]++[x4.2.2,x6.2.2]),([]:List M.aN)⟩:M.aE5))))))) else ((cA (⟨p0.b,aa.1,aa.2.1⟩:M.aQ) 3).bind λah=>(if ah.2.2=true then ((dA (⟨p0.b,ah.1,ah.2.1⟩:M.aQ)).bind λaj=>((kX (⟨(⟨#[97,112,112]⟩:ByteArray),1,[x4.2.2,x6.2.2],([]:List M.aN)⟩:M.aE5) (⟨3,(⟨#[110,111,116,101,115]⟩:ByteArray),aj.2.2⟩:M.kM)).bind λal=>(some (aj.1,aj.2.1,al.1)))) else (some (ah.1,ah.2.1,(⟨(⟨#[97,112,112]⟩:ByteArray),1,[x4.2.2,x6.2.2],([]:List M.aN)⟩:M.aE5)))))))))
def CF (p0:M.aQ):Option (Int×Int×M.Op):=
 (aF p0 6).bind λx4=>((dB (⟨p0.b,x4.1,x4.2.1⟩:M.aQ) ([(⟨#[110,111,116,101,115]⟩:ByteArray),(⟨#[116,97,103,115]⟩:ByteArray),(⟨#[110,111,116,101,115]⟩:ByteArray),(⟨#[108,105,115,116,115]⟩:ByteArray)])).bind λx6=>((dN (⟨p0.b,x6.1,x6.2.1⟩:M.aQ)).bind λx8=>(if ((i64.wrap (1+x4.2.2))==1)=true then ((jV (⟨p0.b,x8.1,x8.2.1⟩:M.aQ)).bind λae=>(some (ae.1,ae.2.1,(⟨(i64.wrap (1+x4.2.2)),x6.2.2,x8.2.2,ae.2.2,(⟨#[]⟩:ByteArray)⟩:M.Op)))) else (if ((i64.wrap (1+x4.2.2))==2)=true then ((jV (⟨p0.b,x8.1,x8.2.1⟩:M.aQ)).bind λaf=>(some (af.1,af.2.1,(⟨(i64.wrap (1+x4.2.2)),x6.2.2,x8.2.2,af.2.2,(⟨#[]⟩:ByteArray)⟩:M.Op)))) else (if ((i64.wrap (1+x4.2.2))==6)=true then ((dA (⟨p0.b,x8.1,x8.2.1⟩:M.aQ)).bind λah=>(some (ah.1,ah.2.1,(⟨(i64.wrap (1+x4.2.2)),x6.2.2,x8.2.2,(⟨([]:List M.Field)⟩:M.aD),ah.2.2⟩:M.Op)))) else (if ((i64.wrap (1+x4.2.2))==5)=true then ((cA (⟨p0.b,x8.1,x8.2.1⟩:M.aQ) 2).bind λaa=>(if aa.2.2=true then ((dN (⟨p0.b,aa.1,aa.2.1⟩:M.aQ)).bind λai=>(some (ai.1,ai.2.1,(⟨1,x6.2.2,ai.2.2,(⟨([]:List M.Field)⟩:M.aD),(⟨#[]⟩:ByteArray)⟩:M.Op)))) else (some (aa.1,aa.2.1,(⟨(i64.wrap (1+x4.2.2)),x6.2.2,(⟨0,0,(⟨#[]⟩:ByteArray)⟩:M.Key),(⟨([]:List M.Field)⟩:M.aD),(⟨#[]⟩:ByteArray)⟩:M.Op))))) else (some (x8.1,x8.2.1,(⟨(i64.wrap (1+x4.2.2)),x6.2.2,x8.2.2,(⟨([]:List M.Field)⟩:M.aD),(⟨#[]⟩:ByteArray)⟩:M.Op)))))))))
def tJ (p0:M.aQ):Nat->Int->List M.Op->Int->Int->Option (Int×Int×(List M.Op))
 | 0,_,_,_,_=>none
 | ah+1,v6,r7,aa,ae=>if (decide (v6>0))=true then ((CF (⟨p0.b,aa,ae⟩:M.aQ)).bind λaf=>((app 96 r7 ([af.2.2])).bind λai=>(tJ p0 ah (i64.wrap (v6-1)) (r7++[af.2.2]) af.1 af.2.1))) else (some (aa,ae,r7))
def B7 (p0:M.aQ) (p1:Int):Option (Int×Int×(List M.Op)):=
 (aF p0 (i64.wrap (p1+1))).bind λaa=>(tJ p0 fuel aa.2.2 ([]:List M.Op) aa.1 aa.2.1)
def oI (p0:M.aQ):Nat->Int->ByteArray->Int->Int->Int->Int->List M.aC->List M.aN->List Int->Option (Int×Int×M.bV)
 | 0,_,_,_,_,_,_,_,_,_=>none
 | ar+1,v4,ak,al,ao,aa,ae,af,ah,ai=>if (decide (v4>0))=true then ((B7 (⟨p0.b,aa,ae⟩:M.aQ) 3).bind λaq=>((nK (⟨(⟨ak,al,af,ah⟩:M.aE5),ai,ao⟩:M.bV) aq.2.2).bind λaj=>(oI p0 ar (i64.wrap (v4-1)) aj.1.aFT.Name aj.1.aFT.aE3 aj.1.aFk aq.1 aq.2.1 aj.1.aFT.aFH aj.1.aFT.aFQ aj.1.Log))) else (some (aa,ae,(⟨(⟨ak,al,af,ah⟩:M.aE5),ai,ao⟩:M.bV)))
def AA (p0:M.aQ):Option (Int×Int×M.bV):=
 (Bh p0).bind λx4=>((aF (⟨p0.b,x4.1,x4.2.1⟩:M.aQ) 5).bind λaa=>(oI p0 fuel aa.2.2 x4.2.2.Name x4.2.2.aE3 0 aa.1 aa.2.1 x4.2.2.aFH x4.2.2.aFQ ([]:List Int)))
def Bp (p0:M.aQ) (p1:List Int):Option (Int×Int×(List Int)):=
 (app 1 ([]:List Int) p1).bind λx5=>((aF p0 6).bind λaa=>(if (aa.2.2==0)=true then (if (decide ((List.length p1:Int)>0))=true then ((aF (⟨p0.b,aa.1,aa.2.1⟩:M.aQ) (List.length p1:Int)).bind λae=>((aF (⟨p0.b,ae.1,ae.2.1⟩:M.aQ) 256).bind λai=>((idx p1 ae.2.2).bind λaj=>(some (ai.1,ai.2.1,(List.set p1 ae.2.2.toNat (IntKind.u8.wrap ai.2.2))))))) else (some (aa.1,aa.2.1,p1))) else (if (aa.2.2==1)=true then ((aF (⟨p0.b,aa.1,aa.2.1⟩:M.aQ) (i64.wrap ((List.length p1:Int)+1))).bind λaf=>((Ap p1 af.2.2).bind λak=>(some (af.1,af.2.1,(List.take af.2.2.toNat p1))))) else (if (aa.2.2==2)=true then ((bM (⟨p0.b,aa.1,aa.2.1⟩:M.aQ) ([0,1,128,255])).bind λah=>((app 1 p1 ([(IntKind.u8.wrap ah.2.2)])).bind λal=>(some (ah.1,ah.2.1,(p1++[(IntKind.u8.wrap ah.2.2)]))))) else (some (aa.1,aa.2.1,p1))))))
def Bi (p0:M.aQ):Option (Int×Int×M.bV):=
 (AA p0).bind λx4=>((aF (⟨p0.b,x4.1,x4.2.1⟩:M.aQ) 10).bind λaa=>(if (aa.2.2==0)=true then (some (aa.1,aa.2.1,(⟨x4.2.2.aFT,x4.2.2.Log,(i64.wrap (x4.2.2.aFk+1))⟩:M.bV))) else (if (aa.2.2==1)=true then ((Bp (⟨p0.b,aa.1,aa.2.1⟩:M.aQ) x4.2.2.Log).bind λae=>(some (ae.1,ae.2.1,(⟨x4.2.2.aFT,ae.2.2,x4.2.2.aFk⟩:M.bV)))) else (if (aa.2.2==2)=true then ((tZ x4.2.2.Log x4.2.2.aFk ([1,2])).bind λaf=>(some (aa.1,aa.2.1,(⟨x4.2.2.aFT,af.1,(i64.wrap (x4.2.2.aFk+1))⟩:M.bV)))) else (some (aa.1,aa.2.1,x4.2.2))))))
def sH (p0:M.aFG) (p1:Int):Nat->Int->Option Int
 | 0,_=>none
 | aa+1,v5=>if (decide (v5<(List.length p0.aO:Int)))=true then ((idx p0.aO v5).bind λx7=>(if (x7.aFC==p1)=true then (some x7.Seq) else (sH p0 p1 aa (i64.wrap (v5+1))))) else (some 0)
def vT (p0:M.aFG) (p1:Int):Option Int:=
 sH p0 p1 fuel 0
def sJ (p0:List M.aO) (p1:Int) (p2:Int):Nat->Int->Option (List M.aO)
 | 0,_=>none
 | ae+1,v8=>if (decide (v8<(List.length p0:Int)))=true then ((idx p0 v8).bind λaa=>(if (decide (aa.aFC<p1))=true then (sJ p0 p1 p2 ae (i64.wrap (v8+1))) else (if (aa.aFC==p1)=true then (some (List.set p0 v8.toNat (⟨aa.aFC,p2⟩:M.aO))) else ((Ap p0 v8).bind λaf=>((app 16 ([]:List M.aO) (List.take v8.toNat p0)).bind λah=>((app 16 (List.take v8.toNat p0) ([(⟨p1,p2⟩:M.aO)])).bind λai=>((B5 p0 v8).bind λaj=>((app 16 ((List.take v8.toNat p0)++[(⟨p1,p2⟩:M.aO)]) (List.drop v8.toNat p0)).bind λak=>(some (((List.take v8.toNat p0)++[(⟨p1,p2⟩:M.aO)])++(List.drop v8.toNat p0))))))))))) else ((Ap p0 v8).bind λal=>((app 16 ([]:List M.aO) (List.take v8.toNat p0)).bind λao=>((app 16 (List.take v8.toNat p0) ([(⟨p1,p2⟩:M.aO)])).bind λaq=>((B5 p0 v8).bind λar=>((app 16 ((List.take v8.toNat p0)++[(⟨p1,p2⟩:M.aO)]) (List.drop v8.toNat p0)).bind λav=>(some (((List.take v8.toNat p0)++[(⟨p1,p2⟩:M.aO)])++(List.drop v8.toNat p0))))))))
def Az (p0:List M.aO) (p1:Int) (p2:Int):Option (List M.aO):=
 (app 16 ([]:List M.aO) p0).bind λx1=>(sJ p0 p1 p2 fuel 0)
def cR (p0:M.aFG) (p1:M.bD):Option (M.aFG×Int):=
 (gH p0).bind λx1=>((oU p0).bind λx3=>(if (!x3)=true then (some (x1,4)) else ((jI p1).bind λx6=>(if (!x6)=true then (some (x1,4)) else ((Az p0.aO p1.aFC p1.Seq).bind λx9=>((vT p0 p1.aFC).bind λaa=>(if (decide ((List.length x9:Int)>60))=true then (some (x1,4)) else (if (decide (p1.Seq<=aa))=true then (some (x1,2)) else (if (decide (p1.Seq>(i64.wrap (aa+1))))=true then (some (x1,3)) else ((kJ p0.aC p1).bind λae=>(if ae.2=true then ((app 72 x1.aFV ([p1])).bind λaf=>(some ((⟨ae.1,x9,(x1.aFV++[p1])⟩:M.aFG),1))) else ((app 72 x1.aFV ([p1])).bind λah=>(some ((⟨x1.aC,x9,(x1.aFV++[p1])⟩:M.aFG),1))))))))))))))
def kW (p0:M.aQ):Nat->Int->ByteArray->Int->Int->Int->List M.aFP->List M.aO->List M.bD->Option (Int×Int×M.aFG)
 | 0,_,_,_,_,_,_,_,_=>none
 | aw+1,v4,aj,ak,aa,ae,af,ah,ai=>if (decide (v4>0))=true then ((aF (⟨p0.b,aa,ae⟩:M.aQ) 3).bind λao=>((vT (⟨(⟨aj,af,ak⟩:M.aC),ah,ai⟩:M.aFG) (i64.wrap (1+ao.2.2))).bind λax=>((dN (⟨p0.b,ao.1,ao.2.1⟩:M.aQ)).bind λaq=>((dA (⟨p0.b,aq.1,aq.2.1⟩:M.aQ)).bind λar=>((aF (⟨p0.b,ar.1,ar.2.1⟩:M.aQ) 6).bind λav=>((cR (⟨(⟨aj,af,ak⟩:M.aC),ah,ai⟩:M.aFG) (⟨(i64.wrap (1+ao.2.2)),(i64.wrap (ax+1)),aq.2.2,ar.2.2,av.2.2⟩:M.bD)).bind λal=>(kW p0 aw (i64.wrap (v4-1)) al.1.aC.Name al.1.aC.aFZ av.1 av.2.1 al.1.aC.aE7 al.1.aO al.1.aFV))))))) else (some (aa,ae,(⟨(⟨aj,af,ak⟩:M.aC),ah,ai⟩:M.aFG)))
def uA (p0:M.aQ):Option (Int×Int×M.aFG):=
 (oM p0 (⟨#[110,111,116,101,115]⟩:ByteArray)).bind λx4=>((aF (⟨p0.b,x4.1,x4.2.1⟩:M.aQ) 6).bind λaa=>(kW p0 fuel aa.2.2 x4.2.2.Name x4.2.2.aFZ aa.1 aa.2.1 x4.2.2.aE7 ([]:List M.aO) ([]:List M.bD)))
def wM (p0:M.aFG) (p1:Int):Option (M.aG×Bool):=
 (mX p1).bind λx1=>((bS p0.aC).bind λx3=>(if (!x1.2)=true then (some ((⟨(⟨(⟨#[]⟩:ByteArray),([]:List M.aFP),0⟩:M.aC),0,(⟨(⟨0,0,([]:List M.bD)⟩:M.aM),0,0⟩:M.aFS)⟩:M.aG),false)) else ((oU p0).bind λx6=>(if (!x6)=true then (some ((⟨(⟨(⟨#[]⟩:ByteArray),([]:List M.aFP),0⟩:M.aC),0,(⟨(⟨0,0,([]:List M.bD)⟩:M.aM),0,0⟩:M.aFS)⟩:M.aG),false)) else ((mW (⟨x3,(List.length p0.aFV:Int),(⟨x1.1,0,0⟩:M.aFS)⟩:M.aG)).bind λx9=>(if (!x9)=true then (some ((⟨(⟨(⟨#[]⟩:ByteArray),([]:List M.aFP),0⟩:M.aC),0,(⟨(⟨0,0,([]:List M.bD)⟩:M.aM),0,0⟩:M.aFS)⟩:M.aG),false)) else (some ((⟨x3,(List.length p0.aFV:Int),(⟨x1.1,0,0⟩:M.aFS)⟩:M.aG),true))))))))
def Af (p0:M.aM):Option (M.bD×Bool):=
 if ((List.length p0.aFO:Int)==0)=true then (some ((⟨0,0,(⟨0,0,(⟨#[]⟩:ByteArray)⟩:M.Key),(⟨#[]⟩:ByteArray),0⟩:M.bD),false)) else ((idx p0.aFO 0).bind λx2=>(some (x2,true)))
def nJ (p0:M.aM) (p1:Int) (x1:M.aM):Nat->Int->Option (M.aM×Int)
 | 0,_=>none
 | aa+1,v7=>if (decide (v7<(List.length p0.aFO:Int)))=true then ((idx p0.aFO v7).bind λae=>(if (decide (ae.Seq<=p1))=true then (nJ p0 p1 x1 aa (i64.wrap (v7+1))) else ((B5 p0.aFO v7).bind λaf=>((app 72 ([]:List M.bD) (List.drop v7.toNat p0.aFO)).bind λah=>(some ((⟨x1.aFC,x1.aFd,(List.drop v7.toNat p0.aFO)⟩:M.aM),v7)))))) else ((B5 p0.aFO v7).bind λai=>((app 72 ([]:List M.bD) (List.drop v7.toNat p0.aFO)).bind λaj=>(some ((⟨x1.aFC,x1.aFd,(List.drop v7.toNat p0.aFO)⟩:M.aM),v7))))
def cT (p0:M.aM) (p1:Int):Option (M.aM×Int):=
 (sB p0).bind λx1=>((iD p0).bind λx3=>(if (!x3)=true then (some (x1,0)) else (nJ p0 p1 x1 fuel 0)))
def gV (p0:Int) (p1:Int):Option Int:=
 if (decide (p1<p0))=true then (some p1) else (some p0)
def nZ (p0:Int):Nat->Int->Int->Option Int
 | 0,_,_=>none
 | aa+1,v3,v4=>if (decide (v4<p0))=true then (if (decide (v3<64))=true then (nZ p0 aa (i64.wrap (2*v3)) (i64.wrap (v4+1))) else (some v3)) else (some v3)
def iL (p0:Int):Option Int:=
 nZ p0 fuel 1 0
def zM (p0:M.aFS) (p1:M.aFG) (p2:Int) (p3:Int):Option (M.aFS×M.aFG×Int):=
 (vQ p0).bind λx1=>((Af p0.aM).bind λx3=>(if (!x3.2)=true then ((gH p1).bind λx6=>(some (x1,x6,0))) else ((iD p0.aM).bind λx8=>(if (!x8)=true then ((gH p1).bind λbo=>(some (x1,bo,0))) else (if (decide (p2<p0.aFX))=true then ((gH p1).bind λbq=>(some (x1,bq,0))) else ((bA p2 0 1000000000000).bind λbr=>(if (!br)=true then ((gH p1).bind λbt=>(some (x1,bt,0))) else ((gH p1).bind λao=>(if (p3==0)=true then ((cR ao x3.1).bind λaf=>(if (p3==3)=true then ((cR af.1 x3.1).bind λah=>(if (ah.2==1)=true then ((cT p0.aM x3.1.Seq).bind λbu=>(some ((⟨bu.1,0,0⟩:M.aFS),ah.1,1))) else (if (ah.2==2)=true then ((cT p0.aM x3.1.Seq).bind λbw=>(some ((⟨bw.1,0,0⟩:M.aFS),ah.1,1))) else ((gV 59 p0.aFi).bind λbx=>((gV 60 (i64.wrap (bx+1))).bind λbl=>((iL bl).bind λbz=>(some ((⟨x1.aM,bl,(i64.wrap (p2+bz))⟩:M.aFS),ah.1,2)))))))) else (if (af.2==1)=true then ((cT p0.aM x3.1.Seq).bind λc9=>(some ((⟨c9.1,0,0⟩:M.aFS),af.1,1))) else (if (af.2==2)=true then ((cT p0.aM x3.1.Seq).bind λca=>(some ((⟨ca.1,0,0⟩:M.aFS),af.1,1))) else ((gV 59 p0.aFi).bind λcc=>((gV 60 (i64.wrap (cc+1))).bind λbm=>((iL bm).bind λcd=>(some ((⟨x1.aM,bm,(i64.wrap (p2+cd))⟩:M.aFS),af.1,2))))))))) else (if (p3==2)=true then ((cR ao x3.1).bind λbn=>(if (p3==3)=true then ((cR bn.1 x3.1).bind λaa=>(if (aa.2==1)=true then ((cT p0.aM x3.1.Seq).bind λaq=>(some ((⟨aq.1,0,0⟩:M.aFS),aa.1,1))) else (if (aa.2==2)=true then ((cT p0.aM x3.1.Seq).bind λar=>(some ((⟨ar.1,0,0⟩:M.aFS),aa.1,1))) else ((gV 59 p0.aFi).bind λav=>((gV 60 (i64.wrap (av+1))).bind λai=>((iL ai).bind λaw=>(some ((⟨x1.aM,ai,(i64.wrap (p2+aw))⟩:M.aFS),aa.1,2)))))))) else ((gV 59 p0.aFi).bind λax=>((gV 60 (i64.wrap (ax+1))).bind λaj=>((iL aj).bind λay=>(some ((⟨x1.aM,aj,(i64.wrap (p2+ay))⟩:M.aFS),bn.1,2))))))) else (if (p3==3)=true then ((cR ao x3.1).bind λaz=>((cR az.1 x3.1).bind λae=>(if (ae.2==1)=true then ((cT p0.aM x3.1.Seq).bind λba=>(some ((⟨ba.1,0,0⟩:M.aFS),ae.1,1))) else (if (ae.2==2)=true then ((cT p0.aM x3.1.Seq).bind λbd=>(some ((⟨bd.1,0,0⟩:M.aFS),ae.1,1))) else ((gV 59 p0.aFi).bind λbf=>((gV 60 (i64.wrap (bf+1))).bind λak=>((iL ak).bind λbg=>(some ((⟨x1.aM,ak,(i64.wrap (p2+bg))⟩:M.aFS),ae.1,2))))))))) else ((gV 59 p0.aFi).bind λbh=>((gV 60 (i64.wrap (bh+1))).bind λal=>((iL al).bind λbj=>(some ((⟨x1.aM,al,(i64.wrap (p2+bj))⟩:M.aFS),ao,2))))))))))))))))
def vH (p0:M.aG) (p1:M.aFG):Option (M.aG×Int):=
 (vY p0).bind λx1=>((mW p0).bind λx3=>(if (!x3)=true then (some (x1,0)) else ((oU p1).bind λx6=>(if (!x6)=true then (some (x1,0)) else (if (decide (p0.aFq>(List.length p1.aFV:Int)))=true then (some (x1,0)) else ((B5 p1.aFV p0.aFq).bind λah=>((wU p0.aFT (List.drop p0.aFq.toNat p1.aFV)).bind λaa=>((vT p1 p0.aFS.aM.aFC).bind λae=>((cT p0.aFS.aM ae).bind λaf=>(some ((⟨aa,(List.length p1.aFV:Int),(⟨af.1,x1.aFS.aFi,x1.aFS.aFX⟩:M.aFS)⟩:M.aG),(i64.wrap ((List.length p1.aFV:Int)-p0.aFq)))))))))))))
def eZ (p0:M.aQ):Nat->Int->ByteArray->Int->Int->Int->Int->Int->Int->Int->Int->ByteArray->Int->List M.aFP->List M.bD->List M.aFP->List M.aO->List M.bD->Option (Int×Int×M.aG×M.aFG)
 | 0,_,_,_,_,_,_,_,_,_,_,_,_,_,_,_,_,_=>none
 | bw+1,v7,ay,az,ba,bd,bf,bg,aw,aj,ak,ar,av,ah,ai,aa,ae,af=>if (decide (v7>0))=true then ((aF (⟨p0.b,aj,ak⟩:M.aQ) 5).bind λax=>(if (ax.2.2==0)=true then ((dN (⟨p0.b,ax.1,ax.2.1⟩:M.aQ)).bind λbx=>((dA (⟨p0.b,bx.1,bx.2.1⟩:M.aQ)).bind λbz=>((aF (⟨p0.b,bz.1,bz.2.1⟩:M.aQ) 6).bind λc9=>((lI (⟨(⟨ay,ah,az⟩:M.aC),ba,(⟨(⟨bd,bf,ai⟩:M.aM),bg,aw⟩:M.aFS)⟩:M.aG) bx.2.2 bz.2.2 c9.2.2).bind λbj=>(eZ p0 bw (i64.wrap (v7-1)) bj.1.aFT.Name bj.1.aFT.aFZ bj.1.aFq bj.1.aFS.aM.aFC bj.1.aFS.aM.aFd bj.1.aFS.aFi bj.1.aFS.aFX c9.1 c9.2.1 ar av bj.1.aFT.aE7 bj.1.aFS.aM.aFO aa ae af))))) else (if (ax.2.2==1)=true then ((dN (⟨p0.b,ax.1,ax.2.1⟩:M.aQ)).bind λbm=>((dA (⟨p0.b,bm.1,bm.2.1⟩:M.aQ)).bind λbn=>((aF (⟨p0.b,bn.1,bn.2.1⟩:M.aQ) 6).bind λbo=>((lI (⟨(⟨ay,ah,az⟩:M.aC),ba,(⟨(⟨bd,bf,ai⟩:M.aM),bg,aw⟩:M.aFS)⟩:M.aG) bm.2.2 bn.2.2 bo.2.2).bind λao=>(eZ p0 bw (i64.wrap (v7-1)) ao.1.aFT.Name ao.1.aFT.aFZ ao.1.aFq ao.1.aFS.aM.aFC ao.1.aFS.aM.aFd ao.1.aFS.aFi ao.1.aFS.aFX bo.1 bo.2.1 ar av ao.1.aFT.aE7 ao.1.aFS.aM.aFO aa ae af))))) else (if (ax.2.2==2)=true then ((aF (⟨p0.b,ax.1,ax.2.1⟩:M.aQ) 4).bind λbq=>((zM (⟨(⟨bd,bf,ai⟩:M.aM),bg,aw⟩:M.aFS) (⟨(⟨ar,aa,av⟩:M.aC),ae,af⟩:M.aFG) aw bq.2.2).bind λal=>(eZ p0 bw (i64.wrap (v7-1)) ay az ba al.1.aM.aFC al.1.aM.aFd al.1.aFi al.1.aFX bq.1 bq.2.1 al.2.1.aC.Name al.2.1.aC.aFZ ah al.1.aM.aFO al.2.1.aC.aE7 al.2.1.aO al.2.1.aFV))) else (if (ax.2.2==3)=true then ((aF (⟨p0.b,ax.1,ax.2.1⟩:M.aQ) 3).bind λbl=>((vT (⟨(⟨ar,aa,av⟩:M.aC),ae,af⟩:M.aFG) (i64.wrap (1+bl.2.2))).bind λca=>((dN (⟨p0.b,bl.1,bl.2.1⟩:M.aQ)).bind λbr=>((dA (⟨p0.b,br.1,br.2.1⟩:M.aQ)).bind λbt=>((aF (⟨p0.b,bt.1,bt.2.1⟩:M.aQ) 6).bind λbu=>((cR (⟨(⟨ar,aa,av⟩:M.aC),ae,af⟩:M.aFG) (⟨(i64.wrap (1+bl.2.2)),(i64.wrap (ca+1)),br.2.2,bt.2.2,bu.2.2⟩:M.bD)).bind λbh=>(eZ p0 bw (i64.wrap (v7-1)) ay az ba bd bf bg aw bu.1 bu.2.1 bh.1.aC.Name bh.1.aC.aFZ ah ai bh.1.aC.aE7 bh.1.aO bh.1.aFV))))))) else ((vH (⟨(⟨ay,ah,az⟩:M.aC),ba,(⟨(⟨bd,bf,ai⟩:M.aM),bg,aw⟩:M.aFS)⟩:M.aG) (⟨(⟨ar,aa,av⟩:M.aC),ae,af⟩:M.aFG)).bind λaq=>(eZ p0 bw (i64.wrap (v7-1)) aq.1.aFT.Name aq.1.aFT.aFZ aq.1.aFq aq.1.aFS.aM.aFC aq.1.aFS.aM.aFd aq.1.aFS.aFi aq.1.aFS.aFX ax.1 ax.2.1 ar av aq.1.aFT.aE7 aq.1.aFS.aM.aFO aa ae af))))))) else (some (aj,ak,(⟨(⟨ay,ah,az⟩:M.aC),ba,(⟨(⟨bd,bf,ai⟩:M.aM),bg,aw⟩:M.aFS)⟩:M.aG),(⟨(⟨ar,aa,av⟩:M.aC),ae,af⟩:M.aFG)))
def AM (p0:M.aQ):Option (Int×Int×M.aG×M.aFG):=
 (uA p0).bind λx4=>((wM x4.2.2 4).bind λaa=>((aF (⟨p0.b,x4.1,x4.2.1⟩:M.aQ) 6).bind λae=>(eZ p0 fuel ae.2.2 aa.1.aFT.Name aa.1.aFT.aFZ aa.1.aFq aa.1.aFS.aM.aFC aa.1.aFS.aM.aFd aa.1.aFS.aFi aa.1.aFS.aFX ae.1 ae.2.1 x4.2.2.aC.Name x4.2.2.aC.aFZ aa.1.aFT.aE7 aa.1.aFS.aM.aFO x4.2.2.aC.aE7 x4.2.2.aO x4.2.2.aFV)))
def yX (p0:M.aQ):Option (Int×Int×M.Key):=
 (AV p0).bind λx4=>((aF (⟨p0.b,x4.1,x4.2.1⟩:M.aQ) 10).bind λaa=>(if (aa.2.2==0)=true then ((aF (⟨p0.b,aa.1,aa.2.1⟩:M.aQ) 5).bind λae=>(some (ae.1,ae.2.1,(⟨ae.2.2,x4.2.2.N,x4.2.2.aFb⟩:M.Key)))) else (if (aa.2.2==1)=true then ((bM (⟨p0.b,aa.1,aa.2.1⟩:M.aQ) ([(-1000000000001),1000000000001,5])).bind λaf=>(some (af.1,af.2.1,(⟨x4.2.2.aFU,af.2.2,x4.2.2.aFb⟩:M.Key)))) else (if (aa.2.2==2)=true then ((dB (⟨p0.b,aa.1,aa.2.1⟩:M.aQ) ([(⟨#[65]⟩:ByteArray),(⟨#[97,32,98]⟩:ByteArray),(⟨#[97,98,99,100,101,102,103,104,105,106,107,108,109]⟩:ByteArray),(⟨#[120,39]⟩:ByteArray)])).bind λah=>(some (ah.1,ah.2.1,(⟨x4.2.2.aFU,x4.2.2.N,ah.2.2⟩:M.Key)))) else (some (aa.1,aa.2.1,x4.2.2))))))
def sO (ae:(Int×Int×Int)):Nat->Int->List M.Field->Option (Int×Int×M.aD)
 | 0,_,_=>none
 | ah+1,af,aa=>if (decide (af<((6:Nat):Int)))=true then ((idx ([(⟨#[100]⟩:ByteArray),(⟨#[101]⟩:ByteArray),(⟨#[102]⟩:ByteArray),(⟨#[103]⟩:ByteArray),(⟨#[104]⟩:ByteArray),(⟨#[105]⟩:ByteArray)]) af).bind λai=>((iF (⟨aa⟩:M.aD) ai 1).bind λaj=>(sO ae ah (i64.wrap (af+1)) aj.1.aFA))) else (some (ae.1,ae.2.1,(⟨aa⟩:M.aD)))
def B2 (p0:M.aQ):Option (Int×Int×M.aD):=
 (jV p0).bind λx4=>((aF (⟨p0.b,x4.1,x4.2.1⟩:M.aQ) 12).bind λaa=>(if (aa.2.2==0)=true then ((dB (⟨p0.b,aa.1,aa.2.1⟩:M.aQ) ([(⟨#[]⟩:ByteArray),(⟨#[65]⟩:ByteArray),(⟨#[122,122,122,122,122,122,122,122,122]⟩:ByteArray),(⟨#[122]⟩:ByteArray),(⟨#[97]⟩:ByteArray)])).bind λae=>((bM (⟨p0.b,ae.1,ae.2.1⟩:M.aQ) ([0,(-1),1000000000,1000000001])).bind λaf=>((app 24 x4.2.2.aFA ([(⟨ae.2.2,af.2.2⟩:M.Field)])).bind λah=>(some (af.1,af.2.1,(⟨(x4.2.2.aFA++[(⟨ae.2.2,af.2.2⟩:M.Field)])⟩:M.aD)))))) else (if (aa.2.2==1)=true then (sO aa fuel 0 x4.2.2.aFA) else (some (aa.1,aa.2.1,x4.2.2)))))
def yU (p0:M.aC) (p1:M.aD):Option (M.aC×M.Key×Bool):=
 if (decide (p0.aFZ>=1000000))=true then ((bS p0).bind λx2=>(some (x2,(⟨0,0,(⟨#[]⟩:ByteArray)⟩:M.Key),false))) else ((yL p0 (⟨1,(i64.wrap (p0.aFZ+1)),(⟨#[]⟩:ByteArray)⟩:M.Key) p1).bind λx4=>(if (!x4.2)=true then ((bS p0).bind λx7=>(some (x7,(⟨0,0,(⟨#[]⟩:ByteArray)⟩:M.Key),false))) else (some (x4.1,(⟨1,(i64.wrap (p0.aFZ+1)),(⟨#[]⟩:ByteArray)⟩:M.Key),true))))
def xE (ah:(Int×Int×Int)):Nat->ByteArray->Int->List M.aFP->Option (Int×Int×M.aC)
 | 0,_,_,_=>none
 | aj+1,ae,af,aa=>if (decide ((List.length aa:Int)<16))=true then ((lX (⟨ae,aa,af⟩:M.aC)).bind λak=>(if ak=true then ((yU (⟨ae,aa,af⟩:M.aC) (⟨([]:List M.Field)⟩:M.aD)).bind λai=>(xE ah aj ai.1.Name ai.1.aFZ ai.1.aE7)) else (some (ah.1,ah.2.1,(⟨ae,aa,af⟩:M.aC))))) else (some (ah.1,ah.2.1,(⟨ae,aa,af⟩:M.aC)))
def AT (p0:M.aQ):Option (Int×Int×M.aC):=
 (oM p0 (⟨#[110,111,116,101,115]⟩:ByteArray)).bind λx4=>((aF (⟨p0.b,x4.1,x4.2.1⟩:M.aQ) 12).bind λaa=>(if (aa.2.2==0)=true then ((dB (⟨p0.b,aa.1,aa.2.1⟩:M.aQ) ([(⟨#[]⟩:ByteArray),(⟨#[81]⟩:ByteArray),(⟨#[97,98,99,100,101,102,103,104,105]⟩:ByteArray)])).bind λah=>(some (ah.1,ah.2.1,(⟨ah.2.2,x4.2.2.aE7,x4.2.2.aFZ⟩:M.aC)))) else (if (aa.2.2==1)=true then ((bM (⟨p0.b,aa.1,aa.2.1⟩:M.aQ) ([(-1),999999,1000000,1000001])).bind λai=>(some (ai.1,ai.2.1,(⟨x4.2.2.Name,x4.2.2.aE7,ai.2.2⟩:M.aC)))) else (if (aa.2.2==2)=true then ((yX (⟨p0.b,aa.1,aa.2.1⟩:M.aQ)).bind λae=>((B2 (⟨p0.b,ae.1,ae.2.1⟩:M.aQ)).bind λaf=>((app 56 x4.2.2.aE7 ([(⟨ae.2.2,af.2.2⟩:M.aFP)])).bind λaj=>(some (af.1,af.2.1,(⟨x4.2.2.Name,(x4.2.2.aE7++[(⟨ae.2.2,af.2.2⟩:M.aFP)]),x4.2.2.aFZ⟩:M.aC)))))) else (if (aa.2.2==3)=true then (xE aa fuel x4.2.2.Name x4.2.2.aFZ x4.2.2.aE7) else (some (aa.1,aa.2.1,x4.2.2)))))))
def kQ (p0:M.aQ):Nat->Int->Int->Int->Int->Int->List M.bD->Option (Int×Int×M.aM)
 | 0,_,_,_,_,_,_=>none
 | av+1,v7,ah,ai,aa,ae,af=>if (decide (v7>0))=true then ((dN (⟨p0.b,aa,ae⟩:M.aQ)).bind λak=>((dA (⟨p0.b,ak.1,ak.2.1⟩:M.aQ)).bind λal=>((aF (⟨p0.b,al.1,al.2.1⟩:M.aQ) 6).bind λao=>((iB (⟨ah,ai,af⟩:M.aM) ak.2.2 al.2.2 ao.2.2).bind λaq=>(kQ p0 av (i64.wrap (v7-1)) aq.1.aFC aq.1.aFd ao.1 ao.2.1 aq.1.aFO))))) else ((cA (⟨p0.b,aa,ae⟩:M.aQ) 3).bind λaj=>(if aj.2.2=true then ((aF (⟨p0.b,aj.1,aj.2.1⟩:M.aQ) 4).bind λar=>((cT (⟨ah,ai,af⟩:M.aM) ar.2.2).bind λaw=>(some (ar.1,ar.2.1,aw.1)))) else (some (aj.1,aj.2.1,(⟨ah,ai,af⟩:M.aM)))))
def yF (p0:M.aQ) (p1:Int):Option (Int×Int×M.aM):=
 (mX p1).bind λx5=>((bM p0 ([0,2,4,6])).bind λx7=>(kQ p0 fuel x7.2.2 x5.1.aFC x5.1.aFd x7.1 x7.2.1 x5.1.aFO))
def uH (p0:M.aQ):Nat->Int->Int->Int->Int->List M.bD->Option (Int×Int×M.aM)
 | 0,_,_,_,_,_=>none
 | al+1,ah,ai,aa,ae,af=>if (decide ((List.length af:Int)<20))=true then ((iD (⟨ah,ai,af⟩:M.aM)).bind λao=>(if ao=true then ((dN (⟨p0.b,aa,ae⟩:M.aQ)).bind λaj=>((iB (⟨ah,ai,af⟩:M.aM) aj.2.2 (⟨#[97]⟩:ByteArray) 1).bind λak=>(uH p0 al ak.1.aFC ak.1.aFd aj.1 aj.2.1 ak.1.aFO))) else (some (aa,ae,(⟨ah,ai,af⟩:M.aM))))) else (some (aa,ae,(⟨ah,ai,af⟩:M.aM)))
def AY (p0:M.aQ):Option (Int×Int×M.aM):=
 (aF p0 3).bind λx4=>((yF (⟨p0.b,x4.1,x4.2.1⟩:M.aQ) (i64.wrap (1+x4.2.2))).bind λx6=>((aF (⟨p0.b,x6.1,x6.2.1⟩:M.aQ) 12).bind λaa=>(if (aa.2.2==0)=true then ((bM (⟨p0.b,aa.1,aa.2.1⟩:M.aQ) ([0,9,1000001])).bind λah=>(some (ah.1,ah.2.1,(⟨ah.2.2,x6.2.2.aFd,x6.2.2.aFO⟩:M.aM)))) else (if (aa.2.2==1)=true then ((bM (⟨p0.b,aa.1,aa.2.1⟩:M.aQ) ([0,3,1000000,1000001])).bind λai=>(some (ai.1,ai.2.1,(⟨x6.2.2.aFC,ai.2.2,x6.2.2.aFO⟩:M.aM)))) else (if (aa.2.2==2)=true then ((yX (⟨p0.b,aa.1,aa.2.1⟩:M.aQ)).bind λae=>((bM (⟨p0.b,ae.1,ae.2.1⟩:M.aQ) ([0,(-1)])).bind λaf=>((app 72 x6.2.2.aFO ([(⟨x6.2.2.aFC,x6.2.2.aFd,ae.2.2,(⟨#[97]⟩:ByteArray),af.2.2⟩:M.bD)])).bind λaj=>(some (af.1,af.2.1,(⟨x6.2.2.aFC,x6.2.2.aFd,(x6.2.2.aFO++[(⟨x6.2.2.aFC,x6.2.2.aFd,ae.2.2,(⟨#[97]⟩:ByteArray),af.2.2⟩:M.bD)])⟩:M.aM)))))) else (if (aa.2.2==3)=true then (uH p0 fuel x6.2.2.aFC x6.2.2.aFd aa.1 aa.2.1 x6.2.2.aFO) else (some (aa.1,aa.2.1,x6.2.2))))))))
def Be (p0:M.aQ):Option (Int×Int×M.aG):=
 (AM p0).bind λx4=>((aF (⟨p0.b,x4.1,x4.2.1⟩:M.aQ) 12).bind λaa=>(if (aa.2.2==0)=true then ((AT (⟨p0.b,aa.1,aa.2.1⟩:M.aQ)).bind λae=>(some (ae.1,ae.2.1,(⟨ae.2.2,x4.2.2.1.aFq,x4.2.2.1.aFS⟩:M.aG)))) else (if (aa.2.2==1)=true then ((bM (⟨p0.b,aa.1,aa.2.1⟩:M.aQ) ([(-1),9,1000000000001])).bind λaf=>(some (af.1,af.2.1,(⟨x4.2.2.1.aFT,af.2.2,x4.2.2.1.aFS⟩:M.aG)))) else (if (aa.2.2==2)=true then ((AY (⟨p0.b,aa.1,aa.2.1⟩:M.aQ)).bind λah=>(some (ah.1,ah.2.1,(⟨x4.2.2.1.aFT,x4.2.2.1.aFq,(⟨ah.2.2,x4.2.2.1.aFS.aFi,x4.2.2.1.aFS.aFX⟩:M.aFS)⟩:M.aG)))) else (some (aa.1,aa.2.1,x4.2.2.1))))))
set_option maxRecDepth 40000 in
def nB (x4:(Int×Int×M.aJ)) (aa:(Int×Int×Int)):Nat->List Int->Option (Int×Int×M.aJ)
 | 0,_=>none
 | ae+1,r5=>if (decide ((List.length r5:Int)<2600))=true then ((app 1 r5 ([0])).bind λaf=>(nB x4 aa ae (r5++[0]))) else (some (aa.1,aa.2.1,(⟨x4.2.2.aFD,x4.2.2.Top,x4.2.2.aE4,x4.2.2.aE6,(⟨x4.2.2.bV.aFT,r5,x4.2.2.bV.aFk⟩:M.bV),x4.2.2.aG,x4.2.2.aFf,x4.2.2.aFc⟩:M.aJ)))
set_option maxRecDepth 40000 in
theorem Pm:type_of% @nB.eq_2:=@nB.eq_2
def Bm (p0:M.aQ):Option (Int×Int×M.aJ):=
 (uG p0).bind λx4=>((aF (⟨p0.b,x4.1,x4.2.1⟩:M.aQ) 14).bind λaa=>(if (aa.2.2==0)=true then ((dB (⟨p0.b,aa.1,aa.2.1⟩:M.aQ) ([(⟨#[]⟩:ByteArray),(⟨#[122,122,122]⟩:ByteArray)])).bind λae=>(some (ae.1,ae.2.1,(⟨ae.2.2,x4.2.2.Top,x4.2.2.aE4,x4.2.2.aE6,x4.2.2.bV,x4.2.2.aG,x4.2.2.aFf,x4.2.2.aFc⟩:M.aJ)))) else (if (aa.2.2==1)=true then ((Bb (⟨p0.b,aa.1,aa.2.1⟩:M.aQ)).bind λaf=>(some (af.1,af.2.1,(⟨x4.2.2.aFD,x4.2.2.Top,x4.2.2.aE4,af.2.2,x4.2.2.bV,x4.2.2.aG,x4.2.2.aFf,x4.2.2.aFc⟩:M.aJ)))) else (if (aa.2.2==2)=true then ((Bi (⟨p0.b,aa.1,aa.2.1⟩:M.aQ)).bind λah=>(some (ah.1,ah.2.1,(⟨x4.2.2.aFD,x4.2.2.Top,x4.2.2.aE4,x4.2.2.aE6,ah.2.2,x4.2.2.aG,x4.2.2.aFf,x4.2.2.aFc⟩:M.aJ)))) else (if (aa.2.2==3)=true then ((Be (⟨p0.b,aa.1,aa.2.1⟩:M.aQ)).bind λai=>(some (ai.1,ai.2.1,(⟨x4.2.2.aFD,x4.2.2.Top,x4.2.2.aE4,x4.2.2.aE6,x4.2.2.bV,ai.2.2,x4.2.2.aFf,x4.2.2.aFc⟩:M.aJ)))) else (if (aa.2.2==4)=true then ((bM (⟨p0.b,aa.1,aa.2.1⟩:M.aQ) ([(-1),1000000000001])).bind λaj=>(some (aj.1,aj.2.1,(⟨x4.2.2.aFD,x4.2.2.Top,x4.2.2.aE4,x4.2.2.aE6,x4.2.2.bV,x4.2.2.aG,aj.2.2,x4.2.2.aFc⟩:M.aJ)))) else (if (aa.2.2==5)=true then (nB x4 aa fuel x4.2.2.bV.Log) else (some (aa.1,aa.2.1,x4.2.2)))))))))
def jD (p0:M.aQ):Nat->Int->Int->Int->List M.aJ->Option (Int×Int×M.aA)
 | 0,_,_,_,_=>none
 | ak+1,v4,aa,ae,af=>if (decide (v4>0))=true then ((uG (⟨p0.b,aa,ae⟩:M.aQ)).bind λaj=>((iI (⟨af⟩:M.aA) aj.2.2).bind λal=>(jD p0 ak (i64.wrap (v4-1)) aj.1 aj.2.1 al.1.aE8))) else ((cA (⟨p0.b,aa,ae⟩:M.aQ) 12).bind λah=>(if ah.2.2=true then ((Bm (⟨p0.b,ah.1,ah.2.1⟩:M.aQ)).bind λai=>((app 328 af ([ai.2.2])).bind λao=>(some (ai.1,ai.2.1,(⟨(af++[ai.2.2])⟩:M.aA))))) else (some (ah.1,ah.2.1,(⟨af⟩:M.aA)))))
def sL (p0:M.aQ):Option (Int×Int×M.aA):=
 (aF p0 4).bind λx4=>(jD p0 fuel x4.2.2 x4.1 x4.2.1 ([]:List M.aJ))
def oA (p0:M.aQ):Nat->Int->Int->ByteArray->ByteArray->Int->Int->Int->Bool->Bool->Int->Int->List M.aU->List M.Instr->List Int->Option (Int×Int×M.bC)
 | 0,_,_,_,_,_,_,_,_,_,_,_,_,_,_=>none
 | az+1,v7,ao,aq,ar,al,av,aw,ax,ak,aa,ae,af,ah,ai=>if (decide (v7>0))=true then ((vU (⟨p0.b,aa,ae⟩:M.aQ)).bind λay=>((hU (⟨ao,aq,ar,al,af,(⟨ah,av,ai,aw,ax,ak⟩:M.aFI)⟩:M.bC) ay.2.2 (⟨0,200,al,([]:List Int),false⟩:M.aE9)).bind λaj=>(oA p0 az (i64.wrap (v7-1)) aj.1.Id aj.1.aFD aj.1.Top aj.1.aE3 aj.1.aFI.Pc aj.1.aFI.aFs aj.1.aFI.aF1 aj.1.aFI.aF3 ay.1 ay.2.1 aj.1.aU aj.1.aFI.aFn aj.1.aFI.aFv))) else (some (aa,ae,(⟨ao,aq,ar,al,af,(⟨ah,av,ai,aw,ax,ak⟩:M.aFI)⟩:M.bC)))
def AH (p0:M.aQ):Option (Int×Int×M.bC):=
 (lY p0).bind λx4=>(((cA (⟨p0.b,x4.1,x4.2.1⟩:M.aQ) 3).bind λae=>(if ae.2.2=true then ((lY (⟨p0.b,ae.1,ae.2.1⟩:M.aQ)).bind λaf=>(some (af.2.2,af.1,af.2.1))) else (some (x4.2.2,ae.1,ae.2.1)))).bind λah=>((aF (⟨p0.b,ah.2.1,ah.2.2⟩:M.aQ) 9).bind λai=>((aF (⟨p0.b,ai.1,ai.2.1⟩:M.aQ) 3).bind λaj=>((pX (⟨p0.b,aj.1,aj.2.1⟩:M.aQ)).bind λak=>((kF (i64.wrap (1+ai.2.2)) x4.2.2 ah.1 (i64.wrap (1+aj.2.2)) ak.2.2).bind λaa=>((aF (⟨p0.b,ak.1,ak.2.1⟩:M.aQ) 3).bind λal=>(oA p0 fuel al.2.2 aa.1.Id aa.1.aFD aa.1.Top aa.1.aE3 aa.1.aFI.Pc aa.1.aFI.aFs aa.1.aFI.aF1 aa.1.aFI.aF3 al.1 al.2.1 aa.1.aU aa.1.aFI.aFn aa.1.aFI.aFv)))))))
def tW (x4:(Int×Int×M.bC)) (aa:(Int×Int×Int)):Nat->List M.aU->Option (Int×Int×M.bC)
 | 0,_=>none
 | ae+1,r5=>if (decide ((List.length r5:Int)<8))=true then ((app 24 r5 ([(⟨(⟨#[105,110,100,101,120]⟩:ByteArray),x4.2.2.aE3⟩:M.aU)])).bind λaf=>(tW x4 aa ae (r5++[(⟨(⟨#[105,110,100,101,120]⟩:ByteArray),x4.2.2.aE3⟩:M.aU)]))) else (some (aa.1,aa.2.1,(⟨x4.2.2.Id,x4.2.2.aFD,x4.2.2.Top,x4.2.2.aE3,r5,x4.2.2.aFI⟩:M.bC)))
def Aa (p0:M.aQ):Option (Int×Int×M.bC):=
 (AH p0).bind λx4=>((aF (⟨p0.b,x4.1,x4.2.1⟩:M.aQ) 12).bind λaa=>(if (aa.2.2==0)=true then ((bM (⟨p0.b,aa.1,aa.2.1⟩:M.aQ) ([0,1000000000000,1000000000001])).bind λah=>(some (ah.1,ah.2.1,(⟨ah.2.2,x4.2.2.aFD,x4.2.2.Top,x4.2.2.aE3,x4.2.2.aU,x4.2.2.aFI⟩:M.bC)))) else (if (aa.2.2==1)=true then ((dB (⟨p0.b,aa.1,aa.2.1⟩:M.aQ) ([(⟨#[105,110,100,101,120]⟩:ByteArray),(⟨#[]⟩:ByteArray)])).bind λae=>((aF (⟨p0.b,ae.1,ae.2.1⟩:M.aQ) 2).bind λaf=>((app 24 x4.2.2.aU ([(⟨ae.2.2,(i64.wrap (x4.2.2.aE3+af.2.2))⟩:M.aU)])).bind λaj=>(some (af.1,af.2.1,(⟨x4.2.2.Id,x4.2.2.aFD,x4.2.2.Top,x4.2.2.aE3,(x4.2.2.aU++[(⟨ae.2.2,(i64.wrap (x4.2.2.aE3+af.2.2))⟩:M.aU)]),x4.2.2.aFI⟩:M.bC)))))) else (if (aa.2.2==2)=true then ((bM (⟨p0.b,aa.1,aa.2.1⟩:M.aQ) ([0,1000000000001])).bind λai=>(some (ai.1,ai.2.1,(⟨x4.2.2.Id,x4.2.2.aFD,x4.2.2.Top,ai.2.2,x4.2.2.aU,x4.2.2.aFI⟩:M.bC)))) else (if (aa.2.2==3)=true then (tW x4 aa fuel x4.2.2.aU) else (some (aa.1,aa.2.1,x4.2.2)))))))
def yZ (p0:M.aQ):Option (Int×Int×M.bD):=
 (aF p0 3).bind λx4=>((aF (⟨p0.b,x4.1,x4.2.1⟩:M.aQ) 4).bind λx6=>((dN (⟨p0.b,x6.1,x6.2.1⟩:M.aQ)).bind λx8=>((dA (⟨p0.b,x8.1,x8.2.1⟩:M.aQ)).bind λae=>((aF (⟨p0.b,ae.1,ae.2.1⟩:M.aQ) 6).bind λaf=>((aF (⟨p0.b,af.1,af.2.1⟩:M.aQ) 12).bind λaa=>(if (aa.2.2==0)=true then ((bM (⟨p0.b,aa.1,aa.2.1⟩:M.aQ) ([0,1000000,1000001])).bind λah=>(some (ah.1,ah.2.1,(⟨ah.2.2,(i64.wrap (1+x6.2.2)),x8.2.2,ae.2.2,af.2.2⟩:M.bD)))) else (if (aa.2.2==1)=true then ((bM (⟨p0.b,aa.1,aa.2.1⟩:M.aQ) ([0,1000000,1000001])).bind λai=>(some (ai.1,ai.2.1,(⟨(i64.wrap (1+x4.2.2)),ai.2.2,x8.2.2,ae.2.2,af.2.2⟩:M.bD)))) else (if (aa.2.2==2)=true then ((yX (⟨p0.b,aa.1,aa.2.1⟩:M.aQ)).bind λaj=>(some (aj.1,aj.2.1,(⟨(i64.wrap (1+x4.2.2)),(i64.wrap (1+x6.2.2)),aj.2.2,ae.2.2,af.2.2⟩:M.bD)))) else (if (aa.2.2==3)=true then (some (aa.1,aa.2.1,(⟨(i64.wrap (1+x4.2.2)),(i64.wrap (1+x6.2.2)),x8.2.2,(⟨#[]⟩:ByteArray),af.2.2⟩:M.bD))) else (if (aa.2.2==4)=true then ((bM (⟨p0.b,aa.1,aa.2.1⟩:M.aQ) ([(-1),1000000000,1000000001])).bind λak=>(some (ak.1,ak.2.1,(⟨(i64.wrap (1+x4.2.2)),(i64.wrap (1+x6.2.2)),x8.2.2,ae.2.2,ak.2.2⟩:M.bD)))) else (some (aa.1,aa.2.1,(⟨(i64.wrap (1+x4.2.2)),(i64.wrap (1+x6.2.2)),x8.2.2,ae.2.2,af.2.2⟩:M.bD)))))))))))))
def uK (x4:(Int×Int×M.aFG)) (ae:(Int×Int×Int)):Nat->Int->List M.aO->Option (Int×Int×M.aFG)
 | 0,_,_=>none
 | af+1,v4,aa=>if (decide (v4<64))=true then ((app 16 aa ([(⟨v4,0⟩:M.aO)])).bind λah=>(uK x4 ae af (i64.wrap (v4+1)) (aa++[(⟨v4,0⟩:M.aO)]))) else (some (ae.1,ae.2.1,(⟨x4.2.2.aC,aa,x4.2.2.aFV⟩:M.aFG)))
def Ai (p0:M.aQ):Option (Int×Int×M.aFG):=
 (uA p0).bind λx4=>((aF (⟨p0.b,x4.1,x4.2.1⟩:M.aQ) 12).bind λaa=>(if (aa.2.2==0)=true then ((AT (⟨p0.b,aa.1,aa.2.1⟩:M.aQ)).bind λai=>(some (ai.1,ai.2.1,(⟨ai.2.2,x4.2.2.aO,x4.2.2.aFV⟩:M.aFG)))) else (if (aa.2.2==1)=true then ((bM (⟨p0.b,aa.1,aa.2.1⟩:M.aQ) ([0,2,9,1000001])).bind λae=>((bM (⟨p0.b,ae.1,ae.2.1⟩:M.aQ) ([0,(-1)])).bind λaf=>((app 16 x4.2.2.aO ([(⟨ae.2.2,af.2.2⟩:M.aO)])).bind λaj=>(some (af.1,af.2.1,(⟨x4.2.2.aC,(x4.2.2.aO++[(⟨ae.2.2,af.2.2⟩:M.aO)]),x4.2.2.aFV⟩:M.aFG)))))) else (if (aa.2.2==2)=true then ((yZ (⟨p0.b,aa.1,aa.2.1⟩:M.aQ)).bind λah=>((app 72 x4.2.2.aFV ([ah.2.2])).bind λak=>(some (ah.1,ah.2.1,(⟨x4.2.2.aC,x4.2.2.aO,(x4.2.2.aFV++[ah.2.2])⟩:M.aFG))))) else (if (aa.2.2==3)=true then (uK x4 aa fuel 4 ([]:List M.aO)) else (some (aa.1,aa.2.1,x4.2.2)))))))
def Bq (p0:M.aQ):Option (Int×Int×M.World):=
 (yY p0).bind λx4=>((cA (⟨p0.b,x4.1,x4.2.1⟩:M.aQ) 4).bind λae=>((aF (⟨p0.b,ae.1,ae.2.1⟩:M.aQ) 24).bind λaa=>(if (aa.2.2==0)=true then ((bM (⟨p0.b,aa.1,aa.2.1⟩:M.aQ) ([(-1),999999990000,999999990001])).bind λah=>(some (ah.1,ah.2.1,(⟨ah.2.2,(!ae.2.2),x4.2.2.aFC,x4.2.2.aA,x4.2.2.aFF,x4.2.2.aFJ,x4.2.2.aFM,x4.2.2.aFB,x4.2.2.aFR,x4.2.2.aFN⟩:M.World)))) else (if (aa.2.2==1)=true then (some (aa.1,aa.2.1,(⟨x4.2.2.Now,(!ae.2.2),0,x4.2.2.aA,x4.2.2.aFF,x4.2.2.aFJ,x4.2.2.aFM,x4.2.2.aFB,x4.2.2.aFR,x4.2.2.aFN⟩:M.World))) else (if (aa.2.2==2)=true then ((Ap x4.2.2.aFR 2).bind λak=>(some (aa.1,aa.2.1,(⟨x4.2.2.Now,(!ae.2.2),x4.2.2.aFC,x4.2.2.aA,x4.2.2.aFF,x4.2.2.aFJ,x4.2.2.aFM,x4.2.2.aFB,(List.take (2:Int).toNat x4.2.2.aFR),x4.2.2.aFN⟩:M.World)))) else (if (aa.2.2==3)=true then ((sL (⟨p0.b,aa.1,aa.2.1⟩:M.aQ)).bind λai=>(some (ai.1,ai.2.1,(⟨x4.2.2.Now,(!ae.2.2),x4.2.2.aFC,ai.2.2,x4.2.2.aFF,x4.2.2.aFJ,x4.2.2.aFM,x4.2.2.aFB,x4.2.2.aFR,x4.2.2.aFN⟩:M.World)))) else (if (aa.2.2==4)=true then ((Aa (⟨p0.b,aa.1,aa.2.1⟩:M.aQ)).bind λaf=>((app 144 x4.2.2.aFF ([af.2.2])).bind λal=>(some (af.1,af.2.1,(⟨x4.2.2.Now,(!ae.2.2),x4.2.2.aFC,x4.2.2.aA,(x4.2.2.aFF++[af.2.2]),x4.2.2.aFJ,x4.2.2.aFM,x4.2.2.aFB,x4.2.2.aFR,x4.2.2.aFN⟩:M.World))))) else (if (aa.2.2==5)=true then (some (aa.1,aa.2.1,(⟨x4.2.2.Now,(!ae.2.2),x4.2.2.aFC,x4.2.2.aA,x4.2.2.aFF,0,x4.2.2.aFM,x4.2.2.aFB,x4.2.2.aFR,x4.2.2.aFN⟩:M.World))) else (if (aa.2.2==6)=true then ((Ai (⟨p0.b,aa.1,aa.2.1⟩:M.aQ)).bind λaj=>((idx x4.2.2.aFN 0).bind λao=>(some (aj.1,aj.2.1,(⟨x4.2.2.Now,(!ae.2.2),x4.2.2.aFC,x4.2.2.aA,x4.2.2.aFF,x4.2.2.aFJ,x4.2.2.aFM,x4.2.2.aFB,x4.2.2.aFR,(List.set x4.2.2.aFN (0:Int).toNat aj.2.2)⟩:M.World))))) else (some (aa.1,aa.2.1,(⟨x4.2.2.Now,(!ae.2.2),x4.2.2.aFC,x4.2.2.aA,x4.2.2.aFF,x4.2.2.aFJ,x4.2.2.aFM,x4.2.2.aFB,x4.2.2.aFR,x4.2.2.aFN⟩:M.World))))))))))))
def mE (p0:List Int):Option (M.World×Int×ByteArray):=
 (BX p0).bind λx1=>((Bq x1).bind λx8=>((aF (⟨x1.b,x8.1,x8.2.1⟩:M.aQ) 6).bind λaa=>(if (decide ((List.length x8.2.2.aFF:Int)>0))=true then ((cA (⟨x1.b,aa.1,aa.2.1⟩:M.aQ) 4).bind λae=>(if (!ae.2.2)=true then ((aF (⟨x1.b,ae.1,ae.2.1⟩:M.aQ) (List.length x8.2.2.aFF:Int)).bind λaf=>((idx x8.2.2.aFF af.2.2).bind λah=>((dB (⟨x1.b,af.1,af.2.1⟩:M.aQ) ([(⟨#[105,110,100,101,120]⟩:ByteArray),(⟨#[115,116,121,108,101]⟩:ByteArray),(⟨#[99,111,100,101]⟩:ByteArray),(⟨#[122,111,111]⟩:ByteArray),(⟨#[]⟩:ByteArray)])).bind λai=>(some (x8.2.2,ah.Id,ai.2.2))))) else ((dB (⟨x1.b,ae.1,ae.2.1⟩:M.aQ) ([(⟨#[105,110,100,101,120]⟩:ByteArray),(⟨#[115,116,121,108,101]⟩:ByteArray),(⟨#[99,111,100,101]⟩:ByteArray),(⟨#[122,111,111]⟩:ByteArray),(⟨#[]⟩:ByteArray)])).bind λaj=>(some (x8.2.2,aa.2.2,aj.2.2))))) else ((dB (⟨x1.b,aa.1,aa.2.1⟩:M.aQ) ([(⟨#[105,110,100,101,120]⟩:ByteArray),(⟨#[115,116,121,108,101]⟩:ByteArray),(⟨#[99,111,100,101]⟩:ByteArray),(⟨#[122,111,111]⟩:ByteArray),(⟨#[]⟩:ByteArray)])).bind λak=>(some (x8.2.2,aa.2.2,ak.2.2))))))
def kG (p0:List Int):Option (List Int):=
 (app 1 ([]:List Int) p0).bind λx1=>(some p0)
def kT (p0:M.aE9):Option M.aE9:=
 (kG p0.aFw).bind λx1=>(some (⟨p0.aFu,p0.aFm,p0.aE3,x1,p0.aFz⟩:M.aE9))
def gL (ah:M.aFE) (ai:Int->List M.aFL->Option M.aE):Nat->Int->List M.aFL->Option M.aE
 | 0,_,_=>none
 | ak+1,ae,aa=>if (decide (ae<(List.length ah.aFK:Int)))=true then ((idx ah.aFK ae).bind λaf=>((kT af.aE9).bind λaj=>((app 88 aa ([(⟨af.aFD,af.aFo,aj⟩:M.aFL)])).bind λal=>(gL ah ai ak (i64.wrap (ae+1)) (aa++[(⟨af.aFD,af.aFo,aj⟩:M.aFL)]))))) else (ai ae aa)
def eG (p0:M.aE):Nat->Int->List M.aFE->Option M.aE
 | 0,_,_=>none
 | aj+1,af,ae=>if (decide (af<(List.length p0.aE6:Int)))=true then ((idx p0.aE6 af).bind λah=>(gL ah (λ(ai:Int) (aa:List M.aFL)=>(app 32 ae ([(⟨ah.aE3,aa⟩:M.aFE)])).bind λak=>(eG p0 aj (i64.wrap (af+1)) (ae++[(⟨ah.aE3,aa⟩:M.aFE)]))) fuel 0 ([]:List M.aFL))) else (some (⟨ae⟩:M.aE))
def sX (p0:M.aE):Option M.aE:=
 eG p0 fuel 0 ([]:List M.aFE)
def wS (p0:M.aD):Option M.aD:=
 (app 24 ([]:List M.Field) p0.aFA).bind λx1=>(some p0)
def wZ (p0:M.aFP):Option M.aFP:=
 (wS p0.aD).bind λx1=>(some (⟨p0.Key,x1⟩:M.aFP))
def kP (p0:M.aC):Nat->Int->List M.aFP->Option M.aC
 | 0,_,_=>none
 | ah+1,ae,aa=>if (decide (ae<(List.length p0.aE7:Int)))=true then ((idx p0.aE7 ae).bind λai=>((wZ ai).bind λaf=>((app 56 aa ([af])).bind λaj=>(kP p0 ah (i64.wrap (ae+1)) (aa++[af]))))) else (some (⟨p0.Name,aa,p0.aFZ⟩:M.aC))
def pZ (p0:M.aC):Option M.aC:=
 kP p0 fuel 0 ([]:List M.aFP)
def gN (p0:M.aE5):Nat->Int->List M.aC->Option M.aE5
 | 0,_,_=>none
 | ah+1,ae,aa=>if (decide (ae<(List.length p0.aFH:Int)))=true then ((idx p0.aFH ae).bind λai=>((pZ ai).bind λaf=>((app 48 aa ([af])).bind λaj=>(gN p0 ah (i64.wrap (ae+1)) (aa++[af]))))) else (some (⟨p0.Name,p0.aE3,aa,p0.aFQ⟩:M.aE5))
def tH (p0:M.aE5):Option M.aE5:=
 (app 32 ([]:List M.aN) p0.aFQ).bind λx1=>(gN p0 fuel 0 ([]:List M.aC))
def zA (p0:M.bV):Option M.bV:=
 (tH p0.aFT).bind λx1=>((kG p0.Log).bind λx3=>(some (⟨x1,x3,p0.aFk⟩:M.bV)))
def xA (p0:M.aM):Option M.aM:=
 (app 72 ([]:List M.bD) p0.aFO).bind λx1=>(some p0)
def zQ (p0:M.aFS):Option M.aFS:=
 (xA p0.aM).bind λx1=>(some (⟨x1,p0.aFi,p0.aFX⟩:M.aFS))
def uY (p0:M.aG):Option M.aG:=
 (pZ p0.aFT).bind λx1=>((zQ p0.aFS).bind λx3=>(some (⟨x1,p0.aFq,x3⟩:M.aG)))
def wQ (p0:M.aJ):Option M.aJ:=
 (sX p0.aE6).bind λx1=>((zA p0.bV).bind λx3=>((uY p0.aG).bind λx5=>(some (⟨p0.aFD,p0.Top,p0.aE4,x1,x3,x5,p0.aFf,p0.aFc⟩:M.aJ))))
def gY (p0:M.aA):Nat->Int->List M.aJ->Option M.aA
 | 0,_,_=>none
 | af+1,v10,aa=>if (decide (v10<(List.length p0.aE8:Int)))=true then ((idx p0.aE8 v10).bind λah=>((wQ ah).bind λae=>((app 328 aa ([ae])).bind λai=>(gY p0 af (i64.wrap (v10+1)) (aa++[ae]))))) else (some (⟨aa⟩:M.aA))
def uL (p0:M.aA):Option M.aA:=
 gY p0 fuel 0 ([]:List M.aJ)
def uV (p0:M.aFI):Option M.aFI:=
 (app 40 ([]:List M.Instr) p0.aFn).bind λx1=>((app 8 ([]:List Int) p0.aFv).bind λaa=>(some p0))
def iG (p0:M.bC):Option M.bC:=
 (app 24 ([]:List M.aU) p0.aU).bind λx1=>((uV p0.aFI).bind λx9=>(some (⟨p0.Id,p0.aFD,p0.Top,p0.aE3,p0.aU,x9⟩:M.bC)))
def kV (p0:List M.bC):Nat->Int->List M.bC->Option (List M.bC)
 | 0,_,_=>none
 | ae+1,v9,r6=>if (decide (v9<(List.length p0:Int)))=true then ((idx p0 v9).bind λaf=>((iG af).bind λaa=>((app 144 r6 ([aa])).bind λah=>(kV p0 ae (i64.wrap (v9+1)) (r6++[aa]))))) else (some r6)
def xP (p0:List M.bC):Option (List M.bC):=
 kV p0 fuel 0 ([]:List M.bC)
def xR (p0:M.aR):Option M.aR:=
 (app 32 ([]:List M.mZ) p0.aFM).bind λx1=>(some p0)
def jO (p0:M.aFB):Option M.aFB:=
 (app 24 ([]:List M.tB) p0.aFa).bind λx1=>(some p0)
def zP (p0:M.aFD):Option M.aFD:=
 (app 16 ([]:List ByteArray) p0.aFe).bind λx1=>(some p0)
def wR (p0:M.aFG):Option M.aFG:=
 (pZ p0.aC).bind λx1=>((app 16 ([]:List M.aO) p0.aO).bind λx3=>((app 72 ([]:List M.bD) p0.aFV).bind λx5=>(some (⟨x1,p0.aO,p0.aFV⟩:M.aFG))))
def fS (p0:M.World) (x1:M.aA) (x3:(List M.bC)) (x5:M.aR) (x7:M.aFB) (ae:List M.aFD):Nat->Int->List M.aFG->Option M.World
 | 0,_,_=>none
 | ai+1,af,aa=>if (decide (af<(List.length p0.aFN:Int)))=true then ((idx p0.aFN af).bind λaj=>((wR aj).bind λah=>((app 96 aa ([ah])).bind λak=>(fS p0 x1 x3 x5 x7 ae ai (i64.wrap (af+1)) (aa++[ah]))))) else (some (⟨p0.Now,p0.aFW,p0.aFC,x1,x3,p0.aFJ,x5,x7,ae,aa⟩:M.World))
def iE (p0:M.World) (x1:M.aA) (x3:(List M.bC)) (x5:M.aR) (x7:M.aFB):Nat->Int->List M.aFD->Option M.World
 | 0,_,_=>none
 | ah+1,ae,aa=>if (decide (ae<(List.length p0.aFR:Int)))=true then ((idx p0.aFR ae).bind λai=>((zP ai).bind λaf=>((app 56 aa ([af])).bind λaj=>(iE p0 x1 x3 x5 x7 ah (i64.wrap (ae+1)) (aa++[af]))))) else (fS p0 x1 x3 x5 x7 aa fuel 0 ([]:List M.aFG))
def uE (p0:M.World):Option M.World:=
 (uL p0.aA).bind λx1=>((xP p0.aFF).bind λx3=>((xR p0.aFM).bind λx5=>((jO p0.aFB).bind λx7=>(iE p0 x1 x3 x5 x7 fuel 0 ([]:List M.aFD)))))
def vA (p0:M.bC) (c0:Int):Option Bool:=
 some (p0.Id==c0)
def dR (p0:List M.bC) (p1:M.bC->Option Bool):Nat->Int->Option Int
 | 0,_=>none
 | aa+1,v8=>if (decide (v8<(List.length p0:Int)))=true then ((idx p0 v8).bind λx7=>((p1 x7).bind λae=>(if ae=true then (some v8) else (dR p0 p1 aa (i64.wrap (v8+1)))))) else (some (-1))
def fY (p0:List M.bC) (p1:M.bC->Option Bool):Option Int:=
 dR p0 p1 fuel 0
def uI (p0:M.World) (p1:Int):Option Int:=
 (fY p0.aFF (λz0=>vA z0 p1)).bind λx1=>(some x1)
def bB (p0:Int) (p1:Int) (p2:Int):Option Bool:=
 if (decide (p1<=p0))=true then (some (decide (p0<=p2))) else (some false)
def iM (p0:ByteArray) (p1:Int) (p2:Bool):Nat->Int->Option Bool
 | 0,_=>none
 | aa+1,v7=>if (decide (v7<(p0.size:Int)))=true then ((VO p0 v7).bind λx7=>(if (decide ((x7.toNat:Int)>=97))=true then (if (decide ((x7.toNat:Int)<=122))=true then (iM p0 p1 p2 aa (i64.wrap (v7+1))) else (if p2=true then (if (!((x7.toNat:Int)==47))=true then (some false) else (iM p0 p1 p2 aa (i64.wrap (v7+1)))) else (some false))) else (if p2=true then (if (!((x7.toNat:Int)==47))=true then (some false) else (iM p0 p1 p2 aa (i64.wrap (v7+1)))) else (some false)))) else ((bB (p0.size:Int) 1 p1).bind λae=>(some ae))
def zX (p0:ByteArray) (p1:Int) (p2:Bool):Option Bool:=
 iM p0 p1 p2 fuel 0
def cJ (p0:ByteArray):Option Bool:=
 (zX p0 8 false).bind λx1=>(some x1)
def dK (p0:M.aE4):Nat->Int->Int->Option Bool
 | 0,_,_=>none
 | af+1,v3,ae=>if (decide (ae<((3:Nat):Int)))=true then ((idx ([p0.aFl,p0.aFg,p0.aFY]) ae).bind λaa=>((bB aa 0 1000000000000).bind λah=>(if (!ah)=true then (some false) else (if (aa != 0)=true then (if (decide (aa<=v3))=true then (some false) else (dK p0 af (if aa>v3 then aa else v3) (i64.wrap (ae+1)))) else (dK p0 af (if aa>v3 then aa else v3) (i64.wrap (ae+1))))))) else ((cJ p0.aFD).bind λai=>(some ai))
def vF (p0:M.aE4):Option Bool:=
 dK p0 fuel 0 0
def tV (p0:M.aFL) (c0:ByteArray) (c1:ByteArray):Option Bool:=
 if (p0.aFD.toList==c0.toList)=true then (some (p0.aFo.toList==c1.toList)) else (some false)
def cY (p0:List M.aFL) (p1:M.aFL->Option Bool):Nat->Int->Option Int
 | 0,_=>none
 | aa+1,v8=>if (decide (v8<(List.length p0:Int)))=true then ((idx p0 v8).bind λx7=>((p1 x7).bind λae=>(if ae=true then (some v8) else (cY p0 p1 aa (i64.wrap (v8+1)))))) else (some (-1))
def kB (p0:List M.aFL) (p1:M.aFL->Option Bool):Option Int:=
 cY p0 p1 fuel 0
def oK (p0:M.aFE) (p1:ByteArray) (p2:ByteArray):Option Int:=
 (kB p0.aFK (λz0=>tV z0 p1 p2)).bind λx1=>(some x1)
def sD (p0:M.aE9):Option Bool:=
 (bB p0.aFu 1 4).bind λx1=>(if x1=true then ((bB p0.aFm 0 999).bind λx4=>(if x4=true then ((bB p0.aE3 0 1000000000000).bind λx7=>(if x7=true then (some (decide ((List.length p0.aFw:Int)<=60))) else (some false))) else (some false))) else (some false))
def eU (x8:M.aFE) (af:Int->Option Bool):Nat->Int->Option Bool
 | 0,_=>none
 | ah+1,aa=>if (decide (aa<(List.length x8.aFK:Int)))=true then ((idx x8.aFK aa).bind λae=>((cJ ae.aFD).bind λai=>(if (!ai)=true then (some false) else ((cJ ae.aFo).bind λaj=>(if (!aj)=true then (some false) else ((oK x8 ae.aFD ae.aFo).bind λak=>(if (ak != aa)=true then (some false) else ((sD ae.aE9).bind λal=>(if (!al)=true then (some false) else (eU x8 af ah (i64.wrap (aa+1)))))))))))) else (af aa)
def eI (x8:M.aFE) (af:Int->Option Bool):Nat->Int->Option Bool
 | 0,_=>none
 | ah+1,aa=>if (decide (aa<(List.length x8.aFK:Int)))=true then ((idx x8.aFK aa).bind λae=>((cJ ae.aFD).bind λai=>(if (!ai)=true then (some false) else ((cJ ae.aFo).bind λaj=>(if (!aj)=true then (some false) else ((oK x8 ae.aFD ae.aFo).bind λak=>(if (ak != aa)=true then (some false) else ((sD ae.aE9).bind λal=>(if (!al)=true then (some false) else (eI x8 af ah (i64.wrap (aa+1)))))))))))) else (af aa)
def eT (p0:M.aE):Nat->Int->Option Bool
 | 0,_=>none
 | af+1,v10=>if (decide (v10<(List.length p0.aE6:Int)))=true then ((idx p0.aE6 v10).bind λx8=>((bB x8.aE3 1 1000000000000).bind λah=>(if (!ah)=true then (some false) else (if (decide (v10>0))=true then ((idx p0.aE6 (i64.wrap (v10-1))).bind λai=>(if (decide (x8.aE3<=ai.aE3))=true then (some false) else (if (decide ((List.length x8.aFK:Int)>12))=true then (some false) else (eU x8 (λ(aa:Int)=>eT p0 af (i64.wrap (v10+1))) fuel 0)))) else (if (decide ((List.length x8.aFK:Int)>12))=true then (some false) else (eI x8 (λ(ae:Int)=>eT p0 af (i64.wrap (v10+1))) fuel 0)))))) else (some (decide ((List.length p0.aE6:Int)<=4)))
def wD (p0:M.aE):Option Bool:=
 eT p0 fuel 0
def eA (p0:ByteArray):Nat->Int->Option Bool
 | 0,_=>none
 | aa+1,v3=>if (decide (v3<(p0.size:Int)))=true then ((VO p0 v3).bind λx5=>(if (decide ((x5.toNat:Int)>=97))=true then (if (decide ((x5.toNat:Int)<=122))=true then (eA p0 aa (i64.wrap (v3+1))) else (if (decide ((x5.toNat:Int)>=48))=true then (if (!(decide ((x5.toNat:Int)<=57)))=true then (some false) else (eA p0 aa (i64.wrap (v3+1)))) else (some false))) else (if (decide ((x5.toNat:Int)>=48))=true then (if (!(decide ((x5.toNat:Int)<=57)))=true then (some false) else (eA p0 aa (i64.wrap (v3+1)))) else (some false)))) else (some (decide ((p0.size:Int)<=12)))
def xQ (p0:ByteArray):Option Bool:=
 eA p0 fuel 0
def uP (p0:M.Key):Option Bool:=
 (bB p0.aFU 1 3).bind λx1=>(if (!x1)=true then (some false) else ((bB p0.N (-1000000000000) 1000000000000).bind λx4=>(if (!x4)=true then (some false) else ((xQ p0.aFb).bind λx7=>(if (!x7)=true then (some false) else (if (p0.aFU==2)=true then (if (!(p0.N != 0))=true then (if (p0.aFU==1)=true then (some (!(!(p0.aFb.toList==(⟨#[]⟩:ByteArray).toList)))) else (some true)) else (some false)) else (if (p0.aFU==1)=true then (some (!(!(p0.aFb.toList==(⟨#[]⟩:ByteArray).toList)))) else (some true))))))))
def gU (p0:M.aD):Nat->Int->Option Bool
 | 0,_=>none
 | aa+1,v8=>if (decide (v8<(List.length p0.aFA:Int)))=true then ((idx p0.aFA v8).bind λx8=>((cJ x8.Name).bind λaf=>(if (!af)=true then (some false) else ((bB x8.N 0 1000000000).bind λah=>(if (!ah)=true then (some false) else (if (decide (v8>0))=true then ((idx p0.aFA (i64.wrap (v8-1))).bind λae=>(if (Op.bytesLess x8.Name.toList ae.Name.toList||x8.Name.toList==ae.Name.toList)=true then (some false) else (gU p0 aa (i64.wrap (v8+1))))) else (gU p0 aa (i64.wrap (v8+1))))))))) else (some (decide ((List.length p0.aFA:Int)<=6)))
def wJ (p0:M.aD):Option Bool:=
 gU p0 fuel 0
def uO (p0:Int) (p1:Int):Option Int:=
 if (decide (p0<p1))=true then (some (-1)) else (if (decide (p0>p1))=true then (some 1) else (some 0))
def nD (p0:ByteArray) (p1:ByteArray):Option Int:=some (Lib.compareBytes p0.data.toList p1.data.toList)
def zZ (p0:ByteArray) (p1:ByteArray):Option Int:=
 (nD p0 p1).bind λx1=>(some x1)
def pF (p0:M.Key) (p1:M.Key):Option Int:=
 (uP p0).bind λx1=>(if (!x1)=true then (some 0) else ((uP p1).bind λx4=>(if (!x4)=true then (some 0) else ((uO p0.aFU p1.aFU).bind λx7=>(if (x7 != 0)=true then (some x7) else ((uO p0.N p1.N).bind λaa=>(if (aa != 0)=true then (some aa) else ((zZ p0.aFb p1.aFb).bind λae=>(some ae)))))))))
def iX (p0:M.aC):Nat->Int->Option Bool
 | 0,_=>none
 | aa+1,v8=>if (decide (v8<(List.length p0.aE7:Int)))=true then ((idx p0.aE7 v8).bind λx8=>((uP x8.Key).bind λae=>(if (!ae)=true then (some false) else ((wJ x8.aD).bind λaf=>(if (!af)=true then (some false) else (if (decide (v8>0))=true then ((idx p0.aE7 (i64.wrap (v8-1))).bind λah=>((pF ah.Key x8.Key).bind λai=>(if (decide (ai>=0))=true then (some false) else (iX p0 aa (i64.wrap (v8+1)))))) else (iX p0 aa (i64.wrap (v8+1))))))))) else ((cJ p0.Name).bind λaj=>(if aj=true then (if (decide ((List.length p0.aE7:Int)<=16))=true then ((bB p0.aFZ 0 1000000).bind λak=>(some ak)) else (some false)) else (some false)))
def vV (p0:M.aC):Option Bool:=
 iX p0 fuel 0
def uQ (p0:M.aC) (c0:ByteArray):Option Bool:=
 some (p0.Name.toList==c0.toList)
def dJ (p0:List M.aC) (p1:M.aC->Option Bool):Nat->Int->Option Int
 | 0,_=>none
 | aa+1,v8=>if (decide (v8<(List.length p0:Int)))=true then ((idx p0 v8).bind λx7=>((p1 x7).bind λae=>(if ae=true then (some v8) else (dJ p0 p1 aa (i64.wrap (v8+1)))))) else (some (-1))
def lG (p0:List M.aC) (p1:M.aC->Option Bool):Option Int:=
 dJ p0 p1 fuel 0
def xT (p0:M.aE5) (p1:ByteArray):Option Int:=
 (lG p0.aFH (λz0=>uQ z0 p1)).bind λx1=>(some x1)
def dQ (p0:List M.aN) (p1:M.aN):Nat->Int->Option Int
 | 0,_=>none
 | aa+1,v8=>if (decide (v8<(List.length p0:Int)))=true then ((idx p0 v8).bind λx8=>(if ((p1.aC.toList==x8.aC.toList)&&(p1.Field.toList==x8.Field.toList))=true then (some v8) else (dQ p0 p1 aa (i64.wrap (v8+1))))) else (some (-1))
def mG (p0:List M.aN) (p1:M.aN):Option Int:=
 dQ p0 p1 fuel 0
def jC (p0:List M.aN) (p1:M.aN):Option Bool:=
 (mG p0 p1).bind λx1=>(some (decide (x1>=0)))
def xO (p0:M.Field) (c0:ByteArray):Option Bool:=
 some (p0.Name.toList==c0.toList)
def dF (p0:List M.Field) (p1:M.Field->Option Bool):Nat->Int->Option Int
 | 0,_=>none
 | aa+1,v8=>if (decide (v8<(List.length p0:Int)))=true then ((idx p0 v8).bind λx7=>((p1 x7).bind λae=>(if ae=true then (some v8) else (dF p0 p1 aa (i64.wrap (v8+1)))))) else (some (-1))
def lM (p0:List M.Field) (p1:M.Field->Option Bool):Option Int:=
 dF p0 p1 fuel 0
def BS (p0:M.aD) (p1:ByteArray):Option Int:=
 (lM p0.aFA (λz0=>xO z0 p1)).bind λx1=>(some x1)
def mI (p0:M.aD) (p1:ByteArray):Option (Int×Bool):=
 (BS p0 p1).bind λx1=>(if (decide (x1<0))=true then (some (0,false)) else ((idx p0.aFA x1).bind λx4=>(some (x4.N,true))))
def uS (p0:M.aFP) (p1:M.aFP) (p2:ByteArray):Option Bool:=
 (mI p0.aD p2).bind λx1=>((mI p1.aD p2).bind λx3=>(if (decide (x1.1<x3.1))=true then (some true) else (if (x1.1==x3.1)=true then ((pF p0.Key p1.Key).bind λx7=>(some (decide (x7<0)))) else (some false))))
def nY (p1:ByteArray) (af:List M.aFP) (ah:M.aFP) (ae:Int->Option (List M.aFP)):Nat->Int->Option (List M.aFP)
 | 0,_=>none
 | ai+1,aa=>if (decide (aa>0))=true then ((idx af (i64.wrap (aa-1))).bind λaj=>((uS ah aj p1).bind λak=>(if ak=true then (nY p1 af ah ae ai (i64.wrap (aa-1))) else (ae aa)))) else (ae aa)
def lB (p0:M.aC) (p1:ByteArray):Nat->Int->List M.aFP->Option (List M.aFP)
 | 0,_,_=>none
 | ai+1,af,ae=>if (decide (af<(List.length p0.aE7:Int)))=true then ((idx p0.aE7 af).bind λah=>((mI ah.aD p1).bind λak=>(if (!ak.2)=true then (lB p0 p1 ai (i64.wrap (af+1)) ae) else (nY p1 ae ah (λ(aa:Int)=>(wZ ah).bind λaj=>((TZ 56 ae aa ([aj])).bind λal=>(lB p0 p1 ai (i64.wrap (af+1)) (List.take aa.toNat ae++([aj]++List.drop aa.toNat ae))))) fuel (List.length ae:Int))))) else (some ae)
def Av (p0:M.aC) (p1:ByteArray):Option (List M.aFP):=
 lB p0 p1 fuel 0 ([]:List M.aFP)
def fH (p1:ByteArray) (x1:(List M.aFP)):Nat->Int->Option (M.Key×M.Key×Bool)
 | 0,_=>none
 | af+1,v8=>if (decide (v8<(List.length x1:Int)))=true then ((idx x1 (i64.wrap (v8-1))).bind λaa=>((mI aa.aD p1).bind λah=>((idx x1 v8).bind λae=>((mI ae.aD p1).bind λai=>(if (ah.1==ai.1)=true then (some (aa.Key,ae.Key,true)) else (fH p1 x1 af (i64.wrap (v8+1)))))))) else (some ((⟨0,0,(⟨#[]⟩:ByteArray)⟩:M.Key),(⟨0,0,(⟨#[]⟩:ByteArray)⟩:M.Key),false))
def jP (p0:M.aC) (p1:ByteArray):Option (M.Key×M.Key×Bool):=
 (Av p0 p1).bind λx1=>(fH p1 x1 fuel 1)
def eS (p0:M.aE5):Nat->Int->Option Bool
 | 0,_=>none
 | ah+1,aa=>if (decide (aa<(List.length p0.aFQ:Int)))=true then ((idx p0.aFQ aa).bind λae=>((xT p0 ae.aC).bind λaf=>(if (decide (af<0))=true then (some false) else ((cJ ae.Field).bind λai=>(if (!ai)=true then (some false) else ((Ap p0.aFQ aa).bind λao=>((jC (List.take aa.toNat p0.aFQ) ae).bind λaj=>(if aj=true then (some false) else ((idx p0.aFH af).bind λak=>((jP ak ae.Field).bind λal=>(if al.2.2=true then (some false) else (eS p0 ah (i64.wrap (aa+1)))))))))))))) else (some true)
def eO (p0:M.aE5):Nat->Int->Option Bool
 | 0,_=>none
 | af+1,aa=>if (decide (aa<(List.length p0.aFH:Int)))=true then ((idx p0.aFH aa).bind λae=>((vV ae).bind λai=>(if (!ai)=true then (some false) else (if (decide (aa>0))=true then ((idx p0.aFH (i64.wrap (aa-1))).bind λah=>(if (Op.bytesLess ae.Name.toList ah.Name.toList||ae.Name.toList==ah.Name.toList)=true then (some false) else (eO p0 af (i64.wrap (aa+1))))) else (eO p0 af (i64.wrap (aa+1))))))) else (eS p0 fuel 0)
def wC (p0:M.aE5):Option Bool:=
 (cJ p0.Name).bind λx1=>(if (!x1)=true then (some false) else ((bB p0.aE3 0 1000).bind λx4=>(if (!x4)=true then (some false) else (if (decide ((List.length p0.aFH:Int)>4))=true then (some false) else (if (decide ((List.length p0.aFQ:Int)>4))=true then (some false) else (eO p0 fuel 0))))))
def mR (p0:M.bD):Option Bool:=
 (bB p0.aFC 1 1000000).bind λx1=>(if x1=true then ((bB p0.Seq 1 1000000).bind λx4=>(if x4=true then ((uP p0.Key).bind λx7=>(if x7=true then ((cJ p0.Field).bind λaa=>(if aa=true then ((bB p0.N 0 1000000000).bind λae=>(some ae)) else (some false))) else (some false))) else (some false))) else (some false))
def mF (p0:M.aM):Nat->Int->Option Bool
 | 0,_=>none
 | ae+1,aa=>if (decide (aa<(List.length p0.aFO:Int)))=true then ((idx p0.aFO aa).bind λx9=>((mR x9).bind λaf=>(if (!af)=true then (some false) else (if (x9.aFC != p0.aFC)=true then (some false) else (if (x9.Seq != (i64.wrap ((i64.wrap (p0.aFd-(List.length p0.aFO:Int)))+aa)))=true then (some false) else (mF p0 ae (i64.wrap (aa+1)))))))) else ((bB p0.aFC 1 1000000).bind λah=>(if ah=true then ((bB p0.aFd 1 1000000).bind λai=>(if ai=true then (some (decide ((List.length p0.aFO:Int)<=20))) else (some false))) else (some false)))
def zH (p0:M.aM):Option Bool:=
 mF p0 fuel 0
def yC (p0:M.aG):Option Bool:=
 (vV p0.aFT).bind λx1=>(if x1=true then (if (p0.aFT.Name.toList==(⟨#[110,111,116,101,115]⟩:ByteArray).toList)=true then ((bB p0.aFq 0 1000000000000).bind λx5=>(if x5=true then ((zH p0.aFS.aM).bind λx8=>(some x8)) else (some false))) else (some false)) else (some false))
def xD (p0:M.aE9) (p1:Bool):Option Int:=
 if p1=true then (some 76) else (some (i64.wrap (16+(List.length p0.aFw:Int))))
def jF (x7:M.aFE) (af:Int->Int->Option Int):Nat->Int->Int->Option Int
 | 0,_,_=>none
 | ai+1,ae,aa=>if (decide (aa<(List.length x7.aFK:Int)))=true then ((idx x7.aFK aa).bind λah=>((xD ah.aE9 (ah.aE9.aFu==3)).bind λaj=>(jF x7 af ai (i64.wrap (ae+aj)) (i64.wrap (aa+1))))) else (af ae aa)
def eR (p0:M.aE):Nat->Int->Int->Option Int
 | 0,_,_=>none
 | af+1,v3,v11=>if (decide (v11<(List.length p0.aE6:Int)))=true then ((idx p0.aE6 v11).bind λx7=>(jF x7 (λ(aa:Int) (ae:Int)=>eR p0 af aa (i64.wrap (v11+1))) fuel v3 0)) else (some v3)
def wX (p0:M.aE):Option Int:=
 eR p0 fuel 0 0
def fT (p0:M.Key):Nat->Int->List Int->Option (List Int)
 | 0,_,_=>none
 | ae+1,v4,aa=>if (decide (v4>=0))=true then (if (decide (0<=(i64.wrap (8*v4))))=true then ((app 1 aa ([(IntKind.u8.wrap (Int.fdiv (i64.wrap (p0.N+1000000000000)) (2^(min (i64.wrap (8*v4)).toNat IntKind.i64.bits))))])).bind λaf=>(fT p0 ae (i64.wrap (v4-1)) (aa++[(IntKind.u8.wrap (Int.fdiv (i64.wrap (p0.N+1000000000000)) (2^(min (i64.wrap (8*v4)).toNat IntKind.i64.bits))))]))) else none) else ((app 1 aa (bO p0.aFb)).bind λah=>(some (aa++bO p0.aFb)))
def xZ (p0:M.Key):Option (List Int):=
 (uP p0).bind λx1=>(if (!x1)=true then (some ([]:List Int)) else (if (p0.aFU != 2)=true then (fT p0 fuel 5 ([(IntKind.u8.wrap p0.aFU)])) else ((app 1 ([(IntKind.u8.wrap p0.aFU)]) (bO p0.aFb)).bind λaa=>(some ([(IntKind.u8.wrap p0.aFU)]++bO p0.aFb)))))
def fV  : Nat->Int->List Int->Option (List Int)
 | 0,_,_=>none
 | aa+1,v1,r7=>if (decide (v1>=128))=true then ((app 1 r7 ([(IntKind.u8.wrap (i64.wrap ((Int.tmod v1 128)+128)))])).bind λae=>(fV aa (i64.wrap (Int.tdiv v1 128)) (r7++[(IntKind.u8.wrap (i64.wrap ((Int.tmod v1 128)+128)))]))) else ((app 1 r7 ([(IntKind.u8.wrap v1)])).bind λaf=>(some (r7++[(IntKind.u8.wrap v1)])))
def jE (p0:List Int) (p1:Int):Option (List Int):=
 (kG p0).bind λx1=>((bB p1 0 1000000000000).bind λx3=>(if (!x3)=true then (some x1) else (fV fuel p1 x1)))
def uX (p0:List Int) (p1:List Int):Option (List Int):=
 (jE p0 (List.length p1:Int)).bind λx1=>((app 1 x1 p1).bind λx3=>(some (x1++p1)))
def gP (p0:M.aD):Nat->Int->List Int->Option (List Int)
 | 0,_,_=>none
 | ah+1,ae,aa=>if (decide (ae<(List.length p0.aFA:Int)))=true then ((idx p0.aFA ae).bind λaf=>((uX aa (bO af.Name)).bind λai=>((jE ai af.N).bind λaj=>(gP p0 ah (i64.wrap (ae+1)) aj)))) else (some aa)
def sW (p0:M.aD):Option (List Int):=
 (wJ p0).bind λx1=>(if (!x1)=true then (some ([]:List Int)) else ((jE ([]:List Int) (List.length p0.aFA:Int)).bind λx4=>(gP p0 fuel 0 x4)))
def kK (p0:M.aC):Nat->Int->Int->Option Int
 | 0,_,_=>none
 | aa+1,v3,v9=>if (decide (v9<(List.length p0.aE7:Int)))=true then ((idx p0.aE7 v9).bind λx7=>((xZ x7.Key).bind λae=>((sW x7.aD).bind λaf=>(kK p0 aa (i64.wrap (v3+(i64.wrap ((List.length ae:Int)+(List.length af:Int))))) (i64.wrap (v9+1)))))) else (some v3)
def tY (p0:M.aC):Option Int:=
 kK p0 fuel 0 0
def gM (p0:M.aE5):Nat->Int->Int->Option Int
 | 0,_,_=>none
 | aa+1,v3,v9=>if (decide (v9<(List.length p0.aFH:Int)))=true then ((idx p0.aFH v9).bind λx7=>((tY x7).bind λae=>(gM p0 aa (i64.wrap (v3+ae)) (i64.wrap (v9+1))))) else (some v3)
def sU (p0:M.aE5):Option Int:=
 gM p0 fuel 0 0
def Ba (p0:M.bV):Option Int:=
 (sU p0.aFT).bind λx1=>(some (i64.wrap (x1+(List.length p0.Log:Int))))
def Au (p0:M.aJ):Option Int:=
 (wX p0.aE6).bind λx1=>((Ba p0.bV).bind λx3=>((tY p0.aG.aFT).bind λx5=>(some (i64.wrap ((i64.wrap ((i64.wrap (x1+x3))+x5))+(i64.wrap (40*(List.length p0.aG.aFS.aM.aFO:Int))))))))
def zN (p0:M.aJ):Option Bool:=
 (cJ p0.aFD).bind λx1=>(if x1=true then ((cJ p0.Top).bind λx4=>(if x4=true then ((vF p0.aE4).bind λx7=>(if x7=true then (if (p0.aE4.aFD.toList==p0.aFD.toList)=true then ((wD p0.aE6).bind λaa=>(if aa=true then ((wC p0.bV.aFT).bind λae=>(if ae=true then ((yC p0.aG).bind λaf=>(if af=true then ((bB p0.aFf 0 1000000000000).bind λah=>(if ah=true then ((Au p0).bind λai=>(some (decide (ai<=2500)))) else (some false))) else (some false))) else (some false))) else (some false))) else (some false)) else (some false))) else (some false))) else (some false))
def tG (p0:M.aJ) (p1:M.aJ):Option Bool:=
 if (Op.bytesLess p0.aFD.toList p1.aFD.toList)=true then (some true) else (if (p0.aFD.toList==p1.aFD.toList)=true then (some (Op.bytesLess p0.Top.toList p1.Top.toList)) else (some false))
def fW (p0:M.aA):Nat->Int->Option Bool
 | 0,_=>none
 | aa+1,v8=>if (decide (v8<(List.length p0.aE8:Int)))=true then ((idx p0.aE8 v8).bind λx8=>((zN x8).bind λae=>(if (!ae)=true then (some false) else (if (decide (v8>0))=true then ((idx p0.aE8 (i64.wrap (v8-1))).bind λaf=>((tG af x8).bind λah=>(if (!ah)=true then (some false) else (fW p0 aa (i64.wrap (v8+1)))))) else (fW p0 aa (i64.wrap (v8+1))))))) else (some (decide ((List.length p0.aE8:Int)<=9)))
def xX (p0:M.aA):Option Bool:=
 fW p0 fuel 0
def wE (p0:ByteArray):Option Bool:=
 (zX p0 30 true).bind λx1=>(some x1)
def cP (p0:M.aR) (v10:Int) (x8:M.mZ) (ae:Int->Option Bool):Nat->Int->Option Bool
 | 0,_=>none
 | af+1,aa=>if (decide (aa<(List.length (List.take v10.toNat p0.aFM):Int)))=true then ((idx (List.take v10.toNat p0.aFM) aa).bind λah=>(if (ah.Name.toList==x8.Name.toList)=true then (if x8.aF0=true then (if (!ah.aF0)=true then (some false) else (if (!x8.aFj)=true then (some false) else (if (!ah.aFj)=true then (some false) else (cP p0 v10 x8 ae af (i64.wrap (aa+1)))))) else (cP p0 v10 x8 ae af (i64.wrap (aa+1)))) else (cP p0 v10 x8 ae af (i64.wrap (aa+1))))) else (ae aa)
def fL (p0:M.aR):Nat->Int->Option Bool
 | 0,_=>none
 | ae+1,v10=>if (decide (v10<(List.length p0.aFM:Int)))=true then ((idx p0.aFM v10).bind λx8=>((wE x8.Name).bind λaf=>(if (!af)=true then (some false) else ((bB x8.bC 1 1000000000000).bind λah=>(if (!ah)=true then (some false) else ((Ap p0.aFM v10).bind λai=>(cP p0 v10 x8 (λ(aa:Int)=>fL p0 ae (i64.wrap (v10+1))) fuel 0))))))) else (some (decide ((List.length p0.aFM:Int)<=12)))
def uN (p0:M.aR):Option Bool:=
 fL p0 fuel 0
def rC (p0:M.bC):Nat->Int->Option Bool
 | 0,_=>none
 | aa+1,v8=>if (decide (v8<(List.length p0.aU:Int)))=true then ((idx p0.aU v8).bind λx8=>((cJ x8.aFo).bind λae=>(if (!ae)=true then (some false) else (if (x8.aE3 != p0.aE3)=true then (some false) else (rC p0 aa (i64.wrap (v8+1))))))) else ((bB p0.Id 1 1000000000000).bind λaf=>(if af=true then ((cJ p0.aFD).bind λah=>(if ah=true then ((cJ p0.Top).bind λai=>(if ai=true then ((bB p0.aE3 1 1000000000000).bind λaj=>(if aj=true then (some (decide ((List.length p0.aU:Int)<=8))) else (some false))) else (some false))) else (some false))) else (some false)))
def xM (p0:M.bC):Option Bool:=
 rC p0 fuel 0
def sR (p0:M.aJ) (c0:ByteArray) (c1:ByteArray):Option Bool:=
 if (p0.aFD.toList==c0.toList)=true then (some (p0.Top.toList==c1.toList)) else (some false)
def cX (p0:List M.aJ) (p1:M.aJ->Option Bool):Nat->Int->Option Int
 | 0,_=>none
 | aa+1,v8=>if (decide (v8<(List.length p0:Int)))=true then ((idx p0 v8).bind λx7=>((p1 x7).bind λae=>(if ae=true then (some v8) else (cX p0 p1 aa (i64.wrap (v8+1)))))) else (some (-1))
def jU (p0:List M.aJ) (p1:M.aJ->Option Bool):Option Int:=
 cX p0 p1 fuel 0
def nN (p0:M.aA) (p1:ByteArray) (p2:ByteArray):Option Int:=
 (jU p0.aE8 (λz0=>sR z0 p1 p2)).bind λx1=>(some x1)
def kE (p0:M.aFD):Nat->Int->Option Bool
 | 0,_=>none
 | aa+1,v8=>if (decide (v8<(List.length p0.aFe:Int)))=true then ((idx p0.aFe v8).bind λx8=>((cJ x8).bind λaf=>(if (!af)=true then (some false) else (if (decide (v8>0))=true then ((idx p0.aFe (i64.wrap (v8-1))).bind λae=>(if (Op.bytesLess x8.toList ae.toList||x8.toList==ae.toList)=true then (some false) else (kE p0 aa (i64.wrap (v8+1))))) else (kE p0 aa (i64.wrap (v8+1))))))) else ((cJ p0.Name).bind λah=>(if ah=true then ((bB p0.aE3 1 1000000000000).bind λai=>(if ai=true then ((bB (List.length p0.aFe:Int) 1 6).bind λaj=>(some aj)) else (some false))) else (some false)))
def xI (p0:M.aFD):Option Bool:=
 kE p0 fuel 0
def bY (p0:List ByteArray) (p1:ByteArray):Nat->Int->Option Int
 | 0,_=>none
 | aa+1,v8=>if (decide (v8<(List.length p0:Int)))=true then ((idx p0 v8).bind λx7=>(if (p1.toList==x7.toList)=true then (some v8) else (bY p0 p1 aa (i64.wrap (v8+1))))) else (some (-1))
def lK (p0:List ByteArray) (p1:ByteArray):Option Int:=
 bY p0 p1 fuel 0
def nP (p0:ByteArray):Option Int:=
 (lK ([(⟨#[98,97,110,107]⟩:ByteArray),(⟨#[110,101,119,115]⟩:ByteArray),(⟨#[115,104,111,112]⟩:ByteArray)]) p0).bind λx1=>(some x1)
def jN (p0:M.aFG):Nat->Int->Option Bool
 | 0,_=>none
 | ae+1,aa=>if (decide (aa<(List.length p0.aFV:Int)))=true then ((idx p0.aFV aa).bind λaf=>((mR af).bind λah=>(if (!ah)=true then (some false) else (jN p0 ae (i64.wrap (aa+1)))))) else ((vV p0.aC).bind λai=>(if ai=true then (if (p0.aC.Name.toList==(⟨#[110,111,116,101,115]⟩:ByteArray).toList)=true then (some (decide ((List.length p0.aO:Int)<=60))) else (some false)) else (some false)))
def gT (p0:M.aFG):Nat->Int->Option Bool
 | 0,_=>none
 | aa+1,v10=>if (decide (v10<(List.length p0.aO:Int)))=true then ((idx p0.aO v10).bind λx8=>((bB x8.aFC 1 1000000).bind λae=>(if (!ae)=true then (some false) else ((bB x8.Seq 0 1000000).bind λaf=>(if (!af)=true then (some false) else (if (decide (v10>0))=true then ((idx p0.aO (i64.wrap (v10-1))).bind λah=>(if (decide (x8.aFC<=ah.aFC))=true then (some false) else (gT p0 aa (i64.wrap (v10+1))))) else (gT p0 aa (i64.wrap (v10+1))))))))) else (jN p0 fuel 0)
def zO (p0:M.aFG):Option Bool:=
 gT p0 fuel 0
def iR (p0:M.World):Nat->Int->Option Bool
 | 0,_=>none
 | af+1,aa=>if (decide (aa<(List.length p0.aFR:Int)))=true then ((idx p0.aFR aa).bind λae=>((xI ae).bind λah=>(if (!ah)=true then (some false) else ((nP ae.Name).bind λai=>(if (ai != aa)=true then (some false) else ((idx p0.aFN aa).bind λaj=>((zO aj).bind λak=>(if (!ak)=true then (some false) else (iR p0 af (i64.wrap (aa+1))))))))))) else (some true)
def eW (p0:M.World):Nat->Int->Option Bool
 | 0,_=>none
 | af+1,ae=>if (decide (ae<(List.length p0.aFF:Int)))=true then ((idx p0.aFF ae).bind λaa=>((xM aa).bind λah=>(if (!ah)=true then (some false) else (if (decide (aa.Id>=p0.aFJ))=true then (some false) else (if (decide (ae>0))=true then ((idx p0.aFF (i64.wrap (ae-1))).bind λai=>(if (decide (aa.Id<=ai.Id))=true then (some false) else ((nN p0.aA aa.aFD aa.Top).bind λaj=>(if (decide (aj<0))=true then (some false) else (eW p0 af (i64.wrap (ae+1))))))) else ((nN p0.aA aa.aFD aa.Top).bind λak=>(if (decide (ak<0))=true then (some false) else (eW p0 af (i64.wrap (ae+1)))))))))) else (iR p0 fuel 0)
def vM (p0:M.World):Option Bool:=
 (bB p0.Now 0 999999990000).bind λx1=>(if (!x1)=true then (some false) else ((bB p0.aFC 1 1000000).bind λx4=>(if (!x4)=true then (some false) else ((xX p0.aA).bind λx7=>(if (!x7)=true then (some false) else (if (decide ((List.length p0.aFF:Int)>6))=true then (some false) else ((bB p0.aFJ 1 1000000000000).bind λaa=>(if (!aa)=true then (some false) else ((uN p0.aFM).bind λae=>(if (!ae)=true then (some false) else (if ((List.length p0.aFR:Int) != 3)=true then (some false) else (if ((List.length p0.aFN:Int) != 3)=true then (some false) else (eW p0 fuel 0)))))))))))))
def A9 (p0:M.World) (p1:ByteArray) (p2:ByteArray):Option (M.aJ×Bool):=
 (nN p0.aA p1 p2).bind λx1=>(if (decide (x1<0))=true then (some ((⟨(⟨#[]⟩:ByteArray),(⟨#[]⟩:ByteArray),(⟨(⟨#[]⟩:ByteArray),0,0,0⟩:M.aE4),(⟨([]:List M.aFE)⟩:M.aE),(⟨(⟨(⟨#[]⟩:ByteArray),0,([]:List M.aC),([]:List M.aN)⟩:M.aE5),([]:List Int),0⟩:M.bV),(⟨(⟨(⟨#[]⟩:ByteArray),([]:List M.aFP),0⟩:M.aC),0,(⟨(⟨0,0,([]:List M.bD)⟩:M.aM),0,0⟩:M.aFS)⟩:M.aG),0,false⟩:M.aJ),false)) else ((idx p0.aA.aE8 x1).bind λx4=>(some (x4,true))))
def cG  : Option M.aE9:=
 some (⟨4,0,0,([]:List Int),false⟩:M.aE9)
def Cs (p0:M.World) (p1:ByteArray):Option M.aFD:=
 (nP p1).bind λx1=>(if (decide (x1<0))=true then (some (⟨(⟨#[]⟩:ByteArray),0,([]:List ByteArray),false⟩:M.aFD)) else (if (decide (x1>=(List.length p0.aFR:Int)))=true then (some (⟨(⟨#[]⟩:ByteArray),0,([]:List ByteArray),false⟩:M.aFD)) else ((idx p0.aFR x1).bind λx5=>(some x5))))
def uR (p0:M.aFE) (c0:Int):Option Bool:=
 some (p0.aE3==c0)
def dI (p0:List M.aFE) (p1:M.aFE->Option Bool):Nat->Int->Option Int
 | 0,_=>none
 | aa+1,v8=>if (decide (v8<(List.length p0:Int)))=true then ((idx p0 v8).bind λx7=>((p1 x7).bind λae=>(if ae=true then (some v8) else (dI p0 p1 aa (i64.wrap (v8+1)))))) else (some (-1))
def lE (p0:List M.aFE) (p1:M.aFE->Option Bool):Option Int:=
 dI p0 p1 fuel 0
def yE (p0:M.aE) (p1:Int):Option Int:=
 (lE p0.aE6 (λz0=>uR z0 p1)).bind λx1=>(some x1)
def xC (p0:M.aE) (p1:Int) (p2:ByteArray) (p3:ByteArray):Option (M.aE9×Bool):=
 (yE p0 p1).bind λx1=>(if (decide (x1<0))=true then ((cG).bind λx4=>(some (x4,false))) else ((idx p0.aE6 x1).bind λx6=>((oK x6 p2 p3).bind λaa=>(if (decide (aa<0))=true then ((cG).bind λae=>(some (ae,false))) else ((idx x6.aFK aa).bind λaf=>((kT af.aE9).bind λah=>(some (ah,true))))))))
def rP (p0:M.aFD) (p1:Int):Option Bool:=
 (xI p0).bind λx1=>(if x1=true then (if (decide (p1>(i64.wrap (p0.aE3-2))))=true then (if (decide (p1<=p0.aE3))=true then (some (decide (p1>=1))) else (some false)) else (some false)) else (some false))
def pC (p0:List ByteArray) (p1:ByteArray):Option Bool:=
 (lK p0 p1).bind λx1=>(some (decide (x1>=0)))
def Ay (p0:M.aFD) (p1:ByteArray):Option Bool:=
 (pC p0.aFe p1).bind λx1=>(some x1)
def iC (p0:List Int):Nat->Int->List Int->Option (List Int)
 | 0,_,_=>none
 | ae+1,v11,r8=>if (decide (v11<(List.length p0:Int)))=true then ((idx p0 v11).bind λaa=>((app 8 r8 ([(i64.wrap aa)])).bind λaf=>(iC p0 ae (i64.wrap (v11+1)) (r8++[(i64.wrap aa)])))) else (some r8)
def vC (p0:List Int):Option (List Int):=
 iC p0 fuel 0 ([(List.length p0:Int)])
def DM (p0:Int) (p1:Int):Option Int:=
 (bB p1 1 1000000000000).bind λx1=>(if (!x1)=true then (some 0) else (if (decide (p1=0))=true then none else (if (decide ((Int.tmod p0 p1)<0))=true then (some (i64.wrap ((Int.tmod p0 p1)+p1))) else (some (Int.tmod p0 p1)))))
def vW (p0:List Int):Nat->Int->Int->Option Int
 | 0,_,_=>none
 | aa+1,v3,v8=>if (decide (v8<(List.length p0:Int)))=true then ((idx p0 v8).bind λx7=>((DM x7 2147483647).bind λae=>(vW p0 aa (Int.tmod (i64.wrap ((i64.wrap ((i64.wrap (v3*1000003))+ae))+13)) 2147483647) (i64.wrap (v8+1))))) else (some v3)
def CM (p0:List Int):Option Int:=
 vW p0 fuel 11 0
def uD (p0:Int) (p1:List Int):Option Int:=
 (app 8 ([p0]) p1).bind λx1=>((app 8 ([p0]++p1) ([p0])).bind λx3=>((CM (([p0]++p1)++[p0])).bind λx5=>(some x5)))
def iZ (p0:Int) (p1:ByteArray):Option Int:=
 (vC (bO p1)).bind λx1=>((uD p0 x1).bind λx3=>(if (x3==0)=true then (some 1) else (some x3)))
def eV (x5:Int):Nat->Int->List Int->Option (List Int)
 | 0,_,_=>none
 | ae+1,v9,aa=>if (decide (v9>=0))=true then (if (decide (0<=(i64.wrap (8*v9))))=true then ((app 1 aa ([(IntKind.u8.wrap (Int.fdiv x5 (2^(min (i64.wrap (8*v9)).toNat IntKind.i64.bits))))])).bind λaf=>(eV x5 ae (i64.wrap (v9-1)) (aa++[(IntKind.u8.wrap (Int.fdiv x5 (2^(min (i64.wrap (8*v9)).toNat IntKind.i64.bits))))]))) else none) else (some aa)
def Bk (p0:M.aFD) (p1:ByteArray) (p2:Int):Option (List Int):=
 (iZ 107 p0.Name).bind λx1=>((iZ 109 p1).bind λx3=>((uD (i64.wrap (1+p2)) ([103,x1,x3])).bind λx5=>(eV x5 fuel 5 ([]:List Int))))
def xW (p0:M.aFD) (p1:ByteArray) (p2:Int):Option M.aE9:=
 (xI p0).bind λx1=>(if (!x1)=true then ((cG).bind λx4=>(some x4)) else ((rP p0 p2).bind λx6=>(if (!x6)=true then (some (⟨1,404,p0.aE3,([]:List Int),false⟩:M.aE9)) else ((Ay p0 p1).bind λx9=>(if (!x9)=true then (some (⟨1,404,p0.aE3,([]:List Int),false⟩:M.aE9)) else ((Bk p0 p1 p2).bind λaa=>(some (⟨1,200,p2,aa,p0.aFj⟩:M.aE9))))))))
def uW (p0:M.aE) (p1:M.aFD) (p2:Int) (p3:ByteArray) (p4:Bool):Option M.aE9:=
 (xC p0 p2 p1.Name p3).bind λx1=>(if x1.2=true then (some x1.1) else (if p4=true then ((xW p1 p3 p2).bind λx5=>(some x5)) else ((cG).bind λx7=>(some x7))))
def zU (p0:M.World) (p1:M.bC) (p2:ByteArray):Option M.aE9:=
 (A9 p0 p1.aFD p1.Top).bind λx1=>(if (!x1.2)=true then ((cG).bind λx4=>(some x4)) else ((nP p1.aFD).bind λx6=>(if (decide (x6<0))=true then ((cG).bind λx9=>(some x9)) else ((Cs p0 p1.aFD).bind λaa=>((uW x1.1.aE6 aa p1.aE3 p2 p0.aFW).bind λae=>(some ae))))))
def zR (p0:M.bC) (p1:ByteArray) (p2:M.aE9):Option (M.bC×Bool):=
 (iG p0).bind λx1=>((app 24 x1.aU ([(⟨p1,p2.aE3⟩:M.aU)])).bind λx3=>(if (p2.aFm != 200)=true then ((iG p0).bind λaa=>(some (aa,false))) else (if (p2.aE3 != p0.aE3)=true then ((iG p0).bind λae=>(some (ae,false))) else ((xM p0).bind λaf=>(if (!af)=true then ((iG p0).bind λah=>(some (ah,false))) else ((xM (⟨x1.Id,x1.aFD,x1.Top,x1.aE3,(x1.aU++[(⟨p1,p2.aE3⟩:M.aU)]),x1.aFI⟩:M.bC)).bind λai=>(if (!ai)=true then ((iG p0).bind λaj=>(some (aj,false))) else (some ((⟨x1.Id,x1.aFD,x1.Top,x1.aE3,(x1.aU++[(⟨p1,p2.aE3⟩:M.aU)]),x1.aFI⟩:M.bC),true)))))))))
def tD (p0:M.World) (p1:Int) (p2:ByteArray):Option (M.World×Int):=
 (uE p0).bind λx1=>((uI p0 p1).bind λx3=>((vM p0).bind λx5=>(if (!x5)=true then (some (x1,(-1))) else (if (decide (x3<0))=true then (some (x1,(-1))) else ((idx p0.aFF x3).bind λx9=>((zU p0 x9 p2).bind λaa=>((zR x9 p2 aa).bind λae=>((idx x1.aFF x3).bind λaf=>(some ((⟨x1.Now,x1.aFW,x1.aFC,x1.aA,(List.set x1.aFF x3.toNat ae.1),x1.aFJ,x1.aFM,x1.aFB,x1.aFR,x1.aFN⟩:M.World),aa.aFm))))))))))
def tA (p0:M.World) (p1:Int) (p2:ByteArray):Option (M.World×Int):=
 (eB p0).bind λx1=>((pW p0 p1).bind λx3=>((iJ p0).bind λx5=>(if (!x5)=true then (some (x1,(-1))) else (if (decide (x3<0))=true then (some (x1,(-1))) else ((idx p0.aFF x3).bind λx9=>((gB p0 x9 p2).bind λaa=>((hU x9 p2 aa).bind λae=>(if ae.2=true then ((idx x1.aFF x3).bind λaf=>(some ((⟨x1.Now,x1.aFW,x1.aFC,x1.aA,(List.set x1.aFF x3.toNat ae.1),x1.aFJ,x1.aFM,x1.aFB,x1.aFR,x1.aFN⟩:M.World),aa.aFm))) else (some (x1,aa.aFm))))))))))
def eD (p0:List M.aJ) (p1:List M.aJ) (p2:M.aJ->M.aJ->Option Bool):Nat->Int->Option Bool
 | 0,_=>none
 | ae+1,aa=>if (decide (aa<(List.length p0:Int)))=true then ((idx p0 aa).bind λx9=>((idx p1 aa).bind λaf=>((p2 x9 af).bind λah=>(if (!ah)=true then (some false) else (eD p0 p1 p2 ae (i64.wrap (aa+1))))))) else (some true)
def jX (p0:List M.aJ) (p1:List M.aJ) (p2:M.aJ->M.aJ->Option Bool):Option Bool:=
 if ((List.length p0:Int) != (List.length p1:Int))=true then (some false) else (eD p0 p1 p2 fuel 0)
def fA (p0:List M.aFE) (p1:List M.aFE) (p2:M.aFE->M.aFE->Option Bool):Nat->Int->Option Bool
 | 0,_=>none
 | ae+1,aa=>if (decide (aa<(List.length p0:Int)))=true then ((idx p0 aa).bind λx9=>((idx p1 aa).bind λaf=>((p2 x9 af).bind λah=>(if (!ah)=true then (some false) else (fA p0 p1 p2 ae (i64.wrap (aa+1))))))) else (some true)
def lD (p0:List M.aFE) (p1:List M.aFE) (p2:M.aFE->M.aFE->Option Bool):Option Bool:=
 if ((List.length p0:Int) != (List.length p1:Int))=true then (some false) else (fA p0 p1 p2 fuel 0)
def eE (p0:List M.aFL) (p1:List M.aFL) (p2:M.aFL->M.aFL->Option Bool):Nat->Int->Option Bool
 | 0,_=>none
 | ae+1,aa=>if (decide (aa<(List.length p0:Int)))=true then ((idx p0 aa).bind λx9=>((idx p1 aa).bind λaf=>((p2 x9 af).bind λah=>(if (!ah)=true then (some false) else (eE p0 p1 p2 ae (i64.wrap (aa+1))))))) else (some true)
def jW (p0:List M.aFL) (p1:List M.aFL) (p2:M.aFL->M.aFL->Option Bool):Option Bool:=
 if ((List.length p0:Int) != (List.length p1:Int))=true then (some false) else (eE p0 p1 p2 fuel 0)
def jR (p0:List Int) (p1:List Int):Nat->Int->Option Bool
 | 0,_=>none
 | ae+1,aa=>if (decide (aa<(List.length p0:Int)))=true then ((idx p0 aa).bind λx8=>((idx p1 aa).bind λaf=>(if (x8 != af)=true then (some false) else (jR p0 p1 ae (i64.wrap (aa+1)))))) else (some true)
def tI (p0:List Int) (p1:List Int):Option Bool:=
 if ((List.length p0:Int) != (List.length p1:Int))=true then (some false) else (jR p0 p1 fuel 0)
def sC (p0:List Int) (p1:List Int):Option Bool:=
 (tI p0 p1).bind λx1=>(some x1)
def oT (p0:M.aE9) (p1:M.aE9):Option Bool:=
 if (p0.aFu==p1.aFu)=true then (if (p0.aFm==p1.aFm)=true then (if (p0.aE3==p1.aE3)=true then ((sC p0.aFw p1.aFw).bind λx4=>(if x4=true then (some (p0.aFz==p1.aFz)) else (some false))) else (some false)) else (some false)) else (some false)
def pD (p0:M.aFL) (p1:M.aFL):Option Bool:=
 if (p0.aFD.toList==p1.aFD.toList)=true then (if (p0.aFo.toList==p1.aFo.toList)=true then ((oT p0.aE9 p1.aE9).bind λx3=>(some x3)) else (some false)) else (some false)
def pN (p0:M.aFE) (p1:M.aFE):Option Bool:=
 if (p0.aE3==p1.aE3)=true then ((jW p0.aFK p1.aFK (λz0 z1=>pD z0 z1)).bind λx2=>(some x2)) else (some false)
def oN (p0:M.aE) (p1:M.aE):Option Bool:=
 (lD p0.aE6 p1.aE6 (λz0 z1=>pN z0 z1)).bind λx1=>(some x1)
def eX (p0:List M.aC) (p1:List M.aC) (p2:M.aC->M.aC->Option Bool):Nat->Int->Option Bool
 | 0,_=>none
 | ae+1,aa=>if (decide (aa<(List.length p0:Int)))=true then ((idx p0 aa).bind λx9=>((idx p1 aa).bind λaf=>((p2 x9 af).bind λah=>(if (!ah)=true then (some false) else (eX p0 p1 p2 ae (i64.wrap (aa+1))))))) else (some true)
def lQ (p0:List M.aC) (p1:List M.aC) (p2:M.aC->M.aC->Option Bool):Option Bool:=
 if ((List.length p0:Int) != (List.length p1:Int))=true then (some false) else (eX p0 p1 p2 fuel 0)
def fN (p0:List M.aFP) (p1:List M.aFP) (p2:M.aFP->M.aFP->Option Bool):Nat->Int->Option Bool
 | 0,_=>none
 | ae+1,aa=>if (decide (aa<(List.length p0:Int)))=true then ((idx p0 aa).bind λx9=>((idx p1 aa).bind λaf=>((p2 x9 af).bind λah=>(if (!ah)=true then (some false) else (fN p0 p1 p2 ae (i64.wrap (aa+1))))))) else (some true)
def mB (p0:List M.aFP) (p1:List M.aFP) (p2:M.aFP->M.aFP->Option Bool):Option Bool:=
 if ((List.length p0:Int) != (List.length p1:Int))=true then (some false) else (fN p0 p1 p2 fuel 0)
def iY (p0:List M.Field) (p1:List M.Field):Nat->Int->Option Bool
 | 0,_=>none
 | af+1,aa=>if (decide (aa<(List.length p0:Int)))=true then ((idx p0 aa).bind λx8=>((idx p1 aa).bind λae=>(if (!((x8.Name.toList==ae.Name.toList)&&(x8.N==ae.N)))=true then (some false) else (iY p0 p1 af (i64.wrap (aa+1)))))) else (some true)
def rK (p0:List M.Field) (p1:List M.Field):Option Bool:=
 if ((List.length p0:Int) != (List.length p1:Int))=true then (some false) else (iY p0 p1 fuel 0)
def sS (p0:M.aD) (p1:M.aD):Option Bool:=
 (rK p0.aFA p1.aFA).bind λx1=>(some x1)
def sI (p0:M.aFP) (p1:M.aFP):Option Bool:=
 if ((p0.Key.aFU==p1.Key.aFU)&&((p0.Key.N==p1.Key.N)&&(p0.Key.aFb.toList==p1.Key.aFb.toList)))=true then ((sS p0.aD p1.aD).bind λx2=>(some x2)) else (some false)
def gQ (p0:M.aC) (p1:M.aC):Option Bool:=
 if (p0.Name.toList==p1.Name.toList)=true then (if (p0.aFZ==p1.aFZ)=true then ((mB p0.aE7 p1.aE7 (λz0 z1=>sI z0 z1)).bind λx3=>(some x3)) else (some false)) else (some false)
def fM (p0:List M.aN) (p1:List M.aN):Nat->Int->Option Bool
 | 0,_=>none
 | af+1,aa=>if (decide (aa<(List.length p0:Int)))=true then ((idx p0 aa).bind λx8=>((idx p1 aa).bind λae=>(if (!((x8.aC.toList==ae.aC.toList)&&(x8.Field.toList==ae.Field.toList)))=true then (some false) else (fM p0 p1 af (i64.wrap (aa+1)))))) else (some true)
def mN (p0:List M.aN) (p1:List M.aN):Option Bool:=
 if ((List.length p0:Int) != (List.length p1:Int))=true then (some false) else (fM p0 p1 fuel 0)
def oR (p0:M.aE5) (p1:M.aE5):Option Bool:=
 if (p0.Name.toList==p1.Name.toList)=true then (if (p0.aE3==p1.aE3)=true then ((lQ p0.aFH p1.aFH (λz0 z1=>gQ z0 z1)).bind λx3=>(if x3=true then ((mN p0.aFQ p1.aFQ).bind λx6=>(some x6)) else (some false))) else (some false)) else (some false)
def wK (p0:M.bV) (p1:M.bV):Option Bool:=
 (oR p0.aFT p1.aFT).bind λx1=>(if x1=true then ((sC p0.Log p1.Log).bind λx4=>(if x4=true then (some (p0.aFk==p1.aFk)) else (some false))) else (some false))
def iO (p0:List M.bD) (p1:List M.bD):Nat->Int->Option Bool
 | 0,_=>none
 | af+1,ae=>if (decide (ae<(List.length p0:Int)))=true then ((idx p0 ae).bind λx8=>((idx p1 ae).bind λaa=>(if (!((x8.aFC==aa.aFC)&&((x8.Seq==aa.Seq)&&((x8.Key.aFU==aa.Key.aFU)&&((x8.Key.N==aa.Key.N)&&((x8.Key.aFb.toList==aa.Key.aFb.toList)&&((x8.Field.toList==aa.Field.toList)&&(x8.N==aa.N))))))))=true then (some false) else (iO p0 p1 af (i64.wrap (ae+1)))))) else (some true)
def mU (p0:List M.bD) (p1:List M.bD):Option Bool:=
 if ((List.length p0:Int) != (List.length p1:Int))=true then (some false) else (iO p0 p1 fuel 0)
def rO (p0:M.aM) (p1:M.aM):Option Bool:=
 if (p0.aFC==p1.aFC)=true then (if (p0.aFd==p1.aFd)=true then ((mU p0.aFO p1.aFO).bind λx3=>(some x3)) else (some false)) else (some false)
def xB (p0:M.aFS) (p1:M.aFS):Option Bool:=
 (rO p0.aM p1.aM).bind λx1=>(if x1=true then (if (p0.aFi==p1.aFi)=true then (some (p0.aFX==p1.aFX)) else (some false)) else (some false))
def rF (p0:M.aG) (p1:M.aG):Option Bool:=
 (gQ p0.aFT p1.aFT).bind λx1=>(if x1=true then (if (p0.aFq==p1.aFq)=true then ((xB p0.aFS p1.aFS).bind λx5=>(some x5)) else (some false)) else (some false))
def nV (p0:M.aJ) (p1:M.aJ):Option Bool:=
 if (p0.aFD.toList==p1.aFD.toList)=true then (if (p0.Top.toList==p1.Top.toList)=true then (if ((p0.aE4.aFD.toList==p1.aE4.aFD.toList)&&((p0.aE4.aFY==p1.aE4.aFY)&&((p0.aE4.aFg==p1.aE4.aFg)&&(p0.aE4.aFl==p1.aE4.aFl))))=true then ((oN p0.aE6 p1.aE6).bind λx4=>(if x4=true then ((wK p0.bV p1.bV).bind λx7=>(if x7=true then ((rF p0.aG p1.aG).bind λaa=>(if aa=true then (if (p0.aFf==p1.aFf)=true then (some (p0.aFc==p1.aFc)) else (some false)) else (some false))) else (some false))) else (some false))) else (some false)) else (some false)) else (some false)
def rJ (p0:M.aA) (p1:M.aA):Option Bool:=
 (jX p0.aE8 p1.aE8 (λz0 z1=>nV z0 z1)).bind λx1=>(some x1)
def fP (p0:List M.bC) (p1:List M.bC) (p2:M.bC->M.bC->Option Bool):Nat->Int->Option Bool
 | 0,_=>none
 | ae+1,aa=>if (decide (aa<(List.length p0:Int)))=true then ((idx p0 aa).bind λx9=>((idx p1 aa).bind λaf=>((p2 x9 af).bind λah=>(if (!ah)=true then (some false) else (fP p0 p1 p2 ae (i64.wrap (aa+1))))))) else (some true)
def mA (p0:List M.bC) (p1:List M.bC) (p2:M.bC->M.bC->Option Bool):Option Bool:=
 if ((List.length p0:Int) != (List.length p1:Int))=true then (some false) else (fP p0 p1 p2 fuel 0)
def gX (p0:List M.aU) (p1:List M.aU):Nat->Int->Option Bool
 | 0,_=>none
 | af+1,aa=>if (decide (aa<(List.length p0:Int)))=true then ((idx p0 aa).bind λx8=>((idx p1 aa).bind λae=>(if (!((x8.aFo.toList==ae.aFo.toList)&&(x8.aE3==ae.aE3)))=true then (some false) else (gX p0 p1 af (i64.wrap (aa+1)))))) else (some true)
def oO (p0:List M.aU) (p1:List M.aU):Option Bool:=
 if ((List.length p0:Int) != (List.length p1:Int))=true then (some false) else (gX p0 p1 fuel 0)
def iT (p0:List M.Instr) (p1:List M.Instr):Nat->Int->Option Bool
 | 0,_=>none
 | af+1,aa=>if (decide (aa<(List.length p0:Int)))=true then ((idx p0 aa).bind λx8=>((idx p1 aa).bind λae=>(if (!((x8.aFU==ae.aFU)&&((x8.R==ae.R)&&((x8.N==ae.N)&&(x8.aFb.toList==ae.aFb.toList)))))=true then (some false) else (iT p0 p1 af (i64.wrap (aa+1)))))) else (some true)
def rH (p0:List M.Instr) (p1:List M.Instr):Option Bool:=
 if ((List.length p0:Int) != (List.length p1:Int))=true then (some false) else (iT p0 p1 fuel 0)
def lH (p0:List Int) (p1:List Int):Nat->Int->Option Bool
 | 0,_=>none
 | ae+1,aa=>if (decide (aa<(List.length p0:Int)))=true then ((idx p0 aa).bind λx8=>((idx p1 aa).bind λaf=>(if (x8 != af)=true then (some false) else (lH p0 p1 ae (i64.wrap (aa+1)))))) else (some true)
def uU (p0:List Int) (p1:List Int):Option Bool:=
 if ((List.length p0:Int) != (List.length p1:Int))=true then (some false) else (lH p0 p1 fuel 0)
def rE (p0:M.aFI) (p1:M.aFI):Option Bool:=
 (rH p0.aFn p1.aFn).bind λx1=>(if x1=true then (if (p0.Pc==p1.Pc)=true then ((uU p0.aFv p1.aFv).bind λx5=>(if x5=true then (if (p0.aFs==p1.aFs)=true then (if (p0.aF1==p1.aF1)=true then (some (p0.aF3==p1.aF3)) else (some false)) else (some false)) else (some false))) else (some false)) else (some false))
def gC (p0:M.bC) (p1:M.bC):Option Bool:=
 if (p0.Id==p1.Id)=true then (if (p0.aFD.toList==p1.aFD.toList)=true then (if (p0.Top.toList==p1.Top.toList)=true then (if (p0.aE3==p1.aE3)=true then ((oO p0.aU p1.aU).bind λx5=>(if x5=true then ((rE p0.aFI p1.aFI).bind λx8=>(some x8)) else (some false))) else (some false)) else (some false)) else (some false)) else (some false)
def jT (p0:List M.mZ) (p1:List M.mZ):Nat->Int->Option Bool
 | 0,_=>none
 | af+1,aa=>if (decide (aa<(List.length p0:Int)))=true then ((idx p0 aa).bind λx8=>((idx p1 aa).bind λae=>(if (!((x8.Name.toList==ae.Name.toList)&&((x8.bC==ae.bC)&&((x8.aFj==ae.aFj)&&(x8.aF0==ae.aF0)))))=true then (some false) else (jT p0 p1 af (i64.wrap (aa+1)))))) else (some true)
def sZ (p0:List M.mZ) (p1:List M.mZ):Option Bool:=
 if ((List.length p0:Int) != (List.length p1:Int))=true then (some false) else (jT p0 p1 fuel 0)
def jS (p0:List M.tB) (p1:List M.tB):Nat->Int->Option Bool
 | 0,_=>none
 | af+1,aa=>if (decide (aa<(List.length p0:Int)))=true then ((idx p0 aa).bind λx8=>((idx p1 aa).bind λae=>(if (!((x8.To==ae.To)&&((x8.aF5==ae.aF5)&&(x8.N==ae.N))))=true then (some false) else (jS p0 p1 af (i64.wrap (aa+1)))))) else (some true)
def tK (p0:List M.tB) (p1:List M.tB):Option Bool:=
 if ((List.length p0:Int) != (List.length p1:Int))=true then (some false) else (jS p0 p1 fuel 0)
def fO (p0:List M.aFD) (p1:List M.aFD) (p2:M.aFD->M.aFD->Option Bool):Nat->Int->Option Bool
 | 0,_=>none
 | ae+1,aa=>if (decide (aa<(List.length p0:Int)))=true then ((idx p0 aa).bind λx9=>((idx p1 aa).bind λaf=>((p2 x9 af).bind λah=>(if (!ah)=true then (some false) else (fO p0 p1 p2 ae (i64.wrap (aa+1))))))) else (some true)
def mM (p0:List M.aFD) (p1:List M.aFD) (p2:M.aFD->M.aFD->Option Bool):Option Bool:=
 if ((List.length p0:Int) != (List.length p1:Int))=true then (some false) else (fO p0 p1 p2 fuel 0)
def gW (p0:List ByteArray) (p1:List ByteArray):Nat->Int->Option Bool
 | 0,_=>none
 | ae+1,aa=>if (decide (aa<(List.length p0:Int)))=true then ((idx p0 aa).bind λx8=>((idx p1 aa).bind λaf=>(if (!(x8.toList==af.toList))=true then (some false) else (gW p0 p1 ae (i64.wrap (aa+1)))))) else (some true)
def oP (p0:List ByteArray) (p1:List ByteArray):Option Bool:=
 if ((List.length p0:Int) != (List.length p1:Int))=true then (some false) else (gW p0 p1 fuel 0)
def nQ (p0:M.aFD) (p1:M.aFD):Option Bool:=
 if (p0.Name.toList==p1.Name.toList)=true then (if (p0.aE3==p1.aE3)=true then ((oP p0.aFe p1.aFe).bind λx3=>(if x3=true then (some (p0.aFj==p1.aFj)) else (some false))) else (some false)) else (some false)
def eC (p0:List M.aFG) (p1:List M.aFG) (p2:M.aFG->M.aFG->Option Bool):Nat->Int->Option Bool
 | 0,_=>none
 | ae+1,aa=>if (decide (aa<(List.length p0:Int)))=true then ((idx p0 aa).bind λx9=>((idx p1 aa).bind λaf=>((p2 x9 af).bind λah=>(if (!ah)=true then (some false) else (eC p0 p1 p2 ae (i64.wrap (aa+1))))))) else (some true)
def jZ (p0:List M.aFG) (p1:List M.aFG) (p2:M.aFG->M.aFG->Option Bool):Option Bool:=
 if ((List.length p0:Int) != (List.length p1:Int))=true then (some false) else (eC p0 p1 p2 fuel 0)
def gG (p0:List M.aO) (p1:List M.aO):Nat->Int->Option Bool
 | 0,_=>none
 | af+1,aa=>if (decide (aa<(List.length p0:Int)))=true then ((idx p0 aa).bind λx8=>((idx p1 aa).bind λae=>(if (!((x8.aFC==ae.aFC)&&(x8.Seq==ae.Seq)))=true then (some false) else (gG p0 p1 af (i64.wrap (aa+1)))))) else (some true)
def nF (p0:List M.aO) (p1:List M.aO):Option Bool:=
 if ((List.length p0:Int) != (List.length p1:Int))=true then (some false) else (gG p0 p1 fuel 0)
def oE (p0:M.aFG) (p1:M.aFG):Option Bool:=
 (gQ p0.aC p1.aC).bind λx1=>(if x1=true then ((nF p0.aO p1.aO).bind λx4=>(if x4=true then ((mU p0.aFV p1.aFV).bind λx7=>(some x7)) else (some false))) else (some false))
def pJ (p0:M.World) (p1:M.World):Option Bool:=
 if (p0.Now==p1.Now)=true then (if (p0.aFW==p1.aFW)=true then (if (p0.aFC==p1.aFC)=true then ((rJ p0.aA p1.aA).bind λx4=>(if x4=true then ((mA p0.aFF p1.aFF (λz0 z1=>gC z0 z1)).bind λx7=>(if x7=true then (if (p0.aFJ==p1.aFJ)=true then ((sZ p0.aFM.aFM p1.aFM.aFM).bind λaa=>(if aa=true then ((tK p0.aFB.aFa p1.aFB.aFa).bind λae=>(if ae=true then ((mM p0.aFR p1.aFR (λz0 z1=>nQ z0 z1)).bind λaf=>(if af=true then ((jZ p0.aFN p1.aFN (λz0 z1=>oE z0 z1)).bind λah=>(some ah)) else (some false))) else (some false))) else (some false))) else (some false)) else (some false))) else (some false))) else (some false)) else (some false)) else (some false)
def vD (p0:M.bC) (c0:Int):Option Bool:=
 some (p0.Id==c0)
def Ax (p0:M.bC) (p1:M.bC):Option Bool:=
 if (p0.aFD.toList==p1.aFD.toList)=true then (if (p0.Top.toList==p1.Top.toList)=true then (some (p0.Id != p1.Id)) else (some false)) else (some false)
def jM (p0:M.aFB) (p1:Int):Nat->Int->List M.tB->Option (List M.tB)
 | 0,_,_=>none
 | af+1,aa,r8=>if (decide (aa<(List.length p0.aFa:Int)))=true then ((idx p0.aFa aa).bind λae=>(if (ae.To==p1)=true then ((app 24 r8 ([ae])).bind λah=>(jM p0 p1 af (i64.wrap (aa+1)) (r8++[ae]))) else (jM p0 p1 af (i64.wrap (aa+1)) r8))) else (some r8)
def zF (p0:M.aFB) (p1:Int):Option (List M.tB):=
 jM p0 p1 fuel 0 ([]:List M.tB)
def dE (p1:List M.bC) (p2:Int) (p3:Int) (x3:Int):Nat->Int->Int->List M.tB->Option (M.aFB×Int)
 | 0,_,_,_=>none
 | ai+1,af,ae,aa=>if (decide (ae<(List.length p1:Int)))=true then ((idx p1 ae).bind λah=>((idx p1 x3).bind λaj=>((Ax aj ah).bind λak=>(if ak=true then ((zF (⟨aa⟩:M.aFB) ah.Id).bind λal=>(if (decide ((List.length al:Int)<5))=true then ((app 24 aa ([(⟨ah.Id,p2,p3⟩:M.tB)])).bind λao=>(dE p1 p2 p3 x3 ai (i64.wrap (af+1)) (i64.wrap (ae+1)) (aa++[(⟨ah.Id,p2,p3⟩:M.tB)]))) else (dE p1 p2 p3 x3 ai af (i64.wrap (ae+1)) aa))) else (dE p1 p2 p3 x3 ai af (i64.wrap (ae+1)) aa))))) else (some ((⟨aa⟩:M.aFB),af))
def yG (p0:M.aFB) (p1:List M.bC) (p2:Int) (p3:Int):Option (M.aFB×Int):=
 (jO p0).bind λx1=>((fY p1 (λz0=>vD z0 p2)).bind λx3=>(if (decide (x3<0))=true then (some (x1,0)) else (dE p1 p2 p3 x3 fuel 0 0 x1.aFa)))
def yV (p0:M.World) (p1:Int) (p2:Int):Option (M.World×Int):=
 (uE p0).bind λx1=>((vM p0).bind λx3=>(if (!x3)=true then (some (x1,0)) else ((uI p0 p1).bind λx6=>(if (decide (x6<0))=true then (some (x1,0)) else ((yG p0.aFB p0.aFF p1 p2).bind λx9=>(some ((⟨x1.Now,x1.aFW,x1.aFC,x1.aA,x1.aFF,x1.aFJ,x1.aFM,x9.1,x1.aFR,x1.aFN⟩:M.World),x9.2)))))))
def iP (p0:M.World) (p1:ByteArray) (p2:ByteArray):Nat->Int->List M.bC->Option (List M.bC)
 | 0,_,_=>none
 | af+1,aa,ae=>if (decide (aa<(List.length p0.aFF:Int)))=true then ((idx p0.aFF aa).bind λah=>(if (ah.aFD.toList==p1.toList)=true then (if (ah.Top.toList==p2.toList)=true then ((iG ah).bind λai=>((app 144 ae ([ai])).bind λaj=>(iP p0 p1 p2 af (i64.wrap (aa+1)) (ae++[ai])))) else (iP p0 p1 p2 af (i64.wrap (aa+1)) ae)) else (iP p0 p1 p2 af (i64.wrap (aa+1)) ae))) else (some ae)
def At (p0:M.World) (p1:ByteArray) (p2:ByteArray):Option (List M.bC):=
 iP p0 p1 p2 fuel 0 ([]:List M.bC)
def fQ (x4:(M.World×Int×ByteArray)) (x6:(M.World×Int)) (af:Int):Nat->Int->Option Bool
 | 0,_=>none
 | al+1,v11=>(idx x6.1.aFF af).bind λak=>(if (decide (v11<(List.length ak.aU:Int)))=true then ((idx ak.aU v11).bind λao=>((idx x4.1.aFF af).bind λah=>(if (ao.aE3 != ah.aE3)=true then (some false) else (fQ x4 x6 af al (i64.wrap (v11+1)))))) else ((yV x4.1 x4.2.1 3).bind λaa=>((idx x4.1.aFF af).bind λae=>((At x4.1 ae.aFD ae.Top).bind λai=>((if (decide (aa.2<=(i64.wrap ((List.length ai:Int)-1))))=true then (some (decide (aa.2>=0))) else (some false)).bind λaj=>(some aj))))))
def rL (p0:List Int):Option Bool:=
 (FC p0).bind λx1=>(if x1=true then (some true) else ((mE p0).bind λx4=>((tD x4.1 x4.2.1 x4.2.2).bind λx6=>((tA x4.1 x4.2.1 x4.2.2).bind λx8=>((if (x6.2 != x8.2)=true then (some true) else ((pJ x6.1 x8.1).bind λae=>(some (!ae)))).bind λaf=>(if af=true then (some false) else ((pW x4.1 x4.2.1).bind λaa=>((if (decide (aa<0))=true then (some true) else ((iJ x4.1).bind λah=>(some (!ah)))).bind λai=>(if ai=true then ((if (x6.2==(-1))=true then ((pJ x6.1 x4.1).bind λaj=>(some aj)) else (some false)).bind λak=>(some ak)) else (fQ x4 x6 aa fuel 0))))))))))
end Go.Proofs.YtipmihbgjolaaaaGreat.gen
