/-
  Helper text. No conditions.
-/
import Derived.Test.YtipmihbgjolaaaaGreatWorldsShT
set_option linter.unusedVariables false
set_option linter.unusedSimpArgs false
namespace Go.Proofs.YtipmihbgjolaaaaGreat.gen
open Go Go.Sh
open Go.IntKind (i64)
structure M.aQ where
 b:List Int
 i:Int
 h:Int
def M.aQ.en (x:M.aQ):List D:=[.sl (List.map enB x.b),.int .i64 x.i,.int .i64 x.h]
structure M.aAC where
 aAO:ByteArray
 aAc:Int
 aAl:Int
 aAr:Int
def M.aAC.en (x:M.aAC):List D:=[.str x.aAO,.int .i64 x.aAc,.int .i64 x.aAl,.int .i64 x.aAr]
theorem M.aAC.en.fl (l:List M.aAC):(List.map M.aAC.en l).all (λy=>y.all D.flat)=true:=C0 (λ_=>rfl) l
structure M.aAM where
 aA0:Int
 aAw:Int
 aAB:Int
 aA4:List Int
 aA9:Bool
def M.aAM.en (x:M.aAM):List D:=[.int .i64 x.aA0,.int .i64 x.aAw,.int .i64 x.aAB,.sl (List.map enB x.aA4),.bool x.aA9]
structure M.aAR where
 aAO:ByteArray
 aAs:ByteArray
 aAM:M.aAM
def M.aAR.en (x:M.aAR):List D:=[.str x.aAO,.str x.aAs,.int .i64 x.aAM.aA0,.int .i64 x.aAM.aAw,.int .i64 x.aAM.aAB,.sl (List.map enB x.aAM.aA4),.bool x.aAM.aA9]
structure M.aAL where
 aAB:Int
 aAN:List M.aAR
def M.aAL.en (x:M.aAL):List D:=[.int .i64 x.aAB,.sl (List.map M.aAR.en x.aAN)]
structure M.aF where
 aAE:List M.aAL
def M.aF.en (x:M.aF):List D:=[.sl (List.map M.aAL.en x.aAE)]
structure M.Key where
 aAV:Int
 N:Int
 aAf:ByteArray
def M.Key.en (x:M.Key):List D:=[.int .i64 x.aAV,.int .i64 x.N,.str x.aAf]
theorem M.Key.en.fl (l:List M.Key):(List.map M.Key.en l).all (λy=>y.all D.flat)=true:=C0 (λ_=>rfl) l
structure M.Field where
 Name:ByteArray
 N:Int
def M.Field.en (x:M.Field):List D:=[.str x.Name,.int .i64 x.N]
theorem M.Field.en.fl (l:List M.Field):(List.map M.Field.en l).all (λy=>y.all D.flat)=true:=C0 (λ_=>rfl) l
structure M.aC where
 aAF:List M.Field
def M.aC.en (x:M.aC):List D:=[.sl (List.map M.Field.en x.aAF)]
structure M.aAQ where
 Key:M.Key
 aC:M.aC
def M.aAQ.en (x:M.aAQ):List D:=[.int .i64 x.Key.aAV,.int .i64 x.Key.N,.str x.Key.aAf,.sl (List.map M.Field.en x.aC.aAF)]
structure M.aA where
 Name:ByteArray
 aAD:List M.aAQ
 aAd:Int
def M.aA.en (x:M.aA):List D:=[.str x.Name,.sl (List.map M.aAQ.en x.aAD),.int .i64 x.aAd]
structure M.aN where
 aA:ByteArray
 Field:ByteArray
def M.aN.en (x:M.aN):List D:=[.str x.aA,.str x.Field]
theorem M.aN.en.fl (l:List M.aN):(List.map M.aN.en l).all (λy=>y.all D.flat)=true:=C0 (λ_=>rfl) l
structure M.aAA where
 Name:ByteArray
 aAB:Int
 aAH:List M.aA
 aAS:List M.aN
def M.aAA.en (x:M.aAA):List D:=[.str x.Name,.int .i64 x.aAB,.sl (List.map M.aA.en x.aAH),.sl (List.map M.aN.en x.aAS)]
structure M.cR where
 aAU:M.aAA
 Log:List Int
 aAn:Int
def M.cR.en (x:M.cR):List D:=[.str x.aAU.Name,.int .i64 x.aAU.aAB,.sl (List.map M.aA.en x.aAU.aAH),.sl (List.map M.aN.en x.aAU.aAS),.sl (List.map enB x.Log),.int .i64 x.aAn]
structure M.bA where
 aAK:Int
 Seq:Int
 Key:M.Key
 Field:ByteArray
 N:Int
def M.bA.en (x:M.bA):List D:=[.int .i64 x.aAK,.int .i64 x.Seq,.int .i64 x.Key.aAV,.int .i64 x.Key.N,.str x.Key.aAf,.str x.Field,.int .i64 x.N]
theorem M.bA.en.fl (l:List M.bA):(List.map M.bA.en l).all (λy=>y.all D.flat)=true:=C0 (λ_=>rfl) l
structure M.aH where
 aAK:Int
 aAh:Int
 aAP:List M.bA
def M.aH.en (x:M.aH):List D:=[.int .i64 x.aAK,.int .i64 x.aAh,.sl (List.map M.bA.en x.aAP)]
structure M.aAT where
 aH:M.aH
 aAm:Int
 aAb:Int
def M.aAT.en (x:M.aAT):List D:=[.int .i64 x.aH.aAK,.int .i64 x.aH.aAh,.sl (List.map M.bA.en x.aH.aAP),.int .i64 x.aAm,.int .i64 x.aAb]
structure M.aG where
 aAU:M.aA
 aAu:Int
 aAT:M.aAT
def M.aG.en (x:M.aG):List D:=[.str x.aAU.Name,.sl (List.map M.aAQ.en x.aAU.aAD),.int .i64 x.aAU.aAd,.int .i64 x.aAu,.int .i64 x.aAT.aH.aAK,.int .i64 x.aAT.aH.aAh,.sl (List.map M.bA.en x.aAT.aH.aAP),.int .i64 x.aAT.aAm,.int .i64 x.aAT.aAb]
structure M.aO where
 aAO:ByteArray
 Top:ByteArray
 aAC:M.aAC
 aAE:M.aF
 cR:M.cR
 aG:M.aG
 aAk:Int
 aAj:Bool
def M.aO.en (x:M.aO):List D:=[.str x.aAO,.str x.Top,.str x.aAC.aAO,.int .i64 x.aAC.aAc,.int .i64 x.aAC.aAl,.int .i64 x.aAC.aAr,.sl (List.map M.aAL.en x.aAE.aAE),.str x.cR.aAU.Name,.int .i64 x.cR.aAU.aAB,.sl (List.map M.aA.en x.cR.aAU.aAH),.sl (List.map M.aN.en x.cR.aAU.aAS),.sl (List.map enB x.cR.Log),.int .i64 x.cR.aAn,.str x.aG.aAU.Name,.sl (List.map M.aAQ.en x.aG.aAU.aAD),.int .i64 x.aG.aAU.aAd,.int .i64 x.aG.aAu,.int .i64 x.aG.aAT.aH.aAK,.int .i64 x.aG.aAT.aH.aAh,.sl (List.map M.bA.en x.aG.aAT.aH.aAP),.int .i64 x.aG.aAT.aAm,.int .i64 x.aG.aAT.aAb,.int .i64 x.aAk,.bool x.aAj]
structure M.aJ where
 aAG:List M.aO
def M.aJ.en (x:M.aJ):List D:=[.sl (List.map M.aO.en x.aAG)]
structure M.aU where
 aAs:ByteArray
 aAB:Int
def M.aU.en (x:M.aU):List D:=[.str x.aAs,.int .i64 x.aAB]
theorem M.aU.en.fl (l:List M.aU):(List.map M.aU.en l).all (λy=>y.all D.flat)=true:=C0 (λ_=>rfl) l
structure M.Instr where
 aAV:Int
 R:Int
 N:Int
 aAf:ByteArray
def M.Instr.en (x:M.Instr):List D:=[.int .i64 x.aAV,.int .i64 x.R,.int .i64 x.N,.str x.aAf]
theorem M.Instr.en.fl (l:List M.Instr):(List.map M.Instr.en l).all (λy=>y.all D.flat)=true:=C0 (λ_=>rfl) l
structure M.aAJ where
 aAp:List M.Instr
 Pc:Int
 aA1:List Int
 aAy:Int
 aA6:Bool
 aA7:Bool
def M.aAJ.en (x:M.aAJ):List D:=[.sl (List.map M.Instr.en x.aAp),.int .i64 x.Pc,.sl (List.map enI x.aA1),.int .i64 x.aAy,.bool x.aA6,.bool x.aA7]
structure M.bV where
 Id:Int
 aAO:ByteArray
 Top:ByteArray
 aAB:Int
 aU:List M.aU
 aAJ:M.aAJ
def M.bV.en (x:M.bV):List D:=[.int .i64 x.Id,.str x.aAO,.str x.Top,.int .i64 x.aAB,.sl (List.map M.aU.en x.aU),.sl (List.map M.Instr.en x.aAJ.aAp),.int .i64 x.aAJ.Pc,.sl (List.map enI x.aAJ.aA1),.int .i64 x.aAJ.aAy,.bool x.aAJ.aA6,.bool x.aAJ.aA7]
structure M.tV where
 Name:ByteArray
 bV:Int
 aAt:Bool
 aBA:Bool
def M.tV.en (x:M.tV):List D:=[.str x.Name,.int .i64 x.bV,.bool x.aAt,.bool x.aBA]
theorem M.tV.en.fl (l:List M.tV):(List.map M.tV.en l).all (λy=>y.all D.flat)=true:=C0 (λ_=>rfl) l
structure M.cH where
 aAW:List M.tV
def M.cH.en (x:M.cH):List D:=[.sl (List.map M.tV.en x.aAW)]
structure M.xV where
 To:Int
 aBC:Int
 N:Int
def M.xV.en (x:M.xV):List D:=[.int .i64 x.To,.int .i64 x.aBC,.int .i64 x.N]
theorem M.xV.en.fl (l:List M.xV):(List.map M.xV.en l).all (λy=>y.all D.flat)=true:=C0 (λ_=>rfl) l
structure M.aAa where
 aAx:List M.xV
def M.aAa.en (x:M.aAa):List D:=[.sl (List.map M.xV.en x.aAx)]
structure M.aAO where
 Name:ByteArray
 aAB:Int
 aAo:List ByteArray
 aAt:Bool
def M.aAO.en (x:M.aAO):List D:=[.str x.Name,.int .i64 x.aAB,.sl (List.map enS x.aAo),.bool x.aAt]
structure M.aK where
 aAK:Int
 Seq:Int
def M.aK.en (x:M.aK):List D:=[.int .i64 x.aAK,.int .i64 x.Seq]
theorem M.aK.en.fl (l:List M.aK):(List.map M.aK.en l).all (λy=>y.all D.flat)=true:=C0 (λ_=>rfl) l
structure M.aAI where
 aA:M.aA
 aK:List M.aK
 aAZ:List M.bA
def M.aAI.en (x:M.aAI):List D:=[.str x.aA.Name,.sl (List.map M.aAQ.en x.aA.aAD),.int .i64 x.aA.aAd,.sl (List.map M.aK.en x.aK),.sl (List.map M.bA.en x.aAZ)]
structure M.World where
 Now:Int
 aAi:Bool
 aAK:Int
 aJ:M.aJ
 aAX:List M.bV
 aAg:Int
 aAW:M.cH
 aAa:M.aAa
 aAe:List M.aAO
 aAY:List M.aAI
def M.World.en (x:M.World):List D:=[.int .i64 x.Now,.bool x.aAi,.int .i64 x.aAK,.sl (List.map M.aO.en x.aJ.aAG),.sl (List.map M.bV.en x.aAX),.int .i64 x.aAg,.sl (List.map M.tV.en x.aAW.aAW),.sl (List.map M.xV.en x.aAa.aAx),.sl (List.map M.aAO.en x.aAe),.sl (List.map M.aAI.en x.aAY)]
structure M.Op where
 aAV:Int
 aA:ByteArray
 Key:M.Key
 aC:M.aC
 Field:ByteArray
def M.Op.en (x:M.Op):List D:=[.int .i64 x.aAV,.str x.aA,.int .i64 x.Key.aAV,.int .i64 x.Key.N,.str x.Key.aAf,.sl (List.map M.Field.en x.aC.aAF),.str x.Field]
structure M.fI where
 aA8:Bool
 aAv:Bool
 Low:M.Key
 aA3:M.Key
def M.fI.en (x:M.fI):List D:=[.bool x.aA8,.bool x.aAv,.int .i64 x.Low.aAV,.int .i64 x.Low.N,.str x.Low.aAf,.int .i64 x.aA3.aAV,.int .i64 x.aA3.N,.str x.aA3.aAf]
theorem M.fI.en.fl (l:List M.fI):(List.map M.fI.en l).all (λy=>y.all D.flat)=true:=C0 (λ_=>rfl) l
structure M.iW where
 aAV:Int
 aA:ByteArray
 Field:ByteArray
def M.iW.en (x:M.iW):List D:=[.int .i64 x.aAV,.str x.aA,.str x.Field]
theorem M.iW.en.fl (l:List M.iW):(List.map M.iW.en l).all (λy=>y.all D.flat)=true:=C0 (λ_=>rfl) l
def CW (p0:List Int):Option Bool:=
 some (decide ((List.length p0:Int)>1048576))
set_option maxRecDepth 40000 in
def kP (p0:List Int):Nat->Int->Int->Option M.aQ
 | 0,_,_=>none
 | aa+1,v3,v4=>if (decide (v4<(List.length p0:Int)))=true then (if (decide (v4<4000))=true then ((idx p0 v4).bind λx7=>(kP p0 aa (i64.wrap (BitVec.ofInt (IntKind.i64.bits) (i64.wrap ((i64.wrap ((i64.wrap (v3*137))+(i64.wrap x7)))+11))&&&BitVec.ofInt (IntKind.i64.bits) 1073741823).toNat) (i64.wrap (v4+1)))) else (some (⟨p0,0,v3⟩:M.aQ))) else (some (⟨p0,0,v3⟩:M.aQ))
set_option maxRecDepth 40000 in
theorem MU:type_of% @kP.eq_2:=@kP.eq_2
def vC (p0:List Int):Option M.aQ:=
 kP p0 fuel (i64.wrap (193017+(List.length p0:Int))) 0
def oH (p0:M.aQ):Option (Int×Int×Int):=
 if (decide (p0.i<(List.length p0.b:Int)))=true then ((idx p0.b p0.i).bind λx5=>(some ((i64.wrap (p0.i+1)),(i64.wrap ((i64.wrap (p0.h*6364136223846793005))+1442695040888963407)),(i64.wrap (BitVec.ofInt (IntKind.i64.bits) (i64.wrap ((i64.wrap (BitVec.ofInt (IntKind.i64.bits) (i64.wrap (BitVec.ofInt (IntKind.i64.bits) (Int.fdiv (i64.wrap ((i64.wrap (p0.h*6364136223846793005))+1442695040888963407)) (2^(min (33:Int).toNat IntKind.i64.bits))) ^^^ BitVec.ofInt (IntKind.i64.bits) (Int.fdiv (i64.wrap ((i64.wrap (p0.h*6364136223846793005))+1442695040888963407)) (2^(min (47:Int).toNat IntKind.i64.bits)))).toNat)&&&BitVec.ofInt (IntKind.i64.bits) 255).toNat)+(i64.wrap x5)))&&&BitVec.ofInt (IntKind.i64.bits) 255).toNat)))) else (some (p0.i,(i64.wrap ((i64.wrap (p0.h*6364136223846793005))+1442695040888963407)),(i64.wrap (BitVec.ofInt (IntKind.i64.bits) (i64.wrap (BitVec.ofInt (IntKind.i64.bits) (Int.fdiv (i64.wrap ((i64.wrap (p0.h*6364136223846793005))+1442695040888963407)) (2^(min (33:Int).toNat IntKind.i64.bits))) ^^^ BitVec.ofInt (IntKind.i64.bits) (Int.fdiv (i64.wrap ((i64.wrap (p0.h*6364136223846793005))+1442695040888963407)) (2^(min (47:Int).toNat IntKind.i64.bits)))).toNat)&&&BitVec.ofInt (IntKind.i64.bits) 255).toNat)))
def aE (p0:M.aQ) (p1:Int):Option (Int×Int×Int):=
 if (decide (p1<=0))=true then (some (p0.i,p0.h,0)) else (if (decide (p1<=256))=true then ((oH p0).bind λx7=>(if (decide (p1=0))=true then none else (some (x7.1,x7.2.1,(Int.tmod x7.2.2 p1))))) else ((oH p0).bind λaa=>((oH (⟨p0.b,aa.1,aa.2.1⟩:M.aQ)).bind λae=>((oH (⟨p0.b,ae.1,ae.2.1⟩:M.aQ)).bind λaf=>(if (decide (p1=0))=true then none else (some (af.1,af.2.1,(Int.tmod (i64.wrap ((i64.wrap ((i64.wrap (aa.2.2*65536))+(i64.wrap (ae.2.2*256))))+af.2.2)) p1))))))))
def bE (p0:M.aQ) (p1:List Int):Option (Int×Int×Int):=
 (aE p0 (List.length p1:Int)).bind λx5=>((idx p1 x5.2.2).bind λx7=>(some (x5.1,x5.2.1,x7)))
def pK (p0:List Int):Option Int:=
 (vC p0).bind λx1=>((bE x1 ([0,1,7,1000000,1000001])).bind λx6=>(some x6.2.2))
def aW (p0:Int) (p1:Int) (p2:Int):Option Bool:=
 if (decide (p1<=p0))=true then (some (decide (p0<=p2))) else (some false)
def rO (p0:Int):Nat->Int->List M.aAO->List M.aAI->Option M.World
 | 0,_,_,_=>none
 | ai+1,ah,aa,ae=>if (decide (ah<((3:Nat):Int)))=true then ((idx ([(⟨#[98,97,110,107]⟩:ByteArray),(⟨#[110,101,119,115]⟩:ByteArray),(⟨#[115,104,111,112]⟩:ByteArray)]) ah).bind λaf=>((app 56 aa ([(⟨af,1,[(⟨#[99,111,100,101]⟩:ByteArray),(⟨#[100,97,116,97]⟩:ByteArray),(⟨#[105,110,100,101,120]⟩:ByteArray),(⟨#[115,116,121,108,101]⟩:ByteArray)],(af.toList==(⟨#[110,101,119,115]⟩:ByteArray).toList)⟩:M.aAO)])).bind λaj=>((app 96 ae ([(⟨(⟨(⟨#[110,111,116,101,115]⟩:ByteArray),([]:List M.aAQ),0⟩:M.aA),([]:List M.aK),([]:List M.bA)⟩:M.aAI)])).bind λak=>(rO p0 ai (i64.wrap (ah+1)) (aa++[(⟨af,1,[(⟨#[99,111,100,101]⟩:ByteArray),(⟨#[100,97,116,97]⟩:ByteArray),(⟨#[105,110,100,101,120]⟩:ByteArray),(⟨#[115,116,121,108,101]⟩:ByteArray)],(af.toList==(⟨#[110,101,119,115]⟩:ByteArray).toList)⟩:M.aAO)]) (ae++[(⟨(⟨(⟨#[110,111,116,101,115]⟩:ByteArray),([]:List M.aAQ),0⟩:M.aA),([]:List M.aK),([]:List M.bA)⟩:M.aAI)]))))) else (some (⟨0,true,p0,(⟨([]:List M.aO)⟩:M.aJ),([]:List M.bV),1,(⟨([]:List M.tV)⟩:M.cH),(⟨([]:List M.xV)⟩:M.aAa),aa,ae⟩:M.World))
def vW (p0:Int):Option M.World:=
 (aW p0 1 1000000).bind λx1=>(if (!x1)=true then (some (⟨0,false,0,(⟨([]:List M.aO)⟩:M.aJ),([]:List M.bV),0,(⟨([]:List M.tV)⟩:M.cH),(⟨([]:List M.xV)⟩:M.aAa),([]:List M.aAO),([]:List M.aAI)⟩:M.World)) else (rO p0 fuel 0 ([]:List M.aAO) ([]:List M.aAI)))
def gN (p0:ByteArray) (p1:Int) (p2:Bool):Nat->Int->Option Bool
 | 0,_=>none
 | aa+1,v7=>if (decide (v7<(p0.size:Int)))=true then ((R5 p0 v7).bind λx7=>(if (decide ((x7.toNat:Int)>=97))=true then (if (decide ((x7.toNat:Int)<=122))=true then (gN p0 p1 p2 aa (i64.wrap (v7+1))) else (if p2=true then (if (!((x7.toNat:Int)==47))=true then (some false) else (gN p0 p1 p2 aa (i64.wrap (v7+1)))) else (some false))) else (if p2=true then (if (!((x7.toNat:Int)==47))=true then (some false) else (gN p0 p1 p2 aa (i64.wrap (v7+1)))) else (some false)))) else ((aW (p0.size:Int) 1 p1).bind λae=>(some ae))
def wC (p0:ByteArray) (p1:Int) (p2:Bool):Option Bool:=
 gN p0 p1 p2 fuel 0
def cC (p0:ByteArray):Option Bool:=
 (wC p0 8 false).bind λx1=>(some x1)
def dC (p0:M.aAC):Nat->Int->Int->Option Bool
 | 0,_,_=>none
 | af+1,v3,ae=>if (decide (ae<((3:Nat):Int)))=true then ((idx ([p0.aAr,p0.aAl,p0.aAc]) ae).bind λaa=>((aW aa 0 1000000000000).bind λah=>(if (!ah)=true then (some false) else (if (aa != 0)=true then (if (decide (aa<=v3))=true then (some false) else (dC p0 af (if aa>v3 then aa else v3) (i64.wrap (ae+1)))) else (dC p0 af (if aa>v3 then aa else v3) (i64.wrap (ae+1))))))) else ((cC p0.aAO).bind λai=>(some ai))
def rV (p0:M.aAC):Option Bool:=
 dC p0 fuel 0 0
def uA (p0:M.aAR) (c0:ByteArray) (c1:ByteArray):Option Bool:=
 if (p0.aAO.toList==c0.toList)=true then (some (p0.aAs.toList==c1.toList)) else (some false)
def cU (p0:List M.aAR) (p1:M.aAR->Option Bool):Nat->Int->Option Int
 | 0,_=>none
 | aa+1,v8=>if (decide (v8<(List.length p0:Int)))=true then ((idx p0 v8).bind λx7=>((p1 x7).bind λae=>(if ae=true then (some v8) else (cU p0 p1 aa (i64.wrap (v8+1)))))) else (some (-1))
def iN (p0:List M.aAR) (p1:M.aAR->Option Bool):Option Int:=
 cU p0 p1 fuel 0
def uP (p0:M.aAL) (p1:ByteArray) (p2:ByteArray):Option Int:=
 (iN p0.aAN (λz0=>uA z0 p1 p2)).bind λx1=>(some x1)
def oM (p0:M.aAM):Option Bool:=
 (aW p0.aA0 1 4).bind λx1=>(if x1=true then ((aW p0.aAw 0 999).bind λx4=>(if x4=true then ((aW p0.aAB 0 1000000000000).bind λx7=>(if x7=true then (some (decide ((List.length p0.aA4:Int)<=60))) else (some false))) else (some false))) else (some false))
def eF (x8:M.aAL) (af:Int->Option Bool):Nat->Int->Option Bool
 | 0,_=>none
 | ah+1,aa=>if (decide (aa<(List.length x8.aAN:Int)))=true then ((idx x8.aAN aa).bind λae=>((cC ae.aAO).bind λai=>(if (!ai)=true then (some false) else ((cC ae.aAs).bind λaj=>(if (!aj)=true then (some false) else ((uP x8 ae.aAO ae.aAs).bind λak=>(if (ak != aa)=true then (some false) else ((oM ae.aAM).bind λal=>(if (!al)=true then (some false) else (eF x8 af ah (i64.wrap (aa+1)))))))))))) else (af aa)
def dV (x8:M.aAL) (af:Int->Option Bool):Nat->Int->Option Bool
 | 0,_=>none
 | ah+1,aa=>if (decide (aa<(List.length x8.aAN:Int)))=true then ((idx x8.aAN aa).bind λae=>((cC ae.aAO).bind λai=>(if (!ai)=true then (some false) else ((cC ae.aAs).bind λaj=>(if (!aj)=true then (some false) else ((uP x8 ae.aAO ae.aAs).bind λak=>(if (ak != aa)=true then (some false) else ((oM ae.aAM).bind λal=>(if (!al)=true then (some false) else (dV x8 af ah (i64.wrap (aa+1)))))))))))) else (af aa)
def eE (p0:M.aF):Nat->Int->Option Bool
 | 0,_=>none
 | af+1,v10=>if (decide (v10<(List.length p0.aAE:Int)))=true then ((idx p0.aAE v10).bind λx8=>((aW x8.aAB 1 1000000000000).bind λah=>(if (!ah)=true then (some false) else (if (decide (v10>0))=true then ((idx p0.aAE (i64.wrap (v10-1))).bind λai=>(if (decide (x8.aAB<=ai.aAB))=true then (some false) else (if (decide ((List.length x8.aAN:Int)>12))=true then (some false) else (eF x8 (λ(aa:Int)=>eE p0 af (i64.wrap (v10+1))) fuel 0)))) else (if (decide ((List.length x8.aAN:Int)>12))=true then (some false) else (dV x8 (λ(ae:Int)=>eE p0 af (i64.wrap (v10+1))) fuel 0)))))) else (some (decide ((List.length p0.aAE:Int)<=4)))
def sP (p0:M.aF):Option Bool:=
 eE p0 fuel 0
def dP (p0:ByteArray):Nat->Int->Option Bool
 | 0,_=>none
 | aa+1,v3=>if (decide (v3<(p0.size:Int)))=true then ((R5 p0 v3).bind λx5=>(if (decide ((x5.toNat:Int)>=97))=true then (if (decide ((x5.toNat:Int)<=122))=true then (dP p0 aa (i64.wrap (v3+1))) else (if (decide ((x5.toNat:Int)>=48))=true then (if (!(decide ((x5.toNat:Int)<=57)))=true then (some false) else (dP p0 aa (i64.wrap (v3+1)))) else (some false))) else (if (decide ((x5.toNat:Int)>=48))=true then (if (!(decide ((x5.toNat:Int)<=57)))=true then (some false) else (dP p0 aa (i64.wrap (v3+1)))) else (some false)))) else (some (decide ((p0.size:Int)<=12)))
def tY (p0:ByteArray):Option Bool:=
 dP p0 fuel 0
def rH (p0:M.Key):Option Bool:=
 (aW p0.aAV 1 3).bind λx1=>(if (!x1)=true then (some false) else ((aW p0.N (-1000000000000) 1000000000000).bind λx4=>(if (!x4)=true then (some false) else ((tY p0.aAf).bind λx7=>(if (!x7)=true then (some false) else (if (p0.aAV==2)=true then (if (!(p0.N != 0))=true then (if (p0.aAV==1)=true then (some (!(!(p0.aAf.toList==(⟨#[]⟩:ByteArray).toList)))) else (some true)) else (some false)) else (if (p0.aAV==1)=true then (some (!(!(p0.aAf.toList==(⟨#[]⟩:ByteArray).toList)))) else (some true))))))))
def fZ (p0:M.aC):Nat->Int->Option Bool
 | 0,_=>none
 | aa+1,v8=>if (decide (v8<(List.length p0.aAF:Int)))=true then ((idx p0.aAF v8).bind λx8=>((cC x8.Name).bind λaf=>(if (!af)=true then (some false) else ((aW x8.N 0 1000000000).bind λah=>(if (!ah)=true then (some false) else (if (decide (v8>0))=true then ((idx p0.aAF (i64.wrap (v8-1))).bind λae=>(if (Op.bytesLess x8.Name.toList ae.Name.toList||x8.Name.toList==ae.Name.toList)=true then (some false) else (fZ p0 aa (i64.wrap (v8+1))))) else (fZ p0 aa (i64.wrap (v8+1))))))))) else (some (decide ((List.length p0.aAF:Int)<=6)))
def sW (p0:M.aC):Option Bool:=
 fZ p0 fuel 0
def rG (p0:Int) (p1:Int):Option Int:=
 if (decide (p0<p1))=true then (some (-1)) else (if (decide (p0>p1))=true then (some 1) else (some 0))
def lD (p0:ByteArray) (p1:ByteArray):Option Int:=some (Lib.compareBytes p0.data.toList p1.data.toList)
def wE (p0:ByteArray) (p1:ByteArray):Option Int:=
 (lD p0 p1).bind λx1=>(some x1)
def mZ (p0:M.Key) (p1:M.Key):Option Int:=
 (rH p0).bind λx1=>(if (!x1)=true then (some 0) else ((rH p1).bind λx4=>(if (!x4)=true then (some 0) else ((rG p0.aAV p1.aAV).bind λx7=>(if (x7 != 0)=true then (some x7) else ((rG p0.N p1.N).bind λaa=>(if (aa != 0)=true then (some aa) else ((wE p0.aAf p1.aAf).bind λae=>(some ae)))))))))
def gU (p0:M.aA):Nat->Int->Option Bool
 | 0,_=>none
 | aa+1,v8=>if (decide (v8<(List.length p0.aAD:Int)))=true then ((idx p0.aAD v8).bind λx8=>((rH x8.Key).bind λae=>(if (!ae)=true then (some false) else ((sW x8.aC).bind λaf=>(if (!af)=true then (some false) else (if (decide (v8>0))=true then ((idx p0.aAD (i64.wrap (v8-1))).bind λah=>((mZ ah.Key x8.Key).bind λai=>(if (decide (ai>=0))=true then (some false) else (gU p0 aa (i64.wrap (v8+1)))))) else (gU p0 aa (i64.wrap (v8+1))))))))) else ((cC p0.Name).bind λaj=>(if aj=true then (if (decide ((List.length p0.aAD:Int)<=16))=true then ((aW p0.aAd 0 1000000).bind λak=>(some ak)) else (some false)) else (some false)))
def sH (p0:M.aA):Option Bool:=
 gU p0 fuel 0
def rJ (p0:M.aA) (c0:ByteArray):Option Bool:=
 some (p0.Name.toList==c0.toList)
def dB (p0:List M.aA) (p1:M.aA->Option Bool):Nat->Int->Option Int
 | 0,_=>none
 | aa+1,v8=>if (decide (v8<(List.length p0:Int)))=true then ((idx p0 v8).bind λx7=>((p1 x7).bind λae=>(if ae=true then (some v8) else (dB p0 p1 aa (i64.wrap (v8+1)))))) else (some (-1))
def jL (p0:List M.aA) (p1:M.aA->Option Bool):Option Int:=
 dB p0 p1 fuel 0
def tZ (p0:M.aAA) (p1:ByteArray):Option Int:=
 (jL p0.aAH (λz0=>rJ z0 p1)).bind λx1=>(some x1)
def dH (p0:List M.aN) (p1:M.aN):Nat->Int->Option Int
 | 0,_=>none
 | aa+1,v8=>if (decide (v8<(List.length p0:Int)))=true then ((idx p0 v8).bind λx8=>(if ((p1.aA.toList==x8.aA.toList)&&(p1.Field.toList==x8.Field.toList))=true then (some v8) else (dH p0 p1 aa (i64.wrap (v8+1))))) else (some (-1))
def kH (p0:List M.aN) (p1:M.aN):Option Int:=
 dH p0 p1 fuel 0
def gY (p0:List M.aN) (p1:M.aN):Option Bool:=
 (kH p0 p1).bind λx1=>(some (decide (x1>=0)))
def tX (p0:M.Field) (c0:ByteArray):Option Bool:=
 some (p0.Name.toList==c0.toList)
def dA (p0:List M.Field) (p1:M.Field->Option Bool):Nat->Int->Option Int
 | 0,_=>none
 | aa+1,v8=>if (decide (v8<(List.length p0:Int)))=true then ((idx p0 v8).bind λx7=>((p1 x7).bind λae=>(if ae=true then (some v8) else (dA p0 p1 aa (i64.wrap (v8+1)))))) else (some (-1))
def jP (p0:List M.Field) (p1:M.Field->Option Bool):Option Int:=
 dA p0 p1 fuel 0
def zV (p0:M.aC) (p1:ByteArray):Option Int:=
 (jP p0.aAF (λz0=>tX z0 p1)).bind λx1=>(some x1)
def kJ (p0:M.aC) (p1:ByteArray):Option (Int×Bool):=
 (zV p0 p1).bind λx1=>(if (decide (x1<0))=true then (some (0,false)) else ((idx p0.aAF x1).bind λx4=>(some (x4.N,true))))
def rK (p0:M.aAQ) (p1:M.aAQ) (p2:ByteArray):Option Bool:=
 (kJ p0.aC p2).bind λx1=>((kJ p1.aC p2).bind λx3=>(if (decide (x1.1<x3.1))=true then (some true) else (if (x1.1==x3.1)=true then ((mZ p0.Key p1.Key).bind λx7=>(some (decide (x7<0)))) else (some false))))
def tD (p0:M.aC):Option M.aC:=
 (app 24 ([]:List M.Field) p0.aAF).bind λx1=>(some p0)
def vX (p0:M.aAQ):Option M.aAQ:=
 (tD p0.aC).bind λx1=>(some (⟨p0.Key,x1⟩:M.aAQ))
def lU (p1:ByteArray) (af:List M.aAQ) (ah:M.aAQ) (ae:Int->Option (List M.aAQ)):Nat->Int->Option (List M.aAQ)
 | 0,_=>none
 | ai+1,aa=>if (decide (aa>0))=true then ((idx af (i64.wrap (aa-1))).bind λaj=>((rK ah aj p1).bind λak=>(if ak=true then (lU p1 af ah ae ai (i64.wrap (aa-1))) else (ae aa)))) else (ae aa)
def jH (p0:M.aA) (p1:ByteArray):Nat->Int->List M.aAQ->Option (List M.aAQ)
 | 0,_,_=>none
 | ai+1,af,ae=>if (decide (af<(List.length p0.aAD:Int)))=true then ((idx p0.aAD af).bind λah=>((kJ ah.aC p1).bind λak=>(if (!ak.2)=true then (jH p0 p1 ai (i64.wrap (af+1)) ae) else (lU p1 ae ah (λ(aa:Int)=>(vX ah).bind λaj=>((Qc 56 ae aa ([aj])).bind λal=>(jH p0 p1 ai (i64.wrap (af+1)) (List.take aa.toNat ae++([aj]++List.drop aa.toNat ae))))) fuel (List.length ae:Int))))) else (some ae)
def wX (p0:M.aA) (p1:ByteArray):Option (List M.aAQ):=
 jH p0 p1 fuel 0 ([]:List M.aAQ)
def eQ (p1:ByteArray) (x1:(List M.aAQ)):Nat->Int->Option (M.Key×M.Key×Bool)
 | 0,_=>none
 | af+1,v8=>if (decide (v8<(List.length x1:Int)))=true then ((idx x1 (i64.wrap (v8-1))).bind λaa=>((kJ aa.aC p1).bind λah=>((idx x1 v8).bind λae=>((kJ ae.aC p1).bind λai=>(if (ah.1==ai.1)=true then (some (aa.Key,ae.Key,true)) else (eQ p1 x1 af (i64.wrap (v8+1)))))))) else (some ((⟨0,0,(⟨#[]⟩:ByteArray)⟩:M.Key),(⟨0,0,(⟨#[]⟩:ByteArray)⟩:M.Key),false))
def iB (p0:M.aA) (p1:ByteArray):Option (M.Key×M.Key×Bool):=
 (wX p0 p1).bind λx1=>(eQ p1 x1 fuel 1)
def eD (p0:M.aAA):Nat->Int->Option Bool
 | 0,_=>none
 | ah+1,aa=>if (decide (aa<(List.length p0.aAS:Int)))=true then ((idx p0.aAS aa).bind λae=>((tZ p0 ae.aA).bind λaf=>(if (decide (af<0))=true then (some false) else ((cC ae.Field).bind λai=>(if (!ai)=true then (some false) else ((xE p0.aAS aa).bind λao=>((gY (List.take aa.toNat p0.aAS) ae).bind λaj=>(if aj=true then (some false) else ((idx p0.aAH af).bind λak=>((iB ak ae.Field).bind λal=>(if al.2.2=true then (some false) else (eD p0 ah (i64.wrap (aa+1)))))))))))))) else (some true)
def dZ (p0:M.aAA):Nat->Int->Option Bool
 | 0,_=>none
 | af+1,aa=>if (decide (aa<(List.length p0.aAH:Int)))=true then ((idx p0.aAH aa).bind λae=>((sH ae).bind λai=>(if (!ai)=true then (some false) else (if (decide (aa>0))=true then ((idx p0.aAH (i64.wrap (aa-1))).bind λah=>(if (Op.bytesLess ae.Name.toList ah.Name.toList||ae.Name.toList==ah.Name.toList)=true then (some false) else (dZ p0 af (i64.wrap (aa+1))))) else (dZ p0 af (i64.wrap (aa+1))))))) else (eD p0 fuel 0)
def sO (p0:M.aAA):Option Bool:=
 (cC p0.Name).bind λx1=>(if (!x1)=true then (some false) else ((aW p0.aAB 0 1000).bind λx4=>(if (!x4)=true then (some false) else (if (decide ((List.length p0.aAH:Int)>4))=true then (some false) else (if (decide ((List.length p0.aAS:Int)>4))=true then (some false) else (dZ p0 fuel 0))))))
def kS (p0:M.bA):Option Bool:=
 (aW p0.aAK 1 1000000).bind λx1=>(if x1=true then ((aW p0.Seq 1 1000000).bind λx4=>(if x4=true then ((rH p0.Key).bind λx7=>(if x7=true then ((cC p0.Field).bind λaa=>(if aa=true then ((aW p0.N 0 1000000000).bind λae=>(some ae)) else (some false))) else (some false))) else (some false))) else (some false))
def kG (p0:M.aH):Nat->Int->Option Bool
 | 0,_=>none
 | ae+1,aa=>if (decide (aa<(List.length p0.aAP:Int)))=true then ((idx p0.aAP aa).bind λx9=>((kS x9).bind λaf=>(if (!af)=true then (some false) else (if (x9.aAK != p0.aAK)=true then (some false) else (if (x9.Seq != (i64.wrap ((i64.wrap (p0.aAh-(List.length p0.aAP:Int)))+aa)))=true then (some false) else (kG p0 ae (i64.wrap (aa+1)))))))) else ((aW p0.aAK 1 1000000).bind λah=>(if ah=true then ((aW p0.aAh 1 1000000).bind λai=>(if ai=true then (some (decide ((List.length p0.aAP:Int)<=20))) else (some false))) else (some false)))
def vJ (p0:M.aH):Option Bool:=
 kG p0 fuel 0
def uH (p0:M.aG):Option Bool:=
 (sH p0.aAU).bind λx1=>(if x1=true then (if (p0.aAU.Name.toList==(⟨#[110,111,116,101,115]⟩:ByteArray).toList)=true then ((aW p0.aAu 0 1000000000000).bind λx5=>(if x5=true then ((vJ p0.aAT.aH).bind λx8=>(some x8)) else (some false))) else (some false)) else (some false))
def tM (p0:M.aAM) (p1:Bool):Option Int:=
 if p1=true then (some 76) else (some (i64.wrap (16+(List.length p0.aA4:Int))))
def hJ (x7:M.aAL) (af:Int->Int->Option Int):Nat->Int->Int->Option Int
 | 0,_,_=>none
 | ai+1,ae,aa=>if (decide (aa<(List.length x7.aAN:Int)))=true then ((idx x7.aAN aa).bind λah=>((tM ah.aAM (ah.aAM.aA0==3)).bind λaj=>(hJ x7 af ai (i64.wrap (ae+aj)) (i64.wrap (aa+1))))) else (af ae aa)
def eC (p0:M.aF):Nat->Int->Int->Option Int
 | 0,_,_=>none
 | af+1,v3,v11=>if (decide (v11<(List.length p0.aAE:Int)))=true then ((idx p0.aAE v11).bind λx7=>(hJ x7 (λ(aa:Int) (ae:Int)=>eC p0 af aa (i64.wrap (v11+1))) fuel v3 0)) else (some v3)
def tI (p0:M.aF):Option Int:=
 eC p0 fuel 0 0
def fA (p0:M.Key):Nat->Int->List Int->Option (List Int)
 | 0,_,_=>none
 | ae+1,v4,aa=>if (decide (v4>=0))=true then (if (decide (0<=(i64.wrap (8*v4))))=true then ((app 1 aa ([(IntKind.u8.wrap (Int.fdiv (i64.wrap (p0.N+1000000000000)) (2^(min (i64.wrap (8*v4)).toNat IntKind.i64.bits))))])).bind λaf=>(fA p0 ae (i64.wrap (v4-1)) (aa++[(IntKind.u8.wrap (Int.fdiv (i64.wrap (p0.N+1000000000000)) (2^(min (i64.wrap (8*v4)).toNat IntKind.i64.bits))))]))) else none) else ((app 1 aa (cY p0.aAf)).bind λah=>(some (aa++cY p0.aAf)))
def uG (p0:M.Key):Option (List Int):=
 (rH p0).bind λx1=>(if (!x1)=true then (some ([]:List Int)) else (if (p0.aAV != 2)=true then (fA p0 fuel 5 ([(IntKind.u8.wrap p0.aAV)])) else ((app 1 ([(IntKind.u8.wrap p0.aAV)]) (cY p0.aAf)).bind λaa=>(some ([(IntKind.u8.wrap p0.aAV)]++cY p0.aAf)))))
def xM (p0:List Int):Option (List Int):=
 (app 1 ([]:List Int) p0).bind λx1=>(some p0)
def fC  : Nat->Int->List Int->Option (List Int)
 | 0,_,_=>none
 | aa+1,v1,r7=>if (decide (v1>=128))=true then ((app 1 r7 ([(IntKind.u8.wrap (i64.wrap ((Int.tmod v1 128)+128)))])).bind λae=>(fC aa (i64.wrap (Int.tdiv v1 128)) (r7++[(IntKind.u8.wrap (i64.wrap ((Int.tmod v1 128)+128)))]))) else ((app 1 r7 ([(IntKind.u8.wrap v1)])).bind λaf=>(some (r7++[(IntKind.u8.wrap v1)])))
def hH (p0:List Int) (p1:Int):Option (List Int):=
 (xM p0).bind λx1=>((aW p1 0 1000000000000).bind λx3=>(if (!x3)=true then (some x1) else (fC fuel p1 x1)))
def rP (p0:List Int) (p1:List Int):Option (List Int):=
 (hH p0 (List.length p1:Int)).bind λx1=>((app 1 x1 p1).bind λx3=>(some (x1++p1)))
def fU (p0:M.aC):Nat->Int->List Int->Option (List Int)
 | 0,_,_=>none
 | ah+1,ae,aa=>if (decide (ae<(List.length p0.aAF:Int)))=true then ((idx p0.aAF ae).bind λaf=>((rP aa (cY af.Name)).bind λai=>((hH ai af.N).bind λaj=>(fU p0 ah (i64.wrap (ae+1)) aj)))) else (some aa)
def pC (p0:M.aC):Option (List Int):=
 (sW p0).bind λx1=>(if (!x1)=true then (some ([]:List Int)) else ((hH ([]:List Int) (List.length p0.aAF:Int)).bind λx4=>(fU p0 fuel 0 x4)))
def iU (p0:M.aA):Nat->Int->Int->Option Int
 | 0,_,_=>none
 | aa+1,v3,v9=>if (decide (v9<(List.length p0.aAD:Int)))=true then ((idx p0.aAD v9).bind λx7=>((uG x7.Key).bind λae=>((pC x7.aC).bind λaf=>(iU p0 aa (i64.wrap (v3+(i64.wrap ((List.length ae:Int)+(List.length af:Int))))) (i64.wrap (v9+1)))))) else (some v3)
def pU (p0:M.aA):Option Int:=
 iU p0 fuel 0 0
def fS (p0:M.aAA):Nat->Int->Int->Option Int
 | 0,_,_=>none
 | aa+1,v3,v9=>if (decide (v9<(List.length p0.aAH:Int)))=true then ((idx p0.aAH v9).bind λx7=>((pU x7).bind λae=>(fS p0 aa (i64.wrap (v3+ae)) (i64.wrap (v9+1))))) else (some v3)
def pB (p0:M.aAA):Option Int:=
 fS p0 fuel 0 0
def yG (p0:M.cR):Option Int:=
 (pB p0.aAU).bind λx1=>(some (i64.wrap (x1+(List.length p0.Log:Int))))
def wW (p0:M.aO):Option Int:=
 (tI p0.aAE).bind λx1=>((yG p0.cR).bind λx3=>((pU p0.aG.aAU).bind λx5=>(some (i64.wrap ((i64.wrap ((i64.wrap (x1+x3))+x5))+(i64.wrap (40*(List.length p0.aG.aAT.aH.aAP:Int))))))))
def vU (p0:M.aO):Option Bool:=
 (cC p0.aAO).bind λx1=>(if x1=true then ((cC p0.Top).bind λx4=>(if x4=true then ((rV p0.aAC).bind λx7=>(if x7=true then (if (p0.aAC.aAO.toList==p0.aAO.toList)=true then ((sP p0.aAE).bind λaa=>(if aa=true then ((sO p0.cR.aAU).bind λae=>(if ae=true then ((uH p0.aG).bind λaf=>(if af=true then ((aW p0.aAk 0 1000000000000).bind λah=>(if ah=true then ((wW p0).bind λai=>(some (decide (ai<=2500)))) else (some false))) else (some false))) else (some false))) else (some false))) else (some false)) else (some false))) else (some false))) else (some false))
def pH (p0:M.aO) (p1:M.aO):Option Bool:=
 if (Op.bytesLess p0.aAO.toList p1.aAO.toList)=true then (some true) else (if (p0.aAO.toList==p1.aAO.toList)=true then (some (Op.bytesLess p0.Top.toList p1.Top.toList)) else (some false))
def fD (p0:M.aJ):Nat->Int->Option Bool
 | 0,_=>none
 | aa+1,v8=>if (decide (v8<(List.length p0.aAG:Int)))=true then ((idx p0.aAG v8).bind λx8=>((vU x8).bind λae=>(if (!ae)=true then (some false) else (if (decide (v8>0))=true then ((idx p0.aAG (i64.wrap (v8-1))).bind λaf=>((pH af x8).bind λah=>(if (!ah)=true then (some false) else (fD p0 aa (i64.wrap (v8+1)))))) else (fD p0 aa (i64.wrap (v8+1))))))) else (some (decide ((List.length p0.aAG:Int)<=9)))
def uD (p0:M.aJ):Option Bool:=
 fD p0 fuel 0
def sQ (p0:ByteArray):Option Bool:=
 (wC p0 30 true).bind λx1=>(some x1)
def cJ (p0:M.cH) (v10:Int) (x8:M.tV) (ae:Int->Option Bool):Nat->Int->Option Bool
 | 0,_=>none
 | af+1,aa=>if (decide (aa<(List.length (List.take v10.toNat p0.aAW):Int)))=true then ((idx (List.take v10.toNat p0.aAW) aa).bind λah=>(if (ah.Name.toList==x8.Name.toList)=true then (if x8.aBA=true then (if (!ah.aBA)=true then (some false) else (if (!x8.aAt)=true then (some false) else (if (!ah.aAt)=true then (some false) else (cJ p0 v10 x8 ae af (i64.wrap (aa+1)))))) else (cJ p0 v10 x8 ae af (i64.wrap (aa+1)))) else (cJ p0 v10 x8 ae af (i64.wrap (aa+1))))) else (ae aa)
def eS (p0:M.cH):Nat->Int->Option Bool
 | 0,_=>none
 | ae+1,v10=>if (decide (v10<(List.length p0.aAW:Int)))=true then ((idx p0.aAW v10).bind λx8=>((sQ x8.Name).bind λaf=>(if (!af)=true then (some false) else ((aW x8.bV 1 1000000000000).bind λah=>(if (!ah)=true then (some false) else ((xE p0.aAW v10).bind λai=>(cJ p0 v10 x8 (λ(aa:Int)=>eS p0 ae (i64.wrap (v10+1))) fuel 0))))))) else (some (decide ((List.length p0.aAW:Int)<=12)))
def rF (p0:M.cH):Option Bool:=
 eS p0 fuel 0
def nS (p0:M.bV):Nat->Int->Option Bool
 | 0,_=>none
 | aa+1,v8=>if (decide (v8<(List.length p0.aU:Int)))=true then ((idx p0.aU v8).bind λx8=>((cC x8.aAs).bind λae=>(if (!ae)=true then (some false) else (if (x8.aAB != p0.aAB)=true then (some false) else (nS p0 aa (i64.wrap (v8+1))))))) else ((aW p0.Id 1 1000000000000).bind λaf=>(if af=true then ((cC p0.aAO).bind λah=>(if ah=true then ((cC p0.Top).bind λai=>(if ai=true then ((aW p0.aAB 1 1000000000000).bind λaj=>(if aj=true then (some (decide ((List.length p0.aU:Int)<=8))) else (some false))) else (some false))) else (some false))) else (some false)))
def yV (p0:M.bV):Option Bool:=
 nS p0 fuel 0
def oZ (p0:M.aO) (c0:ByteArray) (c1:ByteArray):Option Bool:=
 if (p0.aAO.toList==c0.toList)=true then (some (p0.Top.toList==c1.toList)) else (some false)
def cT (p0:List M.aO) (p1:M.aO->Option Bool):Nat->Int->Option Int
 | 0,_=>none
 | aa+1,v8=>if (decide (v8<(List.length p0:Int)))=true then ((idx p0 v8).bind λx7=>((p1 x7).bind λae=>(if ae=true then (some v8) else (cT p0 p1 aa (i64.wrap (v8+1)))))) else (some (-1))
def iG (p0:List M.aO) (p1:M.aO->Option Bool):Option Int:=
 cT p0 p1 fuel 0
def oL (p0:M.aJ) (p1:ByteArray) (p2:ByteArray):Option Int:=
 (iG p0.aAG (λz0=>oZ z0 p1 p2)).bind λx1=>(some x1)
def iQ (p0:M.aAO):Nat->Int->Option Bool
 | 0,_=>none
 | aa+1,v8=>if (decide (v8<(List.length p0.aAo:Int)))=true then ((idx p0.aAo v8).bind λx8=>((cC x8).bind λaf=>(if (!af)=true then (some false) else (if (decide (v8>0))=true then ((idx p0.aAo (i64.wrap (v8-1))).bind λae=>(if (Op.bytesLess x8.toList ae.toList||x8.toList==ae.toList)=true then (some false) else (iQ p0 aa (i64.wrap (v8+1))))) else (iQ p0 aa (i64.wrap (v8+1))))))) else ((cC p0.Name).bind λah=>(if ah=true then ((aW p0.aAB 1 1000000000000).bind λai=>(if ai=true then ((aW (List.length p0.aAo:Int) 1 6).bind λaj=>(some aj)) else (some false))) else (some false)))
def yI (p0:M.aAO):Option Bool:=
 iQ p0 fuel 0
def eI (p0:List ByteArray) (p1:ByteArray):Nat->Int->Option Int
 | 0,_=>none
 | aa+1,v8=>if (decide (v8<(List.length p0:Int)))=true then ((idx p0 v8).bind λx7=>(if (p1.toList==x7.toList)=true then (some v8) else (eI p0 p1 aa (i64.wrap (v8+1))))) else (some (-1))
def rN (p0:List ByteArray) (p1:ByteArray):Option Int:=
 eI p0 p1 fuel 0
def oO (p0:ByteArray):Option Int:=
 (rN ([(⟨#[98,97,110,107]⟩:ByteArray),(⟨#[110,101,119,115]⟩:ByteArray),(⟨#[115,104,111,112]⟩:ByteArray)]) p0).bind λx1=>(some x1)
def iA (p0:M.aAI):Nat->Int->Option Bool
 | 0,_=>none
 | ae+1,aa=>if (decide (aa<(List.length p0.aAZ:Int)))=true then ((idx p0.aAZ aa).bind λaf=>((kS af).bind λah=>(if (!ah)=true then (some false) else (iA p0 ae (i64.wrap (aa+1)))))) else ((sH p0.aA).bind λai=>(if ai=true then (if (p0.aA.Name.toList==(⟨#[110,111,116,101,115]⟩:ByteArray).toList)=true then (some (decide ((List.length p0.aK:Int)<=60))) else (some false)) else (some false)))
def fY (p0:M.aAI):Nat->Int->Option Bool
 | 0,_=>none
 | aa+1,v10=>if (decide (v10<(List.length p0.aK:Int)))=true then ((idx p0.aK v10).bind λx8=>((aW x8.aAK 1 1000000).bind λae=>(if (!ae)=true then (some false) else ((aW x8.Seq 0 1000000).bind λaf=>(if (!af)=true then (some false) else (if (decide (v10>0))=true then ((idx p0.aK (i64.wrap (v10-1))).bind λah=>(if (decide (x8.aAK<=ah.aAK))=true then (some false) else (fY p0 aa (i64.wrap (v10+1))))) else (fY p0 aa (i64.wrap (v10+1))))))))) else (iA p0 fuel 0)
def vV (p0:M.aAI):Option Bool:=
 fY p0 fuel 0
def gR (p0:M.World):Nat->Int->Option Bool
 | 0,_=>none
 | af+1,aa=>if (decide (aa<(List.length p0.aAe:Int)))=true then ((idx p0.aAe aa).bind λae=>((yI ae).bind λah=>(if (!ah)=true then (some false) else ((oO ae.Name).bind λai=>(if (ai != aa)=true then (some false) else ((idx p0.aAY aa).bind λaj=>((vV aj).bind λak=>(if (!ak)=true then (some false) else (gR p0 af (i64.wrap (aa+1))))))))))) else (some true)
def eG (p0:M.World):Nat->Int->Option Bool
 | 0,_=>none
 | af+1,ae=>if (decide (ae<(List.length p0.aAX:Int)))=true then ((idx p0.aAX ae).bind λaa=>((yV aa).bind λah=>(if (!ah)=true then (some false) else (if (decide (aa.Id>=p0.aAg))=true then (some false) else (if (decide (ae>0))=true then ((idx p0.aAX (i64.wrap (ae-1))).bind λai=>(if (decide (aa.Id<=ai.Id))=true then (some false) else ((oL p0.aJ aa.aAO aa.Top).bind λaj=>(if (decide (aj<0))=true then (some false) else (eG p0 af (i64.wrap (ae+1))))))) else ((oL p0.aJ aa.aAO aa.Top).bind λak=>(if (decide (ak<0))=true then (some false) else (eG p0 af (i64.wrap (ae+1)))))))))) else (gR p0 fuel 0)
def oI (p0:M.World):Option Bool:=
 (aW p0.Now 0 999999990000).bind λx1=>(if (!x1)=true then (some false) else ((aW p0.aAK 1 1000000).bind λx4=>(if (!x4)=true then (some false) else ((uD p0.aJ).bind λx7=>(if (!x7)=true then (some false) else (if (decide ((List.length p0.aAX:Int)>6))=true then (some false) else ((aW p0.aAg 1 1000000000000).bind λaa=>(if (!aa)=true then (some false) else ((rF p0.aAW).bind λae=>(if (!ae)=true then (some false) else (if ((List.length p0.aAe:Int) != 3)=true then (some false) else (if ((List.length p0.aAY:Int) != 3)=true then (some false) else (eG p0 fuel 0)))))))))))))
def aZ (p0:Int) (p1:Int) (p2:Int):Option Bool:=
 if (decide (p0>=p1))=true then (some (decide (p0<=p2))) else (some false)
def vG  : Option (List ByteArray):=
 some ([(⟨#[98,97,110,107]⟩:ByteArray),(⟨#[110,101,119,115]⟩:ByteArray),(⟨#[115,104,111,112]⟩:ByteArray)])
def uW (p0:Int) (x4:(List ByteArray)):Nat->Int->List M.aAO->List M.aAI->Option M.World
 | 0,_,_,_=>none
 | ah+1,v5,aa,ae=>if (decide (v5<(List.length x4:Int)))=true then ((idx x4 v5).bind λaf=>((app 56 aa ([(⟨af,1,[(⟨#[99,111,100,101]⟩:ByteArray),(⟨#[100,97,116,97]⟩:ByteArray),(⟨#[105,110,100,101,120]⟩:ByteArray),(⟨#[115,116,121,108,101]⟩:ByteArray)],(af.toList==(⟨#[110,101,119,115]⟩:ByteArray).toList)⟩:M.aAO)])).bind λai=>((app 96 ae ([(⟨(⟨(⟨#[110,111,116,101,115]⟩:ByteArray),([]:List M.aAQ),0⟩:M.aA),([]:List M.aK),([]:List M.bA)⟩:M.aAI)])).bind λaj=>(uW p0 x4 ah (i64.wrap (v5+1)) (aa++[(⟨af,1,[(⟨#[99,111,100,101]⟩:ByteArray),(⟨#[100,97,116,97]⟩:ByteArray),(⟨#[105,110,100,101,120]⟩:ByteArray),(⟨#[115,116,121,108,101]⟩:ByteArray)],(af.toList==(⟨#[110,101,119,115]⟩:ByteArray).toList)⟩:M.aAO)]) (ae++[(⟨(⟨(⟨#[110,111,116,101,115]⟩:ByteArray),([]:List M.aAQ),0⟩:M.aA),([]:List M.aK),([]:List M.bA)⟩:M.aAI)]))))) else (some (⟨0,true,p0,(⟨([]:List M.aO)⟩:M.aJ),([]:List M.bV),1,(⟨([]:List M.tV)⟩:M.cH),(⟨([]:List M.xV)⟩:M.aAa),aa,ae⟩:M.World))
def sX (p0:Int):Option M.World:=
 (aZ p0 1 1000000).bind λx1=>(if (!x1)=true then (some (⟨0,false,0,(⟨([]:List M.aO)⟩:M.aJ),([]:List M.bV),0,(⟨([]:List M.tV)⟩:M.cH),(⟨([]:List M.xV)⟩:M.aAa),([]:List M.aAO),([]:List M.aAI)⟩:M.World)) else ((vG).bind λx4=>(uW p0 x4 fuel 0 ([]:List M.aAO) ([]:List M.aAI))))
def eT (p0:M.aQ) (p1:List ByteArray):Option (Int×Int×ByteArray):=
 (aE p0 (List.length p1:Int)).bind λx5=>((idx p1 x5.2.2).bind λx7=>(some (x5.1,x5.2.1,x7)))
def jZ (p0:M.aQ):Option (Int×Int×ByteArray):=
 (eT p0 ([(⟨#[98,97,110,107]⟩:ByteArray),(⟨#[115,104,111,112]⟩:ByteArray),(⟨#[110,101,119,115]⟩:ByteArray)])).bind λx4=>(some (x4.1,x4.2.1,x4.2.2))
def cK (p0:M.aQ) (p1:Int):Option (Int×Int×Bool):=
 (aE p0 p1).bind λx5=>(some (x5.1,x5.2.1,(x5.2.2==0)))
def gL (p0:ByteArray):Nat->Int->Option Bool
 | 0,_=>none
 | aa+1,v3=>if (decide (v3<(p0.size:Int)))=true then ((R5 p0 v3).bind λx5=>(if (decide ((x5.toNat:Int)<97))=true then (if (decide ((x5.toNat:Int)<48))=true then (some false) else (if (decide ((x5.toNat:Int)>57))=true then (some false) else (gL p0 aa (i64.wrap (v3+1))))) else (if (decide ((x5.toNat:Int)>122))=true then (if (decide ((x5.toNat:Int)<48))=true then (some false) else (if (decide ((x5.toNat:Int)>57))=true then (some false) else (gL p0 aa (i64.wrap (v3+1))))) else (gL p0 aa (i64.wrap (v3+1)))))) else (some (decide ((p0.size:Int)<=12)))
def wB (p0:ByteArray):Option Bool:=
 gL p0 fuel 0
def eP (p0:M.Key):Option Bool:=
 (aZ p0.aAV 1 3).bind λx1=>(if x1=true then ((aZ p0.N (-1000000000000) 1000000000000).bind λx4=>(if x4=true then (if (p0.aAV != 2)=true then ((wB p0.aAf).bind λx8=>(if x8=true then (if (p0.aAV != 1)=true then (some true) else (some (p0.aAf.toList==(⟨#[]⟩:ByteArray).toList))) else (some false))) else (if (p0.N==0)=true then ((wB p0.aAf).bind λaa=>(if aa=true then (if (p0.aAV != 1)=true then (some true) else (some (p0.aAf.toList==(⟨#[]⟩:ByteArray).toList))) else (some false))) else (some false))) else (some false))) else (some false))
def lA (p0:ByteArray):Nat->Int->Option Bool
 | 0,_=>none
 | aa+1,v3=>if (decide (v3<(p0.size:Int)))=true then ((R5 p0 v3).bind λx5=>(if (decide ((x5.toNat:Int)<97))=true then (some false) else (if (decide ((x5.toNat:Int)>122))=true then (some false) else (lA p0 aa (i64.wrap (v3+1)))))) else ((aZ (p0.size:Int) 1 8).bind λae=>(some ae))
def bP (p0:ByteArray):Option Bool:=
 lA p0 fuel 0
def hU (p0:M.bA):Option Bool:=
 (aZ p0.aAK 1 1000000).bind λx1=>(if x1=true then ((aZ p0.Seq 1 1000000).bind λx4=>(if x4=true then ((eP p0.Key).bind λx7=>(if x7=true then ((bP p0.Field).bind λaa=>(if aa=true then ((aZ p0.N 0 1000000000).bind λae=>(some ae)) else (some false))) else (some false))) else (some false))) else (some false))
def kF (p0:M.aH):Nat->Int->Option Bool
 | 0,_=>none
 | ae+1,v4=>if (decide (v4<(List.length p0.aAP:Int)))=true then ((idx p0.aAP v4).bind λaa=>((hU aa).bind λaf=>(if (!af)=true then (some false) else (if (aa.aAK != p0.aAK)=true then (some false) else (if (aa.Seq != (i64.wrap ((i64.wrap (p0.aAh-(List.length p0.aAP:Int)))+v4)))=true then (some false) else (kF p0 ae (i64.wrap (v4+1)))))))) else (some true)
def gI (p0:M.aH):Option Bool:=
 (aZ p0.aAK 1 1000000).bind λx1=>(if (!x1)=true then (some false) else ((aZ p0.aAh 1 1000000).bind λx4=>(if (!x4)=true then (some false) else (if (decide ((List.length p0.aAP:Int)>20))=true then (some false) else (kF p0 fuel 0)))))
def kX (p0:Int):Option (M.aH×Bool):=
 (gI (⟨p0,1,([]:List M.bA)⟩:M.aH)).bind λx1=>(if (!x1)=true then (some ((⟨0,0,([]:List M.bA)⟩:M.aH),false)) else (some ((⟨p0,1,([]:List M.bA)⟩:M.aH),true)))
def bT (p0:M.aAC):Nat->Int->Int->Option Bool
 | 0,_,_=>none
 | ae+1,v3,v5=>if (decide (v5<((3:Nat):Int)))=true then ((idx ([p0.aAr,p0.aAl,p0.aAc]) v5).bind λaa=>((aZ aa 0 1000000000000).bind λaf=>(if (!af)=true then (some false) else (if (aa != 0)=true then (if (decide (aa<=v3))=true then (some false) else (bT p0 ae aa (i64.wrap (v5+1)))) else (bT p0 ae v3 (i64.wrap (v5+1))))))) else ((bP p0.aAO).bind λah=>(some ah))
def jQ (p0:M.aAC):Option Bool:=
 bT p0 fuel 0 0
def tH (p0:M.aAM):Option Bool:=
 (aZ p0.aA0 1 4).bind λx1=>(if x1=true then ((aZ p0.aAw 0 999).bind λx4=>(if x4=true then ((aZ p0.aAB 0 1000000000000).bind λx7=>(if x7=true then (some (decide ((List.length p0.aA4:Int)<=60))) else (some false))) else (some false))) else (some false))
def fO (p0:List M.aAR) (v3:Int) (x5:M.aAR) (ae:Int->Option Bool):Nat->Int->Option Bool
 | 0,_=>none
 | af+1,aa=>if (decide (aa<v3))=true then ((idx p0 aa).bind λah=>(if (ah.aAO.toList==x5.aAO.toList)=true then (if (ah.aAs.toList==x5.aAs.toList)=true then (some false) else (fO p0 v3 x5 ae af (i64.wrap (aa+1)))) else (fO p0 v3 x5 ae af (i64.wrap (aa+1))))) else (ae aa)
def dY (p0:List M.aAR):Nat->Int->Option Bool
 | 0,_=>none
 | ae+1,v3=>if (decide (v3<(List.length p0:Int)))=true then ((idx p0 v3).bind λx5=>((bP x5.aAO).bind λaf=>(if (!af)=true then (some false) else ((bP x5.aAs).bind λah=>(if (!ah)=true then (some false) else ((tH x5.aAM).bind λai=>(if (!ai)=true then (some false) else (fO p0 v3 x5 (λ(aa:Int)=>dY p0 ae (i64.wrap (v3+1))) fuel 0)))))))) else (some (decide ((List.length p0:Int)<=12)))
def oN (p0:List M.aAR):Option Bool:=
 dY p0 fuel 0
def dW (p0:M.aF):Nat->Int->Option Bool
 | 0,_=>none
 | aa+1,v3=>if (decide (v3<(List.length p0.aAE:Int)))=true then ((idx p0.aAE v3).bind λx6=>((aZ x6.aAB 1 1000000000000).bind λae=>(if (!ae)=true then (some false) else (if (decide (v3>0))=true then ((idx p0.aAE (i64.wrap (v3-1))).bind λaf=>(if (decide (af.aAB>=x6.aAB))=true then (some false) else ((oN x6.aAN).bind λah=>(if (!ah)=true then (some false) else (dW p0 aa (i64.wrap (v3+1))))))) else ((oN x6.aAN).bind λai=>(if (!ai)=true then (some false) else (dW p0 aa (i64.wrap (v3+1))))))))) else (some (decide ((List.length p0.aAE:Int)<=4)))
def bY (p0:M.aF):Option Bool:=
 dW p0 fuel 0
def fW (p0:M.aC):Nat->Int->Option Bool
 | 0,_=>none
 | aa+1,v3=>if (decide (v3<(List.length p0.aAF:Int)))=true then ((idx p0.aAF v3).bind λx6=>((bP x6.Name).bind λae=>(if (!ae)=true then (some false) else ((aZ x6.N 0 1000000000).bind λaf=>(if (!af)=true then (some false) else (if (decide (v3>0))=true then ((idx p0.aAF (i64.wrap (v3-1))).bind λah=>(if (!(Op.bytesLess ah.Name.toList x6.Name.toList))=true then (some false) else (fW p0 aa (i64.wrap (v3+1))))) else (fW p0 aa (i64.wrap (v3+1))))))))) else (some (decide ((List.length p0.aAF:Int)<=6)))
def bF (p0:M.aC):Option Bool:=
 fW p0 fuel 0
def wD (p0:Bool) (p1:Bool):Option Int:=
 if p0=true then (some (-1)) else (if p1=true then (some 1) else (some 0))
def bD (p0:M.Key) (p1:M.Key):Option Int:=
 (eP p0).bind λx1=>(if (!x1)=true then (some 0) else ((eP p1).bind λx4=>(if (!x4)=true then (some 0) else (if (p0.aAV != p1.aAV)=true then ((wD (decide (p0.aAV<p1.aAV)) true).bind λx8=>(some x8)) else (if (p0.N != p1.N)=true then ((wD (decide (p0.N<p1.N)) true).bind λaa=>(some aa)) else ((wD (Op.bytesLess p0.aAf.toList p1.aAf.toList) (!(Op.bytesLess p0.aAf.toList p1.aAf.toList||p0.aAf.toList==p1.aAf.toList))).bind λae=>(some ae)))))))
def gT (p0:M.aA):Nat->Int->Option Bool
 | 0,_=>none
 | aa+1,v3=>if (decide (v3<(List.length p0.aAD:Int)))=true then ((idx p0.aAD v3).bind λx6=>((eP x6.Key).bind λae=>(if (!ae)=true then (some false) else ((bF x6.aC).bind λaf=>(if (!af)=true then (some false) else (if (decide (v3>0))=true then ((idx p0.aAD (i64.wrap (v3-1))).bind λah=>((bD ah.Key x6.Key).bind λai=>(if (decide (ai>=0))=true then (some false) else (gT p0 aa (i64.wrap (v3+1)))))) else (gT p0 aa (i64.wrap (v3+1))))))))) else ((bP p0.Name).bind λaj=>(if aj=true then (if (decide ((List.length p0.aAD:Int)<=16))=true then ((aZ p0.aAd 0 1000000).bind λak=>(some ak)) else (some false)) else (some false)))
def jY (p0:M.aA):Option Bool:=
 gT p0 fuel 0
def jF (p0:M.aAA) (p1:ByteArray):Nat->Int->Option Int
 | 0,_=>none
 | aa+1,v5=>if (decide (v5<(List.length p0.aAH:Int)))=true then ((idx p0.aAH v5).bind λx7=>(if (x7.Name.toList==p1.toList)=true then (some v5) else (jF p0 p1 aa (i64.wrap (v5+1))))) else (some (-1))
def nK (p0:M.aAA) (p1:ByteArray):Option Int:=
 jF p0 p1 fuel 0
def nA (p0:M.aC) (p1:ByteArray):Nat->Int->Option (Int×Bool)
 | 0,_=>none
 | aa+1,v6=>if (decide (v6<(List.length p0.aAF:Int)))=true then ((idx p0.aAF v6).bind λx7=>(if (x7.Name.toList==p1.toList)=true then (some (x7.N,true)) else (nA p0 p1 aa (i64.wrap (v6+1))))) else (some (0,false))
def iM (p0:M.aC) (p1:ByteArray):Option (Int×Bool):=
 nA p0 p1 fuel 0
def yW (p0:M.aAQ) (p1:M.aAQ) (p2:ByteArray):Option Bool:=
 (iM p0.aC p2).bind λx1=>((iM p1.aC p2).bind λx3=>(if (decide (x1.1<x3.1))=true then (some true) else (if (x1.1==x3.1)=true then ((bD p0.Key p1.Key).bind λx7=>(some (decide (x7<0)))) else (some false))))
def bU (p0:M.aC):Option M.aC:=
 (app 24 ([]:List M.Field) p0.aAF).bind λx1=>(some p0)
def tR (p0:M.aAQ):Option M.aAQ:=
 (bU p0.aC).bind λx1=>(some (⟨p0.Key,x1⟩:M.aAQ))
def lJ (p1:ByteArray) (ae:List M.aAQ) (ah:M.aAQ) (af:Int->Option (List M.aAQ)):Nat->Int->Option (List M.aAQ)
 | 0,_=>none
 | ai+1,aa=>if (decide (aa>0))=true then ((idx ae (i64.wrap (aa-1))).bind λaj=>((yW ah aj p1).bind λak=>(if ak=true then (lJ p1 ae ah af ai (i64.wrap (aa-1))) else (af aa)))) else (af aa)
def jI (p0:M.aA) (p1:ByteArray):Nat->Int->List M.aAQ->Option (List M.aAQ)
 | 0,_,_=>none
 | ai+1,v6,aa=>if (decide (v6<(List.length p0.aAD:Int)))=true then ((idx p0.aAD v6).bind λaf=>((iM af.aC p1).bind λaj=>(if (!aj.2)=true then (jI p0 p1 ai (i64.wrap (v6+1)) aa) else (lJ p1 aa af (λ(ae:Int)=>(xE aa ae).bind λal=>((app 56 ([]:List M.aAQ) (List.take ae.toNat aa)).bind λao=>((tR af).bind λah=>((app 56 (List.take ae.toNat aa) ([ah])).bind λaq=>((app 56 ((List.take ae.toNat aa)++[ah]) (List.drop ae.toNat aa)).bind λak=>(jI p0 p1 ai (i64.wrap (v6+1)) (((List.take ae.toNat aa)++[ah])++(List.drop ae.toNat aa)))))))) fuel (List.length aa:Int))))) else (some aa)
def xC (p0:M.aA) (p1:ByteArray):Option (List M.aAQ):=
 jI p0 p1 fuel 0 ([]:List M.aAQ)
def jO (p1:ByteArray) (x1:(List M.aAQ)):Nat->Int->Option (M.Key×M.Key×Bool)
 | 0,_=>none
 | af+1,v8=>if (decide (v8<(List.length x1:Int)))=true then ((idx x1 (i64.wrap (v8-1))).bind λaa=>((iM aa.aC p1).bind λah=>((idx x1 v8).bind λae=>((iM ae.aC p1).bind λai=>(if (ah.1==ai.1)=true then (some (aa.Key,ae.Key,true)) else (jO p1 x1 af (i64.wrap (v8+1)))))))) else (some ((⟨0,0,(⟨#[]⟩:ByteArray)⟩:M.Key),(⟨0,0,(⟨#[]⟩:ByteArray)⟩:M.Key),false))
def rE (p0:M.aA) (p1:ByteArray):Option (M.Key×M.Key×Bool):=
 (xC p0 p1).bind λx1=>(jO p1 x1 fuel 1)
def fN (p0:M.aAA) (v4:Int) (ae:M.aN) (af:Int->Option Bool):Nat->Int->Option Bool
 | 0,_=>none
 | ai+1,aa=>if (decide (aa<v4))=true then ((idx p0.aAS aa).bind λah=>(if ((ah.aA.toList==ae.aA.toList)&&(ah.Field.toList==ae.Field.toList))=true then (some false) else (fN p0 v4 ae af ai (i64.wrap (aa+1))))) else (af aa)
def eB (p0:M.aAA):Nat->Int->Option Bool
 | 0,_=>none
 | ah+1,v4=>if (decide (v4<(List.length p0.aAS:Int)))=true then ((idx p0.aAS v4).bind λaa=>((nK p0 aa.aA).bind λae=>(if (decide (ae<0))=true then (some false) else ((bP aa.Field).bind λai=>(if (!ai)=true then (some false) else ((idx p0.aAH ae).bind λaj=>((rE aj aa.Field).bind λak=>(if ak.2.2=true then (some false) else (fN p0 v4 aa (λ(af:Int)=>eB p0 ah (i64.wrap (v4+1))) fuel 0))))))))) else ((bP p0.Name).bind λal=>(if al=true then ((aZ p0.aAB 0 1000).bind λao=>(if ao=true then (if (decide ((List.length p0.aAH:Int)<=4))=true then (some (decide ((List.length p0.aAS:Int)<=4))) else (some false)) else (some false))) else (some false)))
def eA (p0:M.aAA):Nat->Int->Option Bool
 | 0,_=>none
 | aa+1,v3=>if (decide (v3<(List.length p0.aAH:Int)))=true then ((idx p0.aAH v3).bind λx6=>((jY x6).bind λae=>(if (!ae)=true then (some false) else (if (decide (v3>0))=true then ((idx p0.aAH (i64.wrap (v3-1))).bind λaf=>(if (!(Op.bytesLess af.Name.toList x6.Name.toList))=true then (some false) else (eA p0 aa (i64.wrap (v3+1))))) else (eA p0 aa (i64.wrap (v3+1))))))) else (eB p0 fuel 0)
def bQ (p0:M.aAA):Option Bool:=
 eA p0 fuel 0
def kW (p0:M.aG):Option Bool:=
 (jY p0.aAU).bind λx1=>(if x1=true then (if (p0.aAU.Name.toList==(⟨#[110,111,116,101,115]⟩:ByteArray).toList)=true then ((aZ p0.aAu 0 1000000000000).bind λx5=>(if x5=true then ((gI p0.aAT.aH).bind λx8=>(some x8)) else (some false))) else (some false)) else (some false))
def tA (p0:M.aAM) (p1:Bool):Option Int:=
 if p1=true then (some 76) else (some (i64.wrap (16+(List.length p0.aA4:Int))))
def hP (p0:M.aF) (v4:Int) (k8:Int->Int->Option Int):Nat->Int->Int->Option Int
 | 0,_,_=>none
 | ai+1,ae,aa=>(idx p0.aAE v4).bind λaf=>(if (decide (aa<(List.length af.aAN:Int)))=true then ((idx af.aAN aa).bind λah=>((tA ah.aAM (ah.aAM.aA0==3)).bind λaj=>(hP p0 v4 k8 ai (i64.wrap (ae+aj)) (i64.wrap (aa+1))))) else (k8 ae aa))
def dU (p0:M.aF):Nat->Int->Int->Option Int
 | 0,_,_=>none
 | af+1,v3,v4=>if (decide (v4<(List.length p0.aAE:Int)))=true then (hP p0 v4 (λ(aa:Int) (ae:Int)=>dU p0 af aa (i64.wrap (v4+1))) fuel v3 0) else (some v3)
def sS (p0:M.aF):Option Int:=
 dU p0 fuel 0 0
def bC (p0:M.Key):Nat->Int->List Int->Option (List Int)
 | 0,_,_=>none
 | ae+1,v4,aa=>if (decide (v4>=0))=true then (if (p0.aAV != 2)=true then (if (decide (0<=(i64.wrap (8*v4))))=true then ((app 1 aa ([(IntKind.u8.wrap (i64.wrap (BitVec.ofInt (IntKind.i64.bits) (Int.fdiv (i64.wrap (p0.N+1000000000000)) (2^(min (i64.wrap (8*v4)).toNat IntKind.i64.bits)))&&&BitVec.ofInt (IntKind.i64.bits) 255).toNat))])).bind λaf=>(bC p0 ae (i64.wrap (v4-1)) (aa++[(IntKind.u8.wrap (i64.wrap (BitVec.ofInt (IntKind.i64.bits) (Int.fdiv (i64.wrap (p0.N+1000000000000)) (2^(min (i64.wrap (8*v4)).toNat IntKind.i64.bits)))&&&BitVec.ofInt (IntKind.i64.bits) 255).toNat))]))) else none) else ((app 1 aa (cY p0.aAf)).bind λah=>(some (aa++(cY p0.aAf))))) else ((app 1 aa (cY p0.aAf)).bind λai=>(some (aa++(cY p0.aAf))))
def iP (p0:M.Key):Option (List Int):=
 (eP p0).bind λx1=>(if (!x1)=true then (some ([]:List Int)) else (bC p0 fuel 5 ([(IntKind.u8.wrap p0.aAV)])))
def cD  : Nat->Int->List Int->Option (List Int)
 | 0,_,_=>none
 | aa+1,v1,r6=>if (decide (v1>127))=true then ((app 1 r6 ([(IntKind.u8.wrap (i64.wrap (BitVec.ofInt (IntKind.i64.bits) (i64.wrap (BitVec.ofInt (IntKind.i64.bits) v1&&&BitVec.ofInt (IntKind.i64.bits) 127).toNat)|||BitVec.ofInt (IntKind.i64.bits) 128).toNat))])).bind λae=>(cD aa (Int.fdiv v1 (2^(min (7:Int).toNat IntKind.i64.bits))) (r6++[(IntKind.u8.wrap (i64.wrap (BitVec.ofInt (IntKind.i64.bits) (i64.wrap (BitVec.ofInt (IntKind.i64.bits) v1&&&BitVec.ofInt (IntKind.i64.bits) 127).toNat)|||BitVec.ofInt (IntKind.i64.bits) 128).toNat))]))) else ((app 1 r6 ([(IntKind.u8.wrap v1)])).bind λaf=>(some (r6++[(IntKind.u8.wrap v1)])))
def bK (p0:List Int) (p1:Int):Option (List Int):=
 (app 1 ([]:List Int) p0).bind λx1=>((aZ p1 0 1000000000000).bind λx7=>(if (!x7)=true then (some p0) else (cD fuel p1 p0)))
def bJ (p0:List Int) (p1:List Int):Option (List Int):=
 (bK p0 (List.length p1:Int)).bind λx1=>((app 1 x1 p1).bind λx3=>(some (x1++p1)))
def cM (p0:M.aC):Nat->Int->List Int->Option (List Int)
 | 0,_,_=>none
 | af+1,v4,aa=>if (decide (v4<(List.length p0.aAF:Int)))=true then ((idx p0.aAF v4).bind λae=>((bJ aa (cY ae.Name)).bind λah=>((bK ah ae.N).bind λai=>(cM p0 af (i64.wrap (v4+1)) ai)))) else (some aa)
def fF (p0:M.aC):Option (List Int):=
 (bF p0).bind λx1=>(if (!x1)=true then (some ([]:List Int)) else ((bK ([]:List Int) (List.length p0.aAF:Int)).bind λx4=>(cM p0 fuel 0 x4)))
def jA (p0:M.aA):Nat->Int->Int->Option Int
 | 0,_,_=>none
 | aa+1,v3,v4=>if (decide (v4<(List.length p0.aAD:Int)))=true then ((idx p0.aAD v4).bind λx7=>((iP x7.Key).bind λae=>((fF x7.aC).bind λaf=>(jA p0 aa (i64.wrap ((i64.wrap (v3+(List.length ae:Int)))+(List.length af:Int))) (i64.wrap (v4+1)))))) else (some v3)
def pZ (p0:M.aA):Option Int:=
 jA p0 fuel 0 0
def fT (p0:M.aAA):Nat->Int->Int->Option Int
 | 0,_,_=>none
 | aa+1,v3,v4=>if (decide (v4<(List.length p0.aAH:Int)))=true then ((idx p0.aAH v4).bind λx7=>((pZ x7).bind λae=>(fT p0 aa (i64.wrap (v3+ae)) (i64.wrap (v4+1))))) else (some v3)
def pF (p0:M.aAA):Option Int:=
 fT p0 fuel 0 0
def yR (p0:M.cR):Option Int:=
 (pF p0.aAU).bind λx1=>(some (i64.wrap (x1+(List.length p0.Log:Int))))
def xH (p0:M.aO):Option Int:=
 (sS p0.aAE).bind λx1=>((yR p0.cR).bind λx3=>((pZ p0.aG.aAU).bind λx5=>(some (i64.wrap ((i64.wrap ((i64.wrap (x1+x3))+x5))+(i64.wrap (40*(List.length p0.aG.aAT.aH.aAP:Int))))))))
def tE (p0:M.aO):Option Bool:=
 (bP p0.aAO).bind λx1=>(if x1=true then ((bP p0.Top).bind λx4=>(if x4=true then ((jQ p0.aAC).bind λx7=>(if x7=true then (if (p0.aAC.aAO.toList==p0.aAO.toList)=true then ((bY p0.aAE).bind λaa=>(if aa=true then ((bQ p0.cR.aAU).bind λae=>(if ae=true then ((kW p0.aG).bind λaf=>(if af=true then ((aZ p0.aAk 0 1000000000000).bind λah=>(if ah=true then ((xH p0).bind λai=>(some (decide (ai<=2500)))) else (some false))) else (some false))) else (some false))) else (some false))) else (some false)) else (some false))) else (some false))) else (some false))
def pO (p0:ByteArray) (p1:ByteArray) (p2:Int):Option (M.aO×Bool):=
 (kX p2).bind λx1=>(if (!x1.2)=true then (some ((⟨(⟨#[]⟩:ByteArray),(⟨#[]⟩:ByteArray),(⟨(⟨#[]⟩:ByteArray),0,0,0⟩:M.aAC),(⟨([]:List M.aAL)⟩:M.aF),(⟨(⟨(⟨#[]⟩:ByteArray),0,([]:List M.aA),([]:List M.aN)⟩:M.aAA),([]:List Int),0⟩:M.cR),(⟨(⟨(⟨#[]⟩:ByteArray),([]:List M.aAQ),0⟩:M.aA),0,(⟨(⟨0,0,([]:List M.bA)⟩:M.aH),0,0⟩:M.aAT)⟩:M.aG),0,false⟩:M.aO),false)) else ((tE (⟨p0,p1,(⟨p0,0,0,0⟩:M.aAC),(⟨([]:List M.aAL)⟩:M.aF),(⟨(⟨(⟨#[97,112,112]⟩:ByteArray),1,[(⟨(⟨#[110,111,116,101,115]⟩:ByteArray),([]:List M.aAQ),0⟩:M.aA)],([]:List M.aN)⟩:M.aAA),([]:List Int),0⟩:M.cR),(⟨(⟨(⟨#[110,111,116,101,115]⟩:ByteArray),([]:List M.aAQ),0⟩:M.aA),0,(⟨x1.1,0,0⟩:M.aAT)⟩:M.aG),0,false⟩:M.aO)).bind λaa=>(if (!aa)=true then (some ((⟨(⟨#[]⟩:ByteArray),(⟨#[]⟩:ByteArray),(⟨(⟨#[]⟩:ByteArray),0,0,0⟩:M.aAC),(⟨([]:List M.aAL)⟩:M.aF),(⟨(⟨(⟨#[]⟩:ByteArray),0,([]:List M.aA),([]:List M.aN)⟩:M.aAA),([]:List Int),0⟩:M.cR),(⟨(⟨(⟨#[]⟩:ByteArray),([]:List M.aAQ),0⟩:M.aA),0,(⟨(⟨0,0,([]:List M.bA)⟩:M.aH),0,0⟩:M.aAT)⟩:M.aG),0,false⟩:M.aO),false)) else (some ((⟨p0,p1,(⟨p0,0,0,0⟩:M.aAC),(⟨([]:List M.aAL)⟩:M.aF),(⟨(⟨(⟨#[97,112,112]⟩:ByteArray),1,[(⟨(⟨#[110,111,116,101,115]⟩:ByteArray),([]:List M.aAQ),0⟩:M.aA)],([]:List M.aN)⟩:M.aAA),([]:List Int),0⟩:M.cR),(⟨(⟨(⟨#[110,111,116,101,115]⟩:ByteArray),([]:List M.aAQ),0⟩:M.aA),0,(⟨x1.1,0,0⟩:M.aAT)⟩:M.aG),0,false⟩:M.aO),true)))))
def dF (p0:M.aQ):Option (Int×Int×M.Key):=
 (aE p0 6).bind λx4=>(some (x4.1,x4.2.1,(⟨1,x4.2.2,(⟨#[]⟩:ByteArray)⟩:M.Key)))
def cW (p0:M.aQ):Option (Int×Int×ByteArray):=
 (eT p0 ([(⟨#[97]⟩:ByteArray),(⟨#[98]⟩:ByteArray),(⟨#[99]⟩:ByteArray),(⟨#[100,111,110,101]⟩:ByteArray),(⟨#[116,105,116,108,101]⟩:ByteArray)])).bind λx4=>(some (x4.1,x4.2.1,x4.2.2))
def kA (p0:M.aC) (p1:ByteArray) (p2:Int) (x1:M.aC):Nat->Int->Option (M.aC×Bool)
 | 0,_=>none
 | af+1,v9=>if (decide (v9<(List.length p0.aAF:Int)))=true then ((idx p0.aAF v9).bind λaa=>(if (Op.bytesLess aa.Name.toList p1.toList)=true then (kA p0 p1 p2 x1 af (i64.wrap (v9+1))) else (if (aa.Name.toList==p1.toList)=true then ((idx x1.aAF v9).bind λae=>((bF p0).bind λah=>(if (!ah)=true then ((bU p0).bind λai=>(some (ai,false))) else ((bF (⟨(List.set x1.aAF v9.toNat (⟨ae.Name,p2⟩:M.Field))⟩:M.aC)).bind λaj=>(if (!aj)=true then ((bU p0).bind λak=>(some (ak,false))) else (some ((⟨(List.set x1.aAF v9.toNat (⟨ae.Name,p2⟩:M.Field))⟩:M.aC),true))))))) else ((xE p0.aAF v9).bind λaz=>((app 24 ([]:List M.Field) (List.take v9.toNat p0.aAF)).bind λb7=>((app 24 (List.take v9.toNat p0.aAF) ([(⟨p1,p2⟩:M.Field)])).bind λba=>((Ak p0.aAF v9).bind λbd=>((app 24 ((List.take v9.toNat p0.aAF)++[(⟨p1,p2⟩:M.Field)]) (List.drop v9.toNat p0.aAF)).bind λbf=>((bF p0).bind λal=>(if (!al)=true then ((bU p0).bind λao=>(some (ao,false))) else ((bF (⟨(((List.take v9.toNat p0.aAF)++[(⟨p1,p2⟩:M.Field)])++(List.drop v9.toNat p0.aAF))⟩:M.aC)).bind λaq=>(if (!aq)=true then ((bU p0).bind λar=>(some (ar,false))) else (some ((⟨(((List.take v9.toNat p0.aAF)++[(⟨p1,p2⟩:M.Field)])++(List.drop v9.toNat p0.aAF))⟩:M.aC),true)))))))))))))) else ((xE p0.aAF v9).bind λbg=>((app 24 ([]:List M.Field) (List.take v9.toNat p0.aAF)).bind λbh=>((app 24 (List.take v9.toNat p0.aAF) ([(⟨p1,p2⟩:M.Field)])).bind λbj=>((Ak p0.aAF v9).bind λbl=>((app 24 ((List.take v9.toNat p0.aAF)++[(⟨p1,p2⟩:M.Field)]) (List.drop v9.toNat p0.aAF)).bind λbm=>((bF p0).bind λav=>(if (!av)=true then ((bU p0).bind λaw=>(some (aw,false))) else ((bF (⟨(((List.take v9.toNat p0.aAF)++[(⟨p1,p2⟩:M.Field)])++(List.drop v9.toNat p0.aAF))⟩:M.aC)).bind λax=>(if (!ax)=true then ((bU p0).bind λay=>(some (ay,false))) else (some ((⟨(((List.take v9.toNat p0.aAF)++[(⟨p1,p2⟩:M.Field)])++(List.drop v9.toNat p0.aAF))⟩:M.aC),true)))))))))))
def gK (p0:M.aC) (p1:ByteArray) (p2:Int):Option (M.aC×Bool):=
 (bU p0).bind λx1=>(kA p0 p1 p2 x1 fuel 0)
def kM (p0:M.aQ):Nat->Int->Int->Int->List M.Field->Option (Int×Int×M.aC)
 | 0,_,_,_,_=>none
 | aj+1,v4,aa,ae,af=>if (decide (v4>0))=true then ((cW (⟨p0.b,aa,ae⟩:M.aQ)).bind λah=>((aE (⟨p0.b,ah.1,ah.2.1⟩:M.aQ) 5).bind λai=>((gK (⟨af⟩:M.aC) ah.2.2 ai.2.2).bind λak=>(kM p0 aj (i64.wrap (v4-1)) ai.1 ai.2.1 ak.1.aAF)))) else (some (aa,ae,(⟨af⟩:M.aC)))
def iH (p0:M.aQ):Option (Int×Int×M.aC):=
 (aE p0 4).bind λx4=>(kM p0 fuel x4.2.2 x4.1 x4.2.1 ([]:List M.Field))
def nQ (p0:M.aA):Nat->Int->List M.aAQ->Option M.aA
 | 0,_,_=>none
 | af+1,v4,aa=>if (decide (v4<(List.length p0.aAD:Int)))=true then ((idx p0.aAD v4).bind λah=>((tR ah).bind λae=>((app 56 aa ([ae])).bind λai=>(nQ p0 af (i64.wrap (v4+1)) (aa++[ae]))))) else (some (⟨p0.Name,aa,p0.aAd⟩:M.aA))
def bO (p0:M.aA):Option M.aA:=
 nQ p0 fuel 0 ([]:List M.aAQ)
def nR (p0:M.aAA):Nat->Int->List M.aA->Option M.aAA
 | 0,_,_=>none
 | af+1,v4,aa=>if (decide (v4<(List.length p0.aAH:Int)))=true then ((idx p0.aAH v4).bind λah=>((bO ah).bind λae=>((app 48 aa ([ae])).bind λai=>(nR p0 af (i64.wrap (v4+1)) (aa++[ae]))))) else (some (⟨p0.Name,p0.aAB,aa,p0.aAS⟩:M.aAA))
def dX (p0:M.aAA):Option M.aAA:=
 (app 32 ([]:List M.aN) p0.aAS).bind λx1=>(nR p0 fuel 0 ([]:List M.aA))
def uO (p0:M.cR):Option M.cR:=
 (dX p0.aAU).bind λx1=>((app 1 ([]:List Int) p0.Log).bind λx3=>(some (⟨x1,p0.Log,p0.aAn⟩:M.cR)))
def dL (p0:List Int) (p1:Int):Nat->Int->Int->Option (Int×Int×Bool)
 | 0,_,_=>none
 | aa+1,v7,v8=>if (decide (v8<6))=true then (if (decide (p1<0))=true then (some (0,0,false)) else (if (decide (p1>=(i64.wrap ((List.length p0:Int)-v8))))=true then (some (0,0,false)) else ((idx p0 (i64.wrap (p1+v8))).bind λx9=>(if (decide (0<=(i64.wrap (7*v8))))=true then (if (decide ((i64.wrap x9)<128))=true then (if ((i64.wrap x9)==0)=true then (if (decide (v8>0))=true then (some (0,0,false)) else (if (decide ((i64.wrap (BitVec.ofInt (IntKind.i64.bits) v7|||BitVec.ofInt (IntKind.i64.bits) (i64.wrap ((i64.wrap (BitVec.ofInt (IntKind.i64.bits) (i64.wrap x9)&&&BitVec.ofInt (IntKind.i64.bits) 127).toNat)*2^(min (i64.wrap (7*v8)).toNat IntKind.i64.bits)))).toNat)>1000000000000))=true then (some (0,0,false)) else (some ((i64.wrap (BitVec.ofInt (IntKind.i64.bits) v7|||BitVec.ofInt (IntKind.i64.bits) (i64.wrap ((i64.wrap (BitVec.ofInt (IntKind.i64.bits) (i64.wrap x9)&&&BitVec.ofInt (IntKind.i64.bits) 127).toNat)*2^(min (i64.wrap (7*v8)).toNat IntKind.i64.bits)))).toNat),(i64.wrap ((i64.wrap (p1+v8))+1)),true)))) else (if (decide ((i64.wrap (BitVec.ofInt (IntKind.i64.bits) v7|||BitVec.ofInt (IntKind.i64.bits) (i64.wrap ((i64.wrap (BitVec.ofInt (IntKind.i64.bits) (i64.wrap x9)&&&BitVec.ofInt (IntKind.i64.bits) 127).toNat)*2^(min (i64.wrap (7*v8)).toNat IntKind.i64.bits)))).toNat)>1000000000000))=true then (some (0,0,false)) else (some ((i64.wrap (BitVec.ofInt (IntKind.i64.bits) v7|||BitVec.ofInt (IntKind.i64.bits) (i64.wrap ((i64.wrap (BitVec.ofInt (IntKind.i64.bits) (i64.wrap x9)&&&BitVec.ofInt (IntKind.i64.bits) 127).toNat)*2^(min (i64.wrap (7*v8)).toNat IntKind.i64.bits)))).toNat),(i64.wrap ((i64.wrap (p1+v8))+1)),true)))) else (dL p0 p1 aa (i64.wrap (BitVec.ofInt (IntKind.i64.bits) v7|||BitVec.ofInt (IntKind.i64.bits) (i64.wrap ((i64.wrap (BitVec.ofInt (IntKind.i64.bits) (i64.wrap x9)&&&BitVec.ofInt (IntKind.i64.bits) 127).toNat)*2^(min (i64.wrap (7*v8)).toNat IntKind.i64.bits)))).toNat) (i64.wrap (v8+1)))) else none)))) else (some (0,0,false))
def eN (p0:List Int) (p1:Int):Option (Int×Int×Bool):=
 dL p0 p1 fuel 0 0
def dK (p0:List Int) (p1:Int) (p2:Int):Option ((List Int)×Int×Bool):=
 (eN p0 p1).bind λx1=>(if (!x1.2.2)=true then (some (([]:List Int),0,false)) else (if (decide (x1.1>p2))=true then (some (([]:List Int),0,false)) else (if (decide (x1.1>(i64.wrap ((List.length p0:Int)-x1.2.1))))=true then (some (([]:List Int),0,false)) else ((Pt p0 x1.2.1 (i64.wrap (x1.2.1+x1.1))).bind λx6=>((app 1 ([]:List Int) (List.drop x1.2.1.toNat (List.take (i64.wrap (x1.2.1+x1.1)).toNat p0))).bind λx8=>(some ((List.drop x1.2.1.toNat (List.take (i64.wrap (x1.2.1+x1.1)).toNat p0)),(i64.wrap (x1.2.1+x1.1)),true)))))))
def gD (p0:List Int):Nat->Int->List Int->Option (List Int)
 | 0,_,_=>none
 | ae+1,v4,r7=>if (decide (v4<(List.length p0:Int)))=true then ((idx p0 v4).bind λaa=>((app 8 r7 ([(i64.wrap aa)])).bind λaf=>(gD p0 ae (i64.wrap (v4+1)) (r7++[(i64.wrap aa)])))) else (some r7)
def rZ (p0:List Int):Option (List Int):=
 gD p0 fuel 0 ([(List.length p0:Int)])
def Be (p0:Int) (p1:Int):Option Int:=
 (aZ p1 1 1000000000000).bind λx1=>(if (!x1)=true then (some 0) else (if (decide (p1=0))=true then none else (some (Int.tmod (i64.wrap ((Int.tmod p0 p1)+p1)) p1))))
def sC (p0:List Int):Nat->Int->Int->Option Int
 | 0,_,_=>none
 | aa+1,v3,v4=>if (decide (v4<(List.length p0:Int)))=true then ((idx p0 v4).bind λx6=>((Be x6 2147483647).bind λae=>(sC p0 aa (Int.tmod (i64.wrap ((i64.wrap ((i64.wrap (v3*1000003))+ae))+13)) 2147483647) (i64.wrap (v4+1))))) else (some v3)
def AH (p0:List Int):Option Int:=
 sC p0 fuel 11 0
def sR (p0:Int) (p1:List Int):Option Int:=
 (rZ p1).bind λx1=>((app 8 ([101,p0]) x1).bind λx3=>((AH ([101,p0]++x1)).bind λx5=>(some x5)))
def oT (p0:List Int):Nat->Int->List (List Int)->Option ((List (List Int))×Int)
 | 0,_,_=>none
 | ah+1,v5,aa=>if (decide (v5<(List.length p0:Int)))=true then ((dK p0 v5 4000).bind λae=>(if (!ae.2.2)=true then (some (aa,v5)) else ((eN p0 ae.2.1).bind λaf=>(if (!af.2.2)=true then (some (aa,v5)) else ((sR (List.length aa:Int) ae.1).bind λai=>(if (af.1 != ai)=true then (some (aa,v5)) else ((app 24 aa ([ae.1])).bind λaj=>(oT p0 ah af.2.1 (aa++[ae.1]))))))))) else (some (aa,v5))
def wV (p0:List Int):Option ((List (List Int))×Int):=
 oT p0 fuel 0 ([]:List (List Int))
def iX (p0:List Int) (x2:Int):Nat->Int->Int->Option (M.Key×Bool)
 | 0,_,_=>none
 | aa+1,v6,v7=>if (decide (v7<7))=true then ((idx p0 v7).bind λae=>(iX p0 x2 aa (i64.wrap (BitVec.ofInt (IntKind.i64.bits) (i64.wrap (v6*2^(min (8:Int).toNat IntKind.i64.bits)))|||BitVec.ofInt (IntKind.i64.bits) (i64.wrap ae)).toNat) (i64.wrap (v7+1)))) else ((Ak p0 7).bind λah=>((toStr (List.drop (7:Int).toNat p0)).bind λai=>((eP (⟨(i64.wrap x2),(i64.wrap (v6-1000000000000)),(cZ (List.drop (7:Int).toNat p0))⟩:M.Key)).bind λaf=>(if (!af)=true then (some ((⟨0,0,(⟨#[]⟩:ByteArray)⟩:M.Key),false)) else (some ((⟨(i64.wrap x2),(i64.wrap (v6-1000000000000)),(cZ (List.drop (7:Int).toNat p0))⟩:M.Key),true))))))
def pQ (p0:List Int):Option (M.Key×Bool):=
 if ((List.length p0:Int)==0)=true then (some ((⟨0,0,(⟨#[]⟩:ByteArray)⟩:M.Key),false)) else ((idx p0 0).bind λx2=>(if ((i64.wrap x2) != 2)=true then (if (decide ((List.length p0:Int)<7))=true then (some ((⟨0,0,(⟨#[]⟩:ByteArray)⟩:M.Key),false)) else (iX p0 x2 fuel 0 1)) else ((Ak p0 1).bind λae=>((toStr (List.drop (1:Int).toNat p0)).bind λaf=>((eP (⟨(i64.wrap x2),0,(cZ (List.drop (1:Int).toNat p0))⟩:M.Key)).bind λaa=>(if (!aa)=true then (some ((⟨0,0,(⟨#[]⟩:ByteArray)⟩:M.Key),false)) else (some ((⟨(i64.wrap x2),0,(cZ (List.drop (1:Int).toNat p0))⟩:M.Key),true))))))))
def nO (p0:List Int) (x1:(Int×Int×Bool)):Nat->Int->Int->List M.Field->Option (M.aC×Int×Bool)
 | 0,_,_,_=>none
 | ah+1,v8,v11,aa=>if (decide (v11<x1.1))=true then ((dK p0 v8 8).bind λae=>(if (!ae.2.2)=true then (some ((⟨([]:List M.Field)⟩:M.aC),0,false)) else ((eN p0 ae.2.1).bind λaf=>(if (!af.2.2)=true then (some ((⟨([]:List M.Field)⟩:M.aC),0,false)) else ((toStr ae.1).bind λaj=>((app 24 aa ([(⟨(cZ ae.1),af.1⟩:M.Field)])).bind λak=>(nO p0 x1 ah af.2.1 (i64.wrap (v11+1)) (aa++[(⟨(cZ ae.1),af.1⟩:M.Field)])))))))) else ((bF (⟨aa⟩:M.aC)).bind λai=>(some ((⟨aa⟩:M.aC),v8,ai)))
def Aq (p0:List Int) (p1:Int):Option (M.aC×Int×Bool):=
 (eN p0 p1).bind λx1=>(if (!x1.2.2)=true then (some ((⟨([]:List M.Field)⟩:M.aC),0,false)) else (if (decide (x1.1>6))=true then (some ((⟨([]:List M.Field)⟩:M.aC),0,false)) else (nO p0 x1 fuel x1.2.1 0 ([]:List M.Field))))
def lY (p0:List Int):Option (M.aC×Bool):=
 (Aq p0 0).bind λx1=>(if (!x1.2.2)=true then (some ((⟨([]:List M.Field)⟩:M.aC),false)) else (if (x1.2.1 != (List.length p0:Int))=true then (some ((⟨([]:List M.Field)⟩:M.aC),false)) else (some (x1.1,true))))
def xW (p0:List Int) (p1:Int):Option (M.Op×Int×Bool):=
 (eN p0 p1).bind λx1=>((dK p0 x1.2.1 100).bind λx3=>((dK p0 x3.2.1 100).bind λx5=>((dK p0 x5.2.1 200).bind λx7=>((dK p0 x7.2.1 100).bind λx9=>(if (!x1.2.2)=true then (some ((⟨0,(⟨#[]⟩:ByteArray),(⟨0,0,(⟨#[]⟩:ByteArray)⟩:M.Key),(⟨([]:List M.Field)⟩:M.aC),(⟨#[]⟩:ByteArray)⟩:M.Op),0,false)) else (if (!x3.2.2)=true then (some ((⟨0,(⟨#[]⟩:ByteArray),(⟨0,0,(⟨#[]⟩:ByteArray)⟩:M.Key),(⟨([]:List M.Field)⟩:M.aC),(⟨#[]⟩:ByteArray)⟩:M.Op),0,false)) else (if (!x5.2.2)=true then (some ((⟨0,(⟨#[]⟩:ByteArray),(⟨0,0,(⟨#[]⟩:ByteArray)⟩:M.Key),(⟨([]:List M.Field)⟩:M.aC),(⟨#[]⟩:ByteArray)⟩:M.Op),0,false)) else (if (!x7.2.2)=true then (some ((⟨0,(⟨#[]⟩:ByteArray),(⟨0,0,(⟨#[]⟩:ByteArray)⟩:M.Key),(⟨([]:List M.Field)⟩:M.aC),(⟨#[]⟩:ByteArray)⟩:M.Op),0,false)) else (if (!x9.2.2)=true then (some ((⟨0,(⟨#[]⟩:ByteArray),(⟨0,0,(⟨#[]⟩:ByteArray)⟩:M.Key),(⟨([]:List M.Field)⟩:M.aC),(⟨#[]⟩:ByteArray)⟩:M.Op),0,false)) else ((toStr x3.1).bind λaf=>((toStr x9.1).bind λah=>((pQ x5.1).bind λaa=>((lY x7.1).bind λae=>(some ((⟨x1.1,(cZ x3.1),aa.1,ae.1,(cZ x9.1)⟩:M.Op),x9.2.1,true)))))))))))))))
def zJ (p0:M.Op):Option Bool:=
 (aZ p0.aAV 1 6).bind λx1=>(if x1=true then ((bP p0.aA).bind λx4=>(if x4=true then (if (p0.aAV==5)=true then ((bF p0.aC).bind λx8=>(if x8=true then (if (p0.aAV==6)=true then ((bP p0.Field).bind λaa=>(if aa=true then (some true) else (if (p0.aAV != 6)=true then (some (p0.Field.toList==(⟨#[]⟩:ByteArray).toList)) else (some false)))) else (if (p0.aAV != 6)=true then (some (p0.Field.toList==(⟨#[]⟩:ByteArray).toList)) else (some false))) else (some false))) else ((eP p0.Key).bind λae=>(if ae=true then ((bF p0.aC).bind λaf=>(if af=true then (if (p0.aAV==6)=true then ((bP p0.Field).bind λah=>(if ah=true then (some true) else (if (p0.aAV != 6)=true then (some (p0.Field.toList==(⟨#[]⟩:ByteArray).toList)) else (some false)))) else (if (p0.aAV != 6)=true then (some (p0.Field.toList==(⟨#[]⟩:ByteArray).toList)) else (some false))) else (some false))) else (some false)))) else (some false))) else (some false))
def lQ (p0:List M.Op):Nat->Int->List Int->Option (List Int)
 | 0,_,_=>none
 | af+1,v4,aa=>if (decide (v4<(List.length p0:Int)))=true then ((idx p0 v4).bind λae=>((zJ ae).bind λah=>(if (!ah)=true then (some ([]:List Int)) else ((bK aa ae.aAV).bind λai=>((bJ ai (cY ae.aA)).bind λaj=>((iP ae.Key).bind λak=>((bJ aj ak).bind λal=>((fF ae.aC).bind λao=>((bJ al ao).bind λaq=>((bJ aq (cY ae.Field)).bind λar=>(lQ p0 af (i64.wrap (v4+1)) ar))))))))))) else (if (decide ((List.length p0:Int)>6))=true then (some ([]:List Int)) else (some aa))
def pR (p0:List M.Op):Option (List Int):=
 (bK ([]:List Int) (List.length p0:Int)).bind λx1=>(lQ p0 fuel 0 x1)
def tC (p0:List Int) (p1:List Int):Option Bool:=
 (toStr p0).bind λx1=>((toStr p1).bind λx3=>(some ((cZ p0).toList==(cZ p1).toList)))
def jB (p0:List Int) (x1:(Int×Int×Bool)):Nat->Int->Int->List M.Op->Option ((List M.Op)×Bool)
 | 0,_,_,_=>none
 | af+1,v5,v8,aa=>if (decide (v8<x1.1))=true then ((xW p0 v5).bind λae=>(if (!ae.2.2)=true then (some (([]:List M.Op),false)) else ((app 96 aa ([ae.1])).bind λaj=>(jB p0 x1 af ae.2.1 (i64.wrap (v8+1)) (aa++[ae.1]))))) else ((pR aa).bind λah=>((tC ah p0).bind λai=>(if (!ai)=true then (some (([]:List M.Op),false)) else (some (aa,true)))))
def pP (p0:List Int):Option ((List M.Op)×Bool):=
 (eN p0 0).bind λx1=>(if (!x1.2.2)=true then (some (([]:List M.Op),false)) else (if (decide (x1.1>6))=true then (some (([]:List M.Op),false)) else (jB p0 x1 fuel x1.2.1 0 ([]:List M.Op))))
def kR (p0:M.aA) (p1:M.Key):Nat->Int->Option Int
 | 0,_=>none
 | aa+1,v5=>if (decide (v5<(List.length p0.aAD:Int)))=true then ((idx p0.aAD v5).bind λx8=>(if ((x8.Key.aAV==p1.aAV)&&((x8.Key.N==p1.N)&&(x8.Key.aAf.toList==p1.aAf.toList)))=true then (some v5) else (kR p0 p1 aa (i64.wrap (v5+1))))) else (some (-1))
def kK (p0:M.aA) (p1:M.Key):Option Int:=
 kR p0 p1 fuel 0
def lX (p0:M.aA) (p1:M.Key) (p2:M.aC) (aa:M.aA):Nat->Int->Option (M.aA×Bool)
 | 0,_=>none
 | aj+1,v10=>if (decide (v10<(List.length p0.aAD:Int)))=true then ((idx p0.aAD v10).bind λak=>((bD ak.Key p1).bind λal=>(if (decide (al<0))=true then (lX p0 p1 p2 aa aj (i64.wrap (v10+1))) else ((xE aa.aAD v10).bind λaw=>((app 56 ([]:List M.aAQ) (List.take v10.toNat aa.aAD)).bind λax=>((bU p2).bind λaf=>((app 56 (List.take v10.toNat aa.aAD) ([(⟨p1,af⟩:M.aAQ)])).bind λay=>((app 56 ((List.take v10.toNat aa.aAD)++[(⟨p1,af⟩:M.aAQ)]) (List.drop v10.toNat aa.aAD)).bind λaz=>(if (p1.aAV==1)=true then ((aZ p1.N (i64.wrap (p0.aAd+1)) 1000000).bind λah=>(if ah=true then (some ((⟨aa.Name,(((List.take v10.toNat aa.aAD)++[(⟨p1,af⟩:M.aAQ)])++(List.drop v10.toNat aa.aAD)),p1.N⟩:M.aA),true)) else (some ((⟨aa.Name,(((List.take v10.toNat aa.aAD)++[(⟨p1,af⟩:M.aAQ)])++(List.drop v10.toNat aa.aAD)),aa.aAd⟩:M.aA),true)))) else (some ((⟨aa.Name,(((List.take v10.toNat aa.aAD)++[(⟨p1,af⟩:M.aAQ)])++(List.drop v10.toNat aa.aAD)),aa.aAd⟩:M.aA),true))))))))))) else ((xE aa.aAD v10).bind λao=>((app 56 ([]:List M.aAQ) (List.take v10.toNat aa.aAD)).bind λaq=>((bU p2).bind λae=>((app 56 (List.take v10.toNat aa.aAD) ([(⟨p1,ae⟩:M.aAQ)])).bind λar=>((app 56 ((List.take v10.toNat aa.aAD)++[(⟨p1,ae⟩:M.aAQ)]) (List.drop v10.toNat aa.aAD)).bind λav=>(if (p1.aAV==1)=true then ((aZ p1.N (i64.wrap (p0.aAd+1)) 1000000).bind λai=>(if ai=true then (some ((⟨aa.Name,(((List.take v10.toNat aa.aAD)++[(⟨p1,ae⟩:M.aAQ)])++(List.drop v10.toNat aa.aAD)),p1.N⟩:M.aA),true)) else (some ((⟨aa.Name,(((List.take v10.toNat aa.aAD)++[(⟨p1,ae⟩:M.aAQ)])++(List.drop v10.toNat aa.aAD)),aa.aAd⟩:M.aA),true)))) else (some ((⟨aa.Name,(((List.take v10.toNat aa.aAD)++[(⟨p1,ae⟩:M.aAQ)])++(List.drop v10.toNat aa.aAD)),aa.aAd⟩:M.aA),true))))))))
def dO (p0:M.aA) (p1:M.Key) (p2:M.aC):Option (M.aA×Bool):=
 (jY p0).bind λx1=>(if (!x1)=true then ((bO p0).bind λx4=>(some (x4,false))) else ((eP p1).bind λx6=>(if (!x6)=true then ((bO p0).bind λx9=>(some (x9,false))) else ((bF p2).bind λaf=>(if (!af)=true then ((bO p0).bind λah=>(some (ah,false))) else ((bO p0).bind λaa=>((kK p0 p1).bind λae=>(if (decide (ae>=0))=true then ((bU p2).bind λai=>((idx aa.aAD ae).bind λaj=>(some ((⟨aa.Name,(List.set aa.aAD ae.toNat (⟨aj.Key,ai⟩:M.aAQ)),aa.aAd⟩:M.aA),true)))) else (if (decide ((List.length p0.aAD:Int)>=16))=true then (some (aa,false)) else (lX p0 p1 p2 aa fuel 0))))))))))
def uQ (p0:M.aA) (p1:M.Key) (p2:M.aC):Option (M.aA×Bool):=
 (kK p0 p1).bind λx1=>(if (decide (x1>=0))=true then ((bO p0).bind λx4=>(some (x4,false))) else ((dO p0 p1 p2).bind λx6=>(some (x6.1,x6.2))))
def uF (p0:M.Key) (p1:M.fI):Option Bool:=
 (eP p0).bind λx1=>(if (!x1)=true then (some false) else (if p1.aA8=true then ((eP p1.Low).bind λx5=>(if (!x5)=true then (some false) else (if p1.aAv=true then ((eP p1.aA3).bind λx9=>(if (!x9)=true then (some false) else (if (!p1.aA8)=true then (if (!p1.aAv)=true then (some true) else ((bD p0 p1.aA3).bind λaa=>(some (decide (aa<=0))))) else ((bD p1.Low p0).bind λae=>(if (decide (ae<=0))=true then (if (!p1.aAv)=true then (some true) else ((bD p0 p1.aA3).bind λaf=>(some (decide (af<=0))))) else (some false)))))) else (if (!p1.aA8)=true then (if (!p1.aAv)=true then (some true) else ((bD p0 p1.aA3).bind λah=>(some (decide (ah<=0))))) else ((bD p1.Low p0).bind λai=>(if (decide (ai<=0))=true then (if (!p1.aAv)=true then (some true) else ((bD p0 p1.aA3).bind λaj=>(some (decide (aj<=0))))) else (some false))))))) else (if p1.aAv=true then ((eP p1.aA3).bind λak=>(if (!ak)=true then (some false) else (if (!p1.aA8)=true then (if (!p1.aAv)=true then (some true) else ((bD p0 p1.aA3).bind λal=>(some (decide (al<=0))))) else ((bD p1.Low p0).bind λao=>(if (decide (ao<=0))=true then (if (!p1.aAv)=true then (some true) else ((bD p0 p1.aA3).bind λaq=>(some (decide (aq<=0))))) else (some false)))))) else (if (!p1.aA8)=true then (if (!p1.aAv)=true then (some true) else ((bD p0 p1.aA3).bind λar=>(some (decide (ar<=0))))) else ((bD p1.Low p0).bind λav=>(if (decide (av<=0))=true then (if (!p1.aAv)=true then (some true) else ((bD p0 p1.aA3).bind λaw=>(some (decide (aw<=0))))) else (some false)))))))
def gG (p0:M.aA) (p1:M.fI):Nat->Int->List M.aAQ->Option (M.aA×Int)
 | 0,_,_=>none
 | ae+1,v7,aa=>if (decide (v7<(List.length p0.aAD:Int)))=true then ((idx p0.aAD v7).bind λaf=>((uF af.Key p1).bind λai=>(if (!ai)=true then ((tR af).bind λah=>((app 56 aa ([ah])).bind λaj=>(gG p0 p1 ae (i64.wrap (v7+1)) (aa++[ah])))) else (gG p0 p1 ae (i64.wrap (v7+1)) aa)))) else (some ((⟨p0.Name,aa,p0.aAd⟩:M.aA),(i64.wrap ((List.length p0.aAD:Int)-(List.length aa:Int)))))
def nI (p0:M.aA) (p1:M.fI):Option (M.aA×Int):=
 (jY p0).bind λx1=>(if (!x1)=true then ((bO p0).bind λx4=>(some (x4,0))) else (gG p0 p1 fuel 0 ([]:List M.aAQ)))
def zY (p0:M.aA) (p1:M.Key) (p2:ByteArray):Option (M.aA×Int×Bool):=
 (kK p0 p1).bind λx1=>(if (decide (x1>=0))=true then ((idx p0.aAD x1).bind λx4=>((iM x4.aC p2).bind λx9=>((gK x4.aC p2 (i64.wrap (x9.1+1))).bind λah=>((dO p0 p1 ah.1).bind λaa=>(if ah.2=true then (some (aa.1,(i64.wrap (x9.1+1)),aa.2)) else (some (aa.1,(i64.wrap (x9.1+1)),false))))))) else ((iM (⟨([]:List M.Field)⟩:M.aC) p2).bind λae=>((gK (⟨([]:List M.Field)⟩:M.aC) p2 (i64.wrap (ae.1+1))).bind λai=>((dO p0 p1 ai.1).bind λaf=>(if ai.2=true then (some (af.1,(i64.wrap (ae.1+1)),af.2)) else (some (af.1,(i64.wrap (ae.1+1)),false)))))))
def xA (p0:M.aA) (p1:M.Op):Option (M.aA×Int×Bool):=
 if (p1.aAV==1)=true then ((dO p0 p1.Key p1.aC).bind λx2=>(some (x2.1,1,x2.2))) else (if (p1.aAV==2)=true then ((uQ p0 p1.Key p1.aC).bind λx5=>(some (x5.1,1,x5.2))) else (if (p1.aAV==3)=true then ((nI p0 (⟨true,true,p1.Key,p1.Key⟩:M.fI)).bind λx8=>(some (x8.1,x8.2,true))) else (if (p1.aAV==4)=true then ((kK p0 p1.Key).bind λae=>(if (decide (ae<0))=true then ((bO p0).bind λah=>(some (ah,(-1),true))) else ((bO p0).bind λai=>((idx p0.aAD ae).bind λaj=>(some (ai,(List.length aj.aC.aAF:Int),true)))))) else (if (p1.aAV==5)=true then ((nI p0 (⟨false,false,(⟨0,0,(⟨#[]⟩:ByteArray)⟩:M.Key),(⟨0,0,(⟨#[]⟩:ByteArray)⟩:M.Key)⟩:M.fI)).bind λaf=>(some (af.1,af.2,true))) else ((zY p0 p1.Key p1.Field).bind λaa=>(some (aa.1,aa.2.1,aa.2.2)))))))
def xR (p0:M.aAA) (p1:M.Op):Option (M.aAA×Int×Bool):=
 (dX p0).bind λx1=>((nK p0 p1.aA).bind λx3=>((bQ p0).bind λx5=>(if (!x5)=true then (some (x1,0,false)) else ((zJ p1).bind λx8=>(if (!x8)=true then (some (x1,0,false)) else (if (decide (x3<0))=true then (some (x1,0,false)) else ((idx p0.aAH x3).bind λae=>((xA ae p1).bind λaa=>((idx x1.aAH x3).bind λaj=>(if (!aa.2.2)=true then ((dX p0).bind λaf=>(some (af,0,false))) else ((bQ (⟨x1.Name,x1.aAB,(List.set x1.aAH x3.toNat aa.1),x1.aAS⟩:M.aAA)).bind λah=>(if (!ah)=true then ((dX p0).bind λai=>(some (ai,0,false))) else (some ((⟨x1.Name,x1.aAB,(List.set x1.aAH x3.toNat aa.1),x1.aAS⟩:M.aAA),aa.2.1,true))))))))))))))
def pS (p0:M.aAA) (p1:List M.Op):Nat->Int->ByteArray->Int->List Int->List M.aA->List M.aN->Option (M.aAA×(List Int)×Bool)
 | 0,_,_,_,_,_,_=>none
 | ak+1,v9,ah,ai,aj,aa,ae=>if (decide (v9<(List.length p1:Int)))=true then ((idx p1 v9).bind λal=>((xR (⟨ah,ai,aa,ae⟩:M.aAA) al).bind λaf=>(if (!af.2.2)=true then ((dX p0).bind λao=>(some (ao,([]:List Int),false))) else ((app 8 aj ([af.2.1])).bind λaq=>(pS p0 p1 ak (i64.wrap (v9+1)) af.1.Name af.1.aAB (aj++[af.2.1]) af.1.aAH af.1.aAS))))) else (some ((⟨ah,ai,aa,ae⟩:M.aAA),aj,true))
def tW (p0:M.aAA) (p1:List M.Op):Option (M.aAA×(List Int)×Bool):=
 (dX p0).bind λx1=>((bQ p0).bind λaa=>(if (!aa)=true then (some (x1,([]:List Int),false)) else (if (decide ((List.length p1:Int)>6))=true then (some (x1,([]:List Int),false)) else (pS p0 p1 fuel 0 x1.Name x1.aAB ([]:List Int) x1.aAH x1.aAS))))
def nE (x3:((List (List Int))×Int)):Nat->Int->ByteArray->Int->List M.aA->List M.aN->Option (M.aAA×Int)
 | 0,_,_,_,_,_=>none
 | ak+1,v7,af,ah,aa,ae=>if (decide (v7<(List.length x3.1:Int)))=true then ((idx x3.1 v7).bind λal=>((pP al).bind λaj=>(if (!aj.2)=true then (some ((⟨af,ah,aa,ae⟩:M.aAA),v7)) else ((tW (⟨af,ah,aa,ae⟩:M.aAA) aj.1).bind λai=>(nE x3 ak (i64.wrap (v7+1)) ai.1.Name ai.1.aAB ai.1.aAH ai.1.aAS))))) else (some ((⟨af,ah,aa,ae⟩:M.aAA),(List.length x3.1:Int)))
def vN (p0:M.cR):Option (M.aAA×Int):=
 (dX p0.aAU).bind λx1=>((wV p0.Log).bind λx3=>(nE x3 fuel 0 x1.Name x1.aAB x1.aAH x1.aAS))
def pV (p0:List Int) (p1:Int) (p2:List Int):Option ((List Int)×Bool):=
 (app 1 ([]:List Int) p0).bind λx1=>((bJ p0 p2).bind λx8=>((sR p1 p2).bind λae=>((bK x8 ae).bind λaa=>(if (decide (p1<0))=true then (some (p0,false)) else (if (decide ((List.length aa:Int)>4000))=true then (some (p0,false)) else (some (aa,true)))))))
def lL (p0:M.cR) (p1:List M.Op):Option (M.cR×Bool):=
 (uO p0).bind λx1=>((vN p0).bind λx3=>((tW x3.1 p1).bind λx5=>((pR p1).bind λx7=>(if (!x5.2.2)=true then (some (x1,false)) else (if ((List.length x7:Int)==0)=true then (some (x1,false)) else (if (x3.2 != p0.aAn)=true then (some (x1,false)) else ((pV p0.Log p0.aAn x7).bind λaa=>(if (!aa.2)=true then (some (x1,false)) else (some ((⟨x1.aAU,aa.1,(i64.wrap (p0.aAn+1))⟩:M.cR),true))))))))))
def oJ (p0:M.aH):Option M.aH:=
 (app 72 ([]:List M.bA) p0.aAP).bind λx1=>(some p0)
def sD (p0:M.aAT):Option M.aAT:=
 (oJ p0.aH).bind λx1=>(some (⟨x1,p0.aAm,p0.aAb⟩:M.aAT))
def sI (p0:M.aG):Option M.aG:=
 (bO p0.aAU).bind λx1=>((sD p0.aAT).bind λx3=>(some (⟨x1,p0.aAu,x3⟩:M.aG)))
def gH (p0:M.aH) (p1:M.Key) (p2:ByteArray) (p3:Int):Option (M.aH×Bool):=
 (oJ p0).bind λx1=>((gI p0).bind λx3=>(if (!x3)=true then (some (x1,false)) else ((app 72 x1.aAP ([(⟨p0.aAK,p0.aAh,p1,p2,p3⟩:M.bA)])).bind λx6=>((gI (⟨x1.aAK,(i64.wrap (p0.aAh+1)),(x1.aAP++[(⟨p0.aAK,p0.aAh,p1,p2,p3⟩:M.bA)])⟩:M.aH)).bind λaa=>(if (!aa)=true then ((oJ p0).bind λae=>(some (ae,false))) else (some ((⟨x1.aAK,(i64.wrap (p0.aAh+1)),(x1.aAP++[(⟨p0.aAK,p0.aAh,p1,p2,p3⟩:M.bA)])⟩:M.aH),true)))))))
def iT (p0:M.aA) (p1:M.bA):Option (M.aA×Bool):=
 (kK p0 p1.Key).bind λx1=>(if (decide (x1>=0))=true then ((idx p0.aAD x1).bind λx4=>((gK x4.aC p1.Field p1.N).bind λx9=>(if (!x9.2)=true then ((bO p0).bind λah=>(some (ah,false))) else ((dO p0 p1.Key x9.1).bind λaa=>(some (aa.1,aa.2)))))) else ((gK (⟨([]:List M.Field)⟩:M.aC) p1.Field p1.N).bind λae=>(if (!ae.2)=true then ((bO p0).bind λai=>(some (ai,false))) else ((dO p0 p1.Key ae.1).bind λaf=>(some (af.1,af.2))))))
def hZ (p1:List M.bA):Nat->Int->ByteArray->Int->List M.aAQ->Option M.aA
 | 0,_,_,_,_=>none
 | ai+1,v6,ae,af,aa=>if (decide (v6<(List.length p1:Int)))=true then ((idx p1 v6).bind λaj=>((iT (⟨ae,aa,af⟩:M.aA) aj).bind λah=>(if ah.2=true then (hZ p1 ai (i64.wrap (v6+1)) ah.1.Name ah.1.aAd ah.1.aAD) else (hZ p1 ai (i64.wrap (v6+1)) ae af aa)))) else (some (⟨ae,aa,af⟩:M.aA))
def tG (p0:M.aA) (p1:List M.bA):Option M.aA:=
 (bO p0).bind λx1=>(hZ p1 fuel 0 x1.Name x1.aAd x1.aAD)
def wK (p0:M.aG):Option M.aA:=
 (tG p0.aAU p0.aAT.aH.aAP).bind λx1=>(some x1)
def jN (p0:M.aG) (p1:M.Key) (p2:ByteArray) (p3:Int):Option (M.aG×Bool):=
 (sI p0).bind λx1=>((gH p0.aAT.aH p1 p2 p3).bind λx3=>((wK p0).bind λx5=>((iT x5 (⟨0,0,p1,p2,p3⟩:M.bA)).bind λx7=>((kW p0).bind λx9=>(if (!x9)=true then (some (x1,false)) else (if (!x3.2)=true then (some (x1,false)) else (if (!x7.2)=true then (some (x1,false)) else (some ((⟨x1.aAU,x1.aAu,(⟨x3.1,x1.aAT.aAm,x1.aAT.aAb⟩:M.aAT)⟩:M.aG),true)))))))))
def uR (p0:M.aAM):Option M.aAM:=
 (app 1 ([]:List Int) p0.aA4).bind λx1=>(some p0)
def kE (p0:M.aAL):Nat->Int->List M.aAR->Option M.aAL
 | 0,_,_=>none
 | ah+1,v4,aa=>if (decide (v4<(List.length p0.aAN:Int)))=true then ((idx p0.aAN v4).bind λae=>((uR ae.aAM).bind λaf=>((app 88 aa ([(⟨ae.aAO,ae.aAs,af⟩:M.aAR)])).bind λai=>(kE p0 ah (i64.wrap (v4+1)) (aa++[(⟨ae.aAO,ae.aAs,af⟩:M.aAR)]))))) else (some (⟨p0.aAB,aa⟩:M.aAL))
def vQ (p0:M.aAL):Option M.aAL:=
 kE p0 fuel 0 ([]:List M.aAR)
def mF (p0:M.aF):Nat->Int->List M.aAL->Option M.aF
 | 0,_,_=>none
 | af+1,v4,aa=>if (decide (v4<(List.length p0.aAE:Int)))=true then ((idx p0.aAE v4).bind λah=>((vQ ah).bind λae=>((app 32 aa ([ae])).bind λai=>(mF p0 af (i64.wrap (v4+1)) (aa++[ae]))))) else (some (⟨aa⟩:M.aF))
def cX (p0:M.aF):Option M.aF:=
 mF p0 fuel 0 ([]:List M.aAL)
def jG (p0:M.aF) (p1:Int) (x1:M.aF):Nat->Int->Option (M.aF×Bool)
 | 0,_=>none
 | ai+1,v7=>if (decide (v7<(List.length p0.aAE:Int)))=true then ((idx p0.aAE v7).bind λaj=>(if (decide (aj.aAB<p1))=true then (jG p0 p1 x1 ai (i64.wrap (v7+1))) else ((xE x1.aAE v7).bind λar=>((app 32 ([]:List M.aAL) (List.take v7.toNat x1.aAE)).bind λav=>((app 32 (List.take v7.toNat x1.aAE) ([(⟨p1,([]:List M.aAR)⟩:M.aAL)])).bind λaw=>((app 32 ((List.take v7.toNat x1.aAE)++[(⟨p1,([]:List M.aAR)⟩:M.aAL)]) (List.drop v7.toNat x1.aAE)).bind λax=>((bY p0).bind λak=>(if (!ak)=true then ((cX p0).bind λal=>(some (al,false))) else ((bY (⟨(((List.take v7.toNat x1.aAE)++[(⟨p1,([]:List M.aAR)⟩:M.aAL)])++(List.drop v7.toNat x1.aAE))⟩:M.aF)).bind λao=>(if (!ao)=true then ((cX p0).bind λaq=>(some (aq,false))) else (some ((⟨(((List.take v7.toNat x1.aAE)++[(⟨p1,([]:List M.aAR)⟩:M.aAL)])++(List.drop v7.toNat x1.aAE))⟩:M.aF),true)))))))))))) else ((xE x1.aAE v7).bind λay=>((app 32 ([]:List M.aAL) (List.take v7.toNat x1.aAE)).bind λaz=>((app 32 (List.take v7.toNat x1.aAE) ([(⟨p1,([]:List M.aAR)⟩:M.aAL)])).bind λb7=>((app 32 ((List.take v7.toNat x1.aAE)++[(⟨p1,([]:List M.aAR)⟩:M.aAL)]) (List.drop v7.toNat x1.aAE)).bind λba=>((bY p0).bind λaa=>(if (!aa)=true then ((cX p0).bind λae=>(some (ae,false))) else ((bY (⟨(((List.take v7.toNat x1.aAE)++[(⟨p1,([]:List M.aAR)⟩:M.aAL)])++(List.drop v7.toNat x1.aAE))⟩:M.aF)).bind λaf=>(if (!af)=true then ((cX p0).bind λah=>(some (ah,false))) else (some ((⟨(((List.take v7.toNat x1.aAE)++[(⟨p1,([]:List M.aAR)⟩:M.aAL)])++(List.drop v7.toNat x1.aAE))⟩:M.aF),true))))))))))
def lC (p0:M.aF) (p1:Int):Option (M.aF×Bool):=
 (cX p0).bind λx1=>(jG p0 p1 x1 fuel 0)
def eZ (p0:M.aQ) (az:(M.aO×Bool)) (bg:ByteArray) (bh:Int) (b7:Int) (aw:List M.aA) (ax:List M.aN) (ay:List Int):Nat->Int->ByteArray->Int->Int->Int->Int->Int->Int->Int->Int->List M.aAQ->List M.bA->Option (Int×Int×M.aO)
 | 0,_,_,_,_,_,_,_,_,_,_,_,_=>none
 | bu+1,ba,ai,aj,ak,al,ao,aq,ar,aa,ae,af,ah=>if (decide (ba>0))=true then ((dF (⟨p0.b,aa,ae⟩:M.aQ)).bind λbj=>((cW (⟨p0.b,bj.1,bj.2.1⟩:M.aQ)).bind λbl=>((aE (⟨p0.b,bl.1,bl.2.1⟩:M.aQ) 6).bind λbm=>((jN (⟨(⟨ai,af,aj⟩:M.aA),ak,(⟨(⟨al,ao,ah⟩:M.aH),aq,ar⟩:M.aAT)⟩:M.aG) bj.2.2 bl.2.2 bm.2.2).bind λav=>(eZ p0 az bg bh b7 aw ax ay bu (i64.wrap (ba-1)) av.1.aAU.Name av.1.aAU.aAd av.1.aAu av.1.aAT.aH.aAK av.1.aAT.aH.aAh av.1.aAT.aAm av.1.aAT.aAb bm.1 bm.2.1 av.1.aAU.aAD av.1.aAT.aH.aAP))))) else ((cK (⟨p0.b,aa,ae⟩:M.aQ) 2).bind λbd=>(if bd.2.2=true then ((aE (⟨p0.b,bd.1,bd.2.1⟩:M.aQ) 3).bind λbf=>((lC az.1.aAE (i64.wrap (1+bf.2.2))).bind λbt=>((aE (⟨p0.b,bf.1,bf.2.1⟩:M.aQ) 50).bind λbn=>((cK (⟨p0.b,bn.1,bn.2.1⟩:M.aQ) 4).bind λbo=>(some (bo.1,bo.2.1,(⟨az.1.aAO,az.1.Top,(⟨az.1.aAC.aAO,az.1.aAC.aAc,az.1.aAC.aAl,(i64.wrap (1+bf.2.2))⟩:M.aAC),bt.1,(⟨(⟨bg,bh,aw,ax⟩:M.aAA),ay,b7⟩:M.cR),(⟨(⟨ai,af,aj⟩:M.aA),ak,(⟨(⟨al,ao,ah⟩:M.aH),aq,ar⟩:M.aAT)⟩:M.aG),bn.2.2,bo.2.2⟩:M.aO))))))) else ((aE (⟨p0.b,bd.1,bd.2.1⟩:M.aQ) 50).bind λbq=>((cK (⟨p0.b,bq.1,bq.2.1⟩:M.aQ) 4).bind λbr=>(some (br.1,br.2.1,(⟨az.1.aAO,az.1.Top,az.1.aAC,az.1.aAE,(⟨(⟨bg,bh,aw,ax⟩:M.aAA),ay,b7⟩:M.cR),(⟨(⟨ai,af,aj⟩:M.aA),ak,(⟨(⟨al,ao,ah⟩:M.aH),aq,ar⟩:M.aAT)⟩:M.aG),bq.2.2,br.2.2⟩:M.aO)))))))
def fB (p0:M.aQ) (af:(M.aO×Bool)):Nat->Int->ByteArray->Int->Int->Int->Int->List M.aA->List M.aN->List Int->Option (Int×Int×M.aO)
 | 0,_,_,_,_,_,_,_,_,_=>none
 | ax+1,v7,aq,ar,ak,aa,ae,ah,ai,aj=>if (decide (v7>0))=true then ((dF (⟨p0.b,aa,ae⟩:M.aQ)).bind λav=>((iH (⟨p0.b,av.1,av.2.1⟩:M.aQ)).bind λaw=>((lL (⟨(⟨aq,ar,ah,ai⟩:M.aAA),aj,ak⟩:M.cR) ([(⟨1,(⟨#[110,111,116,101,115]⟩:ByteArray),av.2.2,aw.2.2,(⟨#[]⟩:ByteArray)⟩:M.Op)])).bind λao=>(fB p0 af ax (i64.wrap (v7-1)) ao.1.aAU.Name ao.1.aAU.aAB ao.1.aAn aw.1 aw.2.1 ao.1.aAU.aAH ao.1.aAU.aAS ao.1.Log)))) else ((aE (⟨p0.b,aa,ae⟩:M.aQ) 3).bind λal=>(eZ p0 af aq ar ak ah ai aj fuel al.2.2 af.1.aG.aAU.Name af.1.aG.aAU.aAd af.1.aG.aAu af.1.aG.aAT.aH.aAK af.1.aG.aAT.aH.aAh af.1.aG.aAT.aAm af.1.aG.aAT.aAb al.1 al.2.1 af.1.aG.aAU.aAD af.1.aG.aAT.aH.aAP))
def rA (p0:M.aQ):Option (Int×Int×M.aO):=
 (jZ p0).bind λx4=>(((cK (⟨p0.b,x4.1,x4.2.1⟩:M.aQ) 3).bind λae=>(if ae.2.2=true then ((jZ (⟨p0.b,ae.1,ae.2.1⟩:M.aQ)).bind λaf=>(some (af.2.2,af.1,af.2.1))) else (some (x4.2.2,ae.1,ae.2.1)))).bind λah=>((aE (⟨p0.b,ah.2.1,ah.2.2⟩:M.aQ) 3).bind λai=>((pO x4.2.2 ah.1 (i64.wrap (1+ai.2.2))).bind λaa=>((aE (⟨p0.b,ai.1,ai.2.1⟩:M.aQ) 4).bind λaj=>(fB p0 aa fuel aj.2.2 aa.1.cR.aAU.Name aa.1.cR.aAU.aAB aa.1.cR.aAn aj.1 aj.2.1 aa.1.cR.aAU.aAH aa.1.cR.aAU.aAS aa.1.cR.Log)))))
def mG (p0:M.aO):Option M.aO:=
 (cX p0.aAE).bind λx1=>((uO p0.cR).bind λx3=>((sI p0.aG).bind λx5=>(some (⟨p0.aAO,p0.Top,p0.aAC,x1,x3,x5,p0.aAk,p0.aAj⟩:M.aO))))
def lN (p0:M.aJ):Nat->Int->List M.aO->Option M.aJ
 | 0,_,_=>none
 | af+1,v4,aa=>if (decide (v4<(List.length p0.aAG:Int)))=true then ((idx p0.aAG v4).bind λah=>((mG ah).bind λae=>((app 328 aa ([ae])).bind λai=>(lN p0 af (i64.wrap (v4+1)) (aa++[ae]))))) else (some (⟨aa⟩:M.aJ))
def fM (p0:M.aJ):Option M.aJ:=
 lN p0 fuel 0 ([]:List M.aO)
def fP (p0:M.aJ) (p1:ByteArray) (p2:ByteArray):Nat->Int->Option Int
 | 0,_=>none
 | aa+1,v7=>if (decide (v7<(List.length p0.aAG:Int)))=true then ((idx p0.aAG v7).bind λx8=>(if (x8.aAO.toList==p1.toList)=true then (if (x8.Top.toList==p2.toList)=true then (some v7) else (fP p0 p1 p2 aa (i64.wrap (v7+1)))) else (fP p0 p1 p2 aa (i64.wrap (v7+1))))) else (some (-1))
def lZ (p0:M.aJ) (p1:ByteArray) (p2:ByteArray):Option Int:=
 fP p0 p1 p2 fuel 0
def uN (p0:M.aO) (p1:ByteArray) (p2:ByteArray):Option Bool:=
 if (Op.bytesLess p0.aAO.toList p1.toList)=true then (some true) else (if (p0.aAO.toList==p1.toList)=true then (some (Op.bytesLess p0.Top.toList p2.toList)) else (some false))
def fG (p0:M.aJ):Nat->Int->Option Bool
 | 0,_=>none
 | aa+1,v3=>if (decide (v3<(List.length p0.aAG:Int)))=true then ((idx p0.aAG v3).bind λx6=>((tE x6).bind λae=>(if (!ae)=true then (some false) else (if (decide (v3>0))=true then ((idx p0.aAG (i64.wrap (v3-1))).bind λaf=>((uN af x6.aAO x6.Top).bind λah=>(if (!ah)=true then (some false) else (fG p0 aa (i64.wrap (v3+1)))))) else (fG p0 aa (i64.wrap (v3+1))))))) else (some (decide ((List.length p0.aAG:Int)<=9)))
def bZ (p0:M.aJ):Option Bool:=
 fG p0 fuel 0
def jC (p0:M.aJ) (p1:M.aO) (x1:M.aJ):Nat->Int->Option (M.aJ×Bool)
 | 0,_=>none
 | al+1,v8=>if (decide (v8<(List.length p0.aAG:Int)))=true then ((idx p0.aAG v8).bind λao=>((uN ao p1.aAO p1.Top).bind λaq=>(if aq=true then (jC p0 p1 x1 al (i64.wrap (v8+1))) else ((xE x1.aAG v8).bind λba=>((app 328 ([]:List M.aO) (List.take v8.toNat x1.aAG)).bind λbd=>((mG p1).bind λae=>((app 328 (List.take v8.toNat x1.aAG) ([ae])).bind λbf=>((app 328 ((List.take v8.toNat x1.aAG)++[ae]) (List.drop v8.toNat x1.aAG)).bind λbg=>((bZ p0).bind λar=>(if (!ar)=true then ((fM p0).bind λav=>(some (av,false))) else ((bZ (⟨(((List.take v8.toNat x1.aAG)++[ae])++(List.drop v8.toNat x1.aAG))⟩:M.aJ)).bind λaw=>(if (!aw)=true then ((fM p0).bind λaf=>(some (af,false))) else (some ((⟨(((List.take v8.toNat x1.aAG)++[ae])++(List.drop v8.toNat x1.aAG))⟩:M.aJ),true)))))))))))))) else ((xE x1.aAG v8).bind λax=>((app 328 ([]:List M.aO) (List.take v8.toNat x1.aAG)).bind λay=>((mG p1).bind λaa=>((app 328 (List.take v8.toNat x1.aAG) ([aa])).bind λaz=>((app 328 ((List.take v8.toNat x1.aAG)++[aa]) (List.drop v8.toNat x1.aAG)).bind λb7=>((bZ p0).bind λah=>(if (!ah)=true then ((fM p0).bind λai=>(some (ai,false))) else ((bZ (⟨(((List.take v8.toNat x1.aAG)++[aa])++(List.drop v8.toNat x1.aAG))⟩:M.aJ)).bind λaj=>(if (!aj)=true then ((fM p0).bind λak=>(some (ak,false))) else (some ((⟨(((List.take v8.toNat x1.aAG)++[aa])++(List.drop v8.toNat x1.aAG))⟩:M.aJ),true)))))))))))
def nJ (p0:M.aJ) (p1:M.aO):Option (M.aJ×Bool):=
 (fM p0).bind λx1=>((lZ p0 p1.aAO p1.Top).bind λx3=>(if (decide (x3>=0))=true then ((mG p1).bind λx6=>((idx x1.aAG x3).bind λx8=>((bZ p0).bind λaa=>(if (!aa)=true then ((fM p0).bind λae=>(some (ae,false))) else ((bZ (⟨(List.set x1.aAG x3.toNat x6)⟩:M.aJ)).bind λaf=>(if (!af)=true then ((fM p0).bind λah=>(some (ah,false))) else (some ((⟨(List.set x1.aAG x3.toNat x6)⟩:M.aJ),true)))))))) else (jC p0 p1 x1 fuel 0)))
def sG (p0:M.aQ):Option (Int×Int×ByteArray):=
 (eT p0 ([(⟨#[105,110,100,101,120]⟩:ByteArray),(⟨#[115,116,121,108,101]⟩:ByteArray),(⟨#[99,111,100,101]⟩:ByteArray),(⟨#[100,97,116,97]⟩:ByteArray)])).bind λx4=>(some (x4.1,x4.2.1,x4.2.2))
def mD (p0:M.aQ) (p1:Int):Nat->Int->List Int->Int->Int->Option (Int×Int×(List Int))
 | 0,_,_,_,_=>none
 | ah+1,v6,r7,aa,ae=>if (decide (v6<p1))=true then ((oH (⟨p0.b,aa,ae⟩:M.aQ)).bind λaf=>((app 1 r7 ([(IntKind.u8.wrap af.2.2)])).bind λai=>(mD p0 p1 ah (i64.wrap (v6+1)) (r7++[(IntKind.u8.wrap af.2.2)]) af.1 af.2.1))) else (some (aa,ae,r7))
def uT (p0:M.aQ) (p1:Int):Option (Int×Int×(List Int)):=
 mD p0 p1 fuel 0 ([]:List Int) p0.i p0.h
def nC (p0:M.aQ):Option (Int×Int×M.aAM):=
 (aE p0 3).bind λx4=>((aE (⟨p0.b,x4.1,x4.2.1⟩:M.aQ) 4).bind λx6=>((aE (⟨p0.b,x6.1,x6.2.1⟩:M.aQ) 6).bind λx8=>((uT (⟨p0.b,x8.1,x8.2.1⟩:M.aQ) x8.2.2).bind λaf=>((cK (⟨p0.b,af.1,af.2.1⟩:M.aQ) 2).bind λae=>((aE (⟨p0.b,ae.1,ae.2.1⟩:M.aQ) 14).bind λaa=>(if (aa.2.2==0)=true then ((bE (⟨p0.b,aa.1,aa.2.1⟩:M.aQ) ([0,4,5])).bind λah=>(some (ah.1,ah.2.1,(⟨ah.2.2,200,(i64.wrap (1+x6.2.2)),af.2.2,ae.2.2⟩:M.aAM)))) else (if (aa.2.2==1)=true then ((bE (⟨p0.b,aa.1,aa.2.1⟩:M.aQ) ([(-1),0,404,999,1000])).bind λai=>(some (ai.1,ai.2.1,(⟨(i64.wrap (1+x4.2.2)),ai.2.2,(i64.wrap (1+x6.2.2)),af.2.2,ae.2.2⟩:M.aAM)))) else (if (aa.2.2==2)=true then ((bE (⟨p0.b,aa.1,aa.2.1⟩:M.aQ) ([60,61])).bind λaj=>((uT (⟨p0.b,aj.1,aj.2.1⟩:M.aQ) aj.2.2).bind λak=>(some (ak.1,ak.2.1,(⟨(i64.wrap (1+x4.2.2)),200,(i64.wrap (1+x6.2.2)),ak.2.2,ae.2.2⟩:M.aAM))))) else (some (aa.1,aa.2.1,(⟨(i64.wrap (1+x4.2.2)),200,(i64.wrap (1+x6.2.2)),af.2.2,ae.2.2⟩:M.aAM)))))))))))
def iY (p0:M.aF) (p1:Int):Nat->Int->Option Int
 | 0,_=>none
 | aa+1,v5=>if (decide (v5<(List.length p0.aAE:Int)))=true then ((idx p0.aAE v5).bind λx7=>(if (x7.aAB==p1)=true then (some v5) else (iY p0 p1 aa (i64.wrap (v5+1))))) else (some (-1))
def uL (p0:M.aF) (p1:Int):Option Int:=
 iY p0 p1 fuel 0
def jR (p0:M.aAL) (p1:ByteArray) (p2:ByteArray):Nat->Int->Option Int
 | 0,_=>none
 | aa+1,v7=>if (decide (v7<(List.length p0.aAN:Int)))=true then ((idx p0.aAN v7).bind λx8=>(if (x8.aAO.toList==p1.toList)=true then (if (x8.aAs.toList==p2.toList)=true then (some v7) else (jR p0 p1 p2 aa (i64.wrap (v7+1)))) else (jR p0 p1 p2 aa (i64.wrap (v7+1))))) else (some (-1))
def wU (p0:M.aAL) (p1:ByteArray) (p2:ByteArray):Option Int:=
 jR p0 p1 p2 fuel 0
def kU (p0:M.aF) (p1:Int) (p2:ByteArray) (p3:ByteArray) (p4:M.aAM):Option (M.aF×Bool):=
 (cX p0).bind λx1=>((uL p0 p1).bind λx3=>(if (decide (x3<0))=true then (some (x1,false)) else ((uR p4).bind λx6=>((idx x1.aAE x3).bind λx8=>((wU x8 p2 p3).bind λaa=>(if (decide (aa>=0))=true then ((idx x8.aAN aa).bind λaq=>((bY p0).bind λae=>(if (!ae)=true then ((cX p0).bind λaf=>(some (af,false))) else ((bY (⟨(List.set x1.aAE x3.toNat (⟨x8.aAB,(List.set x8.aAN aa.toNat (⟨p2,p3,x6⟩:M.aAR))⟩:M.aAL))⟩:M.aF)).bind λah=>(if (!ah)=true then ((cX p0).bind λai=>(some (ai,false))) else (some ((⟨(List.set x1.aAE x3.toNat (⟨x8.aAB,(List.set x8.aAN aa.toNat (⟨p2,p3,x6⟩:M.aAR))⟩:M.aAL))⟩:M.aF),true))))))) else ((app 88 x8.aAN ([(⟨p2,p3,x6⟩:M.aAR)])).bind λar=>((bY p0).bind λaj=>(if (!aj)=true then ((cX p0).bind λak=>(some (ak,false))) else ((bY (⟨(List.set x1.aAE x3.toNat (⟨x8.aAB,(x8.aAN++[(⟨p2,p3,x6⟩:M.aAR)])⟩:M.aAL))⟩:M.aF)).bind λal=>(if (!al)=true then ((cX p0).bind λao=>(some (ao,false))) else (some ((⟨(List.set x1.aAE x3.toNat (⟨x8.aAB,(x8.aAN++[(⟨p2,p3,x6⟩:M.aAR)])⟩:M.aAL))⟩:M.aF),true)))))))))))))
def kZ (p0:M.aQ):Nat->Int->Int->Int->List M.aAL->Option (Int×Int×M.aF)
 | 0,_,_,_,_=>none
 | ao+1,ah,aa,ae,af=>if (decide (ah>0))=true then ((aE (⟨p0.b,aa,ae⟩:M.aQ) 4).bind λai=>((jZ (⟨p0.b,ai.1,ai.2.1⟩:M.aQ)).bind λaj=>((sG (⟨p0.b,aj.1,aj.2.1⟩:M.aQ)).bind λak=>((nC (⟨p0.b,ak.1,ak.2.1⟩:M.aQ)).bind λal=>((kU (⟨af⟩:M.aF) (i64.wrap (1+ai.2.2)) aj.2.2 ak.2.2 al.2.2).bind λaq=>(kZ p0 ao (i64.wrap (ah-1)) al.1 al.2.1 aq.1.aAE)))))) else (some (aa,ae,(⟨af⟩:M.aF)))
def nL (p0:M.aQ):Nat->Int->Int->Int->List M.aAL->Option (Int×Int×M.aF)
 | 0,_,_,_,_=>none
 | aj+1,v4,aa,ae,af=>if (decide (v4>0))=true then ((aE (⟨p0.b,aa,ae⟩:M.aQ) 4).bind λah=>((lC (⟨af⟩:M.aF) (i64.wrap (1+ah.2.2))).bind λak=>(nL p0 aj (i64.wrap (v4-1)) ah.1 ah.2.1 ak.1.aAE))) else ((aE (⟨p0.b,aa,ae⟩:M.aQ) 5).bind λai=>(kZ p0 fuel ai.2.2 ai.1 ai.2.1 af))
def yB (p0:M.aQ):Option (Int×Int×M.aF):=
 (aE p0 3).bind λx4=>(nL p0 fuel x4.2.2 x4.1 x4.2.1 ([]:List M.aAL))
def nN (ae:(Int×Int×Int)):Nat->Int->List M.aAL->Option (Int×Int×M.aF)
 | 0,_,_=>none
 | af+1,v4,aa=>if (decide (v4<=4))=true then ((lC (⟨aa⟩:M.aF) v4).bind λah=>(nN ae af (i64.wrap (v4+1)) ah.1.aAE)) else (some (ae.1,ae.2.1,(⟨aa⟩:M.aF)))
def yH (p0:M.aQ):Option (Int×Int×M.aF):=
 (yB p0).bind λx4=>((aE (⟨p0.b,x4.1,x4.2.1⟩:M.aQ) 12).bind λaa=>(if (aa.2.2==0)=true then ((bE (⟨p0.b,aa.1,aa.2.1⟩:M.aQ) ([0,1,9,1000000000001])).bind λae=>((app 32 x4.2.2.aAE ([(⟨ae.2.2,([]:List M.aAR)⟩:M.aAL)])).bind λaj=>(some (ae.1,ae.2.1,(⟨(x4.2.2.aAE++[(⟨ae.2.2,([]:List M.aAR)⟩:M.aAL)])⟩:M.aF))))) else (if (aa.2.2==1)=true then (if (decide ((List.length x4.2.2.aAE:Int)>0))=true then ((idx x4.2.2.aAE 0).bind λai=>((eT (⟨p0.b,aa.1,aa.2.1⟩:M.aQ) ([(⟨#[105,110,100,101,120]⟩:ByteArray),(⟨#[]⟩:ByteArray),(⟨#[122,122]⟩:ByteArray)])).bind λaf=>((nC (⟨p0.b,af.1,af.2.1⟩:M.aQ)).bind λah=>((app 88 ai.aAN ([(⟨(⟨#[98,97,110,107]⟩:ByteArray),af.2.2,ah.2.2⟩:M.aAR)])).bind λak=>(some (ah.1,ah.2.1,(⟨(List.set x4.2.2.aAE (0:Int).toNat (⟨ai.aAB,(ai.aAN++[(⟨(⟨#[98,97,110,107]⟩:ByteArray),af.2.2,ah.2.2⟩:M.aAR)])⟩:M.aAL))⟩:M.aF))))))) else (some (aa.1,aa.2.1,x4.2.2))) else (if (aa.2.2==2)=true then (nN aa fuel 1 x4.2.2.aAE) else (some (aa.1,aa.2.1,x4.2.2))))))
def sV (p0:M.aQ):Option (Int×Int×Int):=
 (aE p0 9).bind λx4=>((bE (⟨p0.b,x4.1,x4.2.1⟩:M.aQ) ([0,1,2,(-1),255,256,(-1000000000000),1000000000000,x4.2.2])).bind λx6=>(some (x6.1,x6.2.1,x6.2.2)))
def xU (p0:M.aQ):Option (Int×Int×M.Key):=
 (eT p0 ([(⟨#[]⟩:ByteArray),(⟨#[97]⟩:ByteArray),(⟨#[97,98]⟩:ByteArray),(⟨#[98]⟩:ByteArray),(⟨#[122,57]⟩:ByteArray),(⟨#[97,98,99,100,101,102,103,104,105,106,107,108]⟩:ByteArray)])).bind λx4=>((aE (⟨p0.b,x4.1,x4.2.1⟩:M.aQ) 3).bind λaa=>(if (aa.2.2==0)=true then (some (aa.1,aa.2.1,(⟨2,0,x4.2.2⟩:M.Key))) else (if (aa.2.2==1)=true then ((sV (⟨p0.b,aa.1,aa.2.1⟩:M.aQ)).bind λae=>(some (ae.1,ae.2.1,(⟨3,ae.2.2,x4.2.2⟩:M.Key)))) else ((sV (⟨p0.b,aa.1,aa.2.1⟩:M.aQ)).bind λaf=>(some (af.1,af.2.1,(⟨1,af.2.2,(⟨#[]⟩:ByteArray)⟩:M.Key)))))))
def lR (p0:M.aQ):Nat->Int->ByteArray->Int->Int->Int->List M.aAQ->Option (Int×Int×M.aA)
 | 0,_,_,_,_,_,_=>none
 | av+1,v6,ah,ai,aa,ae,af=>if (decide (v6>0))=true then ((dF (⟨p0.b,aa,ae⟩:M.aQ)).bind λak=>((iH (⟨p0.b,ak.1,ak.2.1⟩:M.aQ)).bind λal=>((dO (⟨ah,af,ai⟩:M.aA) ak.2.2 al.2.2).bind λao=>(lR p0 av (i64.wrap (v6-1)) ao.1.Name ao.1.aAd al.1 al.2.1 ao.1.aAD)))) else ((cK (⟨p0.b,aa,ae⟩:M.aQ) 8).bind λaj=>(if aj.2.2=true then ((xU (⟨p0.b,aj.1,aj.2.1⟩:M.aQ)).bind λaq=>((iH (⟨p0.b,aq.1,aq.2.1⟩:M.aQ)).bind λar=>((dO (⟨ah,af,ai⟩:M.aA) aq.2.2 ar.2.2).bind λaw=>(some (ar.1,ar.2.1,aw.1))))) else (some (aj.1,aj.2.1,(⟨ah,af,ai⟩:M.aA)))))
def mJ (p0:M.aQ) (p1:ByteArray):Option (Int×Int×M.aA):=
 (bE p0 ([0,2,4,6])).bind λx5=>(lR p0 fuel x5.2.2 p1 0 x5.1 x5.2.1 ([]:List M.aAQ))
def lM (p0:M.aAA) (p1:M.iW):Nat->Int->Option Int
 | 0,_=>none
 | aa+1,v5=>if (decide (v5<(List.length p0.aAS:Int)))=true then ((idx p0.aAS v5).bind λx8=>(if (x8.aA.toList==p1.aA.toList)=true then (if (x8.Field.toList==p1.Field.toList)=true then (some v5) else (lM p0 p1 aa (i64.wrap (v5+1)))) else (lM p0 p1 aa (i64.wrap (v5+1))))) else (some (-1))
def zX (p0:M.aAA) (p1:M.iW):Option Int:=
 lM p0 p1 fuel 0
def uB (p0:M.aAA) (p1:ByteArray) (ae:List M.aA):Nat->Int->List M.aN->Option M.aAA
 | 0,_,_=>none
 | ah+1,v7,aa=>if (decide (v7<(List.length p0.aAS:Int)))=true then ((idx p0.aAS v7).bind λaf=>(if (!(af.aA.toList==p1.toList))=true then ((app 32 aa ([af])).bind λai=>(uB p0 p1 ae ah (i64.wrap (v7+1)) (aa++[af]))) else (uB p0 p1 ae ah (i64.wrap (v7+1)) aa))) else (some (⟨p0.Name,p0.aAB,ae,aa⟩:M.aAA))
def uI (p0:M.aAA) (p1:ByteArray):Nat->Int->List M.aA->Option M.aAA
 | 0,_,_=>none
 | ae+1,v6,aa=>if (decide (v6<(List.length p0.aAH:Int)))=true then ((idx p0.aAH v6).bind λaf=>(if (!(af.Name.toList==p1.toList))=true then ((bO af).bind λah=>((app 48 aa ([ah])).bind λai=>(uI p0 p1 ae (i64.wrap (v6+1)) (aa++[ah])))) else (uI p0 p1 ae (i64.wrap (v6+1)) aa))) else (uB p0 p1 aa fuel 0 ([]:List M.aN))
def BS (p0:M.aAA) (p1:ByteArray):Option M.aAA:=
 uI p0 p1 fuel 0 ([]:List M.aA)
def lH (p0:M.aAA) (p1:M.iW) (x1:M.aAA):Nat->Int->Option (M.aAA×Bool)
 | 0,_=>none
 | ai+1,v9=>(if (decide (v9<(List.length p0.aAH:Int)))=true then ((idx p0.aAH v9).bind λaj=>(some (Op.bytesLess aj.Name.toList p1.aA.toList))) else (some false)).bind λak=>(if ak=true then (lH p0 p1 x1 ai (i64.wrap (v9+1))) else ((xE x1.aAH v9).bind λal=>((app 48 ([]:List M.aA) (List.take v9.toNat x1.aAH)).bind λao=>((app 48 (List.take v9.toNat x1.aAH) ([(⟨p1.aA,([]:List M.aAQ),0⟩:M.aA)])).bind λaq=>((app 48 ((List.take v9.toNat x1.aAH)++[(⟨p1.aA,([]:List M.aAQ),0⟩:M.aA)]) (List.drop v9.toNat x1.aAH)).bind λar=>(((bQ p0).bind λaa=>(if (!aa)=true then (some true) else ((bQ (⟨x1.Name,x1.aAB,(((List.take v9.toNat x1.aAH)++[(⟨p1.aA,([]:List M.aAQ),0⟩:M.aA)])++(List.drop v9.toNat x1.aAH)),x1.aAS⟩:M.aAA)).bind λae=>(some (!ae))))).bind λaf=>(if af=true then ((dX p0).bind λah=>(some (ah,false))) else (some ((⟨x1.Name,x1.aAB,(((List.take v9.toNat x1.aAH)++[(⟨p1.aA,([]:List M.aAQ),0⟩:M.aA)])++(List.drop v9.toNat x1.aAH)),x1.aAS⟩:M.aAA),true)))))))))
def jE (p0:M.aAA) (p1:M.iW):Option (M.aAA×Bool):=
 (dX p0).bind λx1=>((nK p0 p1.aA).bind λx3=>((zX p0 p1).bind λx5=>((if (p1.aAV==1)=true then (some (decide (x3<0))) else (some false)).bind λx7=>(if x7=true then (lH p0 p1 x1 fuel 0) else ((if (p1.aAV==2)=true then (some (decide (x3>=0))) else (some false)).bind λae=>(if ae=true then ((BS p0 p1.aA).bind λaa=>(((bQ p0).bind λaf=>(if (!af)=true then (some true) else ((bQ aa).bind λah=>(some (!ah))))).bind λai=>(if ai=true then ((dX p0).bind λaj=>(some (aj,false))) else (some (aa,true))))) else ((if (p1.aAV==3)=true then (if (decide (x3>=0))=true then (some (decide (x5<0))) else (some false)) else (some false)).bind λak=>(if ak=true then ((app 32 x1.aAS ([(⟨p1.aA,p1.Field⟩:M.aN)])).bind λb7=>(((bQ p0).bind λal=>(if (!al)=true then (some true) else ((bQ (⟨x1.Name,x1.aAB,x1.aAH,(x1.aAS++[(⟨p1.aA,p1.Field⟩:M.aN)])⟩:M.aAA)).bind λao=>(some (!ao))))).bind λaq=>(if aq=true then ((dX p0).bind λar=>(some (ar,false))) else (some ((⟨x1.Name,x1.aAB,x1.aAH,(x1.aAS++[(⟨p1.aA,p1.Field⟩:M.aN)])⟩:M.aAA),true))))) else ((if (p1.aAV==4)=true then (some (decide (x5>=0))) else (some false)).bind λav=>(if av=true then ((xE x1.aAS x5).bind λba=>((Ak x1.aAS (i64.wrap (x5+1))).bind λbd=>((app 32 (List.take x5.toNat x1.aAS) (List.drop (i64.wrap (x5+1)).toNat x1.aAS)).bind λbf=>(((bQ p0).bind λaw=>(if (!aw)=true then (some true) else ((bQ (⟨x1.Name,x1.aAB,x1.aAH,((List.take x5.toNat x1.aAS)++(List.drop (i64.wrap (x5+1)).toNat x1.aAS))⟩:M.aAA)).bind λax=>(some (!ax))))).bind λay=>(if ay=true then ((dX p0).bind λaz=>(some (az,false))) else (some ((⟨x1.Name,x1.aAB,x1.aAH,((List.take x5.toNat x1.aAS)++(List.drop (i64.wrap (x5+1)).toNat x1.aAS))⟩:M.aAA),true))))))) else (some (x1,false))))))))))))
def yN (p0:M.aQ):Option (Int×Int×M.aAA):=
 (mJ p0 (⟨#[110,111,116,101,115]⟩:ByteArray)).bind λx4=>((mJ (⟨p0.b,x4.1,x4.2.1⟩:M.aQ) (⟨#[116,97,103,115]⟩:ByteArray)).bind λx6=>((U4 48 ([x4.2.2,x6.2.2])).bind λx8=>((cK (⟨p0.b,x6.1,x6.2.1⟩:M.aQ) 2).bind λaa=>(if aa.2.2=true then ((mJ (⟨p0.b,aa.1,aa.2.1⟩:M.aQ) (⟨#[108,105,115,116,115]⟩:ByteArray)).bind λae=>((app 48 ([ae.2.2]) ([x4.2.2,x6.2.2])).bind λao=>((cK (⟨p0.b,ae.1,ae.2.1⟩:M.aQ) 3).bind λaf=>(if af.2.2=true then ((cW (⟨p0.b,af.1,af.2.1⟩:M.aQ)).bind λai=>((jE (⟨(⟨#[97,112,112]⟩:ByteArray),1,([ae.2.2]++[x4.2.2,x6.2.2]),([]:List M.aN)⟩:M.aAA) (⟨3,(⟨#[110,111,116,101,115]⟩:ByteArray),ai.2.2⟩:M.iW)).bind λak=>(some (ai.1,ai.2.1,ak.1)))) else (some (af.1,af.2.1,(⟨(⟨#[97,112,112]⟩:ByteArray),1,([ae.2.2]++[x4.2.2,x6.2.2]),([]:List M.aN)⟩:M.aAA))))))) else ((cK (⟨p0.b,aa.1,aa.2.1⟩:M.aQ) 3).bind λah=>(if ah.2.2=true then ((cW (⟨p0.b,ah.1,ah.2.1⟩:M.aQ)).bind λaj=>((jE (⟨(⟨#[97,112,112]⟩:ByteArray),1,[x4.2.2,x6.2.2],([]:List M.aN)⟩:M.aAA) (⟨3,(⟨#[110,111,116,101,115]⟩:ByteArray),aj.2.2⟩:M.iW)).bind λal=>(some (aj.1,aj.2.1,al.1)))) else (some (ah.1,ah.2.1,(⟨(⟨#[97,112,112]⟩:ByteArray),1,[x4.2.2,x6.2.2],([]:List M.aN)⟩:M.aAA)))))))))
def AI (p0:M.aQ):Option (Int×Int×M.Op):=
 (aE p0 6).bind λx4=>((eT (⟨p0.b,x4.1,x4.2.1⟩:M.aQ) ([(⟨#[110,111,116,101,115]⟩:ByteArray),(⟨#[116,97,103,115]⟩:ByteArray),(⟨#[110,111,116,101,115]⟩:ByteArray),(⟨#[108,105,115,116,115]⟩:ByteArray)])).bind λx6=>((dF (⟨p0.b,x6.1,x6.2.1⟩:M.aQ)).bind λx8=>(if ((i64.wrap (1+x4.2.2))==1)=true then ((iH (⟨p0.b,x8.1,x8.2.1⟩:M.aQ)).bind λae=>(some (ae.1,ae.2.1,(⟨(i64.wrap (1+x4.2.2)),x6.2.2,x8.2.2,ae.2.2,(⟨#[]⟩:ByteArray)⟩:M.Op)))) else (if ((i64.wrap (1+x4.2.2))==2)=true then ((iH (⟨p0.b,x8.1,x8.2.1⟩:M.aQ)).bind λaf=>(some (af.1,af.2.1,(⟨(i64.wrap (1+x4.2.2)),x6.2.2,x8.2.2,af.2.2,(⟨#[]⟩:ByteArray)⟩:M.Op)))) else (if ((i64.wrap (1+x4.2.2))==6)=true then ((cW (⟨p0.b,x8.1,x8.2.1⟩:M.aQ)).bind λah=>(some (ah.1,ah.2.1,(⟨(i64.wrap (1+x4.2.2)),x6.2.2,x8.2.2,(⟨([]:List M.Field)⟩:M.aC),ah.2.2⟩:M.Op)))) else (if ((i64.wrap (1+x4.2.2))==5)=true then ((cK (⟨p0.b,x8.1,x8.2.1⟩:M.aQ) 2).bind λaa=>(if aa.2.2=true then ((dF (⟨p0.b,aa.1,aa.2.1⟩:M.aQ)).bind λai=>(some (ai.1,ai.2.1,(⟨1,x6.2.2,ai.2.2,(⟨([]:List M.Field)⟩:M.aC),(⟨#[]⟩:ByteArray)⟩:M.Op)))) else (some (aa.1,aa.2.1,(⟨(i64.wrap (1+x4.2.2)),x6.2.2,(⟨0,0,(⟨#[]⟩:ByteArray)⟩:M.Key),(⟨([]:List M.Field)⟩:M.aC),(⟨#[]⟩:ByteArray)⟩:M.Op))))) else (some (x8.1,x8.2.1,(⟨(i64.wrap (1+x4.2.2)),x6.2.2,x8.2.2,(⟨([]:List M.Field)⟩:M.aC),(⟨#[]⟩:ByteArray)⟩:M.Op)))))))))
def pJ (p0:M.aQ):Nat->Int->List M.Op->Int->Int->Option (Int×Int×(List M.Op))
 | 0,_,_,_,_=>none
 | ah+1,v6,r7,aa,ae=>if (decide (v6>0))=true then ((AI (⟨p0.b,aa,ae⟩:M.aQ)).bind λaf=>((app 96 r7 ([af.2.2])).bind λai=>(pJ p0 ah (i64.wrap (v6-1)) (r7++[af.2.2]) af.1 af.2.1))) else (some (aa,ae,r7))
def Ag (p0:M.aQ) (p1:Int):Option (Int×Int×(List M.Op)):=
 (aE p0 (i64.wrap (p1+1))).bind λaa=>(pJ p0 fuel aa.2.2 ([]:List M.Op) aa.1 aa.2.1)
def mE (p0:M.aQ):Nat->Int->ByteArray->Int->Int->Int->Int->List M.aA->List M.aN->List Int->Option (Int×Int×M.cR)
 | 0,_,_,_,_,_,_,_,_,_=>none
 | ar+1,v4,ak,al,ao,aa,ae,af,ah,ai=>if (decide (v4>0))=true then ((Ag (⟨p0.b,aa,ae⟩:M.aQ) 3).bind λaq=>((lL (⟨(⟨ak,al,af,ah⟩:M.aAA),ai,ao⟩:M.cR) aq.2.2).bind λaj=>(mE p0 ar (i64.wrap (v4-1)) aj.1.aAU.Name aj.1.aAU.aAB aj.1.aAn aq.1 aq.2.1 aj.1.aAU.aAH aj.1.aAU.aAS aj.1.Log))) else (some (aa,ae,(⟨(⟨ak,al,af,ah⟩:M.aAA),ai,ao⟩:M.cR)))
def wZ (p0:M.aQ):Option (Int×Int×M.cR):=
 (yN p0).bind λx4=>((aE (⟨p0.b,x4.1,x4.2.1⟩:M.aQ) 5).bind λaa=>(mE p0 fuel aa.2.2 x4.2.2.Name x4.2.2.aAB 0 aa.1 aa.2.1 x4.2.2.aAH x4.2.2.aAS ([]:List Int)))
def yU (p0:M.aQ) (p1:List Int):Option (Int×Int×(List Int)):=
 (app 1 ([]:List Int) p1).bind λx5=>((aE p0 6).bind λaa=>(if (aa.2.2==0)=true then (if (decide ((List.length p1:Int)>0))=true then ((aE (⟨p0.b,aa.1,aa.2.1⟩:M.aQ) (List.length p1:Int)).bind λae=>((aE (⟨p0.b,ae.1,ae.2.1⟩:M.aQ) 256).bind λai=>((idx p1 ae.2.2).bind λaj=>(some (ai.1,ai.2.1,(List.set p1 ae.2.2.toNat (IntKind.u8.wrap ai.2.2))))))) else (some (aa.1,aa.2.1,p1))) else (if (aa.2.2==1)=true then ((aE (⟨p0.b,aa.1,aa.2.1⟩:M.aQ) (i64.wrap ((List.length p1:Int)+1))).bind λaf=>((xE p1 af.2.2).bind λak=>(some (af.1,af.2.1,(List.take af.2.2.toNat p1))))) else (if (aa.2.2==2)=true then ((bE (⟨p0.b,aa.1,aa.2.1⟩:M.aQ) ([0,1,128,255])).bind λah=>((app 1 p1 ([(IntKind.u8.wrap ah.2.2)])).bind λal=>(some (ah.1,ah.2.1,(p1++[(IntKind.u8.wrap ah.2.2)]))))) else (some (aa.1,aa.2.1,p1))))))
def yP (p0:M.aQ):Option (Int×Int×M.cR):=
 (wZ p0).bind λx4=>((aE (⟨p0.b,x4.1,x4.2.1⟩:M.aQ) 10).bind λaa=>(if (aa.2.2==0)=true then (some (aa.1,aa.2.1,(⟨x4.2.2.aAU,x4.2.2.Log,(i64.wrap (x4.2.2.aAn+1))⟩:M.cR))) else (if (aa.2.2==1)=true then ((yU (⟨p0.b,aa.1,aa.2.1⟩:M.aQ) x4.2.2.Log).bind λae=>(some (ae.1,ae.2.1,(⟨x4.2.2.aAU,ae.2.2,x4.2.2.aAn⟩:M.cR)))) else (if (aa.2.2==2)=true then ((pV x4.2.2.Log x4.2.2.aAn ([1,2])).bind λaf=>(some (aa.1,aa.2.1,(⟨x4.2.2.aAU,af.1,(i64.wrap (x4.2.2.aAn+1))⟩:M.cR)))) else (some (aa.1,aa.2.1,x4.2.2))))))
def oQ (p0:M.aAI) (p1:Int):Nat->Int->Option Int
 | 0,_=>none
 | aa+1,v5=>if (decide (v5<(List.length p0.aK:Int)))=true then ((idx p0.aK v5).bind λx7=>(if (x7.aAK==p1)=true then (some x7.Seq) else (oQ p0 p1 aa (i64.wrap (v5+1))))) else (some 0)
def sE (p0:M.aAI) (p1:Int):Option Int:=
 oQ p0 p1 fuel 0
def jX (p0:M.aAI):Option M.aAI:=
 (bO p0.aA).bind λx1=>((app 16 ([]:List M.aK) p0.aK).bind λx3=>((app 72 ([]:List M.bA) p0.aAZ).bind λx5=>(some (⟨x1,p0.aK,p0.aAZ⟩:M.aAI))))
def hY (p0:M.aAI):Nat->Int->Option Bool
 | 0,_=>none
 | aa+1,v4=>if (decide (v4<(List.length p0.aAZ:Int)))=true then ((idx p0.aAZ v4).bind λae=>((hU ae).bind λaf=>(if (!af)=true then (some false) else (hY p0 aa (i64.wrap (v4+1)))))) else ((jY p0.aA).bind λah=>(if ah=true then (if (p0.aA.Name.toList==(⟨#[110,111,116,101,115]⟩:ByteArray).toList)=true then (some (decide ((List.length p0.aK:Int)<=60))) else (some false)) else (some false)))
def fX (p0:M.aAI):Nat->Int->Option Bool
 | 0,_=>none
 | aa+1,v3=>if (decide (v3<(List.length p0.aK:Int)))=true then ((idx p0.aK v3).bind λx6=>((aZ x6.aAK 1 1000000).bind λae=>(if (!ae)=true then (some false) else ((aZ x6.Seq 0 1000000).bind λaf=>(if (!af)=true then (some false) else (if (decide (v3>0))=true then ((idx p0.aK (i64.wrap (v3-1))).bind λah=>(if (decide (ah.aAK>=x6.aAK))=true then (some false) else (fX p0 aa (i64.wrap (v3+1))))) else (fX p0 aa (i64.wrap (v3+1))))))))) else (hY p0 fuel 0)
def mS (p0:M.aAI):Option Bool:=
 fX p0 fuel 0
def oS (p0:List M.aK) (p1:Int) (p2:Int):Nat->Int->Option (List M.aK)
 | 0,_=>none
 | ae+1,v8=>if (decide (v8<(List.length p0:Int)))=true then ((idx p0 v8).bind λaa=>(if (decide (aa.aAK<p1))=true then (oS p0 p1 p2 ae (i64.wrap (v8+1))) else (if (aa.aAK==p1)=true then (some (List.set p0 v8.toNat (⟨aa.aAK,p2⟩:M.aK))) else ((xE p0 v8).bind λaf=>((app 16 ([]:List M.aK) (List.take v8.toNat p0)).bind λah=>((app 16 (List.take v8.toNat p0) ([(⟨p1,p2⟩:M.aK)])).bind λai=>((Ak p0 v8).bind λaj=>((app 16 ((List.take v8.toNat p0)++[(⟨p1,p2⟩:M.aK)]) (List.drop v8.toNat p0)).bind λak=>(some (((List.take v8.toNat p0)++[(⟨p1,p2⟩:M.aK)])++(List.drop v8.toNat p0))))))))))) else ((xE p0 v8).bind λal=>((app 16 ([]:List M.aK) (List.take v8.toNat p0)).bind λao=>((app 16 (List.take v8.toNat p0) ([(⟨p1,p2⟩:M.aK)])).bind λaq=>((Ak p0 v8).bind λar=>((app 16 ((List.take v8.toNat p0)++[(⟨p1,p2⟩:M.aK)]) (List.drop v8.toNat p0)).bind λav=>(some (((List.take v8.toNat p0)++[(⟨p1,p2⟩:M.aK)])++(List.drop v8.toNat p0))))))))
def wY (p0:List M.aK) (p1:Int) (p2:Int):Option (List M.aK):=
 (app 16 ([]:List M.aK) p0).bind λx1=>(oS p0 p1 p2 fuel 0)
def cN (p0:M.aAI) (p1:M.bA):Option (M.aAI×Int):=
 (jX p0).bind λx1=>((mS p0).bind λx3=>(if (!x3)=true then (some (x1,4)) else ((hU p1).bind λx6=>(if (!x6)=true then (some (x1,4)) else ((wY p0.aK p1.aAK p1.Seq).bind λx9=>((sE p0 p1.aAK).bind λaa=>(if (decide ((List.length x9:Int)>60))=true then (some (x1,4)) else (if (decide (p1.Seq<=aa))=true then (some (x1,2)) else (if (decide (p1.Seq>(i64.wrap (aa+1))))=true then (some (x1,3)) else ((iT p0.aA p1).bind λae=>(if ae.2=true then ((app 72 x1.aAZ ([p1])).bind λaf=>(some ((⟨ae.1,x9,(x1.aAZ++[p1])⟩:M.aAI),1))) else ((app 72 x1.aAZ ([p1])).bind λah=>(some ((⟨x1.aA,x9,(x1.aAZ++[p1])⟩:M.aAI),1))))))))))))))
def jD (p0:M.aQ):Nat->Int->ByteArray->Int->Int->Int->List M.aAQ->List M.aK->List M.bA->Option (Int×Int×M.aAI)
 | 0,_,_,_,_,_,_,_,_=>none
 | aw+1,v4,aj,ak,aa,ae,af,ah,ai=>if (decide (v4>0))=true then ((aE (⟨p0.b,aa,ae⟩:M.aQ) 3).bind λao=>((sE (⟨(⟨aj,af,ak⟩:M.aA),ah,ai⟩:M.aAI) (i64.wrap (1+ao.2.2))).bind λax=>((dF (⟨p0.b,ao.1,ao.2.1⟩:M.aQ)).bind λaq=>((cW (⟨p0.b,aq.1,aq.2.1⟩:M.aQ)).bind λar=>((aE (⟨p0.b,ar.1,ar.2.1⟩:M.aQ) 6).bind λav=>((cN (⟨(⟨aj,af,ak⟩:M.aA),ah,ai⟩:M.aAI) (⟨(i64.wrap (1+ao.2.2)),(i64.wrap (ax+1)),aq.2.2,ar.2.2,av.2.2⟩:M.bA)).bind λal=>(jD p0 aw (i64.wrap (v4-1)) al.1.aA.Name al.1.aA.aAd av.1 av.2.1 al.1.aA.aAD al.1.aK al.1.aAZ))))))) else (some (aa,ae,(⟨(⟨aj,af,ak⟩:M.aA),ah,ai⟩:M.aAI)))
def pW (p0:M.aQ):Option (Int×Int×M.aAI):=
 (mJ p0 (⟨#[110,111,116,101,115]⟩:ByteArray)).bind λx4=>((aE (⟨p0.b,x4.1,x4.2.1⟩:M.aQ) 6).bind λaa=>(jD p0 fuel aa.2.2 x4.2.2.Name x4.2.2.aAd aa.1 aa.2.1 x4.2.2.aAD ([]:List M.aK) ([]:List M.bA)))
def sZ (p0:M.aAI) (p1:Int):Option (M.aG×Bool):=
 (kX p1).bind λx1=>((bO p0.aA).bind λx3=>(if (!x1.2)=true then (some ((⟨(⟨(⟨#[]⟩:ByteArray),([]:List M.aAQ),0⟩:M.aA),0,(⟨(⟨0,0,([]:List M.bA)⟩:M.aH),0,0⟩:M.aAT)⟩:M.aG),false)) else ((mS p0).bind λx6=>(if (!x6)=true then (some ((⟨(⟨(⟨#[]⟩:ByteArray),([]:List M.aAQ),0⟩:M.aA),0,(⟨(⟨0,0,([]:List M.bA)⟩:M.aH),0,0⟩:M.aAT)⟩:M.aG),false)) else ((kW (⟨x3,(List.length p0.aAZ:Int),(⟨x1.1,0,0⟩:M.aAT)⟩:M.aG)).bind λx9=>(if (!x9)=true then (some ((⟨(⟨(⟨#[]⟩:ByteArray),([]:List M.aAQ),0⟩:M.aA),0,(⟨(⟨0,0,([]:List M.bA)⟩:M.aH),0,0⟩:M.aAT)⟩:M.aG),false)) else (some ((⟨x3,(List.length p0.aAZ:Int),(⟨x1.1,0,0⟩:M.aAT)⟩:M.aG),true))))))))
def wJ (p0:M.aH):Option (M.bA×Bool):=
 if ((List.length p0.aAP:Int)==0)=true then (some ((⟨0,0,(⟨0,0,(⟨#[]⟩:ByteArray)⟩:M.Key),(⟨#[]⟩:ByteArray),0⟩:M.bA),false)) else ((idx p0.aAP 0).bind λx2=>(some (x2,true)))
def lK (p0:M.aH) (p1:Int) (x1:M.aH):Nat->Int->Option (M.aH×Int)
 | 0,_=>none
 | aa+1,v7=>if (decide (v7<(List.length p0.aAP:Int)))=true then ((idx p0.aAP v7).bind λae=>(if (decide (ae.Seq<=p1))=true then (lK p0 p1 x1 aa (i64.wrap (v7+1))) else ((Ak p0.aAP v7).bind λaf=>((app 72 ([]:List M.bA) (List.drop v7.toNat p0.aAP)).bind λah=>(some ((⟨x1.aAK,x1.aAh,(List.drop v7.toNat p0.aAP)⟩:M.aH),v7)))))) else ((Ak p0.aAP v7).bind λai=>((app 72 ([]:List M.bA) (List.drop v7.toNat p0.aAP)).bind λaj=>(some ((⟨x1.aAK,x1.aAh,(List.drop v7.toNat p0.aAP)⟩:M.aH),v7))))
def cO (p0:M.aH) (p1:Int):Option (M.aH×Int):=
 (oJ p0).bind λx1=>((gI p0).bind λx3=>(if (!x3)=true then (some (x1,0)) else (lK p0 p1 x1 fuel 0)))
def gA (p0:Int) (p1:Int):Option Int:=
 if (decide (p1<p0))=true then (some p1) else (some p0)
def lV (p0:Int):Nat->Int->Int->Option Int
 | 0,_,_=>none
 | aa+1,v3,v4=>if (decide (v4<p0))=true then (if (decide (v3<64))=true then (lV p0 aa (i64.wrap (2*v3)) (i64.wrap (v4+1))) else (some v3)) else (some v3)
def gM (p0:Int):Option Int:=
 lV p0 fuel 1 0
def vT (p0:M.aAT) (p1:M.aAI) (p2:Int) (p3:Int):Option (M.aAT×M.aAI×Int):=
 (sD p0).bind λx1=>((wJ p0.aH).bind λx3=>(if (!x3.2)=true then ((jX p1).bind λx6=>(some (x1,x6,0))) else ((gI p0.aH).bind λx8=>(if (!x8)=true then ((jX p1).bind λbn=>(some (x1,bn,0))) else (if (decide (p2<p0.aAb))=true then ((jX p1).bind λbo=>(some (x1,bo,0))) else ((aZ p2 0 1000000000000).bind λbq=>(if (!bq)=true then ((jX p1).bind λbr=>(some (x1,br,0))) else ((jX p1).bind λao=>(if (p3==0)=true then ((cN ao x3.1).bind λaf=>(if (p3==3)=true then ((cN af.1 x3.1).bind λah=>(if (ah.2==1)=true then ((cO p0.aH x3.1.Seq).bind λbt=>(some ((⟨bt.1,0,0⟩:M.aAT),ah.1,1))) else (if (ah.2==2)=true then ((cO p0.aH x3.1.Seq).bind λbu=>(some ((⟨bu.1,0,0⟩:M.aAT),ah.1,1))) else ((gA 59 p0.aAm).bind λbw=>((gA 60 (i64.wrap (bw+1))).bind λbj=>((gM bj).bind λbx=>(some ((⟨x1.aH,bj,(i64.wrap (p2+bx))⟩:M.aAT),ah.1,2)))))))) else (if (af.2==1)=true then ((cO p0.aH x3.1.Seq).bind λbz=>(some ((⟨bz.1,0,0⟩:M.aAT),af.1,1))) else (if (af.2==2)=true then ((cO p0.aH x3.1.Seq).bind λc9=>(some ((⟨c9.1,0,0⟩:M.aAT),af.1,1))) else ((gA 59 p0.aAm).bind λca=>((gA 60 (i64.wrap (ca+1))).bind λbl=>((gM bl).bind λcc=>(some ((⟨x1.aH,bl,(i64.wrap (p2+cc))⟩:M.aAT),af.1,2))))))))) else (if (p3==2)=true then ((cN ao x3.1).bind λbm=>(if (p3==3)=true then ((cN bm.1 x3.1).bind λaa=>(if (aa.2==1)=true then ((cO p0.aH x3.1.Seq).bind λaq=>(some ((⟨aq.1,0,0⟩:M.aAT),aa.1,1))) else (if (aa.2==2)=true then ((cO p0.aH x3.1.Seq).bind λar=>(some ((⟨ar.1,0,0⟩:M.aAT),aa.1,1))) else ((gA 59 p0.aAm).bind λav=>((gA 60 (i64.wrap (av+1))).bind λai=>((gM ai).bind λaw=>(some ((⟨x1.aH,ai,(i64.wrap (p2+aw))⟩:M.aAT),aa.1,2)))))))) else ((gA 59 p0.aAm).bind λax=>((gA 60 (i64.wrap (ax+1))).bind λaj=>((gM aj).bind λay=>(some ((⟨x1.aH,aj,(i64.wrap (p2+ay))⟩:M.aAT),bm.1,2))))))) else (if (p3==3)=true then ((cN ao x3.1).bind λaz=>((cN az.1 x3.1).bind λae=>(if (ae.2==1)=true then ((cO p0.aH x3.1.Seq).bind λb7=>(some ((⟨b7.1,0,0⟩:M.aAT),ae.1,1))) else (if (ae.2==2)=true then ((cO p0.aH x3.1.Seq).bind λba=>(some ((⟨ba.1,0,0⟩:M.aAT),ae.1,1))) else ((gA 59 p0.aAm).bind λbd=>((gA 60 (i64.wrap (bd+1))).bind λak=>((gM ak).bind λbf=>(some ((⟨x1.aH,ak,(i64.wrap (p2+bf))⟩:M.aAT),ae.1,2))))))))) else ((gA 59 p0.aAm).bind λbg=>((gA 60 (i64.wrap (bg+1))).bind λal=>((gM al).bind λbh=>(some ((⟨x1.aH,al,(i64.wrap (p2+bh))⟩:M.aAT),ao,2))))))))))))))))
def rY (p0:M.aG) (p1:M.aAI):Option (M.aG×Int):=
 (sI p0).bind λx1=>((kW p0).bind λx3=>(if (!x3)=true then (some (x1,0)) else ((mS p1).bind λx6=>(if (!x6)=true then (some (x1,0)) else (if (decide (p0.aAu>(List.length p1.aAZ:Int)))=true then (some (x1,0)) else ((Ak p1.aAZ p0.aAu).bind λah=>((tG p0.aAU (List.drop p0.aAu.toNat p1.aAZ)).bind λaa=>((sE p1 p0.aAT.aH.aAK).bind λae=>((cO p0.aAT.aH ae).bind λaf=>(some ((⟨aa,(List.length p1.aAZ:Int),(⟨af.1,x1.aAT.aAm,x1.aAT.aAb⟩:M.aAT)⟩:M.aG),(i64.wrap ((List.length p1.aAZ:Int)-p0.aAu)))))))))))))
def eK (p0:M.aQ):Nat->Int->ByteArray->Int->Int->Int->Int->Int->Int->Int->Int->ByteArray->Int->List M.aAQ->List M.bA->List M.aAQ->List M.aK->List M.bA->Option (Int×Int×M.aG×M.aAI)
 | 0,_,_,_,_,_,_,_,_,_,_,_,_,_,_,_,_,_=>none
 | bu+1,v7,ay,az,b7,ba,bd,bf,aw,aj,ak,ar,av,ah,ai,aa,ae,af=>if (decide (v7>0))=true then ((aE (⟨p0.b,aj,ak⟩:M.aQ) 5).bind λax=>(if (ax.2.2==0)=true then ((dF (⟨p0.b,ax.1,ax.2.1⟩:M.aQ)).bind λbw=>((cW (⟨p0.b,bw.1,bw.2.1⟩:M.aQ)).bind λbx=>((aE (⟨p0.b,bx.1,bx.2.1⟩:M.aQ) 6).bind λbz=>((jN (⟨(⟨ay,ah,az⟩:M.aA),b7,(⟨(⟨ba,bd,ai⟩:M.aH),bf,aw⟩:M.aAT)⟩:M.aG) bw.2.2 bx.2.2 bz.2.2).bind λbh=>(eK p0 bu (i64.wrap (v7-1)) bh.1.aAU.Name bh.1.aAU.aAd bh.1.aAu bh.1.aAT.aH.aAK bh.1.aAT.aH.aAh bh.1.aAT.aAm bh.1.aAT.aAb bz.1 bz.2.1 ar av bh.1.aAU.aAD bh.1.aAT.aH.aAP aa ae af))))) else (if (ax.2.2==1)=true then ((dF (⟨p0.b,ax.1,ax.2.1⟩:M.aQ)).bind λbl=>((cW (⟨p0.b,bl.1,bl.2.1⟩:M.aQ)).bind λbm=>((aE (⟨p0.b,bm.1,bm.2.1⟩:M.aQ) 6).bind λbn=>((jN (⟨(⟨ay,ah,az⟩:M.aA),b7,(⟨(⟨ba,bd,ai⟩:M.aH),bf,aw⟩:M.aAT)⟩:M.aG) bl.2.2 bm.2.2 bn.2.2).bind λao=>(eK p0 bu (i64.wrap (v7-1)) ao.1.aAU.Name ao.1.aAU.aAd ao.1.aAu ao.1.aAT.aH.aAK ao.1.aAT.aH.aAh ao.1.aAT.aAm ao.1.aAT.aAb bn.1 bn.2.1 ar av ao.1.aAU.aAD ao.1.aAT.aH.aAP aa ae af))))) else (if (ax.2.2==2)=true then ((aE (⟨p0.b,ax.1,ax.2.1⟩:M.aQ) 4).bind λbo=>((vT (⟨(⟨ba,bd,ai⟩:M.aH),bf,aw⟩:M.aAT) (⟨(⟨ar,aa,av⟩:M.aA),ae,af⟩:M.aAI) aw bo.2.2).bind λal=>(eK p0 bu (i64.wrap (v7-1)) ay az b7 al.1.aH.aAK al.1.aH.aAh al.1.aAm al.1.aAb bo.1 bo.2.1 al.2.1.aA.Name al.2.1.aA.aAd ah al.1.aH.aAP al.2.1.aA.aAD al.2.1.aK al.2.1.aAZ))) else (if (ax.2.2==3)=true then ((aE (⟨p0.b,ax.1,ax.2.1⟩:M.aQ) 3).bind λbj=>((sE (⟨(⟨ar,aa,av⟩:M.aA),ae,af⟩:M.aAI) (i64.wrap (1+bj.2.2))).bind λc9=>((dF (⟨p0.b,bj.1,bj.2.1⟩:M.aQ)).bind λbq=>((cW (⟨p0.b,bq.1,bq.2.1⟩:M.aQ)).bind λbr=>((aE (⟨p0.b,br.1,br.2.1⟩:M.aQ) 6).bind λbt=>((cN (⟨(⟨ar,aa,av⟩:M.aA),ae,af⟩:M.aAI) (⟨(i64.wrap (1+bj.2.2)),(i64.wrap (c9+1)),bq.2.2,br.2.2,bt.2.2⟩:M.bA)).bind λbg=>(eK p0 bu (i64.wrap (v7-1)) ay az b7 ba bd bf aw bt.1 bt.2.1 bg.1.aA.Name bg.1.aA.aAd ah ai bg.1.aA.aAD bg.1.aK bg.1.aAZ))))))) else ((rY (⟨(⟨ay,ah,az⟩:M.aA),b7,(⟨(⟨ba,bd,ai⟩:M.aH),bf,aw⟩:M.aAT)⟩:M.aG) (⟨(⟨ar,aa,av⟩:M.aA),ae,af⟩:M.aAI)).bind λaq=>(eK p0 bu (i64.wrap (v7-1)) aq.1.aAU.Name aq.1.aAU.aAd aq.1.aAu aq.1.aAT.aH.aAK aq.1.aAT.aH.aAh aq.1.aAT.aAm aq.1.aAT.aAb ax.1 ax.2.1 ar av aq.1.aAU.aAD aq.1.aAT.aH.aAP aa ae af))))))) else (some (aj,ak,(⟨(⟨ay,ah,az⟩:M.aA),b7,(⟨(⟨ba,bd,ai⟩:M.aH),bf,aw⟩:M.aAT)⟩:M.aG),(⟨(⟨ar,aa,av⟩:M.aA),ae,af⟩:M.aAI)))
def xJ (p0:M.aQ):Option (Int×Int×M.aG×M.aAI):=
 (pW p0).bind λx4=>((sZ x4.2.2 4).bind λaa=>((aE (⟨p0.b,x4.1,x4.2.1⟩:M.aQ) 6).bind λae=>(eK p0 fuel ae.2.2 aa.1.aAU.Name aa.1.aAU.aAd aa.1.aAu aa.1.aAT.aH.aAK aa.1.aAT.aH.aAh aa.1.aAT.aAm aa.1.aAT.aAb ae.1 ae.2.1 x4.2.2.aA.Name x4.2.2.aA.aAd aa.1.aAU.aAD aa.1.aAT.aH.aAP x4.2.2.aA.aAD x4.2.2.aK x4.2.2.aAZ)))
def vE (p0:M.aQ):Option (Int×Int×M.Key):=
 (xU p0).bind λx4=>((aE (⟨p0.b,x4.1,x4.2.1⟩:M.aQ) 10).bind λaa=>(if (aa.2.2==0)=true then ((aE (⟨p0.b,aa.1,aa.2.1⟩:M.aQ) 5).bind λae=>(some (ae.1,ae.2.1,(⟨ae.2.2,x4.2.2.N,x4.2.2.aAf⟩:M.Key)))) else (if (aa.2.2==1)=true then ((bE (⟨p0.b,aa.1,aa.2.1⟩:M.aQ) ([(-1000000000001),1000000000001,5])).bind λaf=>(some (af.1,af.2.1,(⟨x4.2.2.aAV,af.2.2,x4.2.2.aAf⟩:M.Key)))) else (if (aa.2.2==2)=true then ((eT (⟨p0.b,aa.1,aa.2.1⟩:M.aQ) ([(⟨#[65]⟩:ByteArray),(⟨#[97,32,98]⟩:ByteArray),(⟨#[97,98,99,100,101,102,103,104,105,106,107,108,109]⟩:ByteArray),(⟨#[120,39]⟩:ByteArray)])).bind λah=>(some (ah.1,ah.2.1,(⟨x4.2.2.aAV,x4.2.2.N,ah.2.2⟩:M.Key)))) else (some (aa.1,aa.2.1,x4.2.2))))))
def oV (ae:(Int×Int×Int)):Nat->Int->List M.Field->Option (Int×Int×M.aC)
 | 0,_,_=>none
 | ah+1,af,aa=>if (decide (af<((6:Nat):Int)))=true then ((idx ([(⟨#[100]⟩:ByteArray),(⟨#[101]⟩:ByteArray),(⟨#[102]⟩:ByteArray),(⟨#[103]⟩:ByteArray),(⟨#[104]⟩:ByteArray),(⟨#[105]⟩:ByteArray)]) af).bind λai=>((gK (⟨aa⟩:M.aC) ai 1).bind λaj=>(oV ae ah (i64.wrap (af+1)) aj.1.aAF))) else (some (ae.1,ae.2.1,(⟨aa⟩:M.aC)))
def Ad (p0:M.aQ):Option (Int×Int×M.aC):=
 (iH p0).bind λx4=>((aE (⟨p0.b,x4.1,x4.2.1⟩:M.aQ) 12).bind λaa=>(if (aa.2.2==0)=true then ((eT (⟨p0.b,aa.1,aa.2.1⟩:M.aQ) ([(⟨#[]⟩:ByteArray),(⟨#[65]⟩:ByteArray),(⟨#[122,122,122,122,122,122,122,122,122]⟩:ByteArray),(⟨#[122]⟩:ByteArray),(⟨#[97]⟩:ByteArray)])).bind λae=>((bE (⟨p0.b,ae.1,ae.2.1⟩:M.aQ) ([0,(-1),1000000000,1000000001])).bind λaf=>((app 24 x4.2.2.aAF ([(⟨ae.2.2,af.2.2⟩:M.Field)])).bind λah=>(some (af.1,af.2.1,(⟨(x4.2.2.aAF++[(⟨ae.2.2,af.2.2⟩:M.Field)])⟩:M.aC)))))) else (if (aa.2.2==1)=true then (oV aa fuel 0 x4.2.2.aAF) else (some (aa.1,aa.2.1,x4.2.2)))))
def vA (p0:M.aA) (p1:M.aC):Option (M.aA×M.Key×Bool):=
 if (decide (p0.aAd>=1000000))=true then ((bO p0).bind λx2=>(some (x2,(⟨0,0,(⟨#[]⟩:ByteArray)⟩:M.Key),false))) else ((uQ p0 (⟨1,(i64.wrap (p0.aAd+1)),(⟨#[]⟩:ByteArray)⟩:M.Key) p1).bind λx4=>(if (!x4.2)=true then ((bO p0).bind λx7=>(some (x7,(⟨0,0,(⟨#[]⟩:ByteArray)⟩:M.Key),false))) else (some (x4.1,(⟨1,(i64.wrap (p0.aAd+1)),(⟨#[]⟩:ByteArray)⟩:M.Key),true))))
def tN (ah:(Int×Int×Int)):Nat->ByteArray->Int->List M.aAQ->Option (Int×Int×M.aA)
 | 0,_,_,_=>none
 | aj+1,ae,af,aa=>if (decide ((List.length aa:Int)<16))=true then ((jY (⟨ae,aa,af⟩:M.aA)).bind λak=>(if ak=true then ((vA (⟨ae,aa,af⟩:M.aA) (⟨([]:List M.Field)⟩:M.aC)).bind λai=>(tN ah aj ai.1.Name ai.1.aAd ai.1.aAD)) else (some (ah.1,ah.2.1,(⟨ae,aa,af⟩:M.aA))))) else (some (ah.1,ah.2.1,(⟨ae,aa,af⟩:M.aA)))
def xS (p0:M.aQ):Option (Int×Int×M.aA):=
 (mJ p0 (⟨#[110,111,116,101,115]⟩:ByteArray)).bind λx4=>((aE (⟨p0.b,x4.1,x4.2.1⟩:M.aQ) 12).bind λaa=>(if (aa.2.2==0)=true then ((eT (⟨p0.b,aa.1,aa.2.1⟩:M.aQ) ([(⟨#[]⟩:ByteArray),(⟨#[81]⟩:ByteArray),(⟨#[97,98,99,100,101,102,103,104,105]⟩:ByteArray)])).bind λah=>(some (ah.1,ah.2.1,(⟨ah.2.2,x4.2.2.aAD,x4.2.2.aAd⟩:M.aA)))) else (if (aa.2.2==1)=true then ((bE (⟨p0.b,aa.1,aa.2.1⟩:M.aQ) ([(-1),999999,1000000,1000001])).bind λai=>(some (ai.1,ai.2.1,(⟨x4.2.2.Name,x4.2.2.aAD,ai.2.2⟩:M.aA)))) else (if (aa.2.2==2)=true then ((vE (⟨p0.b,aa.1,aa.2.1⟩:M.aQ)).bind λae=>((Ad (⟨p0.b,ae.1,ae.2.1⟩:M.aQ)).bind λaf=>((app 56 x4.2.2.aAD ([(⟨ae.2.2,af.2.2⟩:M.aAQ)])).bind λaj=>(some (af.1,af.2.1,(⟨x4.2.2.Name,(x4.2.2.aAD++[(⟨ae.2.2,af.2.2⟩:M.aAQ)]),x4.2.2.aAd⟩:M.aA)))))) else (if (aa.2.2==3)=true then (tN aa fuel x4.2.2.Name x4.2.2.aAd x4.2.2.aAD) else (some (aa.1,aa.2.1,x4.2.2)))))))
def iZ (p0:M.aQ):Nat->Int->Int->Int->Int->Int->List M.bA->Option (Int×Int×M.aH)
 | 0,_,_,_,_,_,_=>none
 | av+1,v7,ah,ai,aa,ae,af=>if (decide (v7>0))=true then ((dF (⟨p0.b,aa,ae⟩:M.aQ)).bind λak=>((cW (⟨p0.b,ak.1,ak.2.1⟩:M.aQ)).bind λal=>((aE (⟨p0.b,al.1,al.2.1⟩:M.aQ) 6).bind λao=>((gH (⟨ah,ai,af⟩:M.aH) ak.2.2 al.2.2 ao.2.2).bind λaq=>(iZ p0 av (i64.wrap (v7-1)) aq.1.aAK aq.1.aAh ao.1 ao.2.1 aq.1.aAP))))) else ((cK (⟨p0.b,aa,ae⟩:M.aQ) 3).bind λaj=>(if aj.2.2=true then ((aE (⟨p0.b,aj.1,aj.2.1⟩:M.aQ) 4).bind λar=>((cO (⟨ah,ai,af⟩:M.aH) ar.2.2).bind λaw=>(some (ar.1,ar.2.1,aw.1)))) else (some (aj.1,aj.2.1,(⟨ah,ai,af⟩:M.aH)))))
def uJ (p0:M.aQ) (p1:Int):Option (Int×Int×M.aH):=
 (kX p1).bind λx5=>((bE p0 ([0,2,4,6])).bind λx7=>(iZ p0 fuel x7.2.2 x5.1.aAK x5.1.aAh x7.1 x7.2.1 x5.1.aAP))
def rC (p0:M.aQ):Nat->Int->Int->Int->Int->List M.bA->Option (Int×Int×M.aH)
 | 0,_,_,_,_,_=>none
 | al+1,ah,ai,aa,ae,af=>if (decide ((List.length af:Int)<20))=true then ((gI (⟨ah,ai,af⟩:M.aH)).bind λao=>(if ao=true then ((dF (⟨p0.b,aa,ae⟩:M.aQ)).bind λaj=>((gH (⟨ah,ai,af⟩:M.aH) aj.2.2 (⟨#[97]⟩:ByteArray) 1).bind λak=>(rC p0 al ak.1.aAK ak.1.aAh aj.1 aj.2.1 ak.1.aAP))) else (some (aa,ae,(⟨ah,ai,af⟩:M.aH))))) else (some (aa,ae,(⟨ah,ai,af⟩:M.aH)))
def xY (p0:M.aQ):Option (Int×Int×M.aH):=
 (aE p0 3).bind λx4=>((uJ (⟨p0.b,x4.1,x4.2.1⟩:M.aQ) (i64.wrap (1+x4.2.2))).bind λx6=>((aE (⟨p0.b,x6.1,x6.2.1⟩:M.aQ) 12).bind λaa=>(if (aa.2.2==0)=true then ((bE (⟨p0.b,aa.1,aa.2.1⟩:M.aQ) ([0,9,1000001])).bind λah=>(some (ah.1,ah.2.1,(⟨ah.2.2,x6.2.2.aAh,x6.2.2.aAP⟩:M.aH)))) else (if (aa.2.2==1)=true then ((bE (⟨p0.b,aa.1,aa.2.1⟩:M.aQ) ([0,3,1000000,1000001])).bind λai=>(some (ai.1,ai.2.1,(⟨x6.2.2.aAK,ai.2.2,x6.2.2.aAP⟩:M.aH)))) else (if (aa.2.2==2)=true then ((vE (⟨p0.b,aa.1,aa.2.1⟩:M.aQ)).bind λae=>((bE (⟨p0.b,ae.1,ae.2.1⟩:M.aQ) ([0,(-1)])).bind λaf=>((app 72 x6.2.2.aAP ([(⟨x6.2.2.aAK,x6.2.2.aAh,ae.2.2,(⟨#[97]⟩:ByteArray),af.2.2⟩:M.bA)])).bind λaj=>(some (af.1,af.2.1,(⟨x6.2.2.aAK,x6.2.2.aAh,(x6.2.2.aAP++[(⟨x6.2.2.aAK,x6.2.2.aAh,ae.2.2,(⟨#[97]⟩:ByteArray),af.2.2⟩:M.bA)])⟩:M.aH)))))) else (if (aa.2.2==3)=true then (rC p0 fuel x6.2.2.aAK x6.2.2.aAh aa.1 aa.2.1 x6.2.2.aAP) else (some (aa.1,aa.2.1,x6.2.2))))))))
def yK (p0:M.aQ):Option (Int×Int×M.aG):=
 (xJ p0).bind λx4=>((aE (⟨p0.b,x4.1,x4.2.1⟩:M.aQ) 12).bind λaa=>(if (aa.2.2==0)=true then ((xS (⟨p0.b,aa.1,aa.2.1⟩:M.aQ)).bind λae=>(some (ae.1,ae.2.1,(⟨ae.2.2,x4.2.2.1.aAu,x4.2.2.1.aAT⟩:M.aG)))) else (if (aa.2.2==1)=true then ((bE (⟨p0.b,aa.1,aa.2.1⟩:M.aQ) ([(-1),9,1000000000001])).bind λaf=>(some (af.1,af.2.1,(⟨x4.2.2.1.aAU,af.2.2,x4.2.2.1.aAT⟩:M.aG)))) else (if (aa.2.2==2)=true then ((xY (⟨p0.b,aa.1,aa.2.1⟩:M.aQ)).bind λah=>(some (ah.1,ah.2.1,(⟨x4.2.2.1.aAU,x4.2.2.1.aAu,(⟨ah.2.2,x4.2.2.1.aAT.aAm,x4.2.2.1.aAT.aAb⟩:M.aAT)⟩:M.aG)))) else (some (aa.1,aa.2.1,x4.2.2.1))))))
set_option maxRecDepth 40000 in
def lB (x4:(Int×Int×M.aO)) (aa:(Int×Int×Int)):Nat->List Int->Option (Int×Int×M.aO)
 | 0,_=>none
 | ae+1,r5=>if (decide ((List.length r5:Int)<2600))=true then ((app 1 r5 ([0])).bind λaf=>(lB x4 aa ae (r5++[0]))) else (some (aa.1,aa.2.1,(⟨x4.2.2.aAO,x4.2.2.Top,x4.2.2.aAC,x4.2.2.aAE,(⟨x4.2.2.cR.aAU,r5,x4.2.2.cR.aAn⟩:M.cR),x4.2.2.aG,x4.2.2.aAk,x4.2.2.aAj⟩:M.aO)))
set_option maxRecDepth 40000 in
theorem LZ:type_of% @lB.eq_2:=@lB.eq_2
def yS (p0:M.aQ):Option (Int×Int×M.aO):=
 (rA p0).bind λx4=>((aE (⟨p0.b,x4.1,x4.2.1⟩:M.aQ) 14).bind λaa=>(if (aa.2.2==0)=true then ((eT (⟨p0.b,aa.1,aa.2.1⟩:M.aQ) ([(⟨#[]⟩:ByteArray),(⟨#[122,122,122]⟩:ByteArray)])).bind λae=>(some (ae.1,ae.2.1,(⟨ae.2.2,x4.2.2.Top,x4.2.2.aAC,x4.2.2.aAE,x4.2.2.cR,x4.2.2.aG,x4.2.2.aAk,x4.2.2.aAj⟩:M.aO)))) else (if (aa.2.2==1)=true then ((yH (⟨p0.b,aa.1,aa.2.1⟩:M.aQ)).bind λaf=>(some (af.1,af.2.1,(⟨x4.2.2.aAO,x4.2.2.Top,x4.2.2.aAC,af.2.2,x4.2.2.cR,x4.2.2.aG,x4.2.2.aAk,x4.2.2.aAj⟩:M.aO)))) else (if (aa.2.2==2)=true then ((yP (⟨p0.b,aa.1,aa.2.1⟩:M.aQ)).bind λah=>(some (ah.1,ah.2.1,(⟨x4.2.2.aAO,x4.2.2.Top,x4.2.2.aAC,x4.2.2.aAE,ah.2.2,x4.2.2.aG,x4.2.2.aAk,x4.2.2.aAj⟩:M.aO)))) else (if (aa.2.2==3)=true then ((yK (⟨p0.b,aa.1,aa.2.1⟩:M.aQ)).bind λai=>(some (ai.1,ai.2.1,(⟨x4.2.2.aAO,x4.2.2.Top,x4.2.2.aAC,x4.2.2.aAE,x4.2.2.cR,ai.2.2,x4.2.2.aAk,x4.2.2.aAj⟩:M.aO)))) else (if (aa.2.2==4)=true then ((bE (⟨p0.b,aa.1,aa.2.1⟩:M.aQ) ([(-1),1000000000001])).bind λaj=>(some (aj.1,aj.2.1,(⟨x4.2.2.aAO,x4.2.2.Top,x4.2.2.aAC,x4.2.2.aAE,x4.2.2.cR,x4.2.2.aG,aj.2.2,x4.2.2.aAj⟩:M.aO)))) else (if (aa.2.2==5)=true then (lB x4 aa fuel x4.2.2.cR.Log) else (some (aa.1,aa.2.1,x4.2.2)))))))))
def gZ (p0:M.aQ):Nat->Int->Int->Int->List M.aO->Option (Int×Int×M.aJ)
 | 0,_,_,_,_=>none
 | ak+1,v4,aa,ae,af=>if (decide (v4>0))=true then ((rA (⟨p0.b,aa,ae⟩:M.aQ)).bind λaj=>((nJ (⟨af⟩:M.aJ) aj.2.2).bind λal=>(gZ p0 ak (i64.wrap (v4-1)) aj.1 aj.2.1 al.1.aAG))) else ((cK (⟨p0.b,aa,ae⟩:M.aQ) 12).bind λah=>(if ah.2.2=true then ((yS (⟨p0.b,ah.1,ah.2.1⟩:M.aQ)).bind λai=>((app 328 af ([ai.2.2])).bind λao=>(some (ai.1,ai.2.1,(⟨(af++[ai.2.2])⟩:M.aJ))))) else (some (ah.1,ah.2.1,(⟨af⟩:M.aJ)))))
def mA (p0:M.aQ):Option (Int×Int×M.aJ):=
 (aE p0 4).bind λx4=>(gZ p0 fuel x4.2.2 x4.1 x4.2.1 ([]:List M.aO))
def vY (p0:M.aQ) (p1:Int):Option (Int×Int×M.Instr):=
 (aE p0 9).bind λx5=>((aE (⟨p0.b,x5.1,x5.2.1⟩:M.aQ) 4).bind λx7=>(if ((i64.wrap (1+x5.2.2))==1)=true then ((aE (⟨p0.b,x7.1,x7.2.1⟩:M.aQ) 6).bind λaa=>(some (aa.1,aa.2.1,(⟨(i64.wrap (1+x5.2.2)),x7.2.2,aa.2.2,(⟨#[]⟩:ByteArray)⟩:M.Instr)))) else (if ((i64.wrap (1+x5.2.2))==2)=true then ((aE (⟨p0.b,x7.1,x7.2.1⟩:M.aQ) 4).bind λae=>(some (ae.1,ae.2.1,(⟨(i64.wrap (1+x5.2.2)),x7.2.2,ae.2.2,(⟨#[]⟩:ByteArray)⟩:M.Instr)))) else (if ((i64.wrap (1+x5.2.2))==3)=true then ((aE (⟨p0.b,x7.1,x7.2.1⟩:M.aQ) (i64.wrap (p1+1))).bind λaf=>(some (af.1,af.2.1,(⟨(i64.wrap (1+x5.2.2)),x7.2.2,af.2.2,(⟨#[]⟩:ByteArray)⟩:M.Instr)))) else (if ((i64.wrap (1+x5.2.2))==4)=true then ((aE (⟨p0.b,x7.1,x7.2.1⟩:M.aQ) (i64.wrap (p1+1))).bind λah=>(some (ah.1,ah.2.1,(⟨(i64.wrap (1+x5.2.2)),0,ah.2.2,(⟨#[]⟩:ByteArray)⟩:M.Instr)))) else (if ((i64.wrap (1+x5.2.2))==5)=true then ((eT (⟨p0.b,x7.1,x7.2.1⟩:M.aQ) ([(⟨#[105,110,100,101,120]⟩:ByteArray),(⟨#[115,116,121,108,101]⟩:ByteArray),(⟨#[100,97,116,97]⟩:ByteArray)])).bind λai=>(some (ai.1,ai.2.1,(⟨(i64.wrap (1+x5.2.2)),x7.2.2,0,ai.2.2⟩:M.Instr)))) else (if ((i64.wrap (1+x5.2.2))==6)=true then ((aE (⟨p0.b,x7.1,x7.2.1⟩:M.aQ) 4).bind λaj=>((cW (⟨p0.b,aj.1,aj.2.1⟩:M.aQ)).bind λak=>(some (ak.1,ak.2.1,(⟨(i64.wrap (1+x5.2.2)),x7.2.2,aj.2.2,ak.2.2⟩:M.Instr))))) else (if ((i64.wrap (1+x5.2.2))==7)=true then ((aE (⟨p0.b,x7.1,x7.2.1⟩:M.aQ) 4).bind λal=>((cW (⟨p0.b,al.1,al.2.1⟩:M.aQ)).bind λao=>(some (ao.1,ao.2.1,(⟨(i64.wrap (1+x5.2.2)),x7.2.2,al.2.2,ao.2.2⟩:M.Instr))))) else (if ((i64.wrap (1+x5.2.2))==8)=true then ((aE (⟨p0.b,x7.1,x7.2.1⟩:M.aQ) 4).bind λaq=>((cW (⟨p0.b,aq.1,aq.2.1⟩:M.aQ)).bind λar=>(some (ar.1,ar.2.1,(⟨(i64.wrap (1+x5.2.2)),x7.2.2,aq.2.2,ar.2.2⟩:M.Instr))))) else (if ((i64.wrap (1+x5.2.2))==9)=true then (some (x7.1,x7.2.1,(⟨(i64.wrap (1+x5.2.2)),0,0,(⟨#[]⟩:ByteArray)⟩:M.Instr))) else (some (x7.1,x7.2.1,(⟨(i64.wrap (1+x5.2.2)),x7.2.2,0,(⟨#[]⟩:ByteArray)⟩:M.Instr)))))))))))))
def iV (p0:M.aQ) (x4:(Int×Int×Int)):Nat->Int->List M.Instr->Int->Int->Option (Int×Int×(List M.Instr))
 | 0,_,_,_,_=>none
 | ah+1,v5,r8,aa,ae=>if (decide (v5<x4.2.2))=true then ((vY (⟨p0.b,aa,ae⟩:M.aQ) x4.2.2).bind λaf=>((app 40 r8 ([af.2.2])).bind λai=>(iV p0 x4 ah (i64.wrap (v5+1)) (r8++[af.2.2]) af.1 af.2.1))) else (some (aa,ae,r8))
def pY (p0:M.aQ):Option (Int×Int×(List M.Instr)):=
 (aE p0 8).bind λx4=>(iV p0 x4 fuel 0 ([]:List M.Instr) x4.1 x4.2.1)
def sA (p0:M.Instr) (p1:Int):Option Bool:=
 (if (p0.aAV==5)=true then (some true) else ((aZ p0.aAV 6 8).bind λx9=>(some x9))).bind λx1=>((if (p0.aAV==1)=true then (some 1000) else (if (p0.aAV==2)=true then (some 3) else ((if (p0.aAV==3)=true then (some (p0.aAV==3)) else (some (p0.aAV==4))).bind λaa=>(if aa=true then (some p1) else ((if (p0.aAV==6)=true then (some (p0.aAV==6)) else (if (p0.aAV==7)=true then (some (p0.aAV==7)) else (some (p0.aAV==8)))).bind λae=>(if ae=true then (some 100) else (some 0))))))).bind λaf=>(((aZ p0.aAV 1 9).bind λah=>(if (!ah)=true then (some true) else ((aZ p0.R 0 3).bind λai=>(if (!ai)=true then (some true) else ((aZ p0.N 0 af).bind λaj=>(some (!aj))))))).bind λak=>(if ak=true then (some false) else ((if (p0.aAV==4)=true then (some (p0.R != 0)) else (if (p0.aAV==9)=true then (some (p0.R != 0)) else (some false))).bind λal=>(if al=true then (some false) else ((if x1=true then ((bP p0.aAf).bind λao=>(if ao=true then (some true) else (some false))) else (some (p0.aAf.toList==(⟨#[]⟩:ByteArray).toList))).bind λaq=>(some aq)))))))
def kL (p0:List M.Instr):Nat->Int->Option Bool
 | 0,_=>none
 | aa+1,v3=>if (decide (v3<(List.length p0:Int)))=true then ((idx p0 v3).bind λx5=>((sA x5 (List.length p0:Int)).bind λae=>(if (!ae)=true then (some false) else (kL p0 aa (i64.wrap (v3+1)))))) else (some (decide ((List.length p0:Int)<=16)))
def vZ (p0:List M.Instr):Option Bool:=
 kL p0 fuel 0
def pX (p0:List M.Instr):Option (List M.Instr):=
 (app 40 ([]:List M.Instr) p0).bind λx1=>(some p0)
def tJ (p0:List M.Instr):Option M.aAJ:=
 (vZ p0).bind λx8=>(if (!x8)=true then (some (⟨([]:List M.Instr),0,[0,0,0,0],0,true,false⟩:M.aAJ)) else ((pX p0).bind λaa=>(some (⟨aa,0,[0,0,0,0],0,false,false⟩:M.aAJ))))
def nM (p0:M.bV):Nat->Int->Option Bool
 | 0,_=>none
 | aa+1,v3=>if (decide (v3<(List.length p0.aU:Int)))=true then ((idx p0.aU v3).bind λx6=>((bP x6.aAs).bind λae=>(if (!ae)=true then (some false) else (if (x6.aAB != p0.aAB)=true then (some false) else (nM p0 aa (i64.wrap (v3+1))))))) else ((aZ p0.Id 1 1000000000000).bind λaf=>(if af=true then ((bP p0.aAO).bind λah=>(if ah=true then ((bP p0.Top).bind λai=>(if ai=true then ((aZ p0.aAB 1 1000000000000).bind λaj=>(if aj=true then (some (decide ((List.length p0.aU:Int)<=8))) else (some false))) else (some false))) else (some false))) else (some false)))
def oG (p0:M.bV):Option Bool:=
 nM p0 fuel 0
def kY (p0:Int) (p1:ByteArray) (p2:ByteArray) (p3:Int) (p4:List M.Instr):Option (M.bV×Bool):=
 (tJ p4).bind λx1=>((oG (⟨p0,p1,p2,p3,([]:List M.aU),x1⟩:M.bV)).bind λx3=>(if (!x3)=true then (some ((⟨0,(⟨#[]⟩:ByteArray),(⟨#[]⟩:ByteArray),0,([]:List M.aU),(⟨([]:List M.Instr),0,([]:List Int),0,false,false⟩:M.aAJ)⟩:M.bV),false)) else (some ((⟨p0,p1,p2,p3,([]:List M.aU),x1⟩:M.bV),true))))
def xB (p0:M.aAJ):Option M.aAJ:=
 (pX p0.aAp).bind λx1=>((app 8 ([]:List Int) p0.aA1).bind λx3=>(some (⟨x1,p0.Pc,p0.aA1,p0.aAy,p0.aA6,p0.aA7⟩:M.aAJ)))
def mH (p0:M.bV):Option M.bV:=
 (app 24 ([]:List M.aU) p0.aU).bind λx1=>((xB p0.aAJ).bind λaa=>(some (⟨p0.Id,p0.aAO,p0.Top,p0.aAB,p0.aU,aa⟩:M.bV)))
def pD (p0:M.bV) (p1:ByteArray) (p2:M.aAM):Option (M.bV×Bool):=
 (mH p0).bind λx1=>((app 24 x1.aU ([(⟨p1,p2.aAB⟩:M.aU)])).bind λx3=>(if (p2.aAw != 200)=true then ((mH p0).bind λaa=>(some (aa,false))) else (if (p2.aAB != p0.aAB)=true then ((mH p0).bind λae=>(some (ae,false))) else ((oG p0).bind λaf=>(if (!af)=true then ((mH p0).bind λah=>(some (ah,false))) else ((oG (⟨x1.Id,x1.aAO,x1.Top,x1.aAB,(x1.aU++[(⟨p1,p2.aAB⟩:M.aU)]),x1.aAJ⟩:M.bV)).bind λai=>(if (!ai)=true then ((mH p0).bind λaj=>(some (aj,false))) else (some ((⟨x1.Id,x1.aAO,x1.Top,x1.aAB,(x1.aU++[(⟨p1,p2.aAB⟩:M.aU)]),x1.aAJ⟩:M.bV),true)))))))))
def lW (p0:M.aQ):Nat->Int->Int->ByteArray->ByteArray->Int->Int->Int->Bool->Bool->Int->Int->List M.aU->List M.Instr->List Int->Option (Int×Int×M.bV)
 | 0,_,_,_,_,_,_,_,_,_,_,_,_,_,_=>none
 | az+1,v7,ao,aq,ar,al,av,aw,ax,ak,aa,ae,af,ah,ai=>if (decide (v7>0))=true then ((sG (⟨p0.b,aa,ae⟩:M.aQ)).bind λay=>((pD (⟨ao,aq,ar,al,af,(⟨ah,av,ai,aw,ax,ak⟩:M.aAJ)⟩:M.bV) ay.2.2 (⟨0,200,al,([]:List Int),false⟩:M.aAM)).bind λaj=>(lW p0 az (i64.wrap (v7-1)) aj.1.Id aj.1.aAO aj.1.Top aj.1.aAB aj.1.aAJ.Pc aj.1.aAJ.aAy aj.1.aAJ.aA6 aj.1.aAJ.aA7 ay.1 ay.2.1 aj.1.aU aj.1.aAJ.aAp aj.1.aAJ.aA1))) else (some (aa,ae,(⟨ao,aq,ar,al,af,(⟨ah,av,ai,aw,ax,ak⟩:M.aAJ)⟩:M.bV)))
def xD (p0:M.aQ):Option (Int×Int×M.bV):=
 (jZ p0).bind λx4=>(((cK (⟨p0.b,x4.1,x4.2.1⟩:M.aQ) 3).bind λae=>(if ae.2.2=true then ((jZ (⟨p0.b,ae.1,ae.2.1⟩:M.aQ)).bind λaf=>(some (af.2.2,af.1,af.2.1))) else (some (x4.2.2,ae.1,ae.2.1)))).bind λah=>((aE (⟨p0.b,ah.2.1,ah.2.2⟩:M.aQ) 9).bind λai=>((aE (⟨p0.b,ai.1,ai.2.1⟩:M.aQ) 3).bind λaj=>((pY (⟨p0.b,aj.1,aj.2.1⟩:M.aQ)).bind λak=>((kY (i64.wrap (1+ai.2.2)) x4.2.2 ah.1 (i64.wrap (1+aj.2.2)) ak.2.2).bind λaa=>((aE (⟨p0.b,ak.1,ak.2.1⟩:M.aQ) 3).bind λal=>(lW p0 fuel al.2.2 aa.1.Id aa.1.aAO aa.1.Top aa.1.aAB aa.1.aAJ.Pc aa.1.aAJ.aAy aa.1.aAJ.aA6 aa.1.aAJ.aA7 al.1 al.2.1 aa.1.aU aa.1.aAJ.aAp aa.1.aAJ.aA1)))))))
def pT (x4:(Int×Int×M.bV)) (aa:(Int×Int×Int)):Nat->List M.aU->Option (Int×Int×M.bV)
 | 0,_=>none
 | ae+1,r5=>if (decide ((List.length r5:Int)<8))=true then ((app 24 r5 ([(⟨(⟨#[105,110,100,101,120]⟩:ByteArray),x4.2.2.aAB⟩:M.aU)])).bind λaf=>(pT x4 aa ae (r5++[(⟨(⟨#[105,110,100,101,120]⟩:ByteArray),x4.2.2.aAB⟩:M.aU)]))) else (some (aa.1,aa.2.1,(⟨x4.2.2.Id,x4.2.2.aAO,x4.2.2.Top,x4.2.2.aAB,r5,x4.2.2.aAJ⟩:M.bV)))
def wF (p0:M.aQ):Option (Int×Int×M.bV):=
 (xD p0).bind λx4=>((aE (⟨p0.b,x4.1,x4.2.1⟩:M.aQ) 12).bind λaa=>(if (aa.2.2==0)=true then ((bE (⟨p0.b,aa.1,aa.2.1⟩:M.aQ) ([0,1000000000000,1000000000001])).bind λah=>(some (ah.1,ah.2.1,(⟨ah.2.2,x4.2.2.aAO,x4.2.2.Top,x4.2.2.aAB,x4.2.2.aU,x4.2.2.aAJ⟩:M.bV)))) else (if (aa.2.2==1)=true then ((eT (⟨p0.b,aa.1,aa.2.1⟩:M.aQ) ([(⟨#[105,110,100,101,120]⟩:ByteArray),(⟨#[]⟩:ByteArray)])).bind λae=>((aE (⟨p0.b,ae.1,ae.2.1⟩:M.aQ) 2).bind λaf=>((app 24 x4.2.2.aU ([(⟨ae.2.2,(i64.wrap (x4.2.2.aAB+af.2.2))⟩:M.aU)])).bind λaj=>(some (af.1,af.2.1,(⟨x4.2.2.Id,x4.2.2.aAO,x4.2.2.Top,x4.2.2.aAB,(x4.2.2.aU++[(⟨ae.2.2,(i64.wrap (x4.2.2.aAB+af.2.2))⟩:M.aU)]),x4.2.2.aAJ⟩:M.bV)))))) else (if (aa.2.2==2)=true then ((bE (⟨p0.b,aa.1,aa.2.1⟩:M.aQ) ([0,1000000000001])).bind λai=>(some (ai.1,ai.2.1,(⟨x4.2.2.Id,x4.2.2.aAO,x4.2.2.Top,ai.2.2,x4.2.2.aU,x4.2.2.aAJ⟩:M.bV)))) else (if (aa.2.2==3)=true then (pT x4 aa fuel x4.2.2.aU) else (some (aa.1,aa.2.1,x4.2.2)))))))
def vF (p0:M.aQ):Option (Int×Int×M.bA):=
 (aE p0 3).bind λx4=>((aE (⟨p0.b,x4.1,x4.2.1⟩:M.aQ) 4).bind λx6=>((dF (⟨p0.b,x6.1,x6.2.1⟩:M.aQ)).bind λx8=>((cW (⟨p0.b,x8.1,x8.2.1⟩:M.aQ)).bind λae=>((aE (⟨p0.b,ae.1,ae.2.1⟩:M.aQ) 6).bind λaf=>((aE (⟨p0.b,af.1,af.2.1⟩:M.aQ) 12).bind λaa=>(if (aa.2.2==0)=true then ((bE (⟨p0.b,aa.1,aa.2.1⟩:M.aQ) ([0,1000000,1000001])).bind λah=>(some (ah.1,ah.2.1,(⟨ah.2.2,(i64.wrap (1+x6.2.2)),x8.2.2,ae.2.2,af.2.2⟩:M.bA)))) else (if (aa.2.2==1)=true then ((bE (⟨p0.b,aa.1,aa.2.1⟩:M.aQ) ([0,1000000,1000001])).bind λai=>(some (ai.1,ai.2.1,(⟨(i64.wrap (1+x4.2.2)),ai.2.2,x8.2.2,ae.2.2,af.2.2⟩:M.bA)))) else (if (aa.2.2==2)=true then ((vE (⟨p0.b,aa.1,aa.2.1⟩:M.aQ)).bind λaj=>(some (aj.1,aj.2.1,(⟨(i64.wrap (1+x4.2.2)),(i64.wrap (1+x6.2.2)),aj.2.2,ae.2.2,af.2.2⟩:M.bA)))) else (if (aa.2.2==3)=true then (some (aa.1,aa.2.1,(⟨(i64.wrap (1+x4.2.2)),(i64.wrap (1+x6.2.2)),x8.2.2,(⟨#[]⟩:ByteArray),af.2.2⟩:M.bA))) else (if (aa.2.2==4)=true then ((bE (⟨p0.b,aa.1,aa.2.1⟩:M.aQ) ([(-1),1000000000,1000000001])).bind λak=>(some (ak.1,ak.2.1,(⟨(i64.wrap (1+x4.2.2)),(i64.wrap (1+x6.2.2)),x8.2.2,ae.2.2,ak.2.2⟩:M.bA)))) else (some (aa.1,aa.2.1,(⟨(i64.wrap (1+x4.2.2)),(i64.wrap (1+x6.2.2)),x8.2.2,ae.2.2,af.2.2⟩:M.bA)))))))))))))
def rD (x4:(Int×Int×M.aAI)) (ae:(Int×Int×Int)):Nat->Int->List M.aK->Option (Int×Int×M.aAI)
 | 0,_,_=>none
 | af+1,v4,aa=>if (decide (v4<64))=true then ((app 16 aa ([(⟨v4,0⟩:M.aK)])).bind λah=>(rD x4 ae af (i64.wrap (v4+1)) (aa++[(⟨v4,0⟩:M.aK)]))) else (some (ae.1,ae.2.1,(⟨x4.2.2.aA,aa,x4.2.2.aAZ⟩:M.aAI)))
def wM (p0:M.aQ):Option (Int×Int×M.aAI):=
 (pW p0).bind λx4=>((aE (⟨p0.b,x4.1,x4.2.1⟩:M.aQ) 12).bind λaa=>(if (aa.2.2==0)=true then ((xS (⟨p0.b,aa.1,aa.2.1⟩:M.aQ)).bind λai=>(some (ai.1,ai.2.1,(⟨ai.2.2,x4.2.2.aK,x4.2.2.aAZ⟩:M.aAI)))) else (if (aa.2.2==1)=true then ((bE (⟨p0.b,aa.1,aa.2.1⟩:M.aQ) ([0,2,9,1000001])).bind λae=>((bE (⟨p0.b,ae.1,ae.2.1⟩:M.aQ) ([0,(-1)])).bind λaf=>((app 16 x4.2.2.aK ([(⟨ae.2.2,af.2.2⟩:M.aK)])).bind λaj=>(some (af.1,af.2.1,(⟨x4.2.2.aA,(x4.2.2.aK++[(⟨ae.2.2,af.2.2⟩:M.aK)]),x4.2.2.aAZ⟩:M.aAI)))))) else (if (aa.2.2==2)=true then ((vF (⟨p0.b,aa.1,aa.2.1⟩:M.aQ)).bind λah=>((app 72 x4.2.2.aAZ ([ah.2.2])).bind λak=>(some (ah.1,ah.2.1,(⟨x4.2.2.aA,x4.2.2.aK,(x4.2.2.aAZ++[ah.2.2])⟩:M.aAI))))) else (if (aa.2.2==3)=true then (rD x4 aa fuel 4 ([]:List M.aK)) else (some (aa.1,aa.2.1,x4.2.2)))))))
def gJ (x1:M.aQ) (aa:M.World) (ai:(Int×Int×M.aJ)):Nat->Int->Int->Int->Int->List M.bV->Option M.World
 | 0,_,_,_,_,_=>none
 | b7+1,v5,af,aj,ak,ah=>(if (decide (v5<(List.length ai.2.2.aAG:Int)))=true then ((cK (⟨x1.b,aj,ak⟩:M.aQ) 2).bind λaq=>(some (aq.2.2,aq.1,aq.2.1))) else (some (false,aj,ak))).bind λal=>(if al.1=true then ((idx ai.2.2.aAG v5).bind λay=>((pY (⟨x1.b,al.2.1,al.2.2⟩:M.aQ)).bind λar=>((kY af ay.aAO ay.Top 1 ar.2.2).bind λaz=>((app 144 ah ([az.1])).bind λba=>(gJ x1 aa ai b7 (i64.wrap (v5+1)) (i64.wrap (af+1)) ar.1 ar.2.1 (ah++[az.1])))))) else ((aE (⟨x1.b,al.2.1,al.2.2⟩:M.aQ) 24).bind λae=>(if (ae.2.2==0)=true then ((bE (⟨x1.b,ae.1,ae.2.1⟩:M.aQ) ([(-1),999999990000,999999990001])).bind λav=>(some (⟨av.2.2,aa.aAi,aa.aAK,ai.2.2,ah,af,aa.aAW,aa.aAa,aa.aAe,aa.aAY⟩:M.World))) else (if (ae.2.2==1)=true then (some (⟨aa.Now,aa.aAi,0,ai.2.2,ah,af,aa.aAW,aa.aAa,aa.aAe,aa.aAY⟩:M.World)) else (if (ae.2.2==2)=true then ((xE aa.aAe 2).bind λbd=>(some (⟨aa.Now,aa.aAi,aa.aAK,ai.2.2,ah,af,aa.aAW,aa.aAa,(List.take (2:Int).toNat aa.aAe),aa.aAY⟩:M.World))) else (if (ae.2.2==3)=true then ((mA (⟨x1.b,ae.1,ae.2.1⟩:M.aQ)).bind λaw=>(some (⟨aa.Now,aa.aAi,aa.aAK,aw.2.2,ah,af,aa.aAW,aa.aAa,aa.aAe,aa.aAY⟩:M.World))) else (if (ae.2.2==4)=true then ((wF (⟨x1.b,ae.1,ae.2.1⟩:M.aQ)).bind λao=>((app 144 ah ([ao.2.2])).bind λbf=>(some (⟨aa.Now,aa.aAi,aa.aAK,ai.2.2,(ah++[ao.2.2]),af,aa.aAW,aa.aAa,aa.aAe,aa.aAY⟩:M.World)))) else (if (ae.2.2==5)=true then (some (⟨aa.Now,aa.aAi,aa.aAK,ai.2.2,ah,0,aa.aAW,aa.aAa,aa.aAe,aa.aAY⟩:M.World)) else (if (ae.2.2==6)=true then ((wM (⟨x1.b,ae.1,ae.2.1⟩:M.aQ)).bind λax=>((idx aa.aAY 0).bind λbg=>(some (⟨aa.Now,aa.aAi,aa.aAK,ai.2.2,ah,af,aa.aAW,aa.aAa,aa.aAe,(List.set aa.aAY (0:Int).toNat ax.2.2)⟩:M.World)))) else (some (⟨aa.Now,aa.aAi,aa.aAK,ai.2.2,ah,af,aa.aAW,aa.aAa,aa.aAe,aa.aAY⟩:M.World)))))))))))
def rQ (p0:List Int):Option M.World:=
 (vC p0).bind λx1=>((aE x1 3).bind λx8=>((sX (i64.wrap (1+x8.2.2))).bind λaa=>((mA (⟨x1.b,x8.1,x8.2.1⟩:M.aQ)).bind λae=>(gJ x1 aa ae fuel 0 aa.aAg ae.1 ae.2.1 aa.aAX))))
def CD (p0:List Int) (p1:Int):Option Int:=
 if (decide (p1<(List.length p0:Int)))=true then ((idx p0 p1).bind λx2=>(some (i64.wrap x2))) else (some (Int.tmod (i64.wrap ((i64.wrap (p1*31))+(i64.wrap ((List.length p0:Int)*7)))) 256))
def rT (p0:M.bV) (c0:Int):Option Bool:=
 some (p0.Id==c0)
def dI (p0:List M.bV) (p1:M.bV->Option Bool):Nat->Int->Option Int
 | 0,_=>none
 | aa+1,v8=>if (decide (v8<(List.length p0:Int)))=true then ((idx p0 v8).bind λx7=>((p1 x7).bind λae=>(if ae=true then (some v8) else (dI p0 p1 aa (i64.wrap (v8+1)))))) else (some (-1))
def kQ (p0:List M.bV) (p1:M.bV->Option Bool):Option Int:=
 dI p0 p1 fuel 0
def uK (p0:M.World) (p1:Int):Option Int:=
 (kQ p0.aAX (λz0=>rT z0 p1)).bind λx1=>(some x1)
def mQ (p0:List Int):Option ByteArray:=
 (vC p0).bind λx1=>((eT x1 ([(⟨#[98,97,110,107]⟩:ByteArray),(⟨#[110,101,119,115]⟩:ByteArray),(⟨#[115,104,111,112]⟩:ByteArray),(⟨#[]⟩:ByteArray),(⟨#[122,122,122]⟩:ByteArray)])).bind λx6=>(some x6.2.2))
def iR (p0:M.aAO):Nat->Int->Option Bool
 | 0,_=>none
 | aa+1,v3=>if (decide (v3<(List.length p0.aAo:Int)))=true then ((idx p0.aAo v3).bind λx6=>((bP x6).bind λae=>(if (!ae)=true then (some false) else (if (decide (v3>0))=true then ((idx p0.aAo (i64.wrap (v3-1))).bind λaf=>(if (!(Op.bytesLess af.toList x6.toList))=true then (some false) else (iR p0 aa (i64.wrap (v3+1))))) else (iR p0 aa (i64.wrap (v3+1))))))) else ((bP p0.Name).bind λah=>(if ah=true then ((aZ p0.aAB 1 1000000000000).bind λai=>(if ai=true then ((aZ (List.length p0.aAo:Int) 1 6).bind λaj=>(some aj)) else (some false))) else (some false)))
def yO (p0:M.aAO):Option Bool:=
 iR p0 fuel 0
def dE (p0:ByteArray):Nat->Int->Option Bool
 | 0,_=>none
 | aa+1,v3=>if (decide (v3<(p0.size:Int)))=true then ((R5 p0 v3).bind λx5=>(if (decide ((x5.toNat:Int)<97))=true then (if ((x5.toNat:Int) != 47)=true then (some false) else (dE p0 aa (i64.wrap (v3+1)))) else (if (decide ((x5.toNat:Int)>122))=true then (if ((x5.toNat:Int) != 47)=true then (some false) else (dE p0 aa (i64.wrap (v3+1)))) else (dE p0 aa (i64.wrap (v3+1)))))) else ((aZ (p0.size:Int) 1 30).bind λae=>(some ae))
def sN (p0:ByteArray):Option Bool:=
 dE p0 fuel 0
def cG (p0:M.cH) (v3:Int) (x6:M.tV) (ae:Int->Option Bool):Nat->Int->Option Bool
 | 0,_=>none
 | af+1,aa=>if (decide (aa<v3))=true then ((idx p0.aAW aa).bind λah=>(if x6.aBA=true then (if (ah.Name.toList==x6.Name.toList)=true then (if (!ah.aBA)=true then (some false) else (if (!x6.aAt)=true then (some false) else (if (!ah.aAt)=true then (some false) else (cG p0 v3 x6 ae af (i64.wrap (aa+1)))))) else (cG p0 v3 x6 ae af (i64.wrap (aa+1)))) else (cG p0 v3 x6 ae af (i64.wrap (aa+1))))) else (ae aa)
def eR (p0:M.cH):Nat->Int->Option Bool
 | 0,_=>none
 | ae+1,v3=>if (decide (v3<(List.length p0.aAW:Int)))=true then ((idx p0.aAW v3).bind λx6=>((sN x6.Name).bind λaf=>(if (!af)=true then (some false) else ((aZ x6.bV 1 1000000000000).bind λah=>(if (!ah)=true then (some false) else (cG p0 v3 x6 (λ(aa:Int)=>eR p0 ae (i64.wrap (v3+1))) fuel 0)))))) else (some (decide ((List.length p0.aAW:Int)<=12)))
def rX (p0:M.cH):Option Bool:=
 eR p0 fuel 0
def dJ (p0:M.World):Nat->Int->Option Bool
 | 0,_=>none
 | ae+1,v4=>if (decide (v4<(List.length p0.aAX:Int)))=true then ((idx p0.aAX v4).bind λaa=>((oG aa).bind λaf=>(if (!af)=true then (some false) else (if (decide (aa.Id>=p0.aAg))=true then (some false) else (if (decide (v4>0))=true then ((idx p0.aAX (i64.wrap (v4-1))).bind λah=>(if (decide (ah.Id>=aa.Id))=true then (some false) else ((lZ p0.aJ aa.aAO aa.Top).bind λai=>(if (decide (ai<0))=true then (some false) else (dJ p0 ae (i64.wrap (v4+1))))))) else ((lZ p0.aJ aa.aAO aa.Top).bind λaj=>(if (decide (aj<0))=true then (some false) else (dJ p0 ae (i64.wrap (v4+1)))))))))) else ((aZ p0.Now 0 999999990000).bind λak=>(if ak=true then ((aZ p0.aAK 1 1000000).bind λal=>(if al=true then ((bZ p0.aJ).bind λao=>(if ao=true then ((aZ p0.aAg 1 1000000000000).bind λaq=>(if aq=true then ((rX p0.aAW).bind λar=>(some ar)) else (some false))) else (some false))) else (some false))) else (some false)))
def jK (p0:M.World):Nat->Int->Option Bool
 | 0,_=>none
 | aa+1,v3=>if (decide (v3<3))=true then ((idx p0.aAe v3).bind λx9=>((yO x9).bind λae=>(if (!ae)=true then (some false) else ((vG).bind λaf=>((idx af v3).bind λah=>(if (!(x9.Name.toList==ah.toList))=true then (some false) else ((idx p0.aAY v3).bind λai=>((mS ai).bind λaj=>(if (!aj)=true then (some false) else (jK p0 aa (i64.wrap (v3+1)))))))))))) else (dJ p0 fuel 0)
def uS (p0:M.World):Option Bool:=
 if ((List.length p0.aAe:Int) != 3)=true then (some false) else (if ((List.length p0.aAY:Int) != 3)=true then (some false) else (if (decide ((List.length p0.aAX:Int)>6))=true then (some false) else (jK p0 fuel 0)))
def dR (p0:List M.aO) (p1:List M.aO) (p2:M.aO->M.aO->Option Bool):Nat->Int->Option Bool
 | 0,_=>none
 | ae+1,aa=>if (decide (aa<(List.length p0:Int)))=true then ((idx p0 aa).bind λx9=>((idx p1 aa).bind λaf=>((p2 x9 af).bind λah=>(if (!ah)=true then (some false) else (dR p0 p1 p2 ae (i64.wrap (aa+1))))))) else (some true)
def iJ (p0:List M.aO) (p1:List M.aO) (p2:M.aO->M.aO->Option Bool):Option Bool:=
 if ((List.length p0:Int) != (List.length p1:Int))=true then (some false) else (dR p0 p1 p2 fuel 0)
def eL (p0:List M.aAL) (p1:List M.aAL) (p2:M.aAL->M.aAL->Option Bool):Nat->Int->Option Bool
 | 0,_=>none
 | ae+1,aa=>if (decide (aa<(List.length p0:Int)))=true then ((idx p0 aa).bind λx9=>((idx p1 aa).bind λaf=>((p2 x9 af).bind λah=>(if (!ah)=true then (some false) else (eL p0 p1 p2 ae (i64.wrap (aa+1))))))) else (some true)
def jJ (p0:List M.aAL) (p1:List M.aAL) (p2:M.aAL->M.aAL->Option Bool):Option Bool:=
 if ((List.length p0:Int) != (List.length p1:Int))=true then (some false) else (eL p0 p1 p2 fuel 0)
def dS (p0:List M.aAR) (p1:List M.aAR) (p2:M.aAR->M.aAR->Option Bool):Nat->Int->Option Bool
 | 0,_=>none
 | ae+1,aa=>if (decide (aa<(List.length p0:Int)))=true then ((idx p0 aa).bind λx9=>((idx p1 aa).bind λaf=>((p2 x9 af).bind λah=>(if (!ah)=true then (some false) else (dS p0 p1 p2 ae (i64.wrap (aa+1))))))) else (some true)
def iI (p0:List M.aAR) (p1:List M.aAR) (p2:M.aAR->M.aAR->Option Bool):Option Bool:=
 if ((List.length p0:Int) != (List.length p1:Int))=true then (some false) else (dS p0 p1 p2 fuel 0)
def iD (p0:List Int) (p1:List Int):Nat->Int->Option Bool
 | 0,_=>none
 | ae+1,aa=>if (decide (aa<(List.length p0:Int)))=true then ((idx p0 aa).bind λx8=>((idx p1 aa).bind λaf=>(if (x8 != af)=true then (some false) else (iD p0 p1 ae (i64.wrap (aa+1)))))) else (some true)
def pI (p0:List Int) (p1:List Int):Option Bool:=
 if ((List.length p0:Int) != (List.length p1:Int))=true then (some false) else (iD p0 p1 fuel 0)
def oK (p0:List Int) (p1:List Int):Option Bool:=
 (pI p0 p1).bind λx1=>(some x1)
def mR (p0:M.aAM) (p1:M.aAM):Option Bool:=
 if (p0.aA0==p1.aA0)=true then (if (p0.aAw==p1.aAw)=true then (if (p0.aAB==p1.aAB)=true then ((oK p0.aA4 p1.aA4).bind λx4=>(if x4=true then (some (p0.aA9==p1.aA9)) else (some false))) else (some false)) else (some false)) else (some false)
def mX (p0:M.aAR) (p1:M.aAR):Option Bool:=
 if (p0.aAO.toList==p1.aAO.toList)=true then (if (p0.aAs.toList==p1.aAs.toList)=true then ((mR p0.aAM p1.aAM).bind λx3=>(some x3)) else (some false)) else (some false)
def nH (p0:M.aAL) (p1:M.aAL):Option Bool:=
 if (p0.aAB==p1.aAB)=true then ((iI p0.aAN p1.aAN (λz0 z1=>mX z0 z1)).bind λx2=>(some x2)) else (some false)
def mL (p0:M.aF) (p1:M.aF):Option Bool:=
 (jJ p0.aAE p1.aAE (λz0 z1=>nH z0 z1)).bind λx1=>(some x1)
def eH (p0:List M.aA) (p1:List M.aA) (p2:M.aA->M.aA->Option Bool):Nat->Int->Option Bool
 | 0,_=>none
 | ae+1,aa=>if (decide (aa<(List.length p0:Int)))=true then ((idx p0 aa).bind λx9=>((idx p1 aa).bind λaf=>((p2 x9 af).bind λah=>(if (!ah)=true then (some false) else (eH p0 p1 p2 ae (i64.wrap (aa+1))))))) else (some true)
def jS (p0:List M.aA) (p1:List M.aA) (p2:M.aA->M.aA->Option Bool):Option Bool:=
 if ((List.length p0:Int) != (List.length p1:Int))=true then (some false) else (eH p0 p1 p2 fuel 0)
def eW (p0:List M.aAQ) (p1:List M.aAQ) (p2:M.aAQ->M.aAQ->Option Bool):Nat->Int->Option Bool
 | 0,_=>none
 | ae+1,aa=>if (decide (aa<(List.length p0:Int)))=true then ((idx p0 aa).bind λx9=>((idx p1 aa).bind λaf=>((p2 x9 af).bind λah=>(if (!ah)=true then (some false) else (eW p0 p1 p2 ae (i64.wrap (aa+1))))))) else (some true)
def kC (p0:List M.aAQ) (p1:List M.aAQ) (p2:M.aAQ->M.aAQ->Option Bool):Option Bool:=
 if ((List.length p0:Int) != (List.length p1:Int))=true then (some false) else (eW p0 p1 p2 fuel 0)
def gV (p0:List M.Field) (p1:List M.Field):Nat->Int->Option Bool
 | 0,_=>none
 | af+1,aa=>if (decide (aa<(List.length p0:Int)))=true then ((idx p0 aa).bind λx8=>((idx p1 aa).bind λae=>(if (!((x8.Name.toList==ae.Name.toList)&&(x8.N==ae.N)))=true then (some false) else (gV p0 p1 af (i64.wrap (aa+1)))))) else (some true)
def oA (p0:List M.Field) (p1:List M.Field):Option Bool:=
 if ((List.length p0:Int) != (List.length p1:Int))=true then (some false) else (gV p0 p1 fuel 0)
def pA (p0:M.aC) (p1:M.aC):Option Bool:=
 (oA p0.aAF p1.aAF).bind λx1=>(some x1)
def oR (p0:M.aAQ) (p1:M.aAQ):Option Bool:=
 if ((p0.Key.aAV==p1.Key.aAV)&&((p0.Key.N==p1.Key.N)&&(p0.Key.aAf.toList==p1.Key.aAf.toList)))=true then ((pA p0.aC p1.aC).bind λx2=>(some x2)) else (some false)
def fV (p0:M.aA) (p1:M.aA):Option Bool:=
 if (p0.Name.toList==p1.Name.toList)=true then (if (p0.aAd==p1.aAd)=true then ((kC p0.aAD p1.aAD (λz0 z1=>oR z0 z1)).bind λx3=>(some x3)) else (some false)) else (some false)
def eU (p0:List M.aN) (p1:List M.aN):Nat->Int->Option Bool
 | 0,_=>none
 | af+1,aa=>if (decide (aa<(List.length p0:Int)))=true then ((idx p0 aa).bind λx8=>((idx p1 aa).bind λae=>(if (!((x8.aA.toList==ae.aA.toList)&&(x8.Field.toList==ae.Field.toList)))=true then (some false) else (eU p0 p1 af (i64.wrap (aa+1)))))) else (some true)
def kO (p0:List M.aN) (p1:List M.aN):Option Bool:=
 if ((List.length p0:Int) != (List.length p1:Int))=true then (some false) else (eU p0 p1 fuel 0)
def mP (p0:M.aAA) (p1:M.aAA):Option Bool:=
 if (p0.Name.toList==p1.Name.toList)=true then (if (p0.aAB==p1.aAB)=true then ((jS p0.aAH p1.aAH (λz0 z1=>fV z0 z1)).bind λx3=>(if x3=true then ((kO p0.aAS p1.aAS).bind λx6=>(some x6)) else (some false))) else (some false)) else (some false)
def sY (p0:M.cR) (p1:M.cR):Option Bool:=
 (mP p0.aAU p1.aAU).bind λx1=>(if x1=true then ((oK p0.Log p1.Log).bind λx4=>(if x4=true then (some (p0.aAn==p1.aAn)) else (some false))) else (some false))
def gQ (p0:List M.bA) (p1:List M.bA):Nat->Int->Option Bool
 | 0,_=>none
 | af+1,ae=>if (decide (ae<(List.length p0:Int)))=true then ((idx p0 ae).bind λx8=>((idx p1 ae).bind λaa=>(if (!((x8.aAK==aa.aAK)&&((x8.Seq==aa.Seq)&&((x8.Key.aAV==aa.Key.aAV)&&((x8.Key.N==aa.Key.N)&&((x8.Key.aAf.toList==aa.Key.aAf.toList)&&((x8.Field.toList==aa.Field.toList)&&(x8.N==aa.N))))))))=true then (some false) else (gQ p0 p1 af (i64.wrap (ae+1)))))) else (some true)
def kV (p0:List M.bA) (p1:List M.bA):Option Bool:=
 if ((List.length p0:Int) != (List.length p1:Int))=true then (some false) else (gQ p0 p1 fuel 0)
def oC (p0:M.aH) (p1:M.aH):Option Bool:=
 if (p0.aAK==p1.aAK)=true then (if (p0.aAh==p1.aAh)=true then ((kV p0.aAP p1.aAP).bind λx3=>(some x3)) else (some false)) else (some false)
def tL (p0:M.aAT) (p1:M.aAT):Option Bool:=
 (oC p0.aH p1.aH).bind λx1=>(if x1=true then (if (p0.aAm==p1.aAm)=true then (some (p0.aAb==p1.aAb)) else (some false)) else (some false))
def nV (p0:M.aG) (p1:M.aG):Option Bool:=
 (fV p0.aAU p1.aAU).bind λx1=>(if x1=true then (if (p0.aAu==p1.aAu)=true then ((tL p0.aAT p1.aAT).bind λx5=>(some x5)) else (some false)) else (some false))
def lS (p0:M.aO) (p1:M.aO):Option Bool:=
 if (p0.aAO.toList==p1.aAO.toList)=true then (if (p0.Top.toList==p1.Top.toList)=true then (if ((p0.aAC.aAO.toList==p1.aAC.aAO.toList)&&((p0.aAC.aAc==p1.aAC.aAc)&&((p0.aAC.aAl==p1.aAC.aAl)&&(p0.aAC.aAr==p1.aAC.aAr))))=true then ((mL p0.aAE p1.aAE).bind λx4=>(if x4=true then ((sY p0.cR p1.cR).bind λx7=>(if x7=true then ((nV p0.aG p1.aG).bind λaa=>(if aa=true then (if (p0.aAk==p1.aAk)=true then (some (p0.aAj==p1.aAj)) else (some false)) else (some false))) else (some false))) else (some false))) else (some false)) else (some false)) else (some false)
def nZ (p0:M.aJ) (p1:M.aJ):Option Bool:=
 (iJ p0.aAG p1.aAG (λz0 z1=>lS z0 z1)).bind λx1=>(some x1)
def eY (p0:List M.bV) (p1:List M.bV) (p2:M.bV->M.bV->Option Bool):Nat->Int->Option Bool
 | 0,_=>none
 | ae+1,aa=>if (decide (aa<(List.length p0:Int)))=true then ((idx p0 aa).bind λx9=>((idx p1 aa).bind λaf=>((p2 x9 af).bind λah=>(if (!ah)=true then (some false) else (eY p0 p1 p2 ae (i64.wrap (aa+1))))))) else (some true)
def kB (p0:List M.bV) (p1:List M.bV) (p2:M.bV->M.bV->Option Bool):Option Bool:=
 if ((List.length p0:Int) != (List.length p1:Int))=true then (some false) else (eY p0 p1 p2 fuel 0)
def gC (p0:List M.aU) (p1:List M.aU):Nat->Int->Option Bool
 | 0,_=>none
 | af+1,aa=>if (decide (aa<(List.length p0:Int)))=true then ((idx p0 aa).bind λx8=>((idx p1 aa).bind λae=>(if (!((x8.aAs.toList==ae.aAs.toList)&&(x8.aAB==ae.aAB)))=true then (some false) else (gC p0 p1 af (i64.wrap (aa+1)))))) else (some true)
def mM (p0:List M.aU) (p1:List M.aU):Option Bool:=
 if ((List.length p0:Int) != (List.length p1:Int))=true then (some false) else (gC p0 p1 fuel 0)
def gS (p0:List M.Instr) (p1:List M.Instr):Nat->Int->Option Bool
 | 0,_=>none
 | af+1,aa=>if (decide (aa<(List.length p0:Int)))=true then ((idx p0 aa).bind λx8=>((idx p1 aa).bind λae=>(if (!((x8.aAV==ae.aAV)&&((x8.R==ae.R)&&((x8.N==ae.N)&&(x8.aAf.toList==ae.aAf.toList)))))=true then (some false) else (gS p0 p1 af (i64.wrap (aa+1)))))) else (some true)
def nX (p0:List M.Instr) (p1:List M.Instr):Option Bool:=
 if ((List.length p0:Int) != (List.length p1:Int))=true then (some false) else (gS p0 p1 fuel 0)
def jM (p0:List Int) (p1:List Int):Nat->Int->Option Bool
 | 0,_=>none
 | ae+1,aa=>if (decide (aa<(List.length p0:Int)))=true then ((idx p0 aa).bind λx8=>((idx p1 aa).bind λaf=>(if (x8 != af)=true then (some false) else (jM p0 p1 ae (i64.wrap (aa+1)))))) else (some true)
def rM (p0:List Int) (p1:List Int):Option Bool:=
 if ((List.length p0:Int) != (List.length p1:Int))=true then (some false) else (jM p0 p1 fuel 0)
def nU (p0:M.aAJ) (p1:M.aAJ):Option Bool:=
 (nX p0.aAp p1.aAp).bind λx1=>(if x1=true then (if (p0.Pc==p1.Pc)=true then ((rM p0.aA1 p1.aA1).bind λx5=>(if x5=true then (if (p0.aAy==p1.aAy)=true then (if (p0.aA6==p1.aA6)=true then (some (p0.aA7==p1.aA7)) else (some false)) else (some false)) else (some false))) else (some false)) else (some false))
def fH (p0:M.bV) (p1:M.bV):Option Bool:=
 if (p0.Id==p1.Id)=true then (if (p0.aAO.toList==p1.aAO.toList)=true then (if (p0.Top.toList==p1.Top.toList)=true then (if (p0.aAB==p1.aAB)=true then ((mM p0.aU p1.aU).bind λx5=>(if x5=true then ((nU p0.aAJ p1.aAJ).bind λx8=>(some x8)) else (some false))) else (some false)) else (some false)) else (some false)) else (some false)
def iF (p0:List M.tV) (p1:List M.tV):Nat->Int->Option Bool
 | 0,_=>none
 | af+1,aa=>if (decide (aa<(List.length p0:Int)))=true then ((idx p0 aa).bind λx8=>((idx p1 aa).bind λae=>(if (!((x8.Name.toList==ae.Name.toList)&&((x8.bV==ae.bV)&&((x8.aAt==ae.aAt)&&(x8.aBA==ae.aBA)))))=true then (some false) else (iF p0 p1 af (i64.wrap (aa+1)))))) else (some true)
def pE (p0:List M.tV) (p1:List M.tV):Option Bool:=
 if ((List.length p0:Int) != (List.length p1:Int))=true then (some false) else (iF p0 p1 fuel 0)
def iE (p0:List M.xV) (p1:List M.xV):Nat->Int->Option Bool
 | 0,_=>none
 | af+1,aa=>if (decide (aa<(List.length p0:Int)))=true then ((idx p0 aa).bind λx8=>((idx p1 aa).bind λae=>(if (!((x8.To==ae.To)&&((x8.aBC==ae.aBC)&&(x8.N==ae.N))))=true then (some false) else (iE p0 p1 af (i64.wrap (aa+1)))))) else (some true)
def pL (p0:List M.xV) (p1:List M.xV):Option Bool:=
 if ((List.length p0:Int) != (List.length p1:Int))=true then (some false) else (iE p0 p1 fuel 0)
def eX (p0:List M.aAO) (p1:List M.aAO) (p2:M.aAO->M.aAO->Option Bool):Nat->Int->Option Bool
 | 0,_=>none
 | ae+1,aa=>if (decide (aa<(List.length p0:Int)))=true then ((idx p0 aa).bind λx9=>((idx p1 aa).bind λaf=>((p2 x9 af).bind λah=>(if (!ah)=true then (some false) else (eX p0 p1 p2 ae (i64.wrap (aa+1))))))) else (some true)
def kN (p0:List M.aAO) (p1:List M.aAO) (p2:M.aAO->M.aAO->Option Bool):Option Bool:=
 if ((List.length p0:Int) != (List.length p1:Int))=true then (some false) else (eX p0 p1 p2 fuel 0)
def gB (p0:List ByteArray) (p1:List ByteArray):Nat->Int->Option Bool
 | 0,_=>none
 | ae+1,aa=>if (decide (aa<(List.length p0:Int)))=true then ((idx p0 aa).bind λx8=>((idx p1 aa).bind λaf=>(if (!(x8.toList==af.toList))=true then (some false) else (gB p0 p1 ae (i64.wrap (aa+1)))))) else (some true)
def mN (p0:List ByteArray) (p1:List ByteArray):Option Bool:=
 if ((List.length p0:Int) != (List.length p1:Int))=true then (some false) else (gB p0 p1 fuel 0)
def lP (p0:M.aAO) (p1:M.aAO):Option Bool:=
 if (p0.Name.toList==p1.Name.toList)=true then (if (p0.aAB==p1.aAB)=true then ((mN p0.aAo p1.aAo).bind λx3=>(if x3=true then (some (p0.aAt==p1.aAt)) else (some false))) else (some false)) else (some false)
def dQ (p0:List M.aAI) (p1:List M.aAI) (p2:M.aAI->M.aAI->Option Bool):Nat->Int->Option Bool
 | 0,_=>none
 | ae+1,aa=>if (decide (aa<(List.length p0:Int)))=true then ((idx p0 aa).bind λx9=>((idx p1 aa).bind λaf=>((p2 x9 af).bind λah=>(if (!ah)=true then (some false) else (dQ p0 p1 p2 ae (i64.wrap (aa+1))))))) else (some true)
def iL (p0:List M.aAI) (p1:List M.aAI) (p2:M.aAI->M.aAI->Option Bool):Option Bool:=
 if ((List.length p0:Int) != (List.length p1:Int))=true then (some false) else (dQ p0 p1 p2 fuel 0)
def fL (p0:List M.aK) (p1:List M.aK):Nat->Int->Option Bool
 | 0,_=>none
 | af+1,aa=>if (decide (aa<(List.length p0:Int)))=true then ((idx p0 aa).bind λx8=>((idx p1 aa).bind λae=>(if (!((x8.aAK==ae.aAK)&&(x8.Seq==ae.Seq)))=true then (some false) else (fL p0 p1 af (i64.wrap (aa+1)))))) else (some true)
def lG (p0:List M.aK) (p1:List M.aK):Option Bool:=
 if ((List.length p0:Int) != (List.length p1:Int))=true then (some false) else (fL p0 p1 fuel 0)
def mB (p0:M.aAI) (p1:M.aAI):Option Bool:=
 (fV p0.aA p1.aA).bind λx1=>(if x1=true then ((lG p0.aK p1.aK).bind λx4=>(if x4=true then ((kV p0.aAZ p1.aAZ).bind λx7=>(some x7)) else (some false))) else (some false))
def nD (p0:M.World) (p1:M.World):Option Bool:=
 if (p0.Now==p1.Now)=true then (if (p0.aAi==p1.aAi)=true then (if (p0.aAK==p1.aAK)=true then ((nZ p0.aJ p1.aJ).bind λx4=>(if x4=true then ((kB p0.aAX p1.aAX (λz0 z1=>fH z0 z1)).bind λx7=>(if x7=true then (if (p0.aAg==p1.aAg)=true then ((pE p0.aAW.aAW p1.aAW.aAW).bind λaa=>(if aa=true then ((pL p0.aAa.aAx p1.aAa.aAx).bind λae=>(if ae=true then ((kN p0.aAe p1.aAe (λz0 z1=>lP z0 z1)).bind λaf=>(if af=true then ((iL p0.aAY p1.aAY (λz0 z1=>mB z0 z1)).bind λah=>(some ah)) else (some false))) else (some false))) else (some false))) else (some false)) else (some false))) else (some false))) else (some false)) else (some false)) else (some false)
def lO (p0:List M.bV) (p1:Int):Nat->Int->Option Int
 | 0,_=>none
 | aa+1,v5=>if (decide (v5<(List.length p0:Int)))=true then ((idx p0 v5).bind λx6=>(if (x6.Id==p1)=true then (some v5) else (lO p0 p1 aa (i64.wrap (v5+1))))) else (some (-1))
def xF (p0:List M.bV) (p1:Int):Option Int:=
 lO p0 p1 fuel 0
def uE (p0:M.World) (p1:Int):Option Int:=
 (xF p0.aAX p1).bind λx1=>(some x1)
def uZ (p0:List Int):Option Bool:=
 (CW p0).bind λx1=>(if x1=true then (some true) else ((pK p0).bind λx4=>((vW x4).bind λx6=>(((oI x6).bind λaf=>(if (decide (x4>=1))=true then (some (!(af==(decide (x4<=1000000))))) else (some (!(af==false))))).bind λx8=>(if x8=true then (some false) else ((rQ p0).bind λaa=>((CD p0 1).bind λah=>((uK aa (Int.tmod ah 4)).bind λai=>((mQ p0).bind λaj=>((oO aj).bind λae=>(((oI aa).bind λak=>((uS aa).bind λal=>(if (ak==al)=true then ((nD aa aa).bind λao=>(if ao=true then ((uE aa (Int.tmod ah 4)).bind λaq=>(if (ai==aq)=true then (if (decide (ae>=(-1)))=true then (if (decide (ae<=2))=true then ((oI x6).bind λar=>(if (!ar)=true then (some true) else ((sX x4).bind λav=>((nD x6 av).bind λaw=>(if aw=true then (if ((List.length x6.aAe:Int)==3)=true then ((idx x6.aAe (i64.wrap (BitVec.ofInt (IntKind.i64.bits) ae&&&BitVec.ofInt (IntKind.i64.bits) 1).toNat)).bind λax=>(some (ax.aAB==1))) else (some false)) else (some false)))))) else (some false)) else (some false)) else (some false))) else (some false))) else (some false)))).bind λay=>(some ay))))))))))))
end Go.Proofs.YtipmihbgjolaaaaGreat.gen
