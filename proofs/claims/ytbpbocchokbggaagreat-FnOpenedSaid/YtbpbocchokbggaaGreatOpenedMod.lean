/-
  Helper text. No conditions.
-/
import Derived.Test.YtbpbocchokbggaaGreatOpenedShT
set_option linter.all false
namespace Go.Proofs.YtbpbocchokbggaaGreat.gen
open Go Go.Sh
open Go.IntKind (i64)
structure M.aQ where
 b:List Int
 i:Int
 h:Int
def M.aQ.en(x:M.aQ):List D:=[.sl (List.map enB x.b),.int .i64 x.i,.int .i64 x.h]
structure M.aG9 where
 aHL:ByteArray
 aHf:Int
 aHm:Int
 aHp:Int
def M.aG9.en(x:M.aG9):List D:=[.str x.aHL,.int .i64 x.aHf,.int .i64 x.aHm,.int .i64 x.aHp]
theorem M.aG9.en.fl(l:List M.aG9):(List.map M.aG9.en l).all (λy=>y.all D.flat)=true:=GP (λ_=>rfl) l
structure M.aHH where
 aH2:Int
 aHx:Int
 aHA:Int
 aH3:List Int
 aH9:Bool
def M.aHH.en(x:M.aHH):List D:=[.int .i64 x.aH2,.int .i64 x.aHx,.int .i64 x.aHA,.sl (List.map enB x.aH3),.bool x.aH9]
structure M.aHU where
 aHL:ByteArray
 aHv:ByteArray
 aHH:M.aHH
def M.aHU.en(x:M.aHU):List D:=[.str x.aHL,.str x.aHv,.int .i64 x.aHH.aH2,.int .i64 x.aHH.aHx,.int .i64 x.aHH.aHA,.sl (List.map enB x.aHH.aH3),.bool x.aHH.aH9]
structure M.aHM where
 aHA:Int
 aHS:List M.aHU
def M.aHM.en(x:M.aHM):List D:=[.int .i64 x.aHA,.sl (List.map M.aHU.en x.aHS)]
structure M.aF where
 aHC:List M.aHM
def M.aF.en(x:M.aF):List D:=[.sl (List.map M.aHM.en x.aHC)]
structure M.Key where
 aHb:Int
 N:Int
 aHi:ByteArray
def M.Key.en(x:M.Key):List D:=[.int .i64 x.aHb,.int .i64 x.N,.str x.aHi]
theorem M.Key.en.fl(l:List M.Key):(List.map M.Key.en l).all (λy=>y.all D.flat)=true:=GP (λ_=>rfl) l
structure M.Field where
 Name:ByteArray
 N:Int
def M.Field.en(x:M.Field):List D:=[.str x.Name,.int .i64 x.N]
theorem M.Field.en.fl(l:List M.Field):(List.map M.Field.en l).all (λy=>y.all D.flat)=true:=GP (λ_=>rfl) l
structure M.aD where
 aHG:List M.Field
def M.aD.en(x:M.aD):List D:=[.sl (List.map M.Field.en x.aHG)]
structure M.aHV where
 Key:M.Key
 aD:M.aD
def M.aHV.en(x:M.aHV):List D:=[.int .i64 x.Key.aHb,.int .i64 x.Key.N,.str x.Key.aHi,.sl (List.map M.Field.en x.aD.aHG)]
structure M.aC where
 Name:ByteArray
 aHF:List M.aHV
 aHg:Int
def M.aC.en(x:M.aC):List D:=[.str x.Name,.sl (List.map M.aHV.en x.aHF),.int .i64 x.aHg]
structure M.aN where
 aC:ByteArray
 Field:ByteArray
def M.aN.en(x:M.aN):List D:=[.str x.aC,.str x.Field]
theorem M.aN.en.fl(l:List M.aN):(List.map M.aN.en l).all (λy=>y.all D.flat)=true:=GP (λ_=>rfl) l
structure M.aHB where
 Name:ByteArray
 aHA:Int
 aHP:List M.aC
 aHX:List M.aN
def M.aHB.en(x:M.aHB):List D:=[.str x.Name,.int .i64 x.aHA,.sl (List.map M.aC.en x.aHP),.sl (List.map M.aN.en x.aHX)]
structure M.bP where
 aHa:M.aHB
 Log:List Int
 aHs:Int
def M.bP.en(x:M.bP):List D:=[.str x.aHa.Name,.int .i64 x.aHa.aHA,.sl (List.map M.aC.en x.aHa.aHP),.sl (List.map M.aN.en x.aHa.aHX),.sl (List.map enB x.Log),.int .i64 x.aHs]
structure M.bB where
 aHI:Int
 Seq:Int
 Key:M.Key
 Field:ByteArray
 N:Int
def M.bB.en(x:M.bB):List D:=[.int .i64 x.aHI,.int .i64 x.Seq,.int .i64 x.Key.aHb,.int .i64 x.Key.N,.str x.Key.aHi,.str x.Field,.int .i64 x.N]
theorem M.bB.en.fl(l:List M.bB):(List.map M.bB.en l).all (λy=>y.all D.flat)=true:=GP (λ_=>rfl) l
structure M.aJ where
 aHI:Int
 aHj:Int
 aHW:List M.bB
def M.aJ.en(x:M.aJ):List D:=[.int .i64 x.aHI,.int .i64 x.aHj,.sl (List.map M.bB.en x.aHW)]
structure M.aHY where
 aJ:M.aJ
 aHr:Int
 aHe:Int
def M.aHY.en(x:M.aHY):List D:=[.int .i64 x.aJ.aHI,.int .i64 x.aJ.aHj,.sl (List.map M.bB.en x.aJ.aHW),.int .i64 x.aHr,.int .i64 x.aHe]
structure M.aE where
 aHa:M.aC
 aHw:Int
 aHY:M.aHY
def M.aE.en(x:M.aE):List D:=[.str x.aHa.Name,.sl (List.map M.aHV.en x.aHa.aHF),.int .i64 x.aHa.aHg,.int .i64 x.aHw,.int .i64 x.aHY.aJ.aHI,.int .i64 x.aHY.aJ.aHj,.sl (List.map M.bB.en x.aHY.aJ.aHW),.int .i64 x.aHY.aHr,.int .i64 x.aHY.aHe]
structure M.aHD where
 aHL:ByteArray
 Top:ByteArray
 aG9:M.aG9
 aHC:M.aF
 bP:M.bP
 aE:M.aE
 aHk:Int
 aHh:Bool
def M.aHD.en(x:M.aHD):List D:=[.str x.aHL,.str x.Top,.str x.aG9.aHL,.int .i64 x.aG9.aHf,.int .i64 x.aG9.aHm,.int .i64 x.aG9.aHp,.sl (List.map M.aHM.en x.aHC.aHC),.str x.bP.aHa.Name,.int .i64 x.bP.aHa.aHA,.sl (List.map M.aC.en x.bP.aHa.aHP),.sl (List.map M.aN.en x.bP.aHa.aHX),.sl (List.map enB x.bP.Log),.int .i64 x.bP.aHs,.str x.aE.aHa.Name,.sl (List.map M.aHV.en x.aE.aHa.aHF),.int .i64 x.aE.aHa.aHg,.int .i64 x.aE.aHw,.int .i64 x.aE.aHY.aJ.aHI,.int .i64 x.aE.aHY.aJ.aHj,.sl (List.map M.bB.en x.aE.aHY.aJ.aHW),.int .i64 x.aE.aHY.aHr,.int .i64 x.aE.aHY.aHe,.int .i64 x.aHk,.bool x.aHh]
structure M.aA where
 aHE:List M.aHD
def M.aA.en(x:M.aA):List D:=[.sl (List.map M.aHD.en x.aHE)]
structure M.aT where
 aHv:ByteArray
 aHA:Int
def M.aT.en(x:M.aT):List D:=[.str x.aHv,.int .i64 x.aHA]
theorem M.aT.en.fl(l:List M.aT):(List.map M.aT.en l).all (λy=>y.all D.flat)=true:=GP (λ_=>rfl) l
structure M.Instr where
 aHb:Int
 R:Int
 N:Int
 aHi:ByteArray
def M.Instr.en(x:M.Instr):List D:=[.int .i64 x.aHb,.int .i64 x.R,.int .i64 x.N,.str x.aHi]
theorem M.Instr.en.fl(l:List M.Instr):(List.map M.Instr.en l).all (λy=>y.all D.flat)=true:=GP (λ_=>rfl) l
structure M.aHJ where
 aHt:List M.Instr
 Pc:Int
 aH1:List Int
 aHy:Int
 aH5:Bool
 aH6:Bool
def M.aHJ.en(x:M.aHJ):List D:=[.sl (List.map M.Instr.en x.aHt),.int .i64 x.Pc,.sl (List.map enI x.aH1),.int .i64 x.aHy,.bool x.aH5,.bool x.aH6]
structure M.bC where
 Id:Int
 aHL:ByteArray
 Top:ByteArray
 aHA:Int
 aT:List M.aT
 aHJ:M.aHJ
def M.bC.en(x:M.bC):List D:=[.int .i64 x.Id,.str x.aHL,.str x.Top,.int .i64 x.aHA,.sl (List.map M.aT.en x.aT),.sl (List.map M.Instr.en x.aHJ.aHt),.int .i64 x.aHJ.Pc,.sl (List.map enI x.aHJ.aH1),.int .i64 x.aHJ.aHy,.bool x.aHJ.aH5,.bool x.aHJ.aH6]
structure M.dO where
 Name:ByteArray
 bC:Int
 aHo:Bool
 aH4:Bool
def M.dO.en(x:M.dO):List D:=[.str x.Name,.int .i64 x.bC,.bool x.aHo,.bool x.aH4]
theorem M.dO.en.fl(l:List M.dO):(List.map M.dO.en l).all (λy=>y.all D.flat)=true:=GP (λ_=>rfl) l
structure M.aM where
 aHR:List M.dO
def M.aM.en(x:M.aM):List D:=[.sl (List.map M.dO.en x.aHR)]
structure M.mI where
 To:Int
 aIC:Int
 N:Int
def M.mI.en(x:M.mI):List D:=[.int .i64 x.To,.int .i64 x.aIC,.int .i64 x.N]
theorem M.mI.en.fl(l:List M.mI):(List.map M.mI.en l).all (λy=>y.all D.flat)=true:=GP (λ_=>rfl) l
structure M.aHN where
 aHn:List M.mI
def M.aHN.en(x:M.aHN):List D:=[.sl (List.map M.mI.en x.aHn)]
structure M.aHL where
 Name:ByteArray
 aHA:Int
 aHl:List ByteArray
 aHo:Bool
def M.aHL.en(x:M.aHL):List D:=[.str x.Name,.int .i64 x.aHA,.sl (List.map enS x.aHl),.bool x.aHo]
structure M.aO where
 aHI:Int
 Seq:Int
def M.aO.en(x:M.aO):List D:=[.int .i64 x.aHI,.int .i64 x.Seq]
theorem M.aO.en.fl(l:List M.aO):(List.map M.aO.en l).all (λy=>y.all D.flat)=true:=GP (λ_=>rfl) l
structure M.aHO where
 aC:M.aC
 aO:List M.aO
 aHd:List M.bB
def M.aHO.en(x:M.aHO):List D:=[.str x.aC.Name,.sl (List.map M.aHV.en x.aC.aHF),.int .i64 x.aC.aHg,.sl (List.map M.aO.en x.aO),.sl (List.map M.bB.en x.aHd)]
structure M.World where
 Now:Int
 aHc:Bool
 aHI:Int
 aA:M.aA
 aHQ:List M.bC
 aHK:Int
 aHR:M.aM
 aHN:M.aHN
 aHZ:List M.aHL
 aHT:List M.aHO
def M.World.en(x:M.World):List D:=[.int .i64 x.Now,.bool x.aHc,.int .i64 x.aHI,.sl (List.map M.aHD.en x.aA.aHE),.sl (List.map M.bC.en x.aHQ),.int .i64 x.aHK,.sl (List.map M.dO.en x.aHR.aHR),.sl (List.map M.mI.en x.aHN.aHn),.sl (List.map M.aHL.en x.aHZ),.sl (List.map M.aHO.en x.aHT)]
structure M.Op where
 aHb:Int
 aC:ByteArray
 Key:M.Key
 aD:M.aD
 Field:ByteArray
def M.Op.en(x:M.Op):List D:=[.int .i64 x.aHb,.str x.aC,.int .i64 x.Key.aHb,.int .i64 x.Key.N,.str x.Key.aHi,.sl (List.map M.Field.en x.aD.aHG),.str x.Field]
structure M.gN where
 aIA:Bool
 aHz:Bool
 Low:M.Key
 aH7:M.Key
def M.gN.en(x:M.gN):List D:=[.bool x.aIA,.bool x.aHz,.int .i64 x.Low.aHb,.int .i64 x.Low.N,.str x.Low.aHi,.int .i64 x.aH7.aHb,.int .i64 x.aH7.N,.str x.aH7.aHi]
theorem M.gN.en.fl(l:List M.gN):(List.map M.gN.en l).all (λy=>y.all D.flat)=true:=GP (λ_=>rfl) l
structure M.lW where
 aHb:Int
 aC:ByteArray
 Field:ByteArray
def M.lW.en(x:M.lW):List D:=[.int .i64 x.aHb,.str x.aC,.str x.Field]
theorem M.lW.en.fl(l:List M.lW):(List.map M.lW.en l).all (λy=>y.all D.flat)=true:=GP (λ_=>rfl) l
def GJ(j:List Int):Option Bool:=
 some (decide ((List.length j:Int)>1048576))
set_option maxRecDepth 40000 in
def oK(j:List Int):Nat->Int->Int->Option M.aQ
 |0,_,_=>none
 |J+1,I,C=>if(decide (C<(List.length j:Int)))=true then if(decide (C<4000))=true then(idx j C).bind λx7=>oK j J (i64.wrap (BitVec.ofInt (IntKind.i64.bits) (i64.wrap ((i64.wrap ((i64.wrap (I*137))+(i64.wrap x7)))+11))&&&BitVec.ofInt (IntKind.i64.bits) 1073741823).toNat) (i64.wrap (C+1))else some (⟨j,0,I⟩:M.aQ)else some (⟨j,0,I⟩:M.aQ)
set_option maxRecDepth 40000 in
theorem RQ:type_of%@oK.eq_2:=@oK.eq_2
def C7(j:List Int):Option M.aQ:=
 oK j fuel (i64.wrap (193017+(List.length j:Int))) 0
def uH(j:M.aQ):Option (Int×Int×Int):=
 if(decide (j.i<(List.length j.b:Int)))=true then(idx j.b j.i).bind λx5=>some (i64.wrap (j.i+1),i64.wrap ((i64.wrap (j.h*6364136223846793005))+1442695040888963407),i64.wrap (BitVec.ofInt (IntKind.i64.bits) (i64.wrap ((i64.wrap (BitVec.ofInt (IntKind.i64.bits) (i64.wrap (BitVec.ofInt (IntKind.i64.bits) (Int.fdiv (i64.wrap ((i64.wrap (j.h*6364136223846793005))+1442695040888963407)) (2^(min (33:Int).toNat IntKind.i64.bits))) ^^^ BitVec.ofInt (IntKind.i64.bits) (Int.fdiv (i64.wrap ((i64.wrap (j.h*6364136223846793005))+1442695040888963407)) (2^(min (47:Int).toNat IntKind.i64.bits)))).toNat)&&&BitVec.ofInt (IntKind.i64.bits) 255).toNat)+(i64.wrap x5)))&&&BitVec.ofInt (IntKind.i64.bits) 255).toNat)else some (j.i,i64.wrap ((i64.wrap (j.h*6364136223846793005))+1442695040888963407),i64.wrap (BitVec.ofInt (IntKind.i64.bits) (i64.wrap (BitVec.ofInt (IntKind.i64.bits) (Int.fdiv (i64.wrap ((i64.wrap (j.h*6364136223846793005))+1442695040888963407)) (2^(min (33:Int).toNat IntKind.i64.bits))) ^^^ BitVec.ofInt (IntKind.i64.bits) (Int.fdiv (i64.wrap ((i64.wrap (j.h*6364136223846793005))+1442695040888963407)) (2^(min (47:Int).toNat IntKind.i64.bits)))).toNat)&&&BitVec.ofInt (IntKind.i64.bits) 255).toNat)
def aG(j:M.aQ)(C:Int):Option (Int×Int×Int):=
 if(decide (C<=0))=true then some (j.i,j.h,0)else if(decide (C<=256))=true then(uH j).bind λx7=>if(decide (C=0))=true then none else some (x7.1,x7.2.1,Int.tmod x7.2.2 C)else(uH j).bind λI=>(uH (⟨j.b,I.1,I.2.1⟩:M.aQ)).bind λJ=>(uH (⟨j.b,J.1,J.2.1⟩:M.aQ)).bind λU=>if(decide (C=0))=true then none else some (U.1,U.2.1,Int.tmod (i64.wrap ((i64.wrap ((i64.wrap (I.2.2*65536))+(i64.wrap (J.2.2*256))))+U.2.2)) C)
def aZ(j:Int)(C:Int)(I:Int):Option Bool:=
 if(decide (j>=C))=true then some (decide (j<=I))else some false
def vC  :Option (List ByteArray):=
 some ([(⟨#[98,97,110,107]⟩:ByteArray),(⟨#[110,101,119,115]⟩:ByteArray),(⟨#[115,104,111,112]⟩:ByteArray)])
def Az(U:Int)(x4:(List ByteArray)):Nat->Int->List M.aHL->List M.aHO->Option M.World
 |0,_,_,_=>none
 |ah+1,J,C,I=>if(decide (J<(List.length x4:Int)))=true then(idx x4 J).bind λj=>(app 56 C ([(⟨j,1,[(⟨#[99,111,100,101]⟩:ByteArray),(⟨#[100,97,116,97]⟩:ByteArray),(⟨#[105,110,100,101,120]⟩:ByteArray),(⟨#[115,116,121,108,101]⟩:ByteArray)],j.toList==(⟨#[110,101,119,115]⟩:ByteArray).toList⟩:M.aHL)])).bind λai=>(app 96 I ([(⟨(⟨(⟨#[110,111,116,101,115]⟩:ByteArray),([]:List M.aHV),0⟩:M.aC),([]:List M.aO),([]:List M.bB)⟩:M.aHO)])).bind λaj=>Az U x4 ah (i64.wrap (J+1)) (C++[(⟨j,1,[(⟨#[99,111,100,101]⟩:ByteArray),(⟨#[100,97,116,97]⟩:ByteArray),(⟨#[105,110,100,101,120]⟩:ByteArray),(⟨#[115,116,121,108,101]⟩:ByteArray)],j.toList==(⟨#[110,101,119,115]⟩:ByteArray).toList⟩:M.aHL)]) (I++[(⟨(⟨(⟨#[110,111,116,101,115]⟩:ByteArray),([]:List M.aHV),0⟩:M.aC),([]:List M.aO),([]:List M.bB)⟩:M.aHO)])else some (⟨0,true,U,(⟨([]:List M.aHD)⟩:M.aA),([]:List M.bC),1,(⟨([]:List M.dO)⟩:M.aM),(⟨([]:List M.mI)⟩:M.aHN),C,I⟩:M.World)
def AK(j:Int):Option M.World:=
 (aZ j 1 1000000).bind λx1=>(if(!x1)=true then(some (⟨0,false,0,(⟨([]:List M.aHD)⟩:M.aA),([]:List M.bC),0,(⟨([]:List M.dO)⟩:M.aM),(⟨([]:List M.mI)⟩:M.aHN),([]:List M.aHL),([]:List M.aHO)⟩:M.World))else((vC).bind λx4=>(Az j x4 fuel 0 ([]:List M.aHL) ([]:List M.aHO))))
def uI(j:M.aHH):Option M.aHH:=
 (app 1 ([]:List Int) j.aH3).bind λx1=>some j
def nU(C:M.aHM):Nat->Int->List M.aHU->Option M.aHM
 |0,_,_=>none
 |ah+1,J,I=>if(decide (J<(List.length C.aHS:Int)))=true then(idx C.aHS J).bind λj=>(uI j.aHH).bind λU=>(app 88 I ([(⟨j.aHL,j.aHv,U⟩:M.aHU)])).bind λai=>nU C ah (i64.wrap (J+1)) (I++[(⟨j.aHL,j.aHv,U⟩:M.aHU)])else some (⟨C.aHA,I⟩:M.aHM)
def AP(j:M.aHM):Option M.aHM:=
 nU j fuel 0 ([]:List M.aHU)
def rP(C:M.aF):Nat->Int->List M.aHM->Option M.aF
 |0,_,_=>none
 |U+1,I,j=>if(decide (I<(List.length C.aHC:Int)))=true then(idx C.aHC I).bind λah=>(AP ah).bind λJ=>(app 32 j ([J])).bind λai=>rP C U (i64.wrap (I+1)) (j++[J])else some (⟨j⟩:M.aF)
def dD(j:M.aF):Option M.aF:=
 rP j fuel 0 ([]:List M.aHM)
def cG(j:M.aD):Option M.aD:=
 (app 24 ([]:List M.Field) j.aHG).bind λx1=>some j
def zI(j:M.aHV):Option M.aHV:=
 (cG j.aD).bind λx1=>some (⟨j.Key,x1⟩:M.aHV)
def tN(j:M.aC):Nat->Int->List M.aHV->Option M.aC
 |0,_,_=>none
 |U+1,I,C=>if(decide (I<(List.length j.aHF:Int)))=true then(idx j.aHF I).bind λah=>(zI ah).bind λJ=>(app 56 C ([J])).bind λai=>tN j U (i64.wrap (I+1)) (C++[J])else some (⟨j.Name,C,j.aHg⟩:M.aC)
def bW(j:M.aC):Option M.aC:=
 tN j fuel 0 ([]:List M.aHV)
def tP(j:M.aHB):Nat->Int->List M.aC->Option M.aHB
 |0,_,_=>none
 |U+1,I,C=>if(decide (I<(List.length j.aHP:Int)))=true then(idx j.aHP I).bind λah=>(bW ah).bind λJ=>(app 48 C ([J])).bind λai=>tP j U (i64.wrap (I+1)) (C++[J])else some (⟨j.Name,j.aHA,C,j.aHX⟩:M.aHB)
def eV(j:M.aHB):Option M.aHB:=
 (app 32 ([]:List M.aN) j.aHX).bind λx1=>tP j fuel 0 ([]:List M.aC)
def Ap(j:M.bP):Option M.bP:=
 (eV j.aHa).bind λx1=>(app 1 ([]:List Int) j.Log).bind λx3=>some (⟨x1,j.Log,j.aHs⟩:M.bP)
def uJ(j:M.aJ):Option M.aJ:=
 (app 72 ([]:List M.bB) j.aHW).bind λx1=>some j
def xO(j:M.aHY):Option M.aHY:=
 (uJ j.aJ).bind λx1=>some (⟨x1,j.aHr,j.aHe⟩:M.aHY)
def xU(j:M.aE):Option M.aE:=
 (bW j.aHa).bind λx1=>(xO j.aHY).bind λx3=>some (⟨x1,j.aHw,x3⟩:M.aE)
def nM(j:M.aHD):Option M.aHD:=
 (dD j.aHC).bind λx1=>(Ap j.bP).bind λx3=>(xU j.aE).bind λx5=>some (⟨j.aHL,j.Top,j.aG9,x1,x3,x5,j.aHk,j.aHh⟩:M.aHD)
def pR(C:M.aA):Nat->Int->List M.aHD->Option M.aA
 |0,_,_=>none
 |U+1,I,j=>if(decide (I<(List.length C.aHE:Int)))=true then(idx C.aHE I).bind λah=>(nM ah).bind λJ=>(app 328 j ([J])).bind λai=>pR C U (i64.wrap (I+1)) (j++[J])else some (⟨j⟩:M.aA)
def fO(j:M.aA):Option M.aA:=
 pR j fuel 0 ([]:List M.aHD)
def wK(j:List M.Instr):Option (List M.Instr):=
 (app 40 ([]:List M.Instr) j).bind λx1=>some j
def Bx(j:M.aHJ):Option M.aHJ:=
 (wK j.aHt).bind λx1=>(app 8 ([]:List Int) j.aH1).bind λx3=>some (⟨x1,j.Pc,j.aH1,j.aHy,j.aH5,j.aH6⟩:M.aHJ)
def nN(j:M.bC):Option M.bC:=
 (app 24 ([]:List M.aT) j.aT).bind λx1=>(Bx j.aHJ).bind λC=>some (⟨j.Id,j.aHL,j.Top,j.aHA,j.aT,C⟩:M.bC)
def xT(j:M.aM):Option M.aM:=
 (app 32 ([]:List M.dO) j.aHR).bind λx1=>some j
def As(j:M.aHN):Option M.aHN:=
 (app 24 ([]:List M.mI) j.aHn).bind λx1=>some j
def BA(j:M.aHL):Option M.aHL:=
 (app 16 ([]:List ByteArray) j.aHl).bind λx1=>some j
def gQ(j:M.aHO):Option M.aHO:=
 (bW j.aC).bind λx1=>(app 16 ([]:List M.aO) j.aO).bind λx3=>(app 72 ([]:List M.bB) j.aHd).bind λx5=>some (⟨x1,j.aO,j.aHd⟩:M.aHO)
def kE(j:M.World)(x1:M.aA)(U:List M.bC)(ai:M.aM)(aj:M.aHN)(ak:List M.aHL):Nat->Int->List M.aHO->Option M.World
 |0,_,_=>none
 |al+1,I,C=>if(decide (I<(List.length j.aHT:Int)))=true then(idx j.aHT I).bind λaf=>(gQ af).bind λJ=>(app 96 C ([J])).bind λao=>kE j x1 U ai aj ak al (i64.wrap (I+1)) (C++[J])else some (⟨j.Now,j.aHc,j.aHI,x1,U,j.aHK,ai,aj,ak,C⟩:M.World)
def kG(j:M.World)(x1:M.aA)(J:List M.bC)(U:M.aM)(ah:M.aHN):Nat->Int->List M.aHL->Option M.World
 |0,_,_=>none
 |aj+1,I,C=>if(decide (I<(List.length j.aHZ:Int)))=true then(idx j.aHZ I).bind λak=>(BA ak).bind λai=>(app 56 C ([ai])).bind λal=>kG j x1 J U ah aj (i64.wrap (I+1)) (C++[ai])else kE j x1 J U ah C fuel 0 ([]:List M.aHO)
def mX(j:M.World)(x1:M.aA):Nat->Int->List M.bC->Option M.World
 |0,_,_=>none
 |U+1,I,C=>if(decide (I<(List.length j.aHQ:Int)))=true then(idx j.aHQ I).bind λah=>(nN ah).bind λJ=>(app 144 C ([J])).bind λak=>mX j x1 U (i64.wrap (I+1)) (C++[J])else(xT j.aHR).bind λai=>(As j.aHN).bind λaj=>kG j x1 C ai aj fuel 0 ([]:List M.aHL)
def fT(j:M.World):Option M.World:=
 (fO j.aA).bind λx1=>mX j x1 fuel 0 ([]:List M.bC)
def pS(C:List M.bC)(I:Int):Nat->Int->Option Int
 |0,_=>none
 |J+1,j=>if(decide (j<(List.length C:Int)))=true then(idx C j).bind λx6=>if(x6.Id==I)=true then some j else pS C I J (i64.wrap (j+1))else some (-1)
def BD(j:List M.bC)(C:Int):Option Int:=
 pS j C fuel 0
def Aa(j:M.World)(C:Int):Option Int:=
 (BD j.aHQ C).bind λx1=>some x1
def pD(j:ByteArray):Nat->Int->Option Bool
 |0,_=>none
 |I+1,C=>if(decide (C<(j.size:Int)))=true then(Xj j C).bind λx5=>if(decide ((x5.toNat:Int)<97))=true then some false else if(decide ((x5.toNat:Int)>122))=true then some false else pD j I (i64.wrap (C+1))else(aZ (j.size:Int) 1 8).bind λJ=>some J
def bZ(j:ByteArray):Option Bool:=
 pD j fuel 0
def lR(j:M.aHL):Nat->Int->Option Bool
 |0,_=>none
 |I+1,C=>if(decide (C<(List.length j.aHl:Int)))=true then(idx j.aHl C).bind λx6=>(bZ x6).bind λJ=>if(!J)=true then some false else if(decide (C>0))=true then(idx j.aHl (i64.wrap (C-1))).bind λU=>if(!(Op.bytesLess U.toList x6.toList))=true then some false else lR j I (i64.wrap (C+1))else lR j I (i64.wrap (C+1))else(bZ j.Name).bind λah=>if ah=true then(aZ j.aHA 1 1000000000000).bind λai=>if ai=true then(aZ (List.length j.aHl:Int) 1 6).bind λaj=>some aj else some false else some false
def zN(j:M.aHL):Option Bool:=
 lR j fuel 0
def iV(j:ByteArray):Nat->Int->Option Bool
 |0,_=>none
 |I+1,C=>if(decide (C<(j.size:Int)))=true then(Xj j C).bind λx5=>if(decide ((x5.toNat:Int)<97))=true then if(decide ((x5.toNat:Int)<48))=true then some false else if(decide ((x5.toNat:Int)>57))=true then some false else iV j I (i64.wrap (C+1))else if(decide ((x5.toNat:Int)>122))=true then if(decide ((x5.toNat:Int)<48))=true then some false else if(decide ((x5.toNat:Int)>57))=true then some false else iV j I (i64.wrap (C+1))else iV j I (i64.wrap (C+1))else some (decide ((j.size:Int)<=12))
def A5(j:ByteArray):Option Bool:=
 iV j fuel 0
def fV(j:M.Key):Option Bool:=
 (aZ j.aHb 1 3).bind λx1=>if x1=true then(aZ j.N (-1000000000000) 1000000000000).bind λx4=>if x4=true then if(j.aHb !=2)=true then(A5 j.aHi).bind λx8=>if x8=true then if(j.aHb !=1)=true then some true else some (j.aHi.toList==(⟨#[]⟩:ByteArray).toList)else some false else if(j.N==0)=true then(A5 j.aHi).bind λC=>if C=true then if(j.aHb !=1)=true then some true else some (j.aHi.toList==(⟨#[]⟩:ByteArray).toList)else some false else some false else some false else some false
def kS(j:M.bB):Option Bool:=
 (aZ j.aHI 1 1000000).bind λx1=>if x1=true then(aZ j.Seq 1 1000000).bind λx4=>if x4=true then(fV j.Key).bind λx7=>if x7=true then(bZ j.Field).bind λC=>if C=true then(aZ j.N 0 1000000000).bind λI=>some I else some false else some false else some false else some false
def hU(j:M.aD):Nat->Int->Option Bool
 |0,_=>none
 |I+1,C=>if(decide (C<(List.length j.aHG:Int)))=true then(idx j.aHG C).bind λx6=>(bZ x6.Name).bind λJ=>if(!J)=true then some false else(aZ x6.N 0 1000000000).bind λU=>if(!U)=true then some false else if(decide (C>0))=true then(idx j.aHG (i64.wrap (C-1))).bind λah=>if(!(Op.bytesLess ah.Name.toList x6.Name.toList))=true then some false else hU j I (i64.wrap (C+1))else hU j I (i64.wrap (C+1))else some (decide ((List.length j.aHG:Int)<=6))
def bL(j:M.aD):Option Bool:=
 hU j fuel 0
def A7(j:Bool)(C:Bool):Option Int:=
 if j=true then some (-1)else if C=true then some 1 else some 0
def bI(j:M.Key)(C:M.Key):Option Int:=
 (fV j).bind λx1=>if(!x1)=true then some 0 else(fV C).bind λx4=>if(!x4)=true then some 0 else if(j.aHb !=C.aHb)=true then(A7 (decide (j.aHb<C.aHb)) true).bind λx8=>some x8 else if(j.N !=C.N)=true then(A7 (decide (j.N<C.N)) true).bind λI=>some I else(A7 (Op.bytesLess j.aHi.toList C.aHi.toList) (!(Op.bytesLess j.aHi.toList C.aHi.toList||j.aHi.toList==C.aHi.toList))).bind λJ=>some J
def kH(j:M.aC):Nat->Int->Option Bool
 |0,_=>none
 |I+1,C=>if(decide (C<(List.length j.aHF:Int)))=true then(idx j.aHF C).bind λx6=>(fV x6.Key).bind λJ=>if(!J)=true then some false else(bL x6.aD).bind λU=>if(!U)=true then some false else if(decide (C>0))=true then(idx j.aHF (i64.wrap (C-1))).bind λah=>(bI ah.Key x6.Key).bind λai=>if(decide (ai>=0))=true then some false else kH j I (i64.wrap (C+1))else kH j I (i64.wrap (C+1))else(bZ j.Name).bind λaj=>if aj=true then if(decide ((List.length j.aHF:Int)<=16))=true then(aZ j.aHg 0 1000000).bind λak=>some ak else some false else some false
def nO(j:M.aC):Option Bool:=
 kH j fuel 0
def kT(j:M.aHO):Nat->Int->Option Bool
 |0,_=>none
 |I+1,C=>if(decide (C<(List.length j.aHd:Int)))=true then(idx j.aHd C).bind λJ=>(kS J).bind λU=>if(!U)=true then some false else kT j I (i64.wrap (C+1))else(nO j.aC).bind λah=>if ah=true then if(j.aC.Name.toList==(⟨#[110,111,116,101,115]⟩:ByteArray).toList)=true then some (decide ((List.length j.aO:Int)<=60))else some false else some false
def hY(j:M.aHO):Nat->Int->Option Bool
 |0,_=>none
 |I+1,C=>if(decide (C<(List.length j.aO:Int)))=true then(idx j.aO C).bind λx6=>(aZ x6.aHI 1 1000000).bind λJ=>if(!J)=true then some false else(aZ x6.Seq 0 1000000).bind λU=>if(!U)=true then some false else if(decide (C>0))=true then(idx j.aO (i64.wrap (C-1))).bind λah=>if(decide (ah.aHI>=x6.aHI))=true then some false else hY j I (i64.wrap (C+1))else hY j I (i64.wrap (C+1))else kT j fuel 0
def sC(j:M.aHO):Option Bool:=
 hY j fuel 0
def tK(j:M.bC):Nat->Int->Option Bool
 |0,_=>none
 |I+1,C=>if(decide (C<(List.length j.aT:Int)))=true then(idx j.aT C).bind λx6=>(bZ x6.aHv).bind λJ=>if(!J)=true then some false else if(x6.aHA !=j.aHA)=true then some false else tK j I (i64.wrap (C+1))else(aZ j.Id 1 1000000000000).bind λU=>if U=true then(bZ j.aHL).bind λah=>if ah=true then(bZ j.Top).bind λai=>if ai=true then(aZ j.aHA 1 1000000000000).bind λaj=>if aj=true then some (decide ((List.length j.aT:Int)<=8))else some false else some false else some false else some false
def uG(j:M.bC):Option Bool:=
 tK j fuel 0
def gU(C:M.aA)(I:ByteArray)(J:ByteArray):Nat->Int->Option Int
 |0,_=>none
 |U+1,j=>if(decide (j<(List.length C.aHE:Int)))=true then(idx C.aHE j).bind λx8=>if(x8.aHL.toList==I.toList)=true then if(x8.Top.toList==J.toList)=true then some j else gU C I J U (i64.wrap (j+1))else gU C I J U (i64.wrap (j+1))else some (-1)
def gR(j:M.aA)(C:ByteArray)(I:ByteArray):Option Int:=
 gU j C I fuel 0
def cE(j:M.aG9):Nat->Int->Int->Option Bool
 |0,_,_=>none
 |J+1,U,I=>if(decide (I<((3:Nat):Int)))=true then(idx ([j.aHp,j.aHm,j.aHf]) I).bind λC=>(aZ C 0 1000000000000).bind λaf=>if(!af)=true then some false else if(C !=0)=true then if(decide (C<=U))=true then some false else cE j J C (i64.wrap (I+1))else cE j J U (i64.wrap (I+1))else(bZ j.aHL).bind λah=>some ah
def nC(j:M.aG9):Option Bool:=
 cE j fuel 0 0
def yU(j:M.aHH):Option Bool:=
 (aZ j.aH2 1 4).bind λx1=>if x1=true then(aZ j.aHx 0 999).bind λx4=>if x4=true then(aZ j.aHA 0 1000000000000).bind λx7=>if x7=true then some (decide ((List.length j.aH3:Int)<=60))else some false else some false else some false
def gT(I:List M.aHU)(J:Int)(x5:M.aHU)(C:Int->Option Bool):Nat->Int->Option Bool
 |0,_=>none
 |U+1,j=>if(decide (j<J))=true then(idx I j).bind λah=>if(ah.aHL.toList==x5.aHL.toList)=true then if(ah.aHv.toList==x5.aHv.toList)=true then some false else gT I J x5 C U (i64.wrap (j+1))else gT I J x5 C U (i64.wrap (j+1))else C j
def eY(j:List M.aHU):Nat->Int->Option Bool
 |0,_=>none
 |I+1,C=>if(decide (C<(List.length j:Int)))=true then(idx j C).bind λx5=>(bZ x5.aHL).bind λJ=>if(!J)=true then some false else(bZ x5.aHv).bind λU=>if(!U)=true then some false else(yU x5.aHH).bind λai=>if(!ai)=true then some false else gT j C x5 (λ(aa:Int)=>eY j I (i64.wrap (C+1))) fuel 0 else some (decide ((List.length j:Int)<=12))
def uM(j:List M.aHU):Option Bool:=
 eY j fuel 0
def eS(j:M.aF):Nat->Int->Option Bool
 |0,_=>none
 |I+1,C=>if(decide (C<(List.length j.aHC:Int)))=true then(idx j.aHC C).bind λx6=>(aZ x6.aHA 1 1000000000000).bind λJ=>if(!J)=true then some false else if(decide (C>0))=true then(idx j.aHC (i64.wrap (C-1))).bind λU=>if(decide (U.aHA>=x6.aHA))=true then some false else(uM x6.aHS).bind λah=>if(!ah)=true then some false else eS j I (i64.wrap (C+1))else(uM x6.aHS).bind λai=>if(!ai)=true then some false else eS j I (i64.wrap (C+1))else some (decide ((List.length j.aHC:Int)<=4))
def cM(j:M.aF):Option Bool:=
 eS j fuel 0
def mK(C:M.aHB)(I:ByteArray):Nat->Int->Option Int
 |0,_=>none
 |J+1,j=>if(decide (j<(List.length C.aHP:Int)))=true then(idx C.aHP j).bind λx7=>if(x7.Name.toList==I.toList)=true then some j else mK C I J (i64.wrap (j+1))else some (-1)
def tD(j:M.aHB)(C:ByteArray):Option Int:=
 mK j C fuel 0
def sN(j:M.aD)(I:ByteArray):Nat->Int->Option (Int×Bool)
 |0,_=>none
 |J+1,C=>if(decide (C<(List.length j.aHG:Int)))=true then(idx j.aHG C).bind λx7=>if(x7.Name.toList==I.toList)=true then some (x7.N,true)else sN j I J (i64.wrap (C+1))else some (0,false)
def lJ(j:M.aD)(C:ByteArray):Option (Int×Bool):=
 sN j C fuel 0
def Cv(j:M.aHV)(C:M.aHV)(I:ByteArray):Option Bool:=
 (lJ j.aD I).bind λx1=>(lJ C.aD I).bind λx3=>if(decide (x1.1<x3.1))=true then some true else if(x1.1==x3.1)=true then(bI j.Key C.Key).bind λx7=>some (decide (x7<0))else some false
def pN(U:ByteArray)(I:List M.aHV)(J:M.aHV)(C:Int->Option (List M.aHV)):Nat->Int->Option (List M.aHV)
 |0,_=>none
 |ai+1,j=>if(decide (j>0))=true then(idx I (i64.wrap (j-1))).bind λaj=>(Cv J aj U).bind λak=>if ak=true then pN U I J C ai (i64.wrap (j-1))else C j else C j
def mO(I:M.aC)(J:ByteArray):Nat->Int->List M.aHV->Option (List M.aHV)
 |0,_,_=>none
 |ai+1,U,j=>if(decide (U<(List.length I.aHF:Int)))=true then(idx I.aHF U).bind λaf=>(lJ af.aD J).bind λaj=>if(!aj.2)=true then mO I J ai (i64.wrap (U+1)) j else pN J j af (λ(C:Int)=>(AX j C).bind λal=>(app 56 ([]:List M.aHV) (List.take C.toNat j)).bind λao=>(zI af).bind λah=>(app 56 (List.take C.toNat j) ([ah])).bind λaq=>(app 56 ((List.take C.toNat j)++[ah]) (List.drop C.toNat j)).bind λak=>mO I J ai (i64.wrap (U+1)) (((List.take C.toNat j)++[ah])++(List.drop C.toNat j))) fuel (List.length j:Int)else some j
def Bz(j:M.aC)(C:ByteArray):Option (List M.aHV):=
 mO j C fuel 0 ([]:List M.aHV)
def mZ(C:ByteArray)(x1:(List M.aHV)):Nat->Int->Option (M.Key×M.Key×Bool)
 |0,_=>none
 |U+1,j=>if(decide (j<(List.length x1:Int)))=true then(idx x1 (i64.wrap (j-1))).bind λI=>(lJ I.aD C).bind λah=>(idx x1 j).bind λJ=>(lJ J.aD C).bind λai=>if(ah.1==ai.1)=true then some (I.Key,J.Key,true)else mZ C x1 U (i64.wrap (j+1))else some ((⟨0,0,(⟨#[]⟩:ByteArray)⟩:M.Key),(⟨0,0,(⟨#[]⟩:ByteArray)⟩:M.Key),false)
def wT(C:M.aC)(j:ByteArray):Option (M.Key×M.Key×Bool):=
 (Bz C j).bind λx1=>mZ j x1 fuel 1
def gS(U:M.aHB)(v4:Int)(C:M.aN)(I:Int->Option Bool):Nat->Int->Option Bool
 |0,_=>none
 |ai+1,j=>if(decide (j<v4))=true then(idx U.aHX j).bind λJ=>if((J.aC.toList==C.aC.toList)&&(J.Field.toList==C.Field.toList))=true then some false else gS U v4 C I ai (i64.wrap (j+1))else I j
def fC(j:M.aHB):Nat->Int->Option Bool
 |0,_=>none
 |U+1,I=>if(decide (I<(List.length j.aHX:Int)))=true then(idx j.aHX I).bind λC=>(tD j C.aC).bind λJ=>if(decide (J<0))=true then some false else(bZ C.Field).bind λai=>if(!ai)=true then some false else(idx j.aHP J).bind λaj=>(wT aj C.Field).bind λak=>if ak.2.2=true then some false else gS j I C (λ(af:Int)=>fC j U (i64.wrap (I+1))) fuel 0 else(bZ j.Name).bind λal=>if al=true then(aZ j.aHA 0 1000).bind λao=>if ao=true then if(decide ((List.length j.aHP:Int)<=4))=true then some (decide ((List.length j.aHX:Int)<=4))else some false else some false else some false
def fB(j:M.aHB):Nat->Int->Option Bool
 |0,_=>none
 |I+1,C=>if(decide (C<(List.length j.aHP:Int)))=true then(idx j.aHP C).bind λx6=>(nO x6).bind λJ=>if(!J)=true then some false else if(decide (C>0))=true then(idx j.aHP (i64.wrap (C-1))).bind λU=>if(!(Op.bytesLess U.Name.toList x6.Name.toList))=true then some false else fB j I (i64.wrap (C+1))else fB j I (i64.wrap (C+1))else fC j fuel 0
def cA(j:M.aHB):Option Bool:=
 fB j fuel 0
def nV(j:M.aJ):Nat->Int->Option Bool
 |0,_=>none
 |J+1,C=>if(decide (C<(List.length j.aHW:Int)))=true then(idx j.aHW C).bind λI=>(kS I).bind λU=>if(!U)=true then some false else if(I.aHI !=j.aHI)=true then some false else if(I.Seq !=(i64.wrap ((i64.wrap (j.aHj-(List.length j.aHW:Int)))+C)))=true then some false else nV j J (i64.wrap (C+1))else some true
def iO(j:M.aJ):Option Bool:=
 (aZ j.aHI 1 1000000).bind λx1=>if(!x1)=true then some false else(aZ j.aHj 1 1000000).bind λx4=>if(!x4)=true then some false else if(decide ((List.length j.aHW:Int)>20))=true then some false else nV j fuel 0
def oY(j:M.aE):Option Bool:=
 (nO j.aHa).bind λx1=>if x1=true then if(j.aHa.Name.toList==(⟨#[110,111,116,101,115]⟩:ByteArray).toList)=true then(aZ j.aHw 0 1000000000000).bind λx5=>if x5=true then(iO j.aHY.aJ).bind λx8=>some x8 else some false else some false else some false
def yM(j:M.aHH)(C:Bool):Option Int:=
 if C=true then some 76 else some (i64.wrap (16+(List.length j.aH3:Int)))
def kQ(p0:M.aF)(v4:Int)(U:Int->Int->Option Int):Nat->Int->Int->Option Int
 |0,_,_=>none
 |ai+1,C,j=>(idx p0.aHC v4).bind λI=>if(decide (j<(List.length I.aHS:Int)))=true then(idx I.aHS j).bind λJ=>(yM J.aHH (J.aHH.aH2==3)).bind λaj=>kQ p0 v4 U ai (i64.wrap (C+aj)) (i64.wrap (j+1))else U C j
def eO(j:M.aF):Nat->Int->Int->Option Int
 |0,_,_=>none
 |U+1,I,C=>if(decide (C<(List.length j.aHC:Int)))=true then kQ j C (λ(J:Int) (ae:Int)=>eO j U J (i64.wrap (C+1))) fuel I 0 else some I
def yC(j:M.aF):Option Int:=
 eO j fuel 0 0
def bH(j:M.Key):Nat->Int->List Int->Option (List Int)
 |0,_,_=>none
 |J+1,I,C=>if(decide (I>=0))=true then if(j.aHb !=2)=true then if(decide (0<=(i64.wrap (8*I))))=true then(app 1 C ([IntKind.u8.wrap (i64.wrap (BitVec.ofInt (IntKind.i64.bits) (Int.fdiv (i64.wrap (j.N+1000000000000)) (2^(min (i64.wrap (8*I)).toNat IntKind.i64.bits)))&&&BitVec.ofInt (IntKind.i64.bits) 255).toNat)])).bind λU=>bH j J (i64.wrap (I-1)) (C++[IntKind.u8.wrap (i64.wrap (BitVec.ofInt (IntKind.i64.bits) (Int.fdiv (i64.wrap (j.N+1000000000000)) (2^(min (i64.wrap (8*I)).toNat IntKind.i64.bits)))&&&BitVec.ofInt (IntKind.i64.bits) 255).toNat)])else none else(app 1 C (bR j.aHi)).bind λah=>some (C++(bR j.aHi))else(app 1 C (bR j.aHi)).bind λai=>some (C++(bR j.aHi))
def lM(j:M.Key):Option (List Int):=
 (fV j).bind λx1=>if(!x1)=true then some ([]:List Int)else bH j fuel 5 ([IntKind.u8.wrap j.aHb])
def cP  :Nat->Int->List Int->Option (List Int)
 |0,_,_=>none
 |I+1,j,C=>if(decide (j>127))=true then(app 1 C ([IntKind.u8.wrap (i64.wrap (BitVec.ofInt (IntKind.i64.bits) (i64.wrap (BitVec.ofInt (IntKind.i64.bits) j&&&BitVec.ofInt (IntKind.i64.bits) 127).toNat)|||BitVec.ofInt (IntKind.i64.bits) 128).toNat)])).bind λJ=>cP I (Int.fdiv j (2^(min (7:Int).toNat IntKind.i64.bits))) (C++[IntKind.u8.wrap (i64.wrap (BitVec.ofInt (IntKind.i64.bits) (i64.wrap (BitVec.ofInt (IntKind.i64.bits) j&&&BitVec.ofInt (IntKind.i64.bits) 127).toNat)|||BitVec.ofInt (IntKind.i64.bits) 128).toNat)])else(app 1 C ([IntKind.u8.wrap j])).bind λU=>some (C++[IntKind.u8.wrap j])
def bS(j:List Int)(C:Int):Option (List Int):=
 (app 1 ([]:List Int) j).bind λx1=>(aZ C 0 1000000000000).bind λx7=>if(!x7)=true then some j else cP fuel C j
def bQ(C:List Int)(j:List Int):Option (List Int):=
 (bS C (List.length j:Int)).bind λx1=>(app 1 x1 j).bind λx3=>some (x1++j)
def cU(j:M.aD):Nat->Int->List Int->Option (List Int)
 |0,_,_=>none
 |U+1,C,I=>if(decide (C<(List.length j.aHG:Int)))=true then(idx j.aHG C).bind λJ=>(bQ I (bR J.Name)).bind λah=>(bS ah J.N).bind λai=>cU j U (i64.wrap (C+1)) ai else some I
def gJ(j:M.aD):Option (List Int):=
 (bL j).bind λx1=>if(!x1)=true then some ([]:List Int)else(bS ([]:List Int) (List.length j.aHG:Int)).bind λx4=>cU j fuel 0 x4
def mB(j:M.aC):Nat->Int->Int->Option Int
 |0,_,_=>none
 |J+1,I,C=>if(decide (C<(List.length j.aHF:Int)))=true then(idx j.aHF C).bind λx7=>(lM x7.Key).bind λU=>(gJ x7.aD).bind λaf=>mB j J (i64.wrap ((i64.wrap (I+(List.length U:Int)))+(List.length af:Int))) (i64.wrap (C+1))else some I
def wM(j:M.aC):Option Int:=
 mB j fuel 0 0
def gZ(j:M.aHB):Nat->Int->Int->Option Int
 |0,_,_=>none
 |J+1,I,C=>if(decide (C<(List.length j.aHP:Int)))=true then(idx j.aHP C).bind λx7=>(wM x7).bind λU=>gZ j J (i64.wrap (I+U)) (i64.wrap (C+1))else some I
def vH(j:M.aHB):Option Int:=
 gZ j fuel 0 0
def Co(j:M.bP):Option Int:=
 (vH j.aHa).bind λx1=>some (i64.wrap (x1+(List.length j.Log:Int)))
def BG(j:M.aHD):Option Int:=
 (yC j.aHC).bind λx1=>(Co j.bP).bind λx3=>(wM j.aE.aHa).bind λx5=>some (i64.wrap ((i64.wrap ((i64.wrap (x1+x3))+x5))+(i64.wrap (40*(List.length j.aE.aHY.aJ.aHW:Int)))))
def yS(j:M.aHD):Option Bool:=
 (bZ j.aHL).bind λx1=>if x1=true then(bZ j.Top).bind λx4=>if x4=true then(nC j.aG9).bind λx7=>if x7=true then if(j.aG9.aHL.toList==j.aHL.toList)=true then(cM j.aHC).bind λC=>if C=true then(cA j.bP.aHa).bind λI=>if I=true then(oY j.aE).bind λJ=>if J=true then(aZ j.aHk 0 1000000000000).bind λU=>if U=true then(BG j).bind λai=>some (decide (ai<=2500))else some false else some false else some false else some false else some false else some false else some false else some false
def Ao(j:M.aHD)(C:ByteArray)(I:ByteArray):Option Bool:=
 if(Op.bytesLess j.aHL.toList C.toList)=true then some true else if(j.aHL.toList==C.toList)=true then some (Op.bytesLess j.Top.toList I.toList)else some false
def gK(j:M.aA):Nat->Int->Option Bool
 |0,_=>none
 |I+1,C=>if(decide (C<(List.length j.aHE:Int)))=true then(idx j.aHE C).bind λx6=>(yS x6).bind λJ=>if(!J)=true then some false else if(decide (C>0))=true then(idx j.aHE (i64.wrap (C-1))).bind λU=>(Ao U x6.aHL x6.Top).bind λah=>if(!ah)=true then some false else gK j I (i64.wrap (C+1))else gK j I (i64.wrap (C+1))else some (decide ((List.length j.aHE:Int)<=9))
def cN(j:M.aA):Option Bool:=
 gK j fuel 0
def dM(j:ByteArray):Nat->Int->Option Bool
 |0,_=>none
 |I+1,C=>if(decide (C<(j.size:Int)))=true then(Xj j C).bind λx5=>if(decide ((x5.toNat:Int)<97))=true then if((x5.toNat:Int) !=47)=true then some false else dM j I (i64.wrap (C+1))else if(decide ((x5.toNat:Int)>122))=true then if((x5.toNat:Int) !=47)=true then some false else dM j I (i64.wrap (C+1))else dM j I (i64.wrap (C+1))else(aZ (j.size:Int) 1 30).bind λJ=>some J
def xW(j:ByteArray):Option Bool:=
 dM j fuel 0
def cQ(I:M.aM)(J:Int)(x6:M.dO)(C:Int->Option Bool):Nat->Int->Option Bool
 |0,_=>none
 |U+1,j=>if(decide (j<J))=true then(idx I.aHR j).bind λah=>if x6.aH4=true then if(ah.Name.toList==x6.Name.toList)=true then if(!ah.aH4)=true then some false else if(!x6.aHo)=true then some false else if(!ah.aHo)=true then some false else cQ I J x6 C U (i64.wrap (j+1))else cQ I J x6 C U (i64.wrap (j+1))else cQ I J x6 C U (i64.wrap (j+1))else C j
def fX(j:M.aM):Nat->Int->Option Bool
 |0,_=>none
 |I+1,C=>if(decide (C<(List.length j.aHR:Int)))=true then(idx j.aHR C).bind λx6=>(xW x6.Name).bind λJ=>if(!J)=true then some false else(aZ x6.bC 1 1000000000000).bind λU=>if(!U)=true then some false else cQ j C x6 (λ(aa:Int)=>fX j I (i64.wrap (C+1))) fuel 0 else some (decide ((List.length j.aHR:Int)<=12))
def xJ(j:M.aM):Option Bool:=
 fX j fuel 0
def dZ(j:M.World):Nat->Int->Option Bool
 |0,_=>none
 |J+1,I=>if(decide (I<(List.length j.aHQ:Int)))=true then(idx j.aHQ I).bind λC=>(uG C).bind λU=>if(!U)=true then some false else if(decide (C.Id>=j.aHK))=true then some false else if(decide (I>0))=true then(idx j.aHQ (i64.wrap (I-1))).bind λah=>if(decide (ah.Id>=C.Id))=true then some false else(gR j.aA C.aHL C.Top).bind λai=>if(decide (ai<0))=true then some false else dZ j J (i64.wrap (I+1))else(gR j.aA C.aHL C.Top).bind λaj=>if(decide (aj<0))=true then some false else dZ j J (i64.wrap (I+1))else(aZ j.Now 0 999999990000).bind λak=>if ak=true then(aZ j.aHI 1 1000000).bind λal=>if al=true then(cN j.aA).bind λao=>if ao=true then(aZ j.aHK 1 1000000000000).bind λaq=>if aq=true then(xJ j.aHR).bind λar=>some ar else some false else some false else some false else some false
def mS(C:M.World):Nat->Int->Option Bool
 |0,_=>none
 |I+1,j=>if(decide (j<3))=true then((idx C.aHZ j).bind λx9=>((zN x9).bind λJ=>(if(!J)=true then(some false)else((vC).bind λU=>((idx U j).bind λah=>(if(!(x9.Name.toList==ah.toList))=true then(some false)else((idx C.aHT j).bind λai=>((sC ai).bind λaj=>(if(!aj)=true then(some false)else(mS C I (i64.wrap (j+1))))))))))))else(dZ C fuel 0)
def iU(j:M.World):Option Bool:=
 if((List.length j.aHZ:Int) !=3)=true then some false else if((List.length j.aHT:Int) !=3)=true then some false else if(decide ((List.length j.aHQ:Int)>6))=true then some false else mS j fuel 0
def oV(I:List M.dO)(J:Int)(j:M.dO):Nat->Int->Option Bool
 |0,_=>none
 |U+1,C=>if(decide (C<J))=true then(idx I C).bind λx8=>if(x8.Name.toList==j.Name.toList)=true then if(!x8.aH4)=true then some false else if(!x8.aHo)=true then some false else if(!j.aHo)=true then some false else oV I J j U (i64.wrap (C+1))else oV I J j U (i64.wrap (C+1))else some true
def B6(j:List M.dO)(C:Int)(I:M.dO):Option Bool:=
 oV j C I fuel 0
def eZ  :Nat->Int->List M.dO->Option M.aM
 |0,_,_=>none
 |J+1,C,j=>if(decide (C<(List.length j:Int)))=true then(idx j C).bind λI=>if(!I.aH4)=true then(B6 j C I).bind λU=>if U=true then eZ J (i64.wrap (C+1)) (List.set j C.toNat (⟨I.Name,I.bC,I.aHo,true⟩:M.dO))else eZ J (i64.wrap (C+1)) j else eZ J (i64.wrap (C+1)) j else some (⟨j⟩:M.aM)
def uU(j:M.aM):Option M.aM:=
 (xT j).bind λx1=>eZ fuel 0 x1.aHR
def eM(C:M.aM)(U:Int):Nat->Int->List M.dO->Option M.aM
 |0,_,_=>none
 |af+1,I,j=>if(decide (I<(List.length C.aHR:Int)))=true then(idx C.aHR I).bind λJ=>if(J.bC !=U)=true then(app 32 j ([J])).bind λai=>eM C U af (i64.wrap (I+1)) (j++[J])else eM C U af (i64.wrap (I+1)) j else(uU (⟨j⟩:M.aM)).bind λah=>some ah
def vF(j:M.aM)(C:Int):Option M.aM:=
 eM j C fuel 0 ([]:List M.dO)
def iK(C:M.aHN)(U:Int):Nat->Int->List M.mI->Option M.aHN
 |0,_,_=>none
 |af+1,I,j=>if(decide (I<(List.length C.aHn:Int)))=true then(idx C.aHn I).bind λJ=>if(J.To !=U)=true then(app 24 j ([J])).bind λah=>iK C U af (i64.wrap (I+1)) (j++[J])else iK C U af (i64.wrap (I+1)) j else some (⟨j⟩:M.aHN)
def Ae(j:M.aHN)(C:Int):Option M.aHN:=
 iK j C fuel 0 ([]:List M.mI)
def wB(j:M.World)(C:Int):Option (M.World×Bool):=
 (fT j).bind λx1=>(Aa j C).bind λx3=>(iU j).bind λx5=>if(!x5)=true then some (x1,false)else if(decide (x3<0))=true then some (x1,false)else(AX x1.aHQ x3).bind λx9=>(Bd x1.aHQ (i64.wrap (x3+1))).bind λU=>(app 144 (List.take x3.toNat x1.aHQ) (List.drop (i64.wrap (x3+1)).toNat x1.aHQ)).bind λah=>(vF j.aHR C).bind λI=>(Ae j.aHN C).bind λJ=>some ((⟨x1.Now,x1.aHc,x1.aHI,x1.aA,(List.take x3.toNat x1.aHQ)++(List.drop (i64.wrap (x3+1)).toNat x1.aHQ),x1.aHK,I,J,x1.aHZ,x1.aHT⟩:M.World),true)
def eC(C:M.aQ)(j:List ByteArray):Option (Int×Int×ByteArray):=
 (aG C (List.length j:Int)).bind λx5=>(idx j x5.2.2).bind λx7=>some (x5.1,x5.2.1,x7)
def Ar(j:M.aQ):Option (Int×Int×ByteArray):=
 (eC j ([(⟨#[98,97,110,107]⟩:ByteArray),(⟨#[110,101,119,115]⟩:ByteArray),(⟨#[115,104,111,112]⟩:ByteArray)])).bind λx4=>some (x4.1,x4.2.1,x4.2.2)
def cF(j:M.aQ)(C:Int):Option (Int×Int×Bool):=
 (aG j C).bind λx5=>some (x5.1,x5.2.1,x5.2.2==0)
def dC(j:M.aQ):Option (Int×Int×ByteArray):=
 (eC j ([(⟨#[97]⟩:ByteArray),(⟨#[98]⟩:ByteArray),(⟨#[99]⟩:ByteArray),(⟨#[100,111,110,101]⟩:ByteArray),(⟨#[116,105,116,108,101]⟩:ByteArray)])).bind λx4=>some (x4.1,x4.2.1,x4.2.2)
def AW(j:M.aQ)(p1:Int):Option (Int×Int×M.Instr):=
 (aG j 9).bind λx5=>(aG (⟨j.b,x5.1,x5.2.1⟩:M.aQ) 4).bind λx7=>if((i64.wrap (1+x5.2.2))==1)=true then(aG (⟨j.b,x7.1,x7.2.1⟩:M.aQ) 6).bind λC=>some (C.1,C.2.1,(⟨i64.wrap (1+x5.2.2),x7.2.2,C.2.2,(⟨#[]⟩:ByteArray)⟩:M.Instr))else if((i64.wrap (1+x5.2.2))==2)=true then(aG (⟨j.b,x7.1,x7.2.1⟩:M.aQ) 4).bind λI=>some (I.1,I.2.1,(⟨i64.wrap (1+x5.2.2),x7.2.2,I.2.2,(⟨#[]⟩:ByteArray)⟩:M.Instr))else if((i64.wrap (1+x5.2.2))==3)=true then(aG (⟨j.b,x7.1,x7.2.1⟩:M.aQ) (i64.wrap (p1+1))).bind λJ=>some (J.1,J.2.1,(⟨i64.wrap (1+x5.2.2),x7.2.2,J.2.2,(⟨#[]⟩:ByteArray)⟩:M.Instr))else if((i64.wrap (1+x5.2.2))==4)=true then(aG (⟨j.b,x7.1,x7.2.1⟩:M.aQ) (i64.wrap (p1+1))).bind λU=>some (U.1,U.2.1,(⟨i64.wrap (1+x5.2.2),0,U.2.2,(⟨#[]⟩:ByteArray)⟩:M.Instr))else if((i64.wrap (1+x5.2.2))==5)=true then(eC (⟨j.b,x7.1,x7.2.1⟩:M.aQ) ([(⟨#[105,110,100,101,120]⟩:ByteArray),(⟨#[115,116,121,108,101]⟩:ByteArray),(⟨#[100,97,116,97]⟩:ByteArray)])).bind λai=>some (ai.1,ai.2.1,(⟨i64.wrap (1+x5.2.2),x7.2.2,0,ai.2.2⟩:M.Instr))else if((i64.wrap (1+x5.2.2))==6)=true then(aG (⟨j.b,x7.1,x7.2.1⟩:M.aQ) 4).bind λaj=>(dC (⟨j.b,aj.1,aj.2.1⟩:M.aQ)).bind λak=>some (ak.1,ak.2.1,(⟨i64.wrap (1+x5.2.2),x7.2.2,aj.2.2,ak.2.2⟩:M.Instr))else if((i64.wrap (1+x5.2.2))==7)=true then(aG (⟨j.b,x7.1,x7.2.1⟩:M.aQ) 4).bind λal=>(dC (⟨j.b,al.1,al.2.1⟩:M.aQ)).bind λao=>some (ao.1,ao.2.1,(⟨i64.wrap (1+x5.2.2),x7.2.2,al.2.2,ao.2.2⟩:M.Instr))else if((i64.wrap (1+x5.2.2))==8)=true then(aG (⟨j.b,x7.1,x7.2.1⟩:M.aQ) 4).bind λaq=>(dC (⟨j.b,aq.1,aq.2.1⟩:M.aQ)).bind λar=>some (ar.1,ar.2.1,(⟨i64.wrap (1+x5.2.2),x7.2.2,aq.2.2,ar.2.2⟩:M.Instr))else if((i64.wrap (1+x5.2.2))==9)=true then some (x7.1,x7.2.1,(⟨i64.wrap (1+x5.2.2),0,0,(⟨#[]⟩:ByteArray)⟩:M.Instr))else some (x7.1,x7.2.1,(⟨i64.wrap (1+x5.2.2),x7.2.2,0,(⟨#[]⟩:ByteArray)⟩:M.Instr))
def lV(U:M.aQ)(x4:(Int×Int×Int)):Nat->Int->List M.Instr->Int->Int->Option (Int×Int×(List M.Instr))
 |0,_,_,_,_=>none
 |ah+1,v5,C,I,J=>if(decide (v5<x4.2.2))=true then(AW (⟨U.b,I,J⟩:M.aQ) x4.2.2).bind λj=>(app 40 C ([j.2.2])).bind λai=>lV U x4 ah (i64.wrap (v5+1)) (C++[j.2.2]) j.1 j.2.1 else some (I,J,C)
def lP(j:M.aQ):Option (Int×Int×(List M.Instr)):=
 (aG j 8).bind λx4=>lV j x4 fuel 0 ([]:List M.Instr) x4.1 x4.2.1
def kR(C:ByteArray)(x1:(List ByteArray)):Nat->Int->Option Int
 |0,_=>none
 |I+1,j=>if(decide (j<(List.length x1:Int)))=true then(idx x1 j).bind λx9=>if(x9.toList==C.toList)=true then some j else kR C x1 I (i64.wrap (j+1))else some (-1)
def rL(j:ByteArray):Option Int:=
 (vC).bind λx1=>kR j x1 fuel 0
def zK(j:M.World):Option Int:=
 some (i64.wrap ((i64.wrap (1000*j.aHI))+j.aHK))
def pB(j:Int):Option (M.aJ×Bool):=
 (iO (⟨j,1,([]:List M.bB)⟩:M.aJ)).bind λx1=>if(!x1)=true then some ((⟨0,0,([]:List M.bB)⟩:M.aJ),false)else some ((⟨j,1,([]:List M.bB)⟩:M.aJ),true)
def tB(j:ByteArray)(C:ByteArray)(J:Int):Option (M.aHD×Bool):=
 (pB J).bind λx1=>if(!x1.2)=true then some ((⟨(⟨#[]⟩:ByteArray),(⟨#[]⟩:ByteArray),(⟨(⟨#[]⟩:ByteArray),0,0,0⟩:M.aG9),(⟨([]:List M.aHM)⟩:M.aF),(⟨(⟨(⟨#[]⟩:ByteArray),0,([]:List M.aC),([]:List M.aN)⟩:M.aHB),([]:List Int),0⟩:M.bP),(⟨(⟨(⟨#[]⟩:ByteArray),([]:List M.aHV),0⟩:M.aC),0,(⟨(⟨0,0,([]:List M.bB)⟩:M.aJ),0,0⟩:M.aHY)⟩:M.aE),0,false⟩:M.aHD),false)else(yS (⟨j,C,(⟨j,0,0,0⟩:M.aG9),(⟨([]:List M.aHM)⟩:M.aF),(⟨(⟨(⟨#[97,112,112]⟩:ByteArray),1,[(⟨(⟨#[110,111,116,101,115]⟩:ByteArray),([]:List M.aHV),0⟩:M.aC)],([]:List M.aN)⟩:M.aHB),([]:List Int),0⟩:M.bP),(⟨(⟨(⟨#[110,111,116,101,115]⟩:ByteArray),([]:List M.aHV),0⟩:M.aC),0,(⟨x1.1,0,0⟩:M.aHY)⟩:M.aE),0,false⟩:M.aHD)).bind λI=>if(!I)=true then some ((⟨(⟨#[]⟩:ByteArray),(⟨#[]⟩:ByteArray),(⟨(⟨#[]⟩:ByteArray),0,0,0⟩:M.aG9),(⟨([]:List M.aHM)⟩:M.aF),(⟨(⟨(⟨#[]⟩:ByteArray),0,([]:List M.aC),([]:List M.aN)⟩:M.aHB),([]:List Int),0⟩:M.bP),(⟨(⟨(⟨#[]⟩:ByteArray),([]:List M.aHV),0⟩:M.aC),0,(⟨(⟨0,0,([]:List M.bB)⟩:M.aJ),0,0⟩:M.aHY)⟩:M.aE),0,false⟩:M.aHD),false)else some ((⟨j,C,(⟨j,0,0,0⟩:M.aG9),(⟨([]:List M.aHM)⟩:M.aF),(⟨(⟨(⟨#[97,112,112]⟩:ByteArray),1,[(⟨(⟨#[110,111,116,101,115]⟩:ByteArray),([]:List M.aHV),0⟩:M.aC)],([]:List M.aN)⟩:M.aHB),([]:List Int),0⟩:M.bP),(⟨(⟨(⟨#[110,111,116,101,115]⟩:ByteArray),([]:List M.aHV),0⟩:M.aC),0,(⟨x1.1,0,0⟩:M.aHY)⟩:M.aE),0,false⟩:M.aHD),true)
def mF(C:M.aA)(I:M.aHD)(x1:M.aA):Nat->Int->Option (M.aA×Bool)
 |0,_=>none
 |al+1,j=>if(decide (j<(List.length C.aHE:Int)))=true then(idx C.aHE j).bind λao=>(Ao ao I.aHL I.Top).bind λaq=>if aq=true then mF C I x1 al (i64.wrap (j+1))else(AX x1.aHE j).bind λbd=>(app 328 ([]:List M.aHD) (List.take j.toNat x1.aHE)).bind λbf=>(nM I).bind λU=>(app 328 (List.take j.toNat x1.aHE) ([U])).bind λbg=>(app 328 ((List.take j.toNat x1.aHE)++[U]) (List.drop j.toNat x1.aHE)).bind λbh=>(cN C).bind λar=>if(!ar)=true then(fO C).bind λav=>some (av,false)else(cN (⟨((List.take j.toNat x1.aHE)++[U])++(List.drop j.toNat x1.aHE)⟩:M.aA)).bind λaw=>if(!aw)=true then(fO C).bind λaf=>some (af,false)else some ((⟨((List.take j.toNat x1.aHE)++[U])++(List.drop j.toNat x1.aHE)⟩:M.aA),true)else(AX x1.aHE j).bind λax=>(app 328 ([]:List M.aHD) (List.take j.toNat x1.aHE)).bind λay=>(nM I).bind λJ=>(app 328 (List.take j.toNat x1.aHE) ([J])).bind λaz=>(app 328 ((List.take j.toNat x1.aHE)++[J]) (List.drop j.toNat x1.aHE)).bind λba=>(cN C).bind λah=>if(!ah)=true then(fO C).bind λai=>some (ai,false)else(cN (⟨((List.take j.toNat x1.aHE)++[J])++(List.drop j.toNat x1.aHE)⟩:M.aA)).bind λaj=>if(!aj)=true then(fO C).bind λak=>some (ak,false)else some ((⟨((List.take j.toNat x1.aHE)++[J])++(List.drop j.toNat x1.aHE)⟩:M.aA),true)
def iS(j:M.aA)(C:M.aHD):Option (M.aA×Bool):=
 (fO j).bind λx1=>(gR j C.aHL C.Top).bind λx3=>if(decide (x3>=0))=true then(nM C).bind λx6=>(idx x1.aHE x3).bind λx8=>(cN j).bind λI=>if(!I)=true then(fO j).bind λJ=>some (J,false)else(cN (⟨List.set x1.aHE x3.toNat x6⟩:M.aA)).bind λU=>if(!U)=true then(fO j).bind λah=>some (ah,false)else some ((⟨List.set x1.aHE x3.toNat x6⟩:M.aA),true)else mF j C x1 fuel 0
def pV(j:M.aG9)(C:M.aHL)(I:Bool):Option Int:=
 if(j.aHp !=0)=true then some j.aHp else if I=true then some C.aHA else some 0
def Ak(j:M.Instr)(p1:Int):Option Bool:=
 (if(j.aHb==5)=true then some true else(aZ j.aHb 6 8).bind λx9=>some x9).bind λx1=>(if(j.aHb==1)=true then some 1000 else if(j.aHb==2)=true then some 3 else(if(j.aHb==3)=true then some (j.aHb==3)else some (j.aHb==4)).bind λC=>if C=true then some p1 else(if(j.aHb==6)=true then some (j.aHb==6)else if(j.aHb==7)=true then some (j.aHb==7)else some (j.aHb==8)).bind λI=>if I=true then some 100 else some 0).bind λJ=>((aZ j.aHb 1 9).bind λU=>if(!U)=true then some true else(aZ j.R 0 3).bind λai=>if(!ai)=true then some true else(aZ j.N 0 J).bind λaj=>some (!aj)).bind λak=>if ak=true then some false else(if(j.aHb==4)=true then some (j.R !=0)else if(j.aHb==9)=true then some (j.R !=0)else some false).bind λal=>if al=true then some false else(if x1=true then(bZ j.aHi).bind λao=>if ao=true then some true else some false else some (j.aHi.toList==(⟨#[]⟩:ByteArray).toList)).bind λaq=>some aq
def oD(j:List M.Instr):Nat->Int->Option Bool
 |0,_=>none
 |I+1,C=>if(decide (C<(List.length j:Int)))=true then(idx j C).bind λx5=>(Ak x5 (List.length j:Int)).bind λJ=>if(!J)=true then some false else oD j I (i64.wrap (C+1))else some (decide ((List.length j:Int)<=16))
def AY(j:List M.Instr):Option Bool:=
 oD j fuel 0
def yW(j:List M.Instr):Option M.aHJ:=
 (AY j).bind λx8=>if(!x8)=true then some (⟨([]:List M.Instr),0,[0,0,0,0],0,true,false⟩:M.aHJ)else(wK j).bind λC=>some (⟨C,0,[0,0,0,0],0,false,false⟩:M.aHJ)
def lO(j:Int)(C:ByteArray)(I:ByteArray)(J:Int)(U:List M.Instr):Option (M.bC×Bool):=
 (yW U).bind λx1=>(uG (⟨j,C,I,J,([]:List M.aT),x1⟩:M.bC)).bind λx3=>if(!x3)=true then some ((⟨0,(⟨#[]⟩:ByteArray),(⟨#[]⟩:ByteArray),0,([]:List M.aT),(⟨([]:List M.Instr),0,([]:List Int),0,false,false⟩:M.aHJ)⟩:M.bC),false)else some ((⟨j,C,I,J,([]:List M.aT),x1⟩:M.bC),true)
def cY  :Option M.aHH:=
 some (⟨4,0,0,([]:List Int),false⟩:M.aHH)
def lY(C:M.aF)(I:Int):Nat->Int->Option Int
 |0,_=>none
 |J+1,j=>if(decide (j<(List.length C.aHC:Int)))=true then(idx C.aHC j).bind λx7=>if(x7.aHA==I)=true then some j else lY C I J (i64.wrap (j+1))else some (-1)
def wQ(j:M.aF)(C:Int):Option Int:=
 lY j C fuel 0
def nF(C:M.aHM)(I:ByteArray)(J:ByteArray):Nat->Int->Option Int
 |0,_=>none
 |U+1,j=>if(decide (j<(List.length C.aHS:Int)))=true then(idx C.aHS j).bind λx8=>if(x8.aHL.toList==I.toList)=true then if(x8.aHv.toList==J.toList)=true then some j else nF C I J U (i64.wrap (j+1))else nF C I J U (i64.wrap (j+1))else some (-1)
def Al(j:M.aHM)(C:ByteArray)(I:ByteArray):Option Int:=
 nF j C I fuel 0
def yJ(C:M.aF)(p1:Int)(p2:ByteArray)(p3:ByteArray):Option (M.aHH×Bool):=
 (wQ C p1).bind λx1=>(if(decide (x1<0))=true then((cY).bind λx4=>(some (x4,false)))else((idx C.aHC x1).bind λx6=>((Al x6 p2 p3).bind λj=>(if(decide (j<0))=true then((cY).bind λI=>(some (I,false)))else((idx x6.aHS j).bind λJ=>((uI J.aHH).bind λU=>(some (U,true))))))))
def DJ(j:Int)(C:Int):Option Int:=
 if(decide (C>j))=true then some C else some j
def tZ(j:M.aHL)(C:Int):Option Bool:=
 (zN j).bind λx1=>if x1=true then(DJ 1 (i64.wrap ((i64.wrap (j.aHA-2))+1))).bind λx4=>(aZ C x4 j.aHA).bind λx6=>some x6 else some false
def pU(j:M.aHL)(I:ByteArray):Nat->Int->Option Bool
 |0,_=>none
 |J+1,C=>if(decide (C<(List.length j.aHl:Int)))=true then(idx j.aHl C).bind λx7=>if(x7.toList==I.toList)=true then some true else pU j I J (i64.wrap (C+1))else some false
def Bp(j:M.aHL)(C:ByteArray):Option Bool:=
 pU j C fuel 0
def iI(j:List Int):Nat->Int->List Int->Option (List Int)
 |0,_,_=>none
 |U+1,I,C=>if(decide (I<(List.length j:Int)))=true then(idx j I).bind λJ=>(app 8 C ([i64.wrap J])).bind λaf=>iI j U (i64.wrap (I+1)) (C++[i64.wrap J])else some C
def sZ(j:List Int):Option (List Int):=
 iI j fuel 0 ([(List.length j:Int)])
def Es(C:Int)(j:Int):Option Int:=
 (aZ j 1 1000000000000).bind λx1=>if(!x1)=true then some 0 else if(decide (j=0))=true then none else some (Int.tmod (i64.wrap ((Int.tmod C j)+j)) j)
def xN(j:List Int):Nat->Int->Int->Option Int
 |0,_,_=>none
 |J+1,I,C=>if(decide (C<(List.length j:Int)))=true then(idx j C).bind λx6=>(Es x6 2147483647).bind λU=>xN j J (Int.tmod (i64.wrap ((i64.wrap ((i64.wrap (I*1000003))+U))+13)) 2147483647) (i64.wrap (C+1))else some I
def CD(j:List Int):Option Int:=
 xN j fuel 11 0
def wJ(j:Int)(C:List Int):Option Int:=
 (app 8 ([j]) C).bind λx1=>(app 8 ([j]++C) ([j])).bind λx3=>(CD (([j]++C)++[j])).bind λx5=>some x5
def kB(j:Int)(C:ByteArray):Option Int:=
 (sZ (bR C)).bind λx1=>(wJ j x1).bind λx3=>(DJ 1 x3).bind λx5=>some x5
def wF(x5:Int):Nat->Int->List Int->Option (List Int)
 |0,_,_=>none
 |I+1,j,C=>if(decide (j>=0))=true then if(decide (0<=(i64.wrap (8*j))))=true then(app 1 C ([IntKind.u8.wrap (i64.wrap (BitVec.ofInt (IntKind.i64.bits) (Int.fdiv x5 (2^(min (i64.wrap (8*j)).toNat IntKind.i64.bits)))&&&BitVec.ofInt (IntKind.i64.bits) 255).toNat)])).bind λJ=>wF x5 I (i64.wrap (j-1)) (C++[IntKind.u8.wrap (i64.wrap (BitVec.ofInt (IntKind.i64.bits) (Int.fdiv x5 (2^(min (i64.wrap (8*j)).toNat IntKind.i64.bits)))&&&BitVec.ofInt (IntKind.i64.bits) 255).toNat)])else none else some C
def Cf(j:M.aHL)(C:ByteArray)(I:Int):Option (List Int):=
 (kB 107 j.Name).bind λx1=>(kB 109 C).bind λx3=>(wJ (i64.wrap (1+I)) ([103,x1,x3])).bind λx5=>wF x5 fuel 5 ([]:List Int)
def Af(j:M.aHL)(I:ByteArray)(C:Int):Option M.aHH:=
 (zN j).bind λx1=>(if(!x1)=true then((cY).bind λx4=>(some x4))else((tZ j C).bind λx6=>(if(!x6)=true then(some (⟨1,404,j.aHA,([]:List Int),false⟩:M.aHH))else((Bp j I).bind λx9=>(if(!x9)=true then(some (⟨1,404,j.aHA,([]:List Int),false⟩:M.aHH))else((Cf j I C).bind λJ=>(some (⟨1,200,C,J,j.aHo⟩:M.aHH))))))))
def oC(J:M.aF)(j:M.aHL)(C:Int)(I:ByteArray)(U:Bool):Option M.aHH:=
 (yJ J C j.Name I).bind λx1=>(if x1.2=true then(some x1.1)else(if U=true then((Af j I C).bind λx5=>(some x5))else((cY).bind λx7=>(some x7))))
def pA(j:M.World)(C:M.bC)(p2:ByteArray):Option M.aHH:=
 (gR j.aA C.aHL C.Top).bind λx1=>((rL C.aHL).bind λx3=>(if(decide (x1<0))=true then((cY).bind λx6=>(some x6))else(if(decide (x3<0))=true then((cY).bind λx9=>(some x9))else((idx j.aA.aHE x1).bind λI=>((idx j.aHZ x3).bind λJ=>((oC I.aHC J C.aHA p2 j.aHc).bind λU=>(some U)))))))
def lG(j:M.bC)(I:ByteArray)(C:M.aHH):Option (M.bC×Bool):=
 (nN j).bind λx1=>(app 24 x1.aT ([(⟨I,C.aHA⟩:M.aT)])).bind λx3=>if(C.aHx !=200)=true then(nN j).bind λJ=>some (J,false)else if(C.aHA !=j.aHA)=true then(nN j).bind λU=>some (U,false)else(uG j).bind λaf=>if(!af)=true then(nN j).bind λah=>some (ah,false)else(uG (⟨x1.Id,x1.aHL,x1.Top,x1.aHA,x1.aT++[(⟨I,C.aHA⟩:M.aT)],x1.aHJ⟩:M.bC)).bind λai=>if(!ai)=true then(nN j).bind λaj=>some (aj,false)else some ((⟨x1.Id,x1.aHL,x1.Top,x1.aHA,x1.aT++[(⟨I,C.aHA⟩:M.aT)],x1.aHJ⟩:M.bC),true)
def nS(j:M.World)(J:ByteArray)(U:ByteArray)(p3:List M.Instr):Option (M.World×Int×Bool):=
 (fT j).bind λx1=>(rL J).bind λx3=>(iU j).bind λx5=>if(!x5)=true then some (x1,0,false)else if(decide (x3<0))=true then some (x1,0,false)else(rL U).bind λx9=>if(decide (x9<0))=true then some (x1,0,false)else(zK j).bind λbg=>(tB J U bg).bind λC=>(gR j.aA J U).bind λbf=>if(decide (bf>=0))=true then(idx j.aA.aHE bf).bind λbh=>(nM bh).bind λI=>(iS j.aA (⟨I.aHL,I.Top,I.aG9,I.aHC,I.bP,I.aE,j.Now,I.aHh⟩:M.aHD)).bind λaj=>(idx j.aHZ x3).bind λbj=>(pV I.aG9 bj j.aHc).bind λbl=>(lO j.aHK J U bl p3).bind λak=>if(!aj.2)=true then(fT j).bind λbm=>some (bm,0,false)else if(!ak.2)=true then(fT j).bind λbn=>some (bn,0,false)else(pA (⟨x1.Now,x1.aHc,x1.aHI,aj.1,x1.aHQ,x1.aHK,x1.aHR,x1.aHN,x1.aHZ,x1.aHT⟩:M.World) ak.1 (⟨#[105,110,100,101,120]⟩:ByteArray)).bind λbo=>(lG ak.1 (⟨#[105,110,100,101,120]⟩:ByteArray) bo).bind λal=>(app 144 x1.aHQ ([al.1])).bind λbt=>if(!al.2)=true then(fT j).bind λbq=>some (bq,0,false)else(iU (⟨x1.Now,x1.aHc,x1.aHI,aj.1,x1.aHQ++[al.1],i64.wrap (j.aHK+1),x1.aHR,x1.aHN,x1.aHZ,x1.aHT⟩:M.World)).bind λao=>if(!ao)=true then(fT j).bind λaq=>some (aq,0,false)else some ((⟨x1.Now,x1.aHc,x1.aHI,aj.1,x1.aHQ++[al.1],i64.wrap (j.aHK+1),x1.aHR,x1.aHN,x1.aHZ,x1.aHT⟩:M.World),ak.1.Id,true)else(iS j.aA (⟨C.1.aHL,C.1.Top,C.1.aG9,C.1.aHC,C.1.bP,C.1.aE,j.Now,C.1.aHh⟩:M.aHD)).bind λaa=>(idx j.aHZ x3).bind λar=>(pV C.1.aG9 ar j.aHc).bind λav=>(lO j.aHK J U av p3).bind λae=>if(!aa.2)=true then(fT j).bind λaw=>some (aw,0,false)else if(!ae.2)=true then(fT j).bind λax=>some (ax,0,false)else(pA (⟨x1.Now,x1.aHc,x1.aHI,aa.1,x1.aHQ,x1.aHK,x1.aHR,x1.aHN,x1.aHZ,x1.aHT⟩:M.World) ae.1 (⟨#[105,110,100,101,120]⟩:ByteArray)).bind λay=>(lG ae.1 (⟨#[105,110,100,101,120]⟩:ByteArray) ay).bind λaf=>(app 144 x1.aHQ ([af.1])).bind λbr=>if(!af.2)=true then(fT j).bind λaz=>some (az,0,false)else(iU (⟨x1.Now,x1.aHc,x1.aHI,aa.1,x1.aHQ++[af.1],i64.wrap (j.aHK+1),x1.aHR,x1.aHN,x1.aHZ,x1.aHT⟩:M.World)).bind λba=>if(!ba)=true then(fT j).bind λbd=>some (bd,0,false)else some ((⟨x1.Now,x1.aHc,x1.aHI,aa.1,x1.aHQ++[af.1],i64.wrap (j.aHK+1),x1.aHR,x1.aHN,x1.aHZ,x1.aHT⟩:M.World),ae.1.Id,true)
def fS(j:M.aQ):Nat->Int->Int->Bool->Int->Int->Int->Int->List M.aHD->List M.bC->List M.dO->List M.mI->List M.aHL->List M.aHO->Option (Int×Int×M.World)
 |0,_,_,_,_,_,_,_,_,_,_,_,_,_=>none
 |bn+1,v4,av,aw,ax,ar,ak,al,ae,af,ah,ai,aa,aj=>if(decide (v4>0))=true then(aG (⟨j.b,ak,al⟩:M.aQ) 6).bind λC=>if(C.2.2==0)=true then(aG (⟨j.b,C.1,C.2.1⟩:M.aQ) (i64.wrap (ar+1))).bind λbo=>(wB (⟨av,aw,ax,(⟨ae⟩:M.aA),af,ar,(⟨ah⟩:M.aM),(⟨ai⟩:M.aHN),aa,aj⟩:M.World) bo.2.2).bind λU=>fS j bn (i64.wrap (v4-1)) U.1.Now U.1.aHc U.1.aHI U.1.aHK bo.1 bo.2.1 U.1.aA.aHE U.1.aHQ U.1.aHR.aHR U.1.aHN.aHn U.1.aHZ U.1.aHT else if(C.2.2==1)=true then(aG (⟨j.b,C.1,C.2.1⟩:M.aQ) 5).bind λbq=>fS j bn (i64.wrap (v4-1)) (i64.wrap (av+bq.2.2)) aw ax ar bq.1 bq.2.1 ae af ah ai aa aj else if(C.2.2==2)=true then(aG (⟨j.b,C.1,C.2.1⟩:M.aQ) 3).bind λbf=>(aG (⟨j.b,bf.1,bf.2.1⟩:M.aQ) 3).bind λbg=>(idx aa bf.2.2).bind λbh=>fS j bn (i64.wrap (v4-1)) av aw ax ar bg.1 bg.2.1 ae af ah ai (List.set aa bf.2.2.toNat (⟨bh.Name,i64.wrap (1+bg.2.2),bh.aHl,bh.aHo⟩:M.aHL)) aj else(Ar (⟨j.b,C.1,C.2.1⟩:M.aQ)).bind λaz=>(cF (⟨j.b,az.1,az.2.1⟩:M.aQ) 3).bind λba=>if ba.2.2=true then(Ar (⟨j.b,ba.1,ba.2.1⟩:M.aQ)).bind λbj=>(lP (⟨j.b,bj.1,bj.2.1⟩:M.aQ)).bind λbl=>(nS (⟨av,aw,ax,(⟨ae⟩:M.aA),af,ar,(⟨ah⟩:M.aM),(⟨ai⟩:M.aHN),aa,aj⟩:M.World) az.2.2 bj.2.2 bl.2.2).bind λI=>fS j bn (i64.wrap (v4-1)) I.1.Now I.1.aHc I.1.aHI I.1.aHK bl.1 bl.2.1 I.1.aA.aHE I.1.aHQ I.1.aHR.aHR I.1.aHN.aHn I.1.aHZ I.1.aHT else(lP (⟨j.b,ba.1,ba.2.1⟩:M.aQ)).bind λbm=>(nS (⟨av,aw,ax,(⟨ae⟩:M.aA),af,ar,(⟨ah⟩:M.aM),(⟨ai⟩:M.aHN),aa,aj⟩:M.World) az.2.2 az.2.2 bm.2.2).bind λJ=>fS j bn (i64.wrap (v4-1)) J.1.Now J.1.aHc J.1.aHI J.1.aHK bm.1 bm.2.1 J.1.aA.aHE J.1.aHQ J.1.aHR.aHR J.1.aHN.aHn J.1.aHZ J.1.aHT else some (ak,al,(⟨av,aw,ax,(⟨ae⟩:M.aA),af,ar,(⟨ah⟩:M.aM),(⟨ai⟩:M.aHN),aa,aj⟩:M.World))
def AG(C:M.aQ):Option (Int×Int×M.World):=
 (aG C 3).bind λx4=>(AK (i64.wrap (1+x4.2.2))).bind λx6=>(aG (⟨C.b,x4.1,x4.2.1⟩:M.aQ) 5).bind λj=>fS C fuel j.2.2 x6.Now x6.aHc x6.aHI x6.aHK j.1 j.2.1 x6.aA.aHE x6.aHQ x6.aHR.aHR x6.aHN.aHn x6.aHZ x6.aHT
def bN(C:M.aQ)(j:List Int):Option (Int×Int×Int):=
 (aG C (List.length j:Int)).bind λx5=>(idx j x5.2.2).bind λx7=>some (x5.1,x5.2.1,x7)
def nP(j:M.aQ):Option (Int×Int×ByteArray):=
 (eC j ([(⟨#[98,97,110,107]⟩:ByteArray),(⟨#[115,104,111,112]⟩:ByteArray),(⟨#[110,101,119,115]⟩:ByteArray)])).bind λx4=>some (x4.1,x4.2.1,x4.2.2)
def dN(j:M.aQ):Option (Int×Int×M.Key):=
 (aG j 6).bind λx4=>some (x4.1,x4.2.1,(⟨1,x4.2.2,(⟨#[]⟩:ByteArray)⟩:M.Key))
def nQ(j:M.aD)(I:ByteArray)(J:Int)(x1:M.aD):Nat->Int->Option (M.aD×Bool)
 |0,_=>none
 |af+1,C=>if(decide (C<(List.length j.aHG:Int)))=true then(idx j.aHG C).bind λU=>if(Op.bytesLess U.Name.toList I.toList)=true then nQ j I J x1 af (i64.wrap (C+1))else if(U.Name.toList==I.toList)=true then(idx x1.aHG C).bind λae=>(bL j).bind λah=>if(!ah)=true then(cG j).bind λai=>some (ai,false)else(bL (⟨List.set x1.aHG C.toNat (⟨ae.Name,J⟩:M.Field)⟩:M.aD)).bind λaj=>if(!aj)=true then(cG j).bind λak=>some (ak,false)else some ((⟨List.set x1.aHG C.toNat (⟨ae.Name,J⟩:M.Field)⟩:M.aD),true)else(AX j.aHG C).bind λaz=>(app 24 ([]:List M.Field) (List.take C.toNat j.aHG)).bind λba=>(app 24 (List.take C.toNat j.aHG) ([(⟨I,J⟩:M.Field)])).bind λbd=>(Bd j.aHG C).bind λbf=>(app 24 ((List.take C.toNat j.aHG)++[(⟨I,J⟩:M.Field)]) (List.drop C.toNat j.aHG)).bind λbg=>(bL j).bind λal=>if(!al)=true then(cG j).bind λao=>some (ao,false)else(bL (⟨((List.take C.toNat j.aHG)++[(⟨I,J⟩:M.Field)])++(List.drop C.toNat j.aHG)⟩:M.aD)).bind λaq=>if(!aq)=true then(cG j).bind λar=>some (ar,false)else some ((⟨((List.take C.toNat j.aHG)++[(⟨I,J⟩:M.Field)])++(List.drop C.toNat j.aHG)⟩:M.aD),true)else(AX j.aHG C).bind λbh=>(app 24 ([]:List M.Field) (List.take C.toNat j.aHG)).bind λbj=>(app 24 (List.take C.toNat j.aHG) ([(⟨I,J⟩:M.Field)])).bind λbl=>(Bd j.aHG C).bind λbm=>(app 24 ((List.take C.toNat j.aHG)++[(⟨I,J⟩:M.Field)]) (List.drop C.toNat j.aHG)).bind λbn=>(bL j).bind λav=>if(!av)=true then(cG j).bind λaw=>some (aw,false)else(bL (⟨((List.take C.toNat j.aHG)++[(⟨I,J⟩:M.Field)])++(List.drop C.toNat j.aHG)⟩:M.aD)).bind λax=>if(!ax)=true then(cG j).bind λay=>some (ay,false)else some ((⟨((List.take C.toNat j.aHG)++[(⟨I,J⟩:M.Field)])++(List.drop C.toNat j.aHG)⟩:M.aD),true)
def iQ(j:M.aD)(C:ByteArray)(I:Int):Option (M.aD×Bool):=
 (cG j).bind λx1=>nQ j C I x1 fuel 0
def oE(I:M.aQ):Nat->Int->Int->Int->List M.Field->Option (Int×Int×M.aD)
 |0,_,_,_,_=>none
 |aj+1,v4,J,U,af=>if(decide (v4>0))=true then(dC (⟨I.b,J,U⟩:M.aQ)).bind λj=>(aG (⟨I.b,j.1,j.2.1⟩:M.aQ) 5).bind λC=>(iQ (⟨af⟩:M.aD) j.2.2 C.2.2).bind λak=>oE I aj (i64.wrap (v4-1)) C.1 C.2.1 ak.1.aHG else some (J,U,(⟨af⟩:M.aD))
def lD(j:M.aQ):Option (Int×Int×M.aD):=
 (aG j 4).bind λx4=>oE j fuel x4.2.2 x4.1 x4.2.1 ([]:List M.Field)
def eB(J:List Int)(C:Int):Nat->Int->Int->Option (Int×Int×Bool)
 |0,_,_=>none
 |U+1,I,j=>if(decide (j<6))=true then if(decide (C<0))=true then some (0,0,false)else if(decide (C>=(i64.wrap ((List.length J:Int)-j))))=true then some (0,0,false)else(idx J (i64.wrap (C+j))).bind λx9=>if(decide (0<=(i64.wrap (7*j))))=true then if(decide ((i64.wrap x9)<128))=true then if((i64.wrap x9)==0)=true then if(decide (j>0))=true then some (0,0,false)else if(decide ((i64.wrap (BitVec.ofInt (IntKind.i64.bits) I|||BitVec.ofInt (IntKind.i64.bits) (i64.wrap ((i64.wrap (BitVec.ofInt (IntKind.i64.bits) (i64.wrap x9)&&&BitVec.ofInt (IntKind.i64.bits) 127).toNat)*2^(min (i64.wrap (7*j)).toNat IntKind.i64.bits)))).toNat)>1000000000000))=true then some (0,0,false)else some (i64.wrap (BitVec.ofInt (IntKind.i64.bits) I|||BitVec.ofInt (IntKind.i64.bits) (i64.wrap ((i64.wrap (BitVec.ofInt (IntKind.i64.bits) (i64.wrap x9)&&&BitVec.ofInt (IntKind.i64.bits) 127).toNat)*2^(min (i64.wrap (7*j)).toNat IntKind.i64.bits)))).toNat,i64.wrap ((i64.wrap (C+j))+1),true)else if(decide ((i64.wrap (BitVec.ofInt (IntKind.i64.bits) I|||BitVec.ofInt (IntKind.i64.bits) (i64.wrap ((i64.wrap (BitVec.ofInt (IntKind.i64.bits) (i64.wrap x9)&&&BitVec.ofInt (IntKind.i64.bits) 127).toNat)*2^(min (i64.wrap (7*j)).toNat IntKind.i64.bits)))).toNat)>1000000000000))=true then some (0,0,false)else some (i64.wrap (BitVec.ofInt (IntKind.i64.bits) I|||BitVec.ofInt (IntKind.i64.bits) (i64.wrap ((i64.wrap (BitVec.ofInt (IntKind.i64.bits) (i64.wrap x9)&&&BitVec.ofInt (IntKind.i64.bits) 127).toNat)*2^(min (i64.wrap (7*j)).toNat IntKind.i64.bits)))).toNat,i64.wrap ((i64.wrap (C+j))+1),true)else eB J C U (i64.wrap (BitVec.ofInt (IntKind.i64.bits) I|||BitVec.ofInt (IntKind.i64.bits) (i64.wrap ((i64.wrap (BitVec.ofInt (IntKind.i64.bits) (i64.wrap x9)&&&BitVec.ofInt (IntKind.i64.bits) 127).toNat)*2^(min (i64.wrap (7*j)).toNat IntKind.i64.bits)))).toNat) (i64.wrap (j+1))else none else some (0,0,false)
def fQ(j:List Int)(C:Int):Option (Int×Int×Bool):=
 eB j C fuel 0 0
def eA(j:List Int)(C:Int)(I:Int):Option ((List Int)×Int×Bool):=
 (fQ j C).bind λx1=>if(!x1.2.2)=true then some (([]:List Int),0,false)else if(decide (x1.1>I))=true then some (([]:List Int),0,false)else if(decide (x1.1>(i64.wrap ((List.length j:Int)-x1.2.1))))=true then some (([]:List Int),0,false)else(UK j x1.2.1 (i64.wrap (x1.2.1+x1.1))).bind λx6=>(app 1 ([]:List Int) (List.drop x1.2.1.toNat (List.take (i64.wrap (x1.2.1+x1.1)).toNat j))).bind λx8=>some (List.drop x1.2.1.toNat (List.take (i64.wrap (x1.2.1+x1.1)).toNat j),i64.wrap (x1.2.1+x1.1),true)
def yB(j:Int)(C:List Int):Option Int:=
 (sZ C).bind λx1=>(app 8 ([101,j]) x1).bind λx3=>(CD ([101,j]++x1)).bind λx5=>some x5
def uR(J:List Int):Nat->Int->List (List Int)->Option ((List (List Int))×Int)
 |0,_,_=>none
 |ah+1,C,j=>if(decide (C<(List.length J:Int)))=true then(eA J C 4000).bind λI=>if(!I.2.2)=true then some (j,C)else(fQ J I.2.1).bind λU=>if(!U.2.2)=true then some (j,C)else(yB (List.length j:Int) I.1).bind λai=>if(U.1 !=ai)=true then some (j,C)else(app 24 j ([I.1])).bind λaj=>uR J ah U.2.1 (j++[I.1])else some (j,C)
def Bq(j:List Int):Option ((List (List Int))×Int):=
 uR j fuel 0 ([]:List (List Int))
def lX(j:List Int)(x2:Int):Nat->Int->Int->Option (M.Key×Bool)
 |0,_,_=>none
 |J+1,C,I=>if(decide (I<7))=true then(idx j I).bind λU=>lX j x2 J (i64.wrap (BitVec.ofInt (IntKind.i64.bits) (i64.wrap (C*2^(min (8:Int).toNat IntKind.i64.bits)))|||BitVec.ofInt (IntKind.i64.bits) (i64.wrap U)).toNat) (i64.wrap (I+1))else(Bd j 7).bind λah=>(toStr (List.drop (7:Int).toNat j)).bind λai=>(fV (⟨i64.wrap x2,i64.wrap (C-1000000000000),dE (List.drop (7:Int).toNat j)⟩:M.Key)).bind λaf=>if(!af)=true then some ((⟨0,0,(⟨#[]⟩:ByteArray)⟩:M.Key),false)else some ((⟨i64.wrap x2,i64.wrap (C-1000000000000),dE (List.drop (7:Int).toNat j)⟩:M.Key),true)
def vZ(j:List Int):Option (M.Key×Bool):=
 if((List.length j:Int)==0)=true then some ((⟨0,0,(⟨#[]⟩:ByteArray)⟩:M.Key),false)else(idx j 0).bind λx2=>if((i64.wrap x2) !=2)=true then if(decide ((List.length j:Int)<7))=true then some ((⟨0,0,(⟨#[]⟩:ByteArray)⟩:M.Key),false)else lX j x2 fuel 0 1 else(Bd j 1).bind λI=>(toStr (List.drop (1:Int).toNat j)).bind λJ=>(fV (⟨i64.wrap x2,0,dE (List.drop (1:Int).toNat j)⟩:M.Key)).bind λC=>if(!C)=true then some ((⟨0,0,(⟨#[]⟩:ByteArray)⟩:M.Key),false)else some ((⟨i64.wrap x2,0,dE (List.drop (1:Int).toNat j)⟩:M.Key),true)
def tM(U:List Int)(x1:(Int×Int×Bool)):Nat->Int->Int->List M.Field->Option (M.aD×Int×Bool)
 |0,_,_,_=>none
 |ah+1,v8,C,I=>if(decide (C<x1.1))=true then(eA U v8 8).bind λj=>if(!j.2.2)=true then some ((⟨([]:List M.Field)⟩:M.aD),0,false)else(fQ U j.2.1).bind λJ=>if(!J.2.2)=true then some ((⟨([]:List M.Field)⟩:M.aD),0,false)else(toStr j.1).bind λaj=>(app 24 I ([(⟨dE j.1,J.1⟩:M.Field)])).bind λak=>tM U x1 ah J.2.1 (i64.wrap (C+1)) (I++[(⟨dE j.1,J.1⟩:M.Field)])else(bL (⟨I⟩:M.aD)).bind λai=>some ((⟨I⟩:M.aD),v8,ai)
def Du(j:List Int)(C:Int):Option (M.aD×Int×Bool):=
 (fQ j C).bind λx1=>if(!x1.2.2)=true then some ((⟨([]:List M.Field)⟩:M.aD),0,false)else if(decide (x1.1>6))=true then some ((⟨([]:List M.Field)⟩:M.aD),0,false)else tM j x1 fuel x1.2.1 0 ([]:List M.Field)
def rF(j:List Int):Option (M.aD×Bool):=
 (Du j 0).bind λx1=>if(!x1.2.2)=true then some ((⟨([]:List M.Field)⟩:M.aD),false)else if(x1.2.1 !=(List.length j:Int))=true then some ((⟨([]:List M.Field)⟩:M.aD),false)else some (x1.1,true)
def B3(j:List Int)(J:Int):Option (M.Op×Int×Bool):=
 (fQ j J).bind λx1=>(eA j x1.2.1 100).bind λx3=>(eA j x3.2.1 100).bind λx5=>(eA j x5.2.1 200).bind λx7=>(eA j x7.2.1 100).bind λx9=>if(!x1.2.2)=true then some ((⟨0,(⟨#[]⟩:ByteArray),(⟨0,0,(⟨#[]⟩:ByteArray)⟩:M.Key),(⟨([]:List M.Field)⟩:M.aD),(⟨#[]⟩:ByteArray)⟩:M.Op),0,false)else if(!x3.2.2)=true then some ((⟨0,(⟨#[]⟩:ByteArray),(⟨0,0,(⟨#[]⟩:ByteArray)⟩:M.Key),(⟨([]:List M.Field)⟩:M.aD),(⟨#[]⟩:ByteArray)⟩:M.Op),0,false)else if(!x5.2.2)=true then some ((⟨0,(⟨#[]⟩:ByteArray),(⟨0,0,(⟨#[]⟩:ByteArray)⟩:M.Key),(⟨([]:List M.Field)⟩:M.aD),(⟨#[]⟩:ByteArray)⟩:M.Op),0,false)else if(!x7.2.2)=true then some ((⟨0,(⟨#[]⟩:ByteArray),(⟨0,0,(⟨#[]⟩:ByteArray)⟩:M.Key),(⟨([]:List M.Field)⟩:M.aD),(⟨#[]⟩:ByteArray)⟩:M.Op),0,false)else if(!x9.2.2)=true then some ((⟨0,(⟨#[]⟩:ByteArray),(⟨0,0,(⟨#[]⟩:ByteArray)⟩:M.Key),(⟨([]:List M.Field)⟩:M.aD),(⟨#[]⟩:ByteArray)⟩:M.Op),0,false)else(toStr x3.1).bind λU=>(toStr x9.1).bind λah=>(vZ x5.1).bind λC=>(rF x7.1).bind λI=>some ((⟨x1.1,dE x3.1,C.1,I.1,dE x9.1⟩:M.Op),x9.2.1,true)
def CI(j:M.Op):Option Bool:=
 (aZ j.aHb 1 6).bind λx1=>if x1=true then(bZ j.aC).bind λx4=>if x4=true then if(j.aHb==5)=true then(bL j.aD).bind λx8=>if x8=true then if(j.aHb==6)=true then(bZ j.Field).bind λC=>if C=true then some true else if(j.aHb !=6)=true then some (j.Field.toList==(⟨#[]⟩:ByteArray).toList)else some false else if(j.aHb !=6)=true then some (j.Field.toList==(⟨#[]⟩:ByteArray).toList)else some false else some false else(fV j.Key).bind λI=>if I=true then(bL j.aD).bind λJ=>if J=true then if(j.aHb==6)=true then(bZ j.Field).bind λU=>if U=true then some true else if(j.aHb !=6)=true then some (j.Field.toList==(⟨#[]⟩:ByteArray).toList)else some false else if(j.aHb !=6)=true then some (j.Field.toList==(⟨#[]⟩:ByteArray).toList)else some false else some false else some false else some false else some false
def pW(C:List M.Op):Nat->Int->List Int->Option (List Int)
 |0,_,_=>none
 |U+1,I,J=>if(decide (I<(List.length C:Int)))=true then(idx C I).bind λj=>(CI j).bind λah=>if(!ah)=true then some ([]:List Int)else(bS J j.aHb).bind λai=>(bQ ai (bR j.aC)).bind λaj=>(lM j.Key).bind λak=>(bQ aj ak).bind λal=>(gJ j.aD).bind λao=>(bQ al ao).bind λaq=>(bQ aq (bR j.Field)).bind λar=>pW C U (i64.wrap (I+1)) ar else if(decide ((List.length C:Int)>6))=true then some ([]:List Int)else some J
def wA(j:List M.Op):Option (List Int):=
 (bS ([]:List Int) (List.length j:Int)).bind λx1=>pW j fuel 0 x1
def yO(j:List Int)(C:List Int):Option Bool:=
 (toStr j).bind λx1=>(toStr C).bind λx3=>some ((dE j).toList==(dE C).toList)
def mD(I:List Int)(x1:(Int×Int×Bool)):Nat->Int->Int->List M.Op->Option ((List M.Op)×Bool)
 |0,_,_,_=>none
 |U+1,v5,J,j=>if(decide (J<x1.1))=true then(B3 I v5).bind λC=>if(!C.2.2)=true then some (([]:List M.Op),false)else(app 96 j ([C.1])).bind λaj=>mD I x1 U C.2.1 (i64.wrap (J+1)) (j++[C.1])else(wA j).bind λah=>(yO ah I).bind λai=>if(!ai)=true then some (([]:List M.Op),false)else some (j,true)
def vY(j:List Int):Option ((List M.Op)×Bool):=
 (fQ j 0).bind λx1=>if(!x1.2.2)=true then some (([]:List M.Op),false)else if(decide (x1.1>6))=true then some (([]:List M.Op),false)else mD j x1 fuel x1.2.1 0 ([]:List M.Op)
def oP(I:M.aC)(j:M.Key):Nat->Int->Option Int
 |0,_=>none
 |J+1,C=>if(decide (C<(List.length I.aHF:Int)))=true then(idx I.aHF C).bind λx8=>if((x8.Key.aHb==j.aHb)&&((x8.Key.N==j.N)&&(x8.Key.aHi.toList==j.aHi.toList)))=true then some C else oP I j J (i64.wrap (C+1))else some (-1)
def oA(j:M.aC)(C:M.Key):Option Int:=
 oP j C fuel 0
def rE(p0:M.aC)(I:M.Key)(p2:M.aD)(C:M.aC):Nat->Int->Option (M.aC×Bool)
 |0,_=>none
 |aj+1,j=>if(decide (j<(List.length p0.aHF:Int)))=true then(idx p0.aHF j).bind λak=>(bI ak.Key I).bind λal=>if(decide (al<0))=true then rE p0 I p2 C aj (i64.wrap (j+1))else(AX C.aHF j).bind λaw=>(app 56 ([]:List M.aHV) (List.take j.toNat C.aHF)).bind λax=>(cG p2).bind λU=>(app 56 (List.take j.toNat C.aHF) ([(⟨I,U⟩:M.aHV)])).bind λay=>(app 56 ((List.take j.toNat C.aHF)++[(⟨I,U⟩:M.aHV)]) (List.drop j.toNat C.aHF)).bind λaz=>if(I.aHb==1)=true then(aZ I.N (i64.wrap (p0.aHg+1)) 1000000).bind λah=>if ah=true then some ((⟨C.Name,((List.take j.toNat C.aHF)++[(⟨I,U⟩:M.aHV)])++(List.drop j.toNat C.aHF),I.N⟩:M.aC),true)else some ((⟨C.Name,((List.take j.toNat C.aHF)++[(⟨I,U⟩:M.aHV)])++(List.drop j.toNat C.aHF),C.aHg⟩:M.aC),true)else some ((⟨C.Name,((List.take j.toNat C.aHF)++[(⟨I,U⟩:M.aHV)])++(List.drop j.toNat C.aHF),C.aHg⟩:M.aC),true)else(AX C.aHF j).bind λao=>(app 56 ([]:List M.aHV) (List.take j.toNat C.aHF)).bind λaq=>(cG p2).bind λJ=>(app 56 (List.take j.toNat C.aHF) ([(⟨I,J⟩:M.aHV)])).bind λar=>(app 56 ((List.take j.toNat C.aHF)++[(⟨I,J⟩:M.aHV)]) (List.drop j.toNat C.aHF)).bind λav=>if(I.aHb==1)=true then(aZ I.N (i64.wrap (p0.aHg+1)) 1000000).bind λai=>if ai=true then some ((⟨C.Name,((List.take j.toNat C.aHF)++[(⟨I,J⟩:M.aHV)])++(List.drop j.toNat C.aHF),I.N⟩:M.aC),true)else some ((⟨C.Name,((List.take j.toNat C.aHF)++[(⟨I,J⟩:M.aHV)])++(List.drop j.toNat C.aHF),C.aHg⟩:M.aC),true)else some ((⟨C.Name,((List.take j.toNat C.aHF)++[(⟨I,J⟩:M.aHV)])++(List.drop j.toNat C.aHF),C.aHg⟩:M.aC),true)
def eF(j:M.aC)(J:M.Key)(U:M.aD):Option (M.aC×Bool):=
 (nO j).bind λx1=>if(!x1)=true then(bW j).bind λx4=>some (x4,false)else(fV J).bind λx6=>if(!x6)=true then(bW j).bind λx9=>some (x9,false)else(bL U).bind λaf=>if(!af)=true then(bW j).bind λah=>some (ah,false)else(bW j).bind λC=>(oA j J).bind λI=>if(decide (I>=0))=true then(cG U).bind λai=>(idx C.aHF I).bind λaj=>some ((⟨C.Name,List.set C.aHF I.toNat (⟨aj.Key,ai⟩:M.aHV),C.aHg⟩:M.aC),true)else if(decide ((List.length j.aHF:Int)>=16))=true then some (C,false)else rE j J U C fuel 0
def Aq(j:M.aC)(C:M.Key)(I:M.aD):Option (M.aC×Bool):=
 (oA j C).bind λx1=>if(decide (x1>=0))=true then(bW j).bind λx4=>some (x4,false)else(eF j C I).bind λx6=>some (x6.1,x6.2)
def Ac(C:M.Key)(j:M.gN):Option Bool:=
 (fV C).bind λx1=>if(!x1)=true then some false else if j.aIA=true then(fV j.Low).bind λx5=>if(!x5)=true then some false else if j.aHz=true then(fV j.aH7).bind λx9=>if(!x9)=true then some false else if(!j.aIA)=true then if(!j.aHz)=true then some true else(bI C j.aH7).bind λI=>some (decide (I<=0))else(bI j.Low C).bind λJ=>if(decide (J<=0))=true then if(!j.aHz)=true then some true else(bI C j.aH7).bind λU=>some (decide (U<=0))else some false else if(!j.aIA)=true then if(!j.aHz)=true then some true else(bI C j.aH7).bind λah=>some (decide (ah<=0))else(bI j.Low C).bind λai=>if(decide (ai<=0))=true then if(!j.aHz)=true then some true else(bI C j.aH7).bind λaj=>some (decide (aj<=0))else some false else if j.aHz=true then(fV j.aH7).bind λak=>if(!ak)=true then some false else if(!j.aIA)=true then if(!j.aHz)=true then some true else(bI C j.aH7).bind λal=>some (decide (al<=0))else(bI j.Low C).bind λao=>if(decide (ao<=0))=true then if(!j.aHz)=true then some true else(bI C j.aH7).bind λaq=>some (decide (aq<=0))else some false else if(!j.aIA)=true then if(!j.aHz)=true then some true else(bI C j.aH7).bind λar=>some (decide (ar<=0))else(bI j.Low C).bind λav=>if(decide (av<=0))=true then if(!j.aHz)=true then some true else(bI C j.aH7).bind λaw=>some (decide (aw<=0))else some false
def iL(j:M.aC)(J:M.gN):Nat->Int->List M.aHV->Option (M.aC×Int)
 |0,_,_=>none
 |U+1,I,C=>if(decide (I<(List.length j.aHF:Int)))=true then(idx j.aHF I).bind λaf=>(Ac af.Key J).bind λai=>if(!ai)=true then(zI af).bind λah=>(app 56 C ([ah])).bind λaj=>iL j J U (i64.wrap (I+1)) (C++[ah])else iL j J U (i64.wrap (I+1)) C else some ((⟨j.Name,C,j.aHg⟩:M.aC),i64.wrap ((List.length j.aHF:Int)-(List.length C:Int)))
def tA(j:M.aC)(C:M.gN):Option (M.aC×Int):=
 (nO j).bind λx1=>if(!x1)=true then(bW j).bind λx4=>some (x4,0)else iL j C fuel 0 ([]:List M.aHV)
def C5(j:M.aC)(p1:M.Key)(C:ByteArray):Option (M.aC×Int×Bool):=
 (oA j p1).bind λx1=>if(decide (x1>=0))=true then(idx j.aHF x1).bind λx4=>(lJ x4.aD C).bind λx9=>(iQ x4.aD C (i64.wrap (x9.1+1))).bind λah=>(eF j p1 ah.1).bind λI=>if ah.2=true then some (I.1,i64.wrap (x9.1+1),I.2)else some (I.1,i64.wrap (x9.1+1),false)else(lJ (⟨([]:List M.Field)⟩:M.aD) C).bind λJ=>(iQ (⟨([]:List M.Field)⟩:M.aD) C (i64.wrap (J.1+1))).bind λai=>(eF j p1 ai.1).bind λU=>if ai.2=true then some (U.1,i64.wrap (J.1+1),U.2)else some (U.1,i64.wrap (J.1+1),false)
def Bw(C:M.aC)(j:M.Op):Option (M.aC×Int×Bool):=
 if(j.aHb==1)=true then(eF C j.Key j.aD).bind λx2=>some (x2.1,1,x2.2)else if(j.aHb==2)=true then(Aq C j.Key j.aD).bind λx5=>some (x5.1,1,x5.2)else if(j.aHb==3)=true then(tA C (⟨true,true,j.Key,j.Key⟩:M.gN)).bind λx8=>some (x8.1,x8.2,true)else if(j.aHb==4)=true then(oA C j.Key).bind λJ=>if(decide (J<0))=true then(bW C).bind λah=>some (ah,-1,true)else(bW C).bind λai=>(idx C.aHF J).bind λaj=>some (ai,(List.length aj.aD.aHG:Int),true)else if(j.aHb==5)=true then(tA C (⟨false,false,(⟨0,0,(⟨#[]⟩:ByteArray)⟩:M.Key),(⟨0,0,(⟨#[]⟩:ByteArray)⟩:M.Key)⟩:M.gN)).bind λU=>some (U.1,U.2,true)else(C5 C j.Key j.Field).bind λI=>some (I.1,I.2.1,I.2.2)
def BU(j:M.aHB)(I:M.Op):Option (M.aHB×Int×Bool):=
 (eV j).bind λx1=>(tD j I.aC).bind λx3=>(cA j).bind λx5=>if(!x5)=true then some (x1,0,false)else(CI I).bind λx8=>if(!x8)=true then some (x1,0,false)else if(decide (x3<0))=true then some (x1,0,false)else(idx j.aHP x3).bind λJ=>(Bw J I).bind λC=>(idx x1.aHP x3).bind λaj=>if(!C.2.2)=true then(eV j).bind λU=>some (U,0,false)else(cA (⟨x1.Name,x1.aHA,List.set x1.aHP x3.toNat C.1,x1.aHX⟩:M.aHB)).bind λah=>if(!ah)=true then(eV j).bind λai=>some (ai,0,false)else some ((⟨x1.Name,x1.aHA,List.set x1.aHP x3.toNat C.1,x1.aHX⟩:M.aHB),C.2.1,true)
def wC(p0:M.aHB)(I:List M.Op):Nat->Int->ByteArray->Int->List Int->List M.aC->List M.aN->Option (M.aHB×(List Int)×Bool)
 |0,_,_,_,_,_,_=>none
 |ak+1,J,ah,ai,C,U,ae=>if(decide (J<(List.length I:Int)))=true then(idx I J).bind λal=>(BU (⟨ah,ai,U,ae⟩:M.aHB) al).bind λj=>if(!j.2.2)=true then(eV p0).bind λao=>some (ao,([]:List Int),false)else(app 8 C ([j.2.1])).bind λaq=>wC p0 I ak (i64.wrap (J+1)) j.1.Name j.1.aHA (C++[j.2.1]) j.1.aHP j.1.aHX else some ((⟨ah,ai,U,ae⟩:M.aHB),C,true)
def zP(j:M.aHB)(C:List M.Op):Option (M.aHB×(List Int)×Bool):=
 (eV j).bind λx1=>(cA j).bind λI=>if(!I)=true then some (x1,([]:List Int),false)else if(decide ((List.length C:Int)>6))=true then some (x1,([]:List Int),false)else wC j C fuel 0 x1.Name x1.aHA ([]:List Int) x1.aHP x1.aHX
def sV(x3:((List (List Int))×Int)):Nat->Int->ByteArray->Int->List M.aC->List M.aN->Option (M.aHB×Int)
 |0,_,_,_,_,_=>none
 |ak+1,C,U,ah,I,J=>if(decide (C<(List.length x3.1:Int)))=true then(idx x3.1 C).bind λal=>(vY al).bind λaj=>if(!aj.2)=true then some ((⟨U,ah,I,J⟩:M.aHB),C)else(zP (⟨U,ah,I,J⟩:M.aHB) aj.1).bind λj=>sV x3 ak (i64.wrap (C+1)) j.1.Name j.1.aHA j.1.aHP j.1.aHX else some ((⟨U,ah,I,J⟩:M.aHB),(List.length x3.1:Int))
def AO(j:M.bP):Option (M.aHB×Int):=
 (eV j.aHa).bind λx1=>(Bq j.Log).bind λx3=>sV x3 fuel 0 x1.Name x1.aHA x1.aHP x1.aHX
def wH(j:List Int)(I:Int)(J:List Int):Option ((List Int)×Bool):=
 (app 1 ([]:List Int) j).bind λx1=>(bQ j J).bind λx8=>(yB I J).bind λU=>(bS x8 U).bind λC=>if(decide (I<0))=true then some (j,false)else if(decide ((List.length C:Int)>4000))=true then some (j,false)else some (C,true)
def pP(j:M.bP)(I:List M.Op):Option (M.bP×Bool):=
 (Ap j).bind λx1=>(AO j).bind λx3=>(zP x3.1 I).bind λx5=>(wA I).bind λx7=>if(!x5.2.2)=true then some (x1,false)else if((List.length x7:Int)==0)=true then some (x1,false)else if(x3.2 !=j.aHs)=true then some (x1,false)else(wH j.Log j.aHs x7).bind λC=>if(!C.2)=true then some (x1,false)else some ((⟨x1.aHa,C.1,i64.wrap (j.aHs+1)⟩:M.bP),true)
def iM(j:M.aJ)(C:M.Key)(I:ByteArray)(J:Int):Option (M.aJ×Bool):=
 (uJ j).bind λx1=>(iO j).bind λx3=>if(!x3)=true then some (x1,false)else(app 72 x1.aHW ([(⟨j.aHI,j.aHj,C,I,J⟩:M.bB)])).bind λx6=>(iO (⟨x1.aHI,i64.wrap (j.aHj+1),x1.aHW++[(⟨j.aHI,j.aHj,C,I,J⟩:M.bB)]⟩:M.aJ)).bind λU=>if(!U)=true then(uJ j).bind λae=>some (ae,false)else some ((⟨x1.aHI,i64.wrap (j.aHj+1),x1.aHW++[(⟨j.aHI,j.aHj,C,I,J⟩:M.bB)]⟩:M.aJ),true)
def lT(C:M.aC)(j:M.bB):Option (M.aC×Bool):=
 (oA C j.Key).bind λx1=>if(decide (x1>=0))=true then(idx C.aHF x1).bind λx4=>(iQ x4.aD j.Field j.N).bind λx9=>if(!x9.2)=true then(bW C).bind λah=>some (ah,false)else(eF C j.Key x9.1).bind λI=>some (I.1,I.2)else(iQ (⟨([]:List M.Field)⟩:M.aD) j.Field j.N).bind λJ=>if(!J.2)=true then(bW C).bind λai=>some (ai,false)else(eF C j.Key J.1).bind λU=>some (U.1,U.2)
def kU(C:List M.bB):Nat->Int->ByteArray->Int->List M.aHV->Option M.aC
 |0,_,_,_,_=>none
 |ai+1,I,U,af,J=>if(decide (I<(List.length C:Int)))=true then(idx C I).bind λaj=>(lT (⟨U,J,af⟩:M.aC) aj).bind λj=>if j.2=true then kU C ai (i64.wrap (I+1)) j.1.Name j.1.aHg j.1.aHF else kU C ai (i64.wrap (I+1)) U af J else some (⟨U,J,af⟩:M.aC)
def yT(j:M.aC)(C:List M.bB):Option M.aC:=
 (bW j).bind λx1=>kU C fuel 0 x1.Name x1.aHg x1.aHF
def Be(j:M.aE):Option M.aC:=
 (yT j.aHa j.aHY.aJ.aHW).bind λx1=>some x1
def mW(j:M.aE)(C:M.Key)(I:ByteArray)(J:Int):Option (M.aE×Bool):=
 (xU j).bind λx1=>(iM j.aHY.aJ C I J).bind λx3=>(Be j).bind λx5=>(lT x5 (⟨0,0,C,I,J⟩:M.bB)).bind λx7=>(oY j).bind λx9=>if(!x9)=true then some (x1,false)else if(!x3.2)=true then some (x1,false)else if(!x7.2)=true then some (x1,false)else some ((⟨x1.aHa,x1.aHw,(⟨x3.1,x1.aHY.aHr,x1.aHY.aHe⟩:M.aHY)⟩:M.aE),true)
def mL(I:M.aF)(C:Int)(x1:M.aF):Nat->Int->Option (M.aF×Bool)
 |0,_=>none
 |ai+1,j=>if(decide (j<(List.length I.aHC:Int)))=true then(idx I.aHC j).bind λaj=>if(decide (aj.aHA<C))=true then mL I C x1 ai (i64.wrap (j+1))else(AX x1.aHC j).bind λar=>(app 32 ([]:List M.aHM) (List.take j.toNat x1.aHC)).bind λav=>(app 32 (List.take j.toNat x1.aHC) ([(⟨C,([]:List M.aHU)⟩:M.aHM)])).bind λaw=>(app 32 ((List.take j.toNat x1.aHC)++[(⟨C,([]:List M.aHU)⟩:M.aHM)]) (List.drop j.toNat x1.aHC)).bind λax=>(cM I).bind λak=>if(!ak)=true then(dD I).bind λal=>some (al,false)else(cM (⟨((List.take j.toNat x1.aHC)++[(⟨C,([]:List M.aHU)⟩:M.aHM)])++(List.drop j.toNat x1.aHC)⟩:M.aF)).bind λao=>if(!ao)=true then(dD I).bind λaq=>some (aq,false)else some ((⟨((List.take j.toNat x1.aHC)++[(⟨C,([]:List M.aHU)⟩:M.aHM)])++(List.drop j.toNat x1.aHC)⟩:M.aF),true)else(AX x1.aHC j).bind λay=>(app 32 ([]:List M.aHM) (List.take j.toNat x1.aHC)).bind λaz=>(app 32 (List.take j.toNat x1.aHC) ([(⟨C,([]:List M.aHU)⟩:M.aHM)])).bind λba=>(app 32 ((List.take j.toNat x1.aHC)++[(⟨C,([]:List M.aHU)⟩:M.aHM)]) (List.drop j.toNat x1.aHC)).bind λbd=>(cM I).bind λJ=>if(!J)=true then(dD I).bind λU=>some (U,false)else(cM (⟨((List.take j.toNat x1.aHC)++[(⟨C,([]:List M.aHU)⟩:M.aHM)])++(List.drop j.toNat x1.aHC)⟩:M.aF)).bind λaf=>if(!af)=true then(dD I).bind λah=>some (ah,false)else some ((⟨((List.take j.toNat x1.aHC)++[(⟨C,([]:List M.aHU)⟩:M.aHM)])++(List.drop j.toNat x1.aHC)⟩:M.aF),true)
def pF(j:M.aF)(C:Int):Option (M.aF×Bool):=
 (dD j).bind λx1=>mL j C x1 fuel 0
def gD(C:M.aQ)(j:(M.aHD×Bool))(bh:ByteArray)(bj:Int)(ba:Int)(aw:List M.aC)(ax:List M.aN)(ay:List Int):Nat->Int->ByteArray->Int->Int->Int->Int->Int->Int->Int->Int->List M.aHV->List M.bB->Option (Int×Int×M.aHD)
 |0,_,_,_,_,_,_,_,_,_,_,_,_=>none
 |bw+1,bd,ai,aj,ak,al,ao,aq,ar,aa,ae,af,ah=>if(decide (bd>0))=true then(dN (⟨C.b,aa,ae⟩:M.aQ)).bind λbl=>(dC (⟨C.b,bl.1,bl.2.1⟩:M.aQ)).bind λbm=>(aG (⟨C.b,bm.1,bm.2.1⟩:M.aQ) 6).bind λbn=>(mW (⟨(⟨ai,af,aj⟩:M.aC),ak,(⟨(⟨al,ao,ah⟩:M.aJ),aq,ar⟩:M.aHY)⟩:M.aE) bl.2.2 bm.2.2 bn.2.2).bind λI=>gD C j bh bj ba aw ax ay bw (i64.wrap (bd-1)) I.1.aHa.Name I.1.aHa.aHg I.1.aHw I.1.aHY.aJ.aHI I.1.aHY.aJ.aHj I.1.aHY.aHr I.1.aHY.aHe bn.1 bn.2.1 I.1.aHa.aHF I.1.aHY.aJ.aHW else(cF (⟨C.b,aa,ae⟩:M.aQ) 2).bind λJ=>if J.2.2=true then(aG (⟨C.b,J.1,J.2.1⟩:M.aQ) 3).bind λU=>(pF j.1.aHC (i64.wrap (1+U.2.2))).bind λbu=>(aG (⟨C.b,U.1,U.2.1⟩:M.aQ) 50).bind λbo=>(cF (⟨C.b,bo.1,bo.2.1⟩:M.aQ) 4).bind λbq=>some (bq.1,bq.2.1,(⟨j.1.aHL,j.1.Top,(⟨j.1.aG9.aHL,j.1.aG9.aHf,j.1.aG9.aHm,i64.wrap (1+U.2.2)⟩:M.aG9),bu.1,(⟨(⟨bh,bj,aw,ax⟩:M.aHB),ay,ba⟩:M.bP),(⟨(⟨ai,af,aj⟩:M.aC),ak,(⟨(⟨al,ao,ah⟩:M.aJ),aq,ar⟩:M.aHY)⟩:M.aE),bo.2.2,bq.2.2⟩:M.aHD))else(aG (⟨C.b,J.1,J.2.1⟩:M.aQ) 50).bind λbr=>(cF (⟨C.b,br.1,br.2.1⟩:M.aQ) 4).bind λbt=>some (bt.1,bt.2.1,(⟨j.1.aHL,j.1.Top,j.1.aG9,j.1.aHC,(⟨(⟨bh,bj,aw,ax⟩:M.aHB),ay,ba⟩:M.bP),(⟨(⟨ai,af,aj⟩:M.aC),ak,(⟨(⟨al,ao,ah⟩:M.aJ),aq,ar⟩:M.aHY)⟩:M.aE),br.2.2,bt.2.2⟩:M.aHD))
def gG(I:M.aQ)(j:(M.aHD×Bool)):Nat->Int->ByteArray->Int->Int->Int->Int->List M.aC->List M.aN->List Int->Option (Int×Int×M.aHD)
 |0,_,_,_,_,_,_,_,_,_=>none
 |ax+1,v7,aq,ar,ak,aa,ae,ah,ai,aj=>if(decide (v7>0))=true then(dN (⟨I.b,aa,ae⟩:M.aQ)).bind λU=>(lD (⟨I.b,U.1,U.2.1⟩:M.aQ)).bind λaw=>(pP (⟨(⟨aq,ar,ah,ai⟩:M.aHB),aj,ak⟩:M.bP) ([(⟨1,(⟨#[110,111,116,101,115]⟩:ByteArray),U.2.2,aw.2.2,(⟨#[]⟩:ByteArray)⟩:M.Op)])).bind λC=>gG I j ax (i64.wrap (v7-1)) C.1.aHa.Name C.1.aHa.aHA C.1.aHs aw.1 aw.2.1 C.1.aHa.aHP C.1.aHa.aHX C.1.Log else(aG (⟨I.b,aa,ae⟩:M.aQ) 3).bind λJ=>gD I j aq ar ak ah ai aj fuel J.2.2 j.1.aE.aHa.Name j.1.aE.aHa.aHg j.1.aE.aHw j.1.aE.aHY.aJ.aHI j.1.aE.aHY.aJ.aHj j.1.aE.aHY.aHr j.1.aE.aHY.aHe J.1 J.2.1 j.1.aE.aHa.aHF j.1.aE.aHY.aJ.aHW
def wN(C:M.aQ):Option (Int×Int×M.aHD):=
 (nP C).bind λx4=>((cF (⟨C.b,x4.1,x4.2.1⟩:M.aQ) 3).bind λI=>if I.2.2=true then(nP (⟨C.b,I.1,I.2.1⟩:M.aQ)).bind λJ=>some (J.2.2,J.1,J.2.1)else some (x4.2.2,I.1,I.2.1)).bind λU=>(aG (⟨C.b,U.2.1,U.2.2⟩:M.aQ) 3).bind λai=>(tB x4.2.2 U.1 (i64.wrap (1+ai.2.2))).bind λj=>(aG (⟨C.b,ai.1,ai.2.1⟩:M.aQ) 4).bind λaj=>gG C j fuel aj.2.2 j.1.bP.aHa.Name j.1.bP.aHa.aHA j.1.bP.aHs aj.1 aj.2.1 j.1.bP.aHa.aHP j.1.bP.aHa.aHX j.1.bP.Log
def xQ(j:M.aQ):Option (Int×Int×ByteArray):=
 (eC j ([(⟨#[105,110,100,101,120]⟩:ByteArray),(⟨#[115,116,121,108,101]⟩:ByteArray),(⟨#[99,111,100,101]⟩:ByteArray),(⟨#[100,97,116,97]⟩:ByteArray)])).bind λx4=>some (x4.1,x4.2.1,x4.2.2)
def rK(U:M.aQ)(p1:Int):Nat->Int->List Int->Int->Int->Option (Int×Int×(List Int))
 |0,_,_,_,_=>none
 |ah+1,v6,C,I,J=>if(decide (v6<p1))=true then(uH (⟨U.b,I,J⟩:M.aQ)).bind λj=>(app 1 C ([IntKind.u8.wrap j.2.2])).bind λai=>rK U p1 ah (i64.wrap (v6+1)) (C++[IntKind.u8.wrap j.2.2]) j.1 j.2.1 else some (I,J,C)
def At(j:M.aQ)(C:Int):Option (Int×Int×(List Int)):=
 rK j C fuel 0 ([]:List Int) j.i j.h
def sR(C:M.aQ):Option (Int×Int×M.aHH):=
 (aG C 3).bind λx4=>(aG (⟨C.b,x4.1,x4.2.1⟩:M.aQ) 4).bind λx6=>(aG (⟨C.b,x6.1,x6.2.1⟩:M.aQ) 6).bind λx8=>(At (⟨C.b,x8.1,x8.2.1⟩:M.aQ) x8.2.2).bind λJ=>(cF (⟨C.b,J.1,J.2.1⟩:M.aQ) 2).bind λI=>(aG (⟨C.b,I.1,I.2.1⟩:M.aQ) 14).bind λj=>if(j.2.2==0)=true then(bN (⟨C.b,j.1,j.2.1⟩:M.aQ) ([0,4,5])).bind λU=>some (U.1,U.2.1,(⟨U.2.2,200,i64.wrap (1+x6.2.2),J.2.2,I.2.2⟩:M.aHH))else if(j.2.2==1)=true then(bN (⟨C.b,j.1,j.2.1⟩:M.aQ) ([-1,0,404,999,1000])).bind λai=>some (ai.1,ai.2.1,(⟨i64.wrap (1+x4.2.2),ai.2.2,i64.wrap (1+x6.2.2),J.2.2,I.2.2⟩:M.aHH))else if(j.2.2==2)=true then(bN (⟨C.b,j.1,j.2.1⟩:M.aQ) ([60,61])).bind λaj=>(At (⟨C.b,aj.1,aj.2.1⟩:M.aQ) aj.2.2).bind λak=>some (ak.1,ak.2.1,(⟨i64.wrap (1+x4.2.2),200,i64.wrap (1+x6.2.2),ak.2.2,I.2.2⟩:M.aHH))else some (j.1,j.2.1,(⟨i64.wrap (1+x4.2.2),200,i64.wrap (1+x6.2.2),J.2.2,I.2.2⟩:M.aHH))
def oT(j:M.aF)(p1:Int)(C:ByteArray)(I:ByteArray)(p4:M.aHH):Option (M.aF×Bool):=
 (dD j).bind λx1=>(wQ j p1).bind λx3=>if(decide (x3<0))=true then some (x1,false)else(uI p4).bind λx6=>(idx x1.aHC x3).bind λx8=>(Al x8 C I).bind λJ=>if(decide (J>=0))=true then(idx x8.aHS J).bind λaq=>(cM j).bind λU=>if(!U)=true then(dD j).bind λaf=>some (af,false)else(cM (⟨List.set x1.aHC x3.toNat (⟨x8.aHA,List.set x8.aHS J.toNat (⟨C,I,x6⟩:M.aHU)⟩:M.aHM)⟩:M.aF)).bind λah=>if(!ah)=true then(dD j).bind λai=>some (ai,false)else some ((⟨List.set x1.aHC x3.toNat (⟨x8.aHA,List.set x8.aHS J.toNat (⟨C,I,x6⟩:M.aHU)⟩:M.aHM)⟩:M.aF),true)else(app 88 x8.aHS ([(⟨C,I,x6⟩:M.aHU)])).bind λar=>(cM j).bind λaj=>if(!aj)=true then(dD j).bind λak=>some (ak,false)else(cM (⟨List.set x1.aHC x3.toNat (⟨x8.aHA,x8.aHS++[(⟨C,I,x6⟩:M.aHU)]⟩:M.aHM)⟩:M.aF)).bind λal=>if(!al)=true then(dD j).bind λao=>some (ao,false)else some ((⟨List.set x1.aHC x3.toNat (⟨x8.aHA,x8.aHS++[(⟨C,I,x6⟩:M.aHU)]⟩:M.aHM)⟩:M.aF),true)
def pC(j:M.aQ):Nat->Int->Int->Int->List M.aHM->Option (Int×Int×M.aF)
 |0,_,_,_,_=>none
 |ao+1,ah,aa,ae,af=>if(decide (ah>0))=true then(aG (⟨j.b,aa,ae⟩:M.aQ) 4).bind λC=>(nP (⟨j.b,C.1,C.2.1⟩:M.aQ)).bind λI=>(xQ (⟨j.b,I.1,I.2.1⟩:M.aQ)).bind λJ=>(sR (⟨j.b,J.1,J.2.1⟩:M.aQ)).bind λU=>(oT (⟨af⟩:M.aF) (i64.wrap (1+C.2.2)) I.2.2 J.2.2 U.2.2).bind λaq=>pC j ao (i64.wrap (ah-1)) U.1 U.2.1 aq.1.aHC else some (aa,ae,(⟨af⟩:M.aF))
def tH(j:M.aQ):Nat->Int->Int->Int->List M.aHM->Option (Int×Int×M.aF)
 |0,_,_,_,_=>none
 |aj+1,v4,J,U,af=>if(decide (v4>0))=true then(aG (⟨j.b,J,U⟩:M.aQ) 4).bind λC=>(pF (⟨af⟩:M.aF) (i64.wrap (1+C.2.2))).bind λak=>tH j aj (i64.wrap (v4-1)) C.1 C.2.1 ak.1.aHC else(aG (⟨j.b,J,U⟩:M.aQ) 5).bind λI=>pC j fuel I.2.2 I.1 I.2.1 af
def B8(j:M.aQ):Option (Int×Int×M.aF):=
 (aG j 3).bind λx4=>tH j fuel x4.2.2 x4.1 x4.2.1 ([]:List M.aHM)
def tL(j:(Int×Int×Int)):Nat->Int->List M.aHM->Option (Int×Int×M.aF)
 |0,_,_=>none
 |J+1,C,I=>if(decide (C<=4))=true then(pF (⟨I⟩:M.aF) C).bind λU=>tL j J (i64.wrap (C+1)) U.1.aHC else some (j.1,j.2.1,(⟨I⟩:M.aF))
def Ce(C:M.aQ):Option (Int×Int×M.aF):=
 (B8 C).bind λx4=>(aG (⟨C.b,x4.1,x4.2.1⟩:M.aQ) 12).bind λj=>if(j.2.2==0)=true then(bN (⟨C.b,j.1,j.2.1⟩:M.aQ) ([0,1,9,1000000000001])).bind λI=>(app 32 x4.2.2.aHC ([(⟨I.2.2,([]:List M.aHU)⟩:M.aHM)])).bind λaj=>some (I.1,I.2.1,(⟨x4.2.2.aHC++[(⟨I.2.2,([]:List M.aHU)⟩:M.aHM)]⟩:M.aF))else if(j.2.2==1)=true then if(decide ((List.length x4.2.2.aHC:Int)>0))=true then(idx x4.2.2.aHC 0).bind λai=>(eC (⟨C.b,j.1,j.2.1⟩:M.aQ) ([(⟨#[105,110,100,101,120]⟩:ByteArray),(⟨#[]⟩:ByteArray),(⟨#[122,122]⟩:ByteArray)])).bind λJ=>(sR (⟨C.b,J.1,J.2.1⟩:M.aQ)).bind λU=>(app 88 ai.aHS ([(⟨(⟨#[98,97,110,107]⟩:ByteArray),J.2.2,U.2.2⟩:M.aHU)])).bind λak=>some (U.1,U.2.1,(⟨List.set x4.2.2.aHC (0:Int).toNat (⟨ai.aHA,ai.aHS++[(⟨(⟨#[98,97,110,107]⟩:ByteArray),J.2.2,U.2.2⟩:M.aHU)]⟩:M.aHM)⟩:M.aF))else some (j.1,j.2.1,x4.2.2)else if(j.2.2==2)=true then tL j fuel 1 x4.2.2.aHC else some (j.1,j.2.1,x4.2.2)
def yF(j:M.aQ):Option (Int×Int×Int):=
 (aG j 9).bind λx4=>(bN (⟨j.b,x4.1,x4.2.1⟩:M.aQ) ([0,1,2,-1,255,256,-1000000000000,1000000000000,x4.2.2])).bind λx6=>some (x6.1,x6.2.1,x6.2.2)
def BZ(C:M.aQ):Option (Int×Int×M.Key):=
 (eC C ([(⟨#[]⟩:ByteArray),(⟨#[97]⟩:ByteArray),(⟨#[97,98]⟩:ByteArray),(⟨#[98]⟩:ByteArray),(⟨#[122,57]⟩:ByteArray),(⟨#[97,98,99,100,101,102,103,104,105,106,107,108]⟩:ByteArray)])).bind λx4=>(aG (⟨C.b,x4.1,x4.2.1⟩:M.aQ) 3).bind λj=>if(j.2.2==0)=true then some (j.1,j.2.1,(⟨2,0,x4.2.2⟩:M.Key))else if(j.2.2==1)=true then(yF (⟨C.b,j.1,j.2.1⟩:M.aQ)).bind λI=>some (I.1,I.2.1,(⟨3,I.2.2,x4.2.2⟩:M.Key))else(yF (⟨C.b,j.1,j.2.1⟩:M.aQ)).bind λJ=>some (J.1,J.2.1,(⟨1,J.2.2,(⟨#[]⟩:ByteArray)⟩:M.Key))
def pX(j:M.aQ):Nat->Int->ByteArray->Int->Int->Int->List M.aHV->Option (Int×Int×M.aC)
 |0,_,_,_,_,_,_=>none
 |av+1,v6,J,U,aa,ae,I=>if(decide (v6>0))=true then(dN (⟨j.b,aa,ae⟩:M.aQ)).bind λak=>(lD (⟨j.b,ak.1,ak.2.1⟩:M.aQ)).bind λal=>(eF (⟨J,I,U⟩:M.aC) ak.2.2 al.2.2).bind λao=>pX j av (i64.wrap (v6-1)) ao.1.Name ao.1.aHg al.1 al.2.1 ao.1.aHF else(cF (⟨j.b,aa,ae⟩:M.aQ) 8).bind λC=>if C.2.2=true then(BZ (⟨j.b,C.1,C.2.1⟩:M.aQ)).bind λaq=>(lD (⟨j.b,aq.1,aq.2.1⟩:M.aQ)).bind λar=>(eF (⟨J,I,U⟩:M.aC) aq.2.2 ar.2.2).bind λaw=>some (ar.1,ar.2.1,aw.1)else some (C.1,C.2.1,(⟨J,I,U⟩:M.aC))
def rT(j:M.aQ)(C:ByteArray):Option (Int×Int×M.aC):=
 (bN j ([0,2,4,6])).bind λx5=>pX j fuel x5.2.2 C 0 x5.1 x5.2.1 ([]:List M.aHV)
def pQ(C:M.aHB)(I:M.lW):Nat->Int->Option Int
 |0,_=>none
 |J+1,j=>if(decide (j<(List.length C.aHX:Int)))=true then(idx C.aHX j).bind λx8=>if(x8.aC.toList==I.aC.toList)=true then if(x8.Field.toList==I.Field.toList)=true then some j else pQ C I J (i64.wrap (j+1))else pQ C I J (i64.wrap (j+1))else some (-1)
def C4(j:M.aHB)(C:M.lW):Option Int:=
 pQ j C fuel 0
def zV(j:M.aHB)(p1:ByteArray)(J:List M.aC):Nat->Int->List M.aN->Option M.aHB
 |0,_,_=>none
 |ah+1,I,C=>if(decide (I<(List.length j.aHX:Int)))=true then(idx j.aHX I).bind λU=>if(!(U.aC.toList==p1.toList))=true then(app 32 C ([U])).bind λai=>zV j p1 J ah (i64.wrap (I+1)) (C++[U])else zV j p1 J ah (i64.wrap (I+1)) C else some (⟨j.Name,j.aHA,J,C⟩:M.aHB)
def Ah(j:M.aHB)(I:ByteArray):Nat->Int->List M.aC->Option M.aHB
 |0,_,_=>none
 |U+1,J,C=>if(decide (J<(List.length j.aHP:Int)))=true then(idx j.aHP J).bind λaf=>if(!(af.Name.toList==I.toList))=true then(bW af).bind λah=>(app 48 C ([ah])).bind λai=>Ah j I U (i64.wrap (J+1)) (C++[ah])else Ah j I U (i64.wrap (J+1)) C else zV j I C fuel 0 ([]:List M.aN)
def E8(j:M.aHB)(C:ByteArray):Option M.aHB:=
 Ah j C fuel 0 ([]:List M.aC)
def pL(I:M.aHB)(C:M.lW)(x1:M.aHB):Nat->Int->Option (M.aHB×Bool)
 |0,_=>none
 |ai+1,j=>(if(decide (j<(List.length I.aHP:Int)))=true then(idx I.aHP j).bind λaj=>some (Op.bytesLess aj.Name.toList C.aC.toList)else some false).bind λak=>if ak=true then pL I C x1 ai (i64.wrap (j+1))else(AX x1.aHP j).bind λal=>(app 48 ([]:List M.aC) (List.take j.toNat x1.aHP)).bind λao=>(app 48 (List.take j.toNat x1.aHP) ([(⟨C.aC,([]:List M.aHV),0⟩:M.aC)])).bind λaq=>(app 48 ((List.take j.toNat x1.aHP)++[(⟨C.aC,([]:List M.aHV),0⟩:M.aC)]) (List.drop j.toNat x1.aHP)).bind λar=>((cA I).bind λJ=>if(!J)=true then some true else(cA (⟨x1.Name,x1.aHA,((List.take j.toNat x1.aHP)++[(⟨C.aC,([]:List M.aHV),0⟩:M.aC)])++(List.drop j.toNat x1.aHP),x1.aHX⟩:M.aHB)).bind λU=>some (!U)).bind λaf=>if af=true then(eV I).bind λah=>some (ah,false)else some ((⟨x1.Name,x1.aHA,((List.take j.toNat x1.aHP)++[(⟨C.aC,([]:List M.aHV),0⟩:M.aC)])++(List.drop j.toNat x1.aHP),x1.aHX⟩:M.aHB),true)
def mJ(C:M.aHB)(j:M.lW):Option (M.aHB×Bool):=
 (eV C).bind λx1=>(tD C j.aC).bind λx3=>(C4 C j).bind λx5=>(if(j.aHb==1)=true then some (decide (x3<0))else some false).bind λx7=>if x7=true then pL C j x1 fuel 0 else(if(j.aHb==2)=true then some (decide (x3>=0))else some false).bind λJ=>if J=true then(E8 C j.aC).bind λI=>((cA C).bind λU=>if(!U)=true then some true else(cA I).bind λah=>some (!ah)).bind λai=>if ai=true then(eV C).bind λaj=>some (aj,false)else some (I,true)else(if(j.aHb==3)=true then if(decide (x3>=0))=true then some (decide (x5<0))else some false else some false).bind λak=>if ak=true then(app 32 x1.aHX ([(⟨j.aC,j.Field⟩:M.aN)])).bind λba=>((cA C).bind λal=>if(!al)=true then some true else(cA (⟨x1.Name,x1.aHA,x1.aHP,x1.aHX++[(⟨j.aC,j.Field⟩:M.aN)]⟩:M.aHB)).bind λao=>some (!ao)).bind λaq=>if aq=true then(eV C).bind λar=>some (ar,false)else some ((⟨x1.Name,x1.aHA,x1.aHP,x1.aHX++[(⟨j.aC,j.Field⟩:M.aN)]⟩:M.aHB),true)else(if(j.aHb==4)=true then some (decide (x5>=0))else some false).bind λav=>if av=true then(AX x1.aHX x5).bind λbd=>(Bd x1.aHX (i64.wrap (x5+1))).bind λbf=>(app 32 (List.take x5.toNat x1.aHX) (List.drop (i64.wrap (x5+1)).toNat x1.aHX)).bind λbg=>((cA C).bind λaw=>if(!aw)=true then some true else(cA (⟨x1.Name,x1.aHA,x1.aHP,(List.take x5.toNat x1.aHX)++(List.drop (i64.wrap (x5+1)).toNat x1.aHX)⟩:M.aHB)).bind λax=>some (!ax)).bind λay=>if ay=true then(eV C).bind λaz=>some (az,false)else some ((⟨x1.Name,x1.aHA,x1.aHP,(List.take x5.toNat x1.aHX)++(List.drop (i64.wrap (x5+1)).toNat x1.aHX)⟩:M.aHB),true)else some (x1,false)
def Ck(j:M.aQ):Option (Int×Int×M.aHB):=
 (rT j (⟨#[110,111,116,101,115]⟩:ByteArray)).bind λx4=>(rT (⟨j.b,x4.1,x4.2.1⟩:M.aQ) (⟨#[116,97,103,115]⟩:ByteArray)).bind λx6=>(aAO 48 ([x4.2.2,x6.2.2])).bind λx8=>(cF (⟨j.b,x6.1,x6.2.1⟩:M.aQ) 2).bind λC=>if C.2.2=true then(rT (⟨j.b,C.1,C.2.1⟩:M.aQ) (⟨#[108,105,115,116,115]⟩:ByteArray)).bind λI=>(app 48 ([I.2.2]) ([x4.2.2,x6.2.2])).bind λao=>(cF (⟨j.b,I.1,I.2.1⟩:M.aQ) 3).bind λJ=>if J.2.2=true then(dC (⟨j.b,J.1,J.2.1⟩:M.aQ)).bind λai=>(mJ (⟨(⟨#[97,112,112]⟩:ByteArray),1,[I.2.2]++[x4.2.2,x6.2.2],([]:List M.aN)⟩:M.aHB) (⟨3,(⟨#[110,111,116,101,115]⟩:ByteArray),ai.2.2⟩:M.lW)).bind λak=>some (ai.1,ai.2.1,ak.1)else some (J.1,J.2.1,(⟨(⟨#[97,112,112]⟩:ByteArray),1,[I.2.2]++[x4.2.2,x6.2.2],([]:List M.aN)⟩:M.aHB))else(cF (⟨j.b,C.1,C.2.1⟩:M.aQ) 3).bind λU=>if U.2.2=true then(dC (⟨j.b,U.1,U.2.1⟩:M.aQ)).bind λaj=>(mJ (⟨(⟨#[97,112,112]⟩:ByteArray),1,[x4.2.2,x6.2.2],([]:List M.aN)⟩:M.aHB) (⟨3,(⟨#[110,111,116,101,115]⟩:ByteArray),aj.2.2⟩:M.lW)).bind λal=>some (aj.1,aj.2.1,al.1)else some (U.1,U.2.1,(⟨(⟨#[97,112,112]⟩:ByteArray),1,[x4.2.2,x6.2.2],([]:List M.aN)⟩:M.aHB))
def DM(j:M.aQ):Option (Int×Int×M.Op):=
 (aG j 6).bind λx4=>(eC (⟨j.b,x4.1,x4.2.1⟩:M.aQ) ([(⟨#[110,111,116,101,115]⟩:ByteArray),(⟨#[116,97,103,115]⟩:ByteArray),(⟨#[110,111,116,101,115]⟩:ByteArray),(⟨#[108,105,115,116,115]⟩:ByteArray)])).bind λx6=>(dN (⟨j.b,x6.1,x6.2.1⟩:M.aQ)).bind λx8=>if((i64.wrap (1+x4.2.2))==1)=true then(lD (⟨j.b,x8.1,x8.2.1⟩:M.aQ)).bind λI=>some (I.1,I.2.1,(⟨i64.wrap (1+x4.2.2),x6.2.2,x8.2.2,I.2.2,(⟨#[]⟩:ByteArray)⟩:M.Op))else if((i64.wrap (1+x4.2.2))==2)=true then(lD (⟨j.b,x8.1,x8.2.1⟩:M.aQ)).bind λJ=>some (J.1,J.2.1,(⟨i64.wrap (1+x4.2.2),x6.2.2,x8.2.2,J.2.2,(⟨#[]⟩:ByteArray)⟩:M.Op))else if((i64.wrap (1+x4.2.2))==6)=true then(dC (⟨j.b,x8.1,x8.2.1⟩:M.aQ)).bind λU=>some (U.1,U.2.1,(⟨i64.wrap (1+x4.2.2),x6.2.2,x8.2.2,(⟨([]:List M.Field)⟩:M.aD),U.2.2⟩:M.Op))else if((i64.wrap (1+x4.2.2))==5)=true then(cF (⟨j.b,x8.1,x8.2.1⟩:M.aQ) 2).bind λC=>if C.2.2=true then(dN (⟨j.b,C.1,C.2.1⟩:M.aQ)).bind λai=>some (ai.1,ai.2.1,(⟨1,x6.2.2,ai.2.2,(⟨([]:List M.Field)⟩:M.aD),(⟨#[]⟩:ByteArray)⟩:M.Op))else some (C.1,C.2.1,(⟨i64.wrap (1+x4.2.2),x6.2.2,(⟨0,0,(⟨#[]⟩:ByteArray)⟩:M.Key),(⟨([]:List M.Field)⟩:M.aD),(⟨#[]⟩:ByteArray)⟩:M.Op))else some (x8.1,x8.2.1,(⟨i64.wrap (1+x4.2.2),x6.2.2,x8.2.2,(⟨([]:List M.Field)⟩:M.aD),(⟨#[]⟩:ByteArray)⟩:M.Op))
def vQ(U:M.aQ):Nat->Int->List M.Op->Int->Int->Option (Int×Int×(List M.Op))
 |0,_,_,_,_=>none
 |ah+1,v6,C,I,J=>if(decide (v6>0))=true then(DM (⟨U.b,I,J⟩:M.aQ)).bind λj=>(app 96 C ([j.2.2])).bind λai=>vQ U ah (i64.wrap (v6-1)) (C++[j.2.2]) j.1 j.2.1 else some (I,J,C)
def Df(C:M.aQ)(I:Int):Option (Int×Int×(List M.Op)):=
 (aG C (i64.wrap (I+1))).bind λj=>vQ C fuel j.2.2 ([]:List M.Op) j.1 j.2.1
def rO(p0:M.aQ):Nat->Int->ByteArray->Int->Int->Int->Int->List M.aC->List M.aN->List Int->Option (Int×Int×M.bP)
 |0,_,_,_,_,_,_,_,_,_=>none
 |ar+1,v4,ak,al,ao,I,J,U,ah,ai=>if(decide (v4>0))=true then(Df (⟨p0.b,I,J⟩:M.aQ) 3).bind λC=>(pP (⟨(⟨ak,al,U,ah⟩:M.aHB),ai,ao⟩:M.bP) C.2.2).bind λj=>rO p0 ar (i64.wrap (v4-1)) j.1.aHa.Name j.1.aHa.aHA j.1.aHs C.1 C.2.1 j.1.aHa.aHP j.1.aHa.aHX j.1.Log else some (I,J,(⟨(⟨ak,al,U,ah⟩:M.aHB),ai,ao⟩:M.bP))
def Bv(C:M.aQ):Option (Int×Int×M.bP):=
 (Ck C).bind λx4=>(aG (⟨C.b,x4.1,x4.2.1⟩:M.aQ) 5).bind λj=>rO C fuel j.2.2 x4.2.2.Name x4.2.2.aHA 0 j.1 j.2.1 x4.2.2.aHP x4.2.2.aHX ([]:List Int)
def Ct(I:M.aQ)(C:List Int):Option (Int×Int×(List Int)):=
 (app 1 ([]:List Int) C).bind λx5=>(aG I 6).bind λj=>if(j.2.2==0)=true then if(decide ((List.length C:Int)>0))=true then(aG (⟨I.b,j.1,j.2.1⟩:M.aQ) (List.length C:Int)).bind λJ=>(aG (⟨I.b,J.1,J.2.1⟩:M.aQ) 256).bind λai=>(idx C J.2.2).bind λaj=>some (ai.1,ai.2.1,List.set C J.2.2.toNat (IntKind.u8.wrap ai.2.2))else some (j.1,j.2.1,C)else if(j.2.2==1)=true then(aG (⟨I.b,j.1,j.2.1⟩:M.aQ) (i64.wrap ((List.length C:Int)+1))).bind λU=>(AX C U.2.2).bind λak=>some (U.1,U.2.1,List.take U.2.2.toNat C)else if(j.2.2==2)=true then(bN (⟨I.b,j.1,j.2.1⟩:M.aQ) ([0,1,128,255])).bind λah=>(app 1 C ([IntKind.u8.wrap ah.2.2])).bind λal=>some (ah.1,ah.2.1,C++[IntKind.u8.wrap ah.2.2])else some (j.1,j.2.1,C)
def Cl(I:M.aQ):Option (Int×Int×M.bP):=
 (Bv I).bind λx4=>(aG (⟨I.b,x4.1,x4.2.1⟩:M.aQ) 10).bind λj=>if(j.2.2==0)=true then some (j.1,j.2.1,(⟨x4.2.2.aHa,x4.2.2.Log,i64.wrap (x4.2.2.aHs+1)⟩:M.bP))else if(j.2.2==1)=true then(Ct (⟨I.b,j.1,j.2.1⟩:M.aQ) x4.2.2.Log).bind λC=>some (C.1,C.2.1,(⟨x4.2.2.aHa,C.2.2,x4.2.2.aHs⟩:M.bP))else if(j.2.2==2)=true then(wH x4.2.2.Log x4.2.2.aHs ([1,2])).bind λJ=>some (j.1,j.2.1,(⟨x4.2.2.aHa,J.1,i64.wrap (x4.2.2.aHs+1)⟩:M.bP))else some (j.1,j.2.1,x4.2.2)
def uO(j:M.aHO)(I:Int):Nat->Int->Option Int
 |0,_=>none
 |J+1,C=>if(decide (C<(List.length j.aO:Int)))=true then(idx j.aO C).bind λx7=>if(x7.aHI==I)=true then some x7.Seq else uO j I J (i64.wrap (C+1))else some 0
def xP(j:M.aHO)(C:Int):Option Int:=
 uO j C fuel 0
def uQ(j:List M.aO)(I:Int)(J:Int):Nat->Int->Option (List M.aO)
 |0,_=>none
 |ae+1,C=>if(decide (C<(List.length j:Int)))=true then(idx j C).bind λU=>if(decide (U.aHI<I))=true then uQ j I J ae (i64.wrap (C+1))else if(U.aHI==I)=true then some (List.set j C.toNat (⟨U.aHI,J⟩:M.aO))else(AX j C).bind λaf=>(app 16 ([]:List M.aO) (List.take C.toNat j)).bind λah=>(app 16 (List.take C.toNat j) ([(⟨I,J⟩:M.aO)])).bind λai=>(Bd j C).bind λaj=>(app 16 ((List.take C.toNat j)++[(⟨I,J⟩:M.aO)]) (List.drop C.toNat j)).bind λak=>some (((List.take C.toNat j)++[(⟨I,J⟩:M.aO)])++(List.drop C.toNat j))else(AX j C).bind λal=>(app 16 ([]:List M.aO) (List.take C.toNat j)).bind λao=>(app 16 (List.take C.toNat j) ([(⟨I,J⟩:M.aO)])).bind λaq=>(Bd j C).bind λar=>(app 16 ((List.take C.toNat j)++[(⟨I,J⟩:M.aO)]) (List.drop C.toNat j)).bind λav=>some (((List.take C.toNat j)++[(⟨I,J⟩:M.aO)])++(List.drop C.toNat j))
def Bu(j:List M.aO)(C:Int)(I:Int):Option (List M.aO):=
 (app 16 ([]:List M.aO) j).bind λx1=>uQ j C I fuel 0
def cV(C:M.aHO)(j:M.bB):Option (M.aHO×Int):=
 (gQ C).bind λx1=>(sC C).bind λx3=>if(!x3)=true then some (x1,4)else(kS j).bind λx6=>if(!x6)=true then some (x1,4)else(Bu C.aO j.aHI j.Seq).bind λx9=>(xP C j.aHI).bind λI=>if(decide ((List.length x9:Int)>60))=true then some (x1,4)else if(decide (j.Seq<=I))=true then some (x1,2)else if(decide (j.Seq>(i64.wrap (I+1))))=true then some (x1,3)else(lT C.aC j).bind λJ=>if J.2=true then(app 72 x1.aHd ([j])).bind λU=>some ((⟨J.1,x9,x1.aHd++[j]⟩:M.aHO),1)else(app 72 x1.aHd ([j])).bind λah=>some ((⟨x1.aC,x9,x1.aHd++[j]⟩:M.aHO),1)
def mH(C:M.aQ):Nat->Int->ByteArray->Int->Int->Int->List M.aHV->List M.aO->List M.bB->Option (Int×Int×M.aHO)
 |0,_,_,_,_,_,_,_,_=>none
 |aw+1,v4,aj,ak,aa,ae,J,U,ai=>if(decide (v4>0))=true then(aG (⟨C.b,aa,ae⟩:M.aQ) 3).bind λI=>(xP (⟨(⟨aj,J,ak⟩:M.aC),U,ai⟩:M.aHO) (i64.wrap (1+I.2.2))).bind λax=>(dN (⟨C.b,I.1,I.2.1⟩:M.aQ)).bind λaq=>(dC (⟨C.b,aq.1,aq.2.1⟩:M.aQ)).bind λar=>(aG (⟨C.b,ar.1,ar.2.1⟩:M.aQ) 6).bind λav=>(cV (⟨(⟨aj,J,ak⟩:M.aC),U,ai⟩:M.aHO) (⟨i64.wrap (1+I.2.2),i64.wrap (ax+1),aq.2.2,ar.2.2,av.2.2⟩:M.bB)).bind λj=>mH C aw (i64.wrap (v4-1)) j.1.aC.Name j.1.aC.aHg av.1 av.2.1 j.1.aC.aHF j.1.aO j.1.aHd else some (aa,ae,(⟨(⟨aj,J,ak⟩:M.aC),U,ai⟩:M.aHO))
def wI(C:M.aQ):Option (Int×Int×M.aHO):=
 (rT C (⟨#[110,111,116,101,115]⟩:ByteArray)).bind λx4=>(aG (⟨C.b,x4.1,x4.2.1⟩:M.aQ) 6).bind λj=>mH C fuel j.2.2 x4.2.2.Name x4.2.2.aHg j.1 j.2.1 x4.2.2.aHF ([]:List M.aO) ([]:List M.bB)
def yK(j:M.aHO)(C:Int):Option (M.aE×Bool):=
 (pB C).bind λx1=>(bW j.aC).bind λx3=>if(!x1.2)=true then some ((⟨(⟨(⟨#[]⟩:ByteArray),([]:List M.aHV),0⟩:M.aC),0,(⟨(⟨0,0,([]:List M.bB)⟩:M.aJ),0,0⟩:M.aHY)⟩:M.aE),false)else(sC j).bind λx6=>if(!x6)=true then some ((⟨(⟨(⟨#[]⟩:ByteArray),([]:List M.aHV),0⟩:M.aC),0,(⟨(⟨0,0,([]:List M.bB)⟩:M.aJ),0,0⟩:M.aHY)⟩:M.aE),false)else(oY (⟨x3,(List.length j.aHd:Int),(⟨x1.1,0,0⟩:M.aHY)⟩:M.aE)).bind λx9=>if(!x9)=true then some ((⟨(⟨(⟨#[]⟩:ByteArray),([]:List M.aHV),0⟩:M.aC),0,(⟨(⟨0,0,([]:List M.bB)⟩:M.aJ),0,0⟩:M.aHY)⟩:M.aE),false)else some ((⟨x3,(List.length j.aHd:Int),(⟨x1.1,0,0⟩:M.aHY)⟩:M.aE),true)
def Bc(j:M.aJ):Option (M.bB×Bool):=
 if((List.length j.aHW:Int)==0)=true then some ((⟨0,0,(⟨0,0,(⟨#[]⟩:ByteArray)⟩:M.Key),(⟨#[]⟩:ByteArray),0⟩:M.bB),false)else(idx j.aHW 0).bind λx2=>some (x2,true)
def pO(C:M.aJ)(I:Int)(x1:M.aJ):Nat->Int->Option (M.aJ×Int)
 |0,_=>none
 |J+1,j=>if(decide (j<(List.length C.aHW:Int)))=true then(idx C.aHW j).bind λU=>if(decide (U.Seq<=I))=true then pO C I x1 J (i64.wrap (j+1))else(Bd C.aHW j).bind λaf=>(app 72 ([]:List M.bB) (List.drop j.toNat C.aHW)).bind λah=>some ((⟨x1.aHI,x1.aHj,List.drop j.toNat C.aHW⟩:M.aJ),j)else(Bd C.aHW j).bind λai=>(app 72 ([]:List M.bB) (List.drop j.toNat C.aHW)).bind λaj=>some ((⟨x1.aHI,x1.aHj,List.drop j.toNat C.aHW⟩:M.aJ),j)
def cW(j:M.aJ)(C:Int):Option (M.aJ×Int):=
 (uJ j).bind λx1=>(iO j).bind λx3=>if(!x3)=true then some (x1,0)else pO j C x1 fuel 0
def iC(j:Int)(C:Int):Option Int:=
 if(decide (C<j))=true then some C else some j
def rC(C:Int):Nat->Int->Int->Option Int
 |0,_,_=>none
 |J+1,j,I=>if(decide (I<C))=true then if(decide (j<64))=true then rC C J (i64.wrap (2*j)) (i64.wrap (I+1))else some j else some j
def iW(j:Int):Option Int:=
 rC j fuel 1 0
def AQ(j:M.aHY)(p1:M.aHO)(C:Int)(p3:Int):Option (M.aHY×M.aHO×Int):=
 (xO j).bind λx1=>(Bc j.aJ).bind λx3=>if(!x3.2)=true then(gQ p1).bind λx6=>some (x1,x6,0)else(iO j.aJ).bind λx8=>if(!x8)=true then(gQ p1).bind λbo=>some (x1,bo,0)else if(decide (C<j.aHe))=true then(gQ p1).bind λbq=>some (x1,bq,0)else(aZ C 0 1000000000000).bind λbr=>if(!br)=true then(gQ p1).bind λbt=>some (x1,bt,0)else(gQ p1).bind λao=>if(p3==0)=true then(cV ao x3.1).bind λI=>if(p3==3)=true then(cV I.1 x3.1).bind λah=>if(ah.2==1)=true then(cW j.aJ x3.1.Seq).bind λbu=>some ((⟨bu.1,0,0⟩:M.aHY),ah.1,1)else if(ah.2==2)=true then(cW j.aJ x3.1.Seq).bind λbw=>some ((⟨bw.1,0,0⟩:M.aHY),ah.1,1)else(iC 59 j.aHr).bind λbx=>(iC 60 (i64.wrap (bx+1))).bind λbl=>(iW bl).bind λbz=>some ((⟨x1.aJ,bl,i64.wrap (C+bz)⟩:M.aHY),ah.1,2)else if(I.2==1)=true then(cW j.aJ x3.1.Seq).bind λc9=>some ((⟨c9.1,0,0⟩:M.aHY),I.1,1)else if(I.2==2)=true then(cW j.aJ x3.1.Seq).bind λca=>some ((⟨ca.1,0,0⟩:M.aHY),I.1,1)else(iC 59 j.aHr).bind λcd=>(iC 60 (i64.wrap (cd+1))).bind λbm=>(iW bm).bind λcg=>some ((⟨x1.aJ,bm,i64.wrap (C+cg)⟩:M.aHY),I.1,2)else if(p3==2)=true then(cV ao x3.1).bind λbn=>if(p3==3)=true then(cV bn.1 x3.1).bind λJ=>if(J.2==1)=true then(cW j.aJ x3.1.Seq).bind λaq=>some ((⟨aq.1,0,0⟩:M.aHY),J.1,1)else if(J.2==2)=true then(cW j.aJ x3.1.Seq).bind λar=>some ((⟨ar.1,0,0⟩:M.aHY),J.1,1)else(iC 59 j.aHr).bind λav=>(iC 60 (i64.wrap (av+1))).bind λai=>(iW ai).bind λaw=>some ((⟨x1.aJ,ai,i64.wrap (C+aw)⟩:M.aHY),J.1,2)else(iC 59 j.aHr).bind λax=>(iC 60 (i64.wrap (ax+1))).bind λaj=>(iW aj).bind λay=>some ((⟨x1.aJ,aj,i64.wrap (C+ay)⟩:M.aHY),bn.1,2)else if(p3==3)=true then(cV ao x3.1).bind λaz=>(cV az.1 x3.1).bind λU=>if(U.2==1)=true then(cW j.aJ x3.1.Seq).bind λba=>some ((⟨ba.1,0,0⟩:M.aHY),U.1,1)else if(U.2==2)=true then(cW j.aJ x3.1.Seq).bind λbd=>some ((⟨bd.1,0,0⟩:M.aHY),U.1,1)else(iC 59 j.aHr).bind λbf=>(iC 60 (i64.wrap (bf+1))).bind λak=>(iW ak).bind λbg=>some ((⟨x1.aJ,ak,i64.wrap (C+bg)⟩:M.aHY),U.1,2)else(iC 59 j.aHr).bind λbh=>(iC 60 (i64.wrap (bh+1))).bind λal=>(iW al).bind λbj=>some ((⟨x1.aJ,al,i64.wrap (C+bj)⟩:M.aHY),ao,2)
def xK(j:M.aE)(C:M.aHO):Option (M.aE×Int):=
 (xU j).bind λx1=>(oY j).bind λx3=>if(!x3)=true then some (x1,0)else(sC C).bind λx6=>if(!x6)=true then some (x1,0)else if(decide (j.aHw>(List.length C.aHd:Int)))=true then some (x1,0)else(Bd C.aHd j.aHw).bind λah=>(yT j.aHa (List.drop j.aHw.toNat C.aHd)).bind λI=>(xP C j.aHY.aJ.aHI).bind λJ=>(cW j.aHY.aJ J).bind λU=>some ((⟨I,(List.length C.aHd:Int),(⟨U.1,x1.aHY.aHr,x1.aHY.aHe⟩:M.aHY)⟩:M.aE),i64.wrap ((List.length C.aHd:Int)-j.aHw))
def fL(j:M.aQ):Nat->Int->ByteArray->Int->Int->Int->Int->Int->Int->Int->Int->ByteArray->Int->List M.aHV->List M.bB->List M.aHV->List M.aO->List M.bB->Option (Int×Int×M.aE×M.aHO)
 |0,_,_,_,_,_,_,_,_,_,_,_,_,_,_,_,_,_=>none
 |bw+1,v7,ay,az,ba,bd,bf,bg,aw,aj,ak,ar,av,ah,ai,aa,ae,af=>if(decide (v7>0))=true then(aG (⟨j.b,aj,ak⟩:M.aQ) 5).bind λC=>if(C.2.2==0)=true then(dN (⟨j.b,C.1,C.2.1⟩:M.aQ)).bind λbx=>(dC (⟨j.b,bx.1,bx.2.1⟩:M.aQ)).bind λbz=>(aG (⟨j.b,bz.1,bz.2.1⟩:M.aQ) 6).bind λc9=>(mW (⟨(⟨ay,ah,az⟩:M.aC),ba,(⟨(⟨bd,bf,ai⟩:M.aJ),bg,aw⟩:M.aHY)⟩:M.aE) bx.2.2 bz.2.2 c9.2.2).bind λbj=>fL j bw (i64.wrap (v7-1)) bj.1.aHa.Name bj.1.aHa.aHg bj.1.aHw bj.1.aHY.aJ.aHI bj.1.aHY.aJ.aHj bj.1.aHY.aHr bj.1.aHY.aHe c9.1 c9.2.1 ar av bj.1.aHa.aHF bj.1.aHY.aJ.aHW aa ae af else if(C.2.2==1)=true then(dN (⟨j.b,C.1,C.2.1⟩:M.aQ)).bind λbm=>(dC (⟨j.b,bm.1,bm.2.1⟩:M.aQ)).bind λbn=>(aG (⟨j.b,bn.1,bn.2.1⟩:M.aQ) 6).bind λbo=>(mW (⟨(⟨ay,ah,az⟩:M.aC),ba,(⟨(⟨bd,bf,ai⟩:M.aJ),bg,aw⟩:M.aHY)⟩:M.aE) bm.2.2 bn.2.2 bo.2.2).bind λJ=>fL j bw (i64.wrap (v7-1)) J.1.aHa.Name J.1.aHa.aHg J.1.aHw J.1.aHY.aJ.aHI J.1.aHY.aJ.aHj J.1.aHY.aHr J.1.aHY.aHe bo.1 bo.2.1 ar av J.1.aHa.aHF J.1.aHY.aJ.aHW aa ae af else if(C.2.2==2)=true then(aG (⟨j.b,C.1,C.2.1⟩:M.aQ) 4).bind λbq=>(AQ (⟨(⟨bd,bf,ai⟩:M.aJ),bg,aw⟩:M.aHY) (⟨(⟨ar,aa,av⟩:M.aC),ae,af⟩:M.aHO) aw bq.2.2).bind λI=>fL j bw (i64.wrap (v7-1)) ay az ba I.1.aJ.aHI I.1.aJ.aHj I.1.aHr I.1.aHe bq.1 bq.2.1 I.2.1.aC.Name I.2.1.aC.aHg ah I.1.aJ.aHW I.2.1.aC.aHF I.2.1.aO I.2.1.aHd else if(C.2.2==3)=true then(aG (⟨j.b,C.1,C.2.1⟩:M.aQ) 3).bind λbl=>(xP (⟨(⟨ar,aa,av⟩:M.aC),ae,af⟩:M.aHO) (i64.wrap (1+bl.2.2))).bind λca=>(dN (⟨j.b,bl.1,bl.2.1⟩:M.aQ)).bind λbr=>(dC (⟨j.b,br.1,br.2.1⟩:M.aQ)).bind λbt=>(aG (⟨j.b,bt.1,bt.2.1⟩:M.aQ) 6).bind λbu=>(cV (⟨(⟨ar,aa,av⟩:M.aC),ae,af⟩:M.aHO) (⟨i64.wrap (1+bl.2.2),i64.wrap (ca+1),br.2.2,bt.2.2,bu.2.2⟩:M.bB)).bind λbh=>fL j bw (i64.wrap (v7-1)) ay az ba bd bf bg aw bu.1 bu.2.1 bh.1.aC.Name bh.1.aC.aHg ah ai bh.1.aC.aHF bh.1.aO bh.1.aHd else(xK (⟨(⟨ay,ah,az⟩:M.aC),ba,(⟨(⟨bd,bf,ai⟩:M.aJ),bg,aw⟩:M.aHY)⟩:M.aE) (⟨(⟨ar,aa,av⟩:M.aC),ae,af⟩:M.aHO)).bind λU=>fL j bw (i64.wrap (v7-1)) U.1.aHa.Name U.1.aHa.aHg U.1.aHw U.1.aHY.aJ.aHI U.1.aHY.aJ.aHj U.1.aHY.aHr U.1.aHY.aHe C.1 C.2.1 ar av U.1.aHa.aHF U.1.aHY.aJ.aHW aa ae af else some (aj,ak,(⟨(⟨ay,ah,az⟩:M.aC),ba,(⟨(⟨bd,bf,ai⟩:M.aJ),bg,aw⟩:M.aHY)⟩:M.aE),(⟨(⟨ar,aa,av⟩:M.aC),ae,af⟩:M.aHO))
def BI(I:M.aQ):Option (Int×Int×M.aE×M.aHO):=
 (wI I).bind λx4=>(yK x4.2.2 4).bind λj=>(aG (⟨I.b,x4.1,x4.2.1⟩:M.aQ) 6).bind λC=>fL I fuel C.2.2 j.1.aHa.Name j.1.aHa.aHg j.1.aHw j.1.aHY.aJ.aHI j.1.aHY.aJ.aHj j.1.aHY.aHr j.1.aHY.aHe C.1 C.2.1 x4.2.2.aC.Name x4.2.2.aC.aHg j.1.aHa.aHF j.1.aHY.aJ.aHW x4.2.2.aC.aHF x4.2.2.aO x4.2.2.aHd
def AF(C:M.aQ):Option (Int×Int×M.Key):=
 (BZ C).bind λx4=>(aG (⟨C.b,x4.1,x4.2.1⟩:M.aQ) 10).bind λj=>if(j.2.2==0)=true then(aG (⟨C.b,j.1,j.2.1⟩:M.aQ) 5).bind λI=>some (I.1,I.2.1,(⟨I.2.2,x4.2.2.N,x4.2.2.aHi⟩:M.Key))else if(j.2.2==1)=true then(bN (⟨C.b,j.1,j.2.1⟩:M.aQ) ([-1000000000001,1000000000001,5])).bind λJ=>some (J.1,J.2.1,(⟨x4.2.2.aHb,J.2.2,x4.2.2.aHi⟩:M.Key))else if(j.2.2==2)=true then(eC (⟨C.b,j.1,j.2.1⟩:M.aQ) ([(⟨#[65]⟩:ByteArray),(⟨#[97,32,98]⟩:ByteArray),(⟨#[97,98,99,100,101,102,103,104,105,106,107,108,109]⟩:ByteArray),(⟨#[120,39]⟩:ByteArray)])).bind λU=>some (U.1,U.2.1,(⟨x4.2.2.aHb,x4.2.2.N,U.2.2⟩:M.Key))else some (j.1,j.2.1,x4.2.2)
def uV(j:(Int×Int×Int)):Nat->Int->List M.Field->Option (Int×Int×M.aD)
 |0,_,_=>none
 |J+1,C,I=>if(decide (C<((6:Nat):Int)))=true then(idx ([(⟨#[100]⟩:ByteArray),(⟨#[101]⟩:ByteArray),(⟨#[102]⟩:ByteArray),(⟨#[103]⟩:ByteArray),(⟨#[104]⟩:ByteArray),(⟨#[105]⟩:ByteArray)]) C).bind λU=>(iQ (⟨I⟩:M.aD) U 1).bind λaj=>uV j J (i64.wrap (C+1)) aj.1.aHG else some (j.1,j.2.1,(⟨I⟩:M.aD))
def Db(J:M.aQ):Option (Int×Int×M.aD):=
 (lD J).bind λx4=>(aG (⟨J.b,x4.1,x4.2.1⟩:M.aQ) 12).bind λj=>if(j.2.2==0)=true then(eC (⟨J.b,j.1,j.2.1⟩:M.aQ) ([(⟨#[]⟩:ByteArray),(⟨#[65]⟩:ByteArray),(⟨#[122,122,122,122,122,122,122,122,122]⟩:ByteArray),(⟨#[122]⟩:ByteArray),(⟨#[97]⟩:ByteArray)])).bind λC=>(bN (⟨J.b,C.1,C.2.1⟩:M.aQ) ([0,-1,1000000000,1000000001])).bind λI=>(app 24 x4.2.2.aHG ([(⟨C.2.2,I.2.2⟩:M.Field)])).bind λU=>some (I.1,I.2.1,(⟨x4.2.2.aHG++[(⟨C.2.2,I.2.2⟩:M.Field)]⟩:M.aD))else if(j.2.2==1)=true then uV j fuel 0 x4.2.2.aHG else some (j.1,j.2.1,x4.2.2)
def AB(j:M.aC)(C:M.aD):Option (M.aC×M.Key×Bool):=
 if(decide (j.aHg>=1000000))=true then(bW j).bind λx2=>some (x2,(⟨0,0,(⟨#[]⟩:ByteArray)⟩:M.Key),false)else(Aq j (⟨1,i64.wrap (j.aHg+1),(⟨#[]⟩:ByteArray)⟩:M.Key) C).bind λx4=>if(!x4.2)=true then(bW j).bind λx7=>some (x7,(⟨0,0,(⟨#[]⟩:ByteArray)⟩:M.Key),false)else some (x4.1,(⟨1,i64.wrap (j.aHg+1),(⟨#[]⟩:ByteArray)⟩:M.Key),true)
def zF(C:(Int×Int×Int)):Nat->ByteArray->Int->List M.aHV->Option (Int×Int×M.aC)
 |0,_,_,_=>none
 |aj+1,I,J,j=>if(decide ((List.length j:Int)<16))=true then(nO (⟨I,j,J⟩:M.aC)).bind λak=>if ak=true then(AB (⟨I,j,J⟩:M.aC) (⟨([]:List M.Field)⟩:M.aD)).bind λU=>zF C aj U.1.Name U.1.aHg U.1.aHF else some (C.1,C.2.1,(⟨I,j,J⟩:M.aC))else some (C.1,C.2.1,(⟨I,j,J⟩:M.aC))
def BV(C:M.aQ):Option (Int×Int×M.aC):=
 (rT C (⟨#[110,111,116,101,115]⟩:ByteArray)).bind λx4=>(aG (⟨C.b,x4.1,x4.2.1⟩:M.aQ) 12).bind λj=>if(j.2.2==0)=true then(eC (⟨C.b,j.1,j.2.1⟩:M.aQ) ([(⟨#[]⟩:ByteArray),(⟨#[81]⟩:ByteArray),(⟨#[97,98,99,100,101,102,103,104,105]⟩:ByteArray)])).bind λU=>some (U.1,U.2.1,(⟨U.2.2,x4.2.2.aHF,x4.2.2.aHg⟩:M.aC))else if(j.2.2==1)=true then(bN (⟨C.b,j.1,j.2.1⟩:M.aQ) ([-1,999999,1000000,1000001])).bind λai=>some (ai.1,ai.2.1,(⟨x4.2.2.Name,x4.2.2.aHF,ai.2.2⟩:M.aC))else if(j.2.2==2)=true then(AF (⟨C.b,j.1,j.2.1⟩:M.aQ)).bind λI=>(Db (⟨C.b,I.1,I.2.1⟩:M.aQ)).bind λJ=>(app 56 x4.2.2.aHF ([(⟨I.2.2,J.2.2⟩:M.aHV)])).bind λaj=>some (J.1,J.2.1,(⟨x4.2.2.Name,x4.2.2.aHF++[(⟨I.2.2,J.2.2⟩:M.aHV)],x4.2.2.aHg⟩:M.aC))else if(j.2.2==3)=true then zF j fuel x4.2.2.Name x4.2.2.aHg x4.2.2.aHF else some (j.1,j.2.1,x4.2.2)
def mA(j:M.aQ):Nat->Int->Int->Int->Int->Int->List M.bB->Option (Int×Int×M.aJ)
 |0,_,_,_,_,_,_=>none
 |av+1,v7,J,U,aa,ae,I=>if(decide (v7>0))=true then(dN (⟨j.b,aa,ae⟩:M.aQ)).bind λak=>(dC (⟨j.b,ak.1,ak.2.1⟩:M.aQ)).bind λal=>(aG (⟨j.b,al.1,al.2.1⟩:M.aQ) 6).bind λao=>(iM (⟨J,U,I⟩:M.aJ) ak.2.2 al.2.2 ao.2.2).bind λaq=>mA j av (i64.wrap (v7-1)) aq.1.aHI aq.1.aHj ao.1 ao.2.1 aq.1.aHW else(cF (⟨j.b,aa,ae⟩:M.aQ) 3).bind λC=>if C.2.2=true then(aG (⟨j.b,C.1,C.2.1⟩:M.aQ) 4).bind λar=>(cW (⟨J,U,I⟩:M.aJ) ar.2.2).bind λaw=>some (ar.1,ar.2.1,aw.1)else some (C.1,C.2.1,(⟨J,U,I⟩:M.aJ))
def Aj(j:M.aQ)(C:Int):Option (Int×Int×M.aJ):=
 (pB C).bind λx5=>(bN j ([0,2,4,6])).bind λx7=>mA j fuel x7.2.2 x5.1.aHI x5.1.aHj x7.1 x7.2.1 x5.1.aHW
def wO(p0:M.aQ):Nat->Int->Int->Int->Int->List M.bB->Option (Int×Int×M.aJ)
 |0,_,_,_,_,_=>none
 |al+1,C,I,J,U,j=>if(decide ((List.length j:Int)<20))=true then(iO (⟨C,I,j⟩:M.aJ)).bind λao=>if ao=true then(dN (⟨p0.b,J,U⟩:M.aQ)).bind λaj=>(iM (⟨C,I,j⟩:M.aJ) aj.2.2 (⟨#[97]⟩:ByteArray) 1).bind λak=>wO p0 al ak.1.aHI ak.1.aHj aj.1 aj.2.1 ak.1.aHW else some (J,U,(⟨C,I,j⟩:M.aJ))else some (J,U,(⟨C,I,j⟩:M.aJ))
def B5(C:M.aQ):Option (Int×Int×M.aJ):=
 (aG C 3).bind λx4=>(Aj (⟨C.b,x4.1,x4.2.1⟩:M.aQ) (i64.wrap (1+x4.2.2))).bind λx6=>(aG (⟨C.b,x6.1,x6.2.1⟩:M.aQ) 12).bind λj=>if(j.2.2==0)=true then(bN (⟨C.b,j.1,j.2.1⟩:M.aQ) ([0,9,1000001])).bind λU=>some (U.1,U.2.1,(⟨U.2.2,x6.2.2.aHj,x6.2.2.aHW⟩:M.aJ))else if(j.2.2==1)=true then(bN (⟨C.b,j.1,j.2.1⟩:M.aQ) ([0,3,1000000,1000001])).bind λai=>some (ai.1,ai.2.1,(⟨x6.2.2.aHI,ai.2.2,x6.2.2.aHW⟩:M.aJ))else if(j.2.2==2)=true then(AF (⟨C.b,j.1,j.2.1⟩:M.aQ)).bind λI=>(bN (⟨C.b,I.1,I.2.1⟩:M.aQ) ([0,-1])).bind λJ=>(app 72 x6.2.2.aHW ([(⟨x6.2.2.aHI,x6.2.2.aHj,I.2.2,(⟨#[97]⟩:ByteArray),J.2.2⟩:M.bB)])).bind λaj=>some (J.1,J.2.1,(⟨x6.2.2.aHI,x6.2.2.aHj,x6.2.2.aHW++[(⟨x6.2.2.aHI,x6.2.2.aHj,I.2.2,(⟨#[97]⟩:ByteArray),J.2.2⟩:M.bB)]⟩:M.aJ))else if(j.2.2==3)=true then wO C fuel x6.2.2.aHI x6.2.2.aHj j.1 j.2.1 x6.2.2.aHW else some (j.1,j.2.1,x6.2.2)
def Ch(C:M.aQ):Option (Int×Int×M.aE):=
 (BI C).bind λx4=>(aG (⟨C.b,x4.1,x4.2.1⟩:M.aQ) 12).bind λj=>if(j.2.2==0)=true then(BV (⟨C.b,j.1,j.2.1⟩:M.aQ)).bind λI=>some (I.1,I.2.1,(⟨I.2.2,x4.2.2.1.aHw,x4.2.2.1.aHY⟩:M.aE))else if(j.2.2==1)=true then(bN (⟨C.b,j.1,j.2.1⟩:M.aQ) ([-1,9,1000000000001])).bind λJ=>some (J.1,J.2.1,(⟨x4.2.2.1.aHa,J.2.2,x4.2.2.1.aHY⟩:M.aE))else if(j.2.2==2)=true then(B5 (⟨C.b,j.1,j.2.1⟩:M.aQ)).bind λU=>some (U.1,U.2.1,(⟨x4.2.2.1.aHa,x4.2.2.1.aHw,(⟨U.2.2,x4.2.2.1.aHY.aHr,x4.2.2.1.aHY.aHe⟩:M.aHY)⟩:M.aE))else some (j.1,j.2.1,x4.2.2.1)
set_option maxRecDepth 40000 in
def pE(x4:(Int×Int×M.aHD))(C:(Int×Int×Int)):Nat->List Int->Option (Int×Int×M.aHD)
 |0,_=>none
 |I+1,j=>if(decide ((List.length j:Int)<2600))=true then(app 1 j ([0])).bind λJ=>pE x4 C I (j++[0])else some (C.1,C.2.1,(⟨x4.2.2.aHL,x4.2.2.Top,x4.2.2.aG9,x4.2.2.aHC,(⟨x4.2.2.bP.aHa,j,x4.2.2.bP.aHs⟩:M.bP),x4.2.2.aE,x4.2.2.aHk,x4.2.2.aHh⟩:M.aHD))
set_option maxRecDepth 40000 in
theorem QS:type_of%@pE.eq_2:=@pE.eq_2
def Cp(C:M.aQ):Option (Int×Int×M.aHD):=
 (wN C).bind λx4=>(aG (⟨C.b,x4.1,x4.2.1⟩:M.aQ) 14).bind λj=>if(j.2.2==0)=true then(eC (⟨C.b,j.1,j.2.1⟩:M.aQ) ([(⟨#[]⟩:ByteArray),(⟨#[122,122,122]⟩:ByteArray)])).bind λI=>some (I.1,I.2.1,(⟨I.2.2,x4.2.2.Top,x4.2.2.aG9,x4.2.2.aHC,x4.2.2.bP,x4.2.2.aE,x4.2.2.aHk,x4.2.2.aHh⟩:M.aHD))else if(j.2.2==1)=true then(Ce (⟨C.b,j.1,j.2.1⟩:M.aQ)).bind λJ=>some (J.1,J.2.1,(⟨x4.2.2.aHL,x4.2.2.Top,x4.2.2.aG9,J.2.2,x4.2.2.bP,x4.2.2.aE,x4.2.2.aHk,x4.2.2.aHh⟩:M.aHD))else if(j.2.2==2)=true then(Cl (⟨C.b,j.1,j.2.1⟩:M.aQ)).bind λU=>some (U.1,U.2.1,(⟨x4.2.2.aHL,x4.2.2.Top,x4.2.2.aG9,x4.2.2.aHC,U.2.2,x4.2.2.aE,x4.2.2.aHk,x4.2.2.aHh⟩:M.aHD))else if(j.2.2==3)=true then(Ch (⟨C.b,j.1,j.2.1⟩:M.aQ)).bind λai=>some (ai.1,ai.2.1,(⟨x4.2.2.aHL,x4.2.2.Top,x4.2.2.aG9,x4.2.2.aHC,x4.2.2.bP,ai.2.2,x4.2.2.aHk,x4.2.2.aHh⟩:M.aHD))else if(j.2.2==4)=true then(bN (⟨C.b,j.1,j.2.1⟩:M.aQ) ([-1,1000000000001])).bind λaj=>some (aj.1,aj.2.1,(⟨x4.2.2.aHL,x4.2.2.Top,x4.2.2.aG9,x4.2.2.aHC,x4.2.2.bP,x4.2.2.aE,aj.2.2,x4.2.2.aHh⟩:M.aHD))else if(j.2.2==5)=true then pE x4 j fuel x4.2.2.bP.Log else some (j.1,j.2.1,x4.2.2)
def kN(J:M.aQ):Nat->Int->Int->Int->List M.aHD->Option (Int×Int×M.aA)
 |0,_,_,_,_=>none
 |ak+1,v4,aa,ae,C=>if(decide (v4>0))=true then(wN (⟨J.b,aa,ae⟩:M.aQ)).bind λU=>(iS (⟨C⟩:M.aA) U.2.2).bind λal=>kN J ak (i64.wrap (v4-1)) U.1 U.2.1 al.1.aHE else(cF (⟨J.b,aa,ae⟩:M.aQ) 12).bind λj=>if j.2.2=true then(Cp (⟨J.b,j.1,j.2.1⟩:M.aQ)).bind λI=>(app 328 C ([I.2.2])).bind λao=>some (I.1,I.2.1,(⟨C++[I.2.2]⟩:M.aA))else some (j.1,j.2.1,(⟨C⟩:M.aA))
def uT(j:M.aQ):Option (Int×Int×M.aA):=
 (aG j 4).bind λx4=>kN j fuel x4.2.2 x4.1 x4.2.1 ([]:List M.aHD)
def rD(p0:M.aQ):Nat->Int->Int->ByteArray->ByteArray->Int->Int->Int->Bool->Bool->Int->Int->List M.aT->List M.Instr->List Int->Option (Int×Int×M.bC)
 |0,_,_,_,_,_,_,_,_,_,_,_,_,_,_=>none
 |az+1,v7,ao,aq,ar,C,av,aw,ax,ak,J,U,af,ah,ai=>if(decide (v7>0))=true then(xQ (⟨p0.b,J,U⟩:M.aQ)).bind λI=>(lG (⟨ao,aq,ar,C,af,(⟨ah,av,ai,aw,ax,ak⟩:M.aHJ)⟩:M.bC) I.2.2 (⟨0,200,C,([]:List Int),false⟩:M.aHH)).bind λj=>rD p0 az (i64.wrap (v7-1)) j.1.Id j.1.aHL j.1.Top j.1.aHA j.1.aHJ.Pc j.1.aHJ.aHy j.1.aHJ.aH5 j.1.aHJ.aH6 I.1 I.2.1 j.1.aT j.1.aHJ.aHt j.1.aHJ.aH1 else some (J,U,(⟨ao,aq,ar,C,af,(⟨ah,av,ai,aw,ax,ak⟩:M.aHJ)⟩:M.bC))
def BB(C:M.aQ):Option (Int×Int×M.bC):=
 (nP C).bind λx4=>((cF (⟨C.b,x4.1,x4.2.1⟩:M.aQ) 3).bind λI=>if I.2.2=true then(nP (⟨C.b,I.1,I.2.1⟩:M.aQ)).bind λJ=>some (J.2.2,J.1,J.2.1)else some (x4.2.2,I.1,I.2.1)).bind λU=>(aG (⟨C.b,U.2.1,U.2.2⟩:M.aQ) 9).bind λai=>(aG (⟨C.b,ai.1,ai.2.1⟩:M.aQ) 3).bind λaj=>(lP (⟨C.b,aj.1,aj.2.1⟩:M.aQ)).bind λak=>(lO (i64.wrap (1+ai.2.2)) x4.2.2 U.1 (i64.wrap (1+aj.2.2)) ak.2.2).bind λj=>(aG (⟨C.b,ak.1,ak.2.1⟩:M.aQ) 3).bind λal=>rD C fuel al.2.2 j.1.Id j.1.aHL j.1.Top j.1.aHA j.1.aHJ.Pc j.1.aHJ.aHy j.1.aHJ.aH5 j.1.aHJ.aH6 al.1 al.2.1 j.1.aT j.1.aHJ.aHt j.1.aHJ.aH1
def wE(x4:(Int×Int×M.bC))(C:(Int×Int×Int)):Nat->List M.aT->Option (Int×Int×M.bC)
 |0,_=>none
 |I+1,j=>if(decide ((List.length j:Int)<8))=true then(app 24 j ([(⟨(⟨#[105,110,100,101,120]⟩:ByteArray),x4.2.2.aHA⟩:M.aT)])).bind λJ=>wE x4 C I (j++[(⟨(⟨#[105,110,100,101,120]⟩:ByteArray),x4.2.2.aHA⟩:M.aT)])else some (C.1,C.2.1,(⟨x4.2.2.Id,x4.2.2.aHL,x4.2.2.Top,x4.2.2.aHA,j,x4.2.2.aHJ⟩:M.bC))
def A9(C:M.aQ):Option (Int×Int×M.bC):=
 (BB C).bind λx4=>(aG (⟨C.b,x4.1,x4.2.1⟩:M.aQ) 12).bind λj=>if(j.2.2==0)=true then(bN (⟨C.b,j.1,j.2.1⟩:M.aQ) ([0,1000000000000,1000000000001])).bind λU=>some (U.1,U.2.1,(⟨U.2.2,x4.2.2.aHL,x4.2.2.Top,x4.2.2.aHA,x4.2.2.aT,x4.2.2.aHJ⟩:M.bC))else if(j.2.2==1)=true then(eC (⟨C.b,j.1,j.2.1⟩:M.aQ) ([(⟨#[105,110,100,101,120]⟩:ByteArray),(⟨#[]⟩:ByteArray)])).bind λI=>(aG (⟨C.b,I.1,I.2.1⟩:M.aQ) 2).bind λJ=>(app 24 x4.2.2.aT ([(⟨I.2.2,i64.wrap (x4.2.2.aHA+J.2.2)⟩:M.aT)])).bind λaj=>some (J.1,J.2.1,(⟨x4.2.2.Id,x4.2.2.aHL,x4.2.2.Top,x4.2.2.aHA,x4.2.2.aT++[(⟨I.2.2,i64.wrap (x4.2.2.aHA+J.2.2)⟩:M.aT)],x4.2.2.aHJ⟩:M.bC))else if(j.2.2==2)=true then(bN (⟨C.b,j.1,j.2.1⟩:M.aQ) ([0,1000000000001])).bind λai=>some (ai.1,ai.2.1,(⟨x4.2.2.Id,x4.2.2.aHL,x4.2.2.Top,ai.2.2,x4.2.2.aT,x4.2.2.aHJ⟩:M.bC))else if(j.2.2==3)=true then wE x4 j fuel x4.2.2.aT else some (j.1,j.2.1,x4.2.2)
def AH(C:M.aQ):Option (Int×Int×M.bB):=
 (aG C 3).bind λx4=>(aG (⟨C.b,x4.1,x4.2.1⟩:M.aQ) 4).bind λx6=>(dN (⟨C.b,x6.1,x6.2.1⟩:M.aQ)).bind λx8=>(dC (⟨C.b,x8.1,x8.2.1⟩:M.aQ)).bind λI=>(aG (⟨C.b,I.1,I.2.1⟩:M.aQ) 6).bind λJ=>(aG (⟨C.b,J.1,J.2.1⟩:M.aQ) 12).bind λj=>if(j.2.2==0)=true then(bN (⟨C.b,j.1,j.2.1⟩:M.aQ) ([0,1000000,1000001])).bind λU=>some (U.1,U.2.1,(⟨U.2.2,i64.wrap (1+x6.2.2),x8.2.2,I.2.2,J.2.2⟩:M.bB))else if(j.2.2==1)=true then(bN (⟨C.b,j.1,j.2.1⟩:M.aQ) ([0,1000000,1000001])).bind λai=>some (ai.1,ai.2.1,(⟨i64.wrap (1+x4.2.2),ai.2.2,x8.2.2,I.2.2,J.2.2⟩:M.bB))else if(j.2.2==2)=true then(AF (⟨C.b,j.1,j.2.1⟩:M.aQ)).bind λaj=>some (aj.1,aj.2.1,(⟨i64.wrap (1+x4.2.2),i64.wrap (1+x6.2.2),aj.2.2,I.2.2,J.2.2⟩:M.bB))else if(j.2.2==3)=true then some (j.1,j.2.1,(⟨i64.wrap (1+x4.2.2),i64.wrap (1+x6.2.2),x8.2.2,(⟨#[]⟩:ByteArray),J.2.2⟩:M.bB))else if(j.2.2==4)=true then(bN (⟨C.b,j.1,j.2.1⟩:M.aQ) ([-1,1000000000,1000000001])).bind λak=>some (ak.1,ak.2.1,(⟨i64.wrap (1+x4.2.2),i64.wrap (1+x6.2.2),x8.2.2,I.2.2,ak.2.2⟩:M.bB))else some (j.1,j.2.1,(⟨i64.wrap (1+x4.2.2),i64.wrap (1+x6.2.2),x8.2.2,I.2.2,J.2.2⟩:M.bB))
def wR(x4:(Int×Int×M.aHO))(I:(Int×Int×Int)):Nat->Int->List M.aO->Option (Int×Int×M.aHO)
 |0,_,_=>none
 |J+1,j,C=>if(decide (j<64))=true then(app 16 C ([(⟨j,0⟩:M.aO)])).bind λU=>wR x4 I J (i64.wrap (j+1)) (C++[(⟨j,0⟩:M.aO)])else some (I.1,I.2.1,(⟨x4.2.2.aC,C,x4.2.2.aHd⟩:M.aHO))
def Bg(C:M.aQ):Option (Int×Int×M.aHO):=
 (wI C).bind λx4=>(aG (⟨C.b,x4.1,x4.2.1⟩:M.aQ) 12).bind λj=>if(j.2.2==0)=true then(BV (⟨C.b,j.1,j.2.1⟩:M.aQ)).bind λai=>some (ai.1,ai.2.1,(⟨ai.2.2,x4.2.2.aO,x4.2.2.aHd⟩:M.aHO))else if(j.2.2==1)=true then(bN (⟨C.b,j.1,j.2.1⟩:M.aQ) ([0,2,9,1000001])).bind λI=>(bN (⟨C.b,I.1,I.2.1⟩:M.aQ) ([0,-1])).bind λJ=>(app 16 x4.2.2.aO ([(⟨I.2.2,J.2.2⟩:M.aO)])).bind λaj=>some (J.1,J.2.1,(⟨x4.2.2.aC,x4.2.2.aO++[(⟨I.2.2,J.2.2⟩:M.aO)],x4.2.2.aHd⟩:M.aHO))else if(j.2.2==2)=true then(AH (⟨C.b,j.1,j.2.1⟩:M.aQ)).bind λU=>(app 72 x4.2.2.aHd ([U.2.2])).bind λak=>some (U.1,U.2.1,(⟨x4.2.2.aC,x4.2.2.aO,x4.2.2.aHd++[U.2.2]⟩:M.aHO))else if(j.2.2==3)=true then wR x4 j fuel 4 ([]:List M.aO)else some (j.1,j.2.1,x4.2.2)
def Cu(I:M.aQ):Option (Int×Int×M.World):=
 (AG I).bind λx4=>(cF (⟨I.b,x4.1,x4.2.1⟩:M.aQ) 4).bind λC=>(aG (⟨I.b,C.1,C.2.1⟩:M.aQ) 24).bind λj=>if(j.2.2==0)=true then(bN (⟨I.b,j.1,j.2.1⟩:M.aQ) ([-1,999999990000,999999990001])).bind λai=>some (ai.1,ai.2.1,(⟨ai.2.2,!C.2.2,x4.2.2.aHI,x4.2.2.aA,x4.2.2.aHQ,x4.2.2.aHK,x4.2.2.aHR,x4.2.2.aHN,x4.2.2.aHZ,x4.2.2.aHT⟩:M.World))else if(j.2.2==1)=true then some (j.1,j.2.1,(⟨x4.2.2.Now,!C.2.2,0,x4.2.2.aA,x4.2.2.aHQ,x4.2.2.aHK,x4.2.2.aHR,x4.2.2.aHN,x4.2.2.aHZ,x4.2.2.aHT⟩:M.World))else if(j.2.2==2)=true then(AX x4.2.2.aHZ 2).bind λao=>some (j.1,j.2.1,(⟨x4.2.2.Now,!C.2.2,x4.2.2.aHI,x4.2.2.aA,x4.2.2.aHQ,x4.2.2.aHK,x4.2.2.aHR,x4.2.2.aHN,List.take (2:Int).toNat x4.2.2.aHZ,x4.2.2.aHT⟩:M.World))else if(j.2.2==3)=true then(uT (⟨I.b,j.1,j.2.1⟩:M.aQ)).bind λaj=>some (aj.1,aj.2.1,(⟨x4.2.2.Now,!C.2.2,x4.2.2.aHI,aj.2.2,x4.2.2.aHQ,x4.2.2.aHK,x4.2.2.aHR,x4.2.2.aHN,x4.2.2.aHZ,x4.2.2.aHT⟩:M.World))else if(j.2.2==4)=true then(A9 (⟨I.b,j.1,j.2.1⟩:M.aQ)).bind λJ=>(app 144 x4.2.2.aHQ ([J.2.2])).bind λak=>some (J.1,J.2.1,(⟨x4.2.2.Now,!C.2.2,x4.2.2.aHI,x4.2.2.aA,x4.2.2.aHQ++[J.2.2],x4.2.2.aHK,x4.2.2.aHR,x4.2.2.aHN,x4.2.2.aHZ,x4.2.2.aHT⟩:M.World))else if(j.2.2==5)=true then some (j.1,j.2.1,(⟨x4.2.2.Now,!C.2.2,x4.2.2.aHI,x4.2.2.aA,x4.2.2.aHQ,0,x4.2.2.aHR,x4.2.2.aHN,x4.2.2.aHZ,x4.2.2.aHT⟩:M.World))else if(j.2.2==6)=true then(Bg (⟨I.b,j.1,j.2.1⟩:M.aQ)).bind λU=>(idx x4.2.2.aHT 0).bind λal=>some (U.1,U.2.1,(⟨x4.2.2.Now,!C.2.2,x4.2.2.aHI,x4.2.2.aA,x4.2.2.aHQ,x4.2.2.aHK,x4.2.2.aHR,x4.2.2.aHN,x4.2.2.aHZ,List.set x4.2.2.aHT (0:Int).toNat U.2.2⟩:M.World))else some (j.1,j.2.1,(⟨x4.2.2.Now,!C.2.2,x4.2.2.aHI,x4.2.2.aA,x4.2.2.aHQ,x4.2.2.aHK,x4.2.2.aHR,x4.2.2.aHN,x4.2.2.aHZ,x4.2.2.aHT⟩:M.World))
def kY(x1:M.aQ)(aw:(Int×Int×ByteArray))(ax:(Int×Int×ByteArray))(I:(Int×Int×Bool)):Nat->Int->Int->Bool->Int->Int->List M.aHD->List M.bC->List M.dO->List M.mI->List M.aHL->List M.aHO->Option (M.World×ByteArray×ByteArray×(List M.Instr))
 |0,_,_,_,_,_,_,_,_,_,_,_=>none
 |ay+1,C,al,ao,aq,ar,J,U,af,ah,ai,aj=>if(decide (C<6))=true then(nS (⟨al,ao,aq,(⟨J⟩:M.aA),U,ar,(⟨af⟩:M.aM),(⟨ah⟩:M.aHN),ai,aj⟩:M.World) (⟨#[98,97,110,107]⟩:ByteArray) (⟨#[98,97,110,107]⟩:ByteArray) ([]:List M.Instr)).bind λj=>kY x1 aw ax I ay (i64.wrap (C+1)) j.1.Now j.1.aHc j.1.aHI j.1.aHK j.1.aA.aHE j.1.aHQ j.1.aHR.aHR j.1.aHN.aHn j.1.aHZ j.1.aHT else(lP (⟨x1.b,I.1,I.2.1⟩:M.aQ)).bind λaz=>some ((⟨al,ao,aq,(⟨J⟩:M.aA),U,ar,(⟨af⟩:M.aM),(⟨ah⟩:M.aHN),ai,aj⟩:M.World),ax.2.2,aw.2.2,az.2.2)
def vU(U:List Int):Option (M.World×ByteArray×ByteArray×(List M.Instr)):=
 (C7 U).bind λx1=>(Cu x1).bind λx8=>(eC (⟨x1.b,x8.1,x8.2.1⟩:M.aQ) ([(⟨#[98,97,110,107]⟩:ByteArray),(⟨#[110,101,119,115]⟩:ByteArray),(⟨#[115,104,111,112]⟩:ByteArray),(⟨#[122,122,122]⟩:ByteArray)])).bind λj=>(eC (⟨x1.b,j.1,j.2.1⟩:M.aQ) ([(⟨#[98,97,110,107]⟩:ByteArray),(⟨#[110,101,119,115]⟩:ByteArray),(⟨#[115,104,111,112]⟩:ByteArray),(⟨#[]⟩:ByteArray)])).bind λC=>(cF (⟨x1.b,C.1,C.2.1⟩:M.aQ) 8).bind λI=>if I.2.2=true then kY x1 j C I fuel 0 x8.2.2.Now x8.2.2.aHc x8.2.2.aHI x8.2.2.aHK x8.2.2.aA.aHE x8.2.2.aHQ x8.2.2.aHR.aHR x8.2.2.aHN.aHn x8.2.2.aHZ x8.2.2.aHT else(lP (⟨x1.b,I.1,I.2.1⟩:M.aQ)).bind λJ=>some (x8.2.2,C.2.2,j.2.2,J.2.2)
def lQ(j:List Int):Option (List Int):=
 (app 1 ([]:List Int) j).bind λx1=>some j
def mE(j:M.aHH):Option M.aHH:=
 (lQ j.aH3).bind λx1=>some (⟨j.aH2,j.aHx,j.aHA,x1,j.aH9⟩:M.aHH)
def gW(J:M.aHM)(U:Int->List M.aHU->Option M.aF):Nat->Int->List M.aHU->Option M.aF
 |0,_,_=>none
 |ak+1,C,I=>if(decide (C<(List.length J.aHS:Int)))=true then(idx J.aHS C).bind λj=>(mE j.aHH).bind λaj=>(app 88 I ([(⟨j.aHL,j.aHv,aj⟩:M.aHU)])).bind λal=>gW J U ak (i64.wrap (C+1)) (I++[(⟨j.aHL,j.aHv,aj⟩:M.aHU)])else U C I
def eN(J:M.aF):Nat->Int->List M.aHM->Option M.aF
 |0,_,_=>none
 |aj+1,C,j=>if(decide (C<(List.length J.aHC:Int)))=true then(idx J.aHC C).bind λI=>gW I (λ(ai:Int) (U:List M.aHU)=>(app 32 j ([(⟨I.aHA,U⟩:M.aHM)])).bind λak=>eN J aj (i64.wrap (C+1)) (j++[(⟨I.aHA,U⟩:M.aHM)])) fuel 0 ([]:List M.aHU)else some (⟨j⟩:M.aF)
def vE(j:M.aF):Option M.aF:=
 eN j fuel 0 ([]:List M.aHM)
def yQ(j:M.aD):Option M.aD:=
 (app 24 ([]:List M.Field) j.aHG).bind λx1=>some j
def yX(j:M.aHV):Option M.aHV:=
 (yQ j.aD).bind λx1=>some (⟨j.Key,x1⟩:M.aHV)
def lZ(j:M.aC):Nat->Int->List M.aHV->Option M.aC
 |0,_,_=>none
 |U+1,I,C=>if(decide (I<(List.length j.aHF:Int)))=true then(idx j.aHF I).bind λai=>(yX ai).bind λJ=>(app 56 C ([J])).bind λaj=>lZ j U (i64.wrap (I+1)) (C++[J])else some (⟨j.Name,C,j.aHg⟩:M.aC)
def tO(j:M.aC):Option M.aC:=
 lZ j fuel 0 ([]:List M.aHV)
def gY(j:M.aHB):Nat->Int->List M.aC->Option M.aHB
 |0,_,_=>none
 |U+1,I,C=>if(decide (I<(List.length j.aHP:Int)))=true then(idx j.aHP I).bind λai=>(tO ai).bind λJ=>(app 48 C ([J])).bind λaj=>gY j U (i64.wrap (I+1)) (C++[J])else some (⟨j.Name,j.aHA,C,j.aHX⟩:M.aHB)
def vN(j:M.aHB):Option M.aHB:=
 (app 32 ([]:List M.aN) j.aHX).bind λx1=>gY j fuel 0 ([]:List M.aC)
def AJ(j:M.bP):Option M.bP:=
 (vN j.aHa).bind λx1=>(lQ j.Log).bind λx3=>some (⟨x1,x3,j.aHs⟩:M.bP)
def yY(j:M.aJ):Option M.aJ:=
 (app 72 ([]:List M.bB) j.aHW).bind λx1=>some j
def AV(j:M.aHY):Option M.aHY:=
 (yY j.aJ).bind λx1=>some (⟨x1,j.aHr,j.aHe⟩:M.aHY)
def xE(j:M.aE):Option M.aE:=
 (tO j.aHa).bind λx1=>(AV j.aHY).bind λx3=>some (⟨x1,j.aHw,x3⟩:M.aE)
def kC(j:M.aHD):Option M.aHD:=
 (vE j.aHC).bind λx1=>(AJ j.bP).bind λx3=>(xE j.aE).bind λx5=>some (⟨j.aHL,j.Top,j.aG9,x1,x3,x5,j.aHk,j.aHh⟩:M.aHD)
def iG(I:M.aA):Nat->Int->List M.aHD->Option M.aA
 |0,_,_=>none
 |U+1,j,C=>if(decide (j<(List.length I.aHE:Int)))=true then(idx I.aHE j).bind λah=>(kC ah).bind λJ=>(app 328 C ([J])).bind λai=>iG I U (i64.wrap (j+1)) (C++[J])else some (⟨C⟩:M.aA)
def cJ(j:M.aA):Option M.aA:=
 iG j fuel 0 ([]:List M.aHD)
def xC(j:M.aHJ):Option M.aHJ:=
 (app 40 ([]:List M.Instr) j.aHt).bind λx1=>(app 8 ([]:List Int) j.aH1).bind λC=>some j
def iR(j:M.bC):Option M.bC:=
 (app 24 ([]:List M.aT) j.aT).bind λx1=>(xC j.aHJ).bind λx9=>some (⟨j.Id,j.aHL,j.Top,j.aHA,j.aT,x9⟩:M.bC)
def mG(j:List M.bC):Nat->Int->List M.bC->Option (List M.bC)
 |0,_,_=>none
 |U+1,I,C=>if(decide (I<(List.length j:Int)))=true then(idx j I).bind λaf=>(iR af).bind λJ=>(app 144 C ([J])).bind λah=>mG j U (i64.wrap (I+1)) (C++[J])else some C
def zR(j:List M.bC):Option (List M.bC):=
 mG j fuel 0 ([]:List M.bC)
def tC(j:M.aM):Option M.aM:=
 (app 32 ([]:List M.dO) j.aHR).bind λx1=>some j
def sU(j:M.aHN):Option M.aHN:=
 (app 24 ([]:List M.mI) j.aHn).bind λx1=>some j
def AU(j:M.aHL):Option M.aHL:=
 (app 16 ([]:List ByteArray) j.aHl).bind λx1=>some j
def yP(j:M.aHO):Option M.aHO:=
 (tO j.aC).bind λx1=>(app 16 ([]:List M.aO) j.aO).bind λx3=>(app 72 ([]:List M.bB) j.aHd).bind λx5=>some (⟨x1,j.aO,j.aHd⟩:M.aHO)
def gE(j:M.World)(x1:M.aA)(x3:(List M.bC))(x5:M.aM)(x7:M.aHN)(J:List M.aHL):Nat->Int->List M.aHO->Option M.World
 |0,_,_=>none
 |ai+1,I,C=>if(decide (I<(List.length j.aHT:Int)))=true then(idx j.aHT I).bind λaj=>(yP aj).bind λU=>(app 96 C ([U])).bind λak=>gE j x1 x3 x5 x7 J ai (i64.wrap (I+1)) (C++[U])else some (⟨j.Now,j.aHc,j.aHI,x1,x3,j.aHK,x5,x7,J,C⟩:M.World)
def iP(j:M.World)(x1:M.aA)(x3:(List M.bC))(x5:M.aM)(x7:M.aHN):Nat->Int->List M.aHL->Option M.World
 |0,_,_=>none
 |U+1,I,C=>if(decide (I<(List.length j.aHZ:Int)))=true then(idx j.aHZ I).bind λai=>(AU ai).bind λJ=>(app 56 C ([J])).bind λaj=>iP j x1 x3 x5 x7 U (i64.wrap (I+1)) (C++[J])else gE j x1 x3 x5 x7 C fuel 0 ([]:List M.aHO)
def iT(j:M.World):Option M.World:=
 (cJ j.aA).bind λx1=>(zR j.aHQ).bind λx3=>(tC j.aHR).bind λx5=>(sU j.aHN).bind λx7=>iP j x1 x3 x5 x7 fuel 0 ([]:List M.aHL)
def aV(j:Int)(C:Int)(I:Int):Option Bool:=
 if(decide (C<=j))=true then some (decide (j<=I))else some false
def iX(j:ByteArray)(J:Int)(C:Bool):Nat->Int->Option Bool
 |0,_=>none
 |U+1,I=>if(decide (I<(j.size:Int)))=true then(Xj j I).bind λx7=>if(decide ((x7.toNat:Int)>=97))=true then if(decide ((x7.toNat:Int)<=122))=true then iX j J C U (i64.wrap (I+1))else if C=true then if(!((x7.toNat:Int)==47))=true then some false else iX j J C U (i64.wrap (I+1))else some false else if C=true then if(!((x7.toNat:Int)==47))=true then some false else iX j J C U (i64.wrap (I+1))else some false else(aV (j.size:Int) 1 J).bind λae=>some ae
def A6(j:ByteArray)(C:Int)(I:Bool):Option Bool:=
 iX j C I fuel 0
def cH(j:ByteArray):Option Bool:=
 (A6 j 8 false).bind λx1=>some x1
def dK(C:M.aG9):Nat->Int->Int->Option Bool
 |0,_,_=>none
 |U+1,I,J=>if(decide (J<((3:Nat):Int)))=true then(idx ([C.aHp,C.aHm,C.aHf]) J).bind λj=>(aV j 0 1000000000000).bind λah=>if(!ah)=true then some false else if(j !=0)=true then if(decide (j<=I))=true then some false else dK C U (if j>I then j else I) (i64.wrap (J+1))else dK C U (if j>I then j else I) (i64.wrap (J+1))else(cH C.aHL).bind λai=>some ai
def xI(j:M.aG9):Option Bool:=
 dK j fuel 0 0
def wD(j:M.aHU)(C:ByteArray)(I:ByteArray):Option Bool:=
 if(j.aHL.toList==C.toList)=true then some (j.aHv.toList==I.toList)else some false
def dA(C:List M.aHU)(I:M.aHU->Option Bool):Nat->Int->Option Int
 |0,_=>none
 |J+1,j=>if(decide (j<(List.length C:Int)))=true then(idx C j).bind λx7=>(I x7).bind λU=>if U=true then some j else dA C I J (i64.wrap (j+1))else some (-1)
def lK(j:List M.aHU)(C:M.aHU->Option Bool):Option Int:=
 dA j C fuel 0
def rQ(j:M.aHM)(C:ByteArray)(I:ByteArray):Option Int:=
 (lK j.aHS (λJ=>wD J C I)).bind λx1=>some x1
def uL(j:M.aHH):Option Bool:=
 (aV j.aH2 1 4).bind λx1=>if x1=true then(aV j.aHx 0 999).bind λx4=>if x4=true then(aV j.aHA 0 1000000000000).bind λx7=>if x7=true then some (decide ((List.length j.aH3:Int)<=60))else some false else some false else some false
def fG(x8:M.aHM)(I:Int->Option Bool):Nat->Int->Option Bool
 |0,_=>none
 |J+1,j=>if(decide (j<(List.length x8.aHS:Int)))=true then(idx x8.aHS j).bind λC=>(cH C.aHL).bind λU=>if(!U)=true then some false else(cH C.aHv).bind λaj=>if(!aj)=true then some false else(rQ x8 C.aHL C.aHv).bind λak=>if(ak !=j)=true then some false else(uL C.aHH).bind λal=>if(!al)=true then some false else fG x8 I J (i64.wrap (j+1))else I j
def eQ(x8:M.aHM)(I:Int->Option Bool):Nat->Int->Option Bool
 |0,_=>none
 |J+1,j=>if(decide (j<(List.length x8.aHS:Int)))=true then(idx x8.aHS j).bind λC=>(cH C.aHL).bind λU=>if(!U)=true then some false else(cH C.aHv).bind λaj=>if(!aj)=true then some false else(rQ x8 C.aHL C.aHv).bind λak=>if(ak !=j)=true then some false else(uL C.aHH).bind λal=>if(!al)=true then some false else eQ x8 I J (i64.wrap (j+1))else I j
def fF(C:M.aF):Nat->Int->Option Bool
 |0,_=>none
 |I+1,j=>if(decide (j<(List.length C.aHC:Int)))=true then(idx C.aHC j).bind λx8=>(aV x8.aHA 1 1000000000000).bind λJ=>if(!J)=true then some false else if(decide (j>0))=true then(idx C.aHC (i64.wrap (j-1))).bind λU=>if(decide (x8.aHA<=U.aHA))=true then some false else if(decide ((List.length x8.aHS:Int)>12))=true then some false else fG x8 (λ(aa:Int)=>fF C I (i64.wrap (j+1))) fuel 0 else if(decide ((List.length x8.aHS:Int)>12))=true then some false else eQ x8 (λ(ae:Int)=>fF C I (i64.wrap (j+1))) fuel 0 else some (decide ((List.length C.aHC:Int)<=4))
def xZ(j:M.aF):Option Bool:=
 fF j fuel 0
def eG(j:ByteArray):Nat->Int->Option Bool
 |0,_=>none
 |I+1,C=>if(decide (C<(j.size:Int)))=true then(Xj j C).bind λx5=>if(decide ((x5.toNat:Int)>=97))=true then if(decide ((x5.toNat:Int)<=122))=true then eG j I (i64.wrap (C+1))else if(decide ((x5.toNat:Int)>=48))=true then if(!(decide ((x5.toNat:Int)<=57)))=true then some false else eG j I (i64.wrap (C+1))else some false else if(decide ((x5.toNat:Int)>=48))=true then if(!(decide ((x5.toNat:Int)<=57)))=true then some false else eG j I (i64.wrap (C+1))else some false else some (decide ((j.size:Int)<=12))
def zS(j:ByteArray):Option Bool:=
 eG j fuel 0
def wW(j:M.Key):Option Bool:=
 (aV j.aHb 1 3).bind λx1=>if(!x1)=true then some false else(aV j.N (-1000000000000) 1000000000000).bind λx4=>if(!x4)=true then some false else(zS j.aHi).bind λx7=>if(!x7)=true then some false else if(j.aHb==2)=true then if(!(j.N !=0))=true then if(j.aHb==1)=true then some (!(!(j.aHi.toList==(⟨#[]⟩:ByteArray).toList)))else some true else some false else if(j.aHb==1)=true then some (!(!(j.aHi.toList==(⟨#[]⟩:ByteArray).toList)))else some true
def iB(j:M.aD):Nat->Int->Option Bool
 |0,_=>none
 |I+1,C=>if(decide (C<(List.length j.aHG:Int)))=true then(idx j.aHG C).bind λx8=>(cH x8.Name).bind λU=>if(!U)=true then some false else(aV x8.N 0 1000000000).bind λah=>if(!ah)=true then some false else if(decide (C>0))=true then(idx j.aHG (i64.wrap (C-1))).bind λJ=>if(Op.bytesLess x8.Name.toList J.Name.toList||x8.Name.toList==J.Name.toList)=true then some false else iB j I (i64.wrap (C+1))else iB j I (i64.wrap (C+1))else some (decide ((List.length j.aHG:Int)<=6))
def yG(j:M.aD):Option Bool:=
 iB j fuel 0
def wV(j:Int)(C:Int):Option Int:=
 if(decide (j<C))=true then some (-1)else if(decide (j>C))=true then some 1 else some 0
def pH(j:ByteArray)(C:ByteArray):Option Int:=some (Lib.compareBytes j.data.toList C.data.toList)
def A8(j:ByteArray)(C:ByteArray):Option Int:=
 (pH j C).bind λx1=>some x1
def sM(j:M.Key)(C:M.Key):Option Int:=
 (wW j).bind λx1=>if(!x1)=true then some 0 else(wW C).bind λx4=>if(!x4)=true then some 0 else(wV j.aHb C.aHb).bind λx7=>if(x7 !=0)=true then some x7 else(wV j.N C.N).bind λI=>if(I !=0)=true then some I else(A8 j.aHi C.aHi).bind λJ=>some J
def kI(j:M.aC):Nat->Int->Option Bool
 |0,_=>none
 |I+1,C=>if(decide (C<(List.length j.aHF:Int)))=true then(idx j.aHF C).bind λx8=>(wW x8.Key).bind λJ=>if(!J)=true then some false else(yG x8.aD).bind λU=>if(!U)=true then some false else if(decide (C>0))=true then(idx j.aHF (i64.wrap (C-1))).bind λah=>(sM ah.Key x8.Key).bind λai=>if(decide (ai>=0))=true then some false else kI j I (i64.wrap (C+1))else kI j I (i64.wrap (C+1))else(cH j.Name).bind λaj=>if aj=true then if(decide ((List.length j.aHF:Int)<=16))=true then(aV j.aHg 0 1000000).bind λak=>some ak else some false else some false
def xR(j:M.aC):Option Bool:=
 kI j fuel 0
def wX(C:M.aC)(j:ByteArray):Option Bool:=
 some (C.Name.toList==j.toList)
def dI(C:List M.aC)(I:M.aC->Option Bool):Nat->Int->Option Int
 |0,_=>none
 |J+1,j=>if(decide (j<(List.length C:Int)))=true then(idx C j).bind λx7=>(I x7).bind λU=>if U=true then some j else dI C I J (i64.wrap (j+1))else some (-1)
def mT(j:List M.aC)(C:M.aC->Option Bool):Option Int:=
 dI j C fuel 0
def zU(j:M.aHB)(C:ByteArray):Option Int:=
 (mT j.aHP (λI=>wX I C)).bind λx1=>some x1
def dU(C:List M.aN)(I:M.aN):Nat->Int->Option Int
 |0,_=>none
 |J+1,j=>if(decide (j<(List.length C:Int)))=true then(idx C j).bind λx8=>if((I.aC.toList==x8.aC.toList)&&(I.Field.toList==x8.Field.toList))=true then some j else dU C I J (i64.wrap (j+1))else some (-1)
def nX(j:List M.aN)(C:M.aN):Option Int:=
 dU j C fuel 0
def kM(j:List M.aN)(C:M.aN):Option Bool:=
 (nX j C).bind λx1=>some (decide (x1>=0))
def zQ(C:M.Field)(j:ByteArray):Option Bool:=
 some (C.Name.toList==j.toList)
def dF(C:List M.Field)(I:M.Field->Option Bool):Nat->Int->Option Int
 |0,_=>none
 |J+1,j=>if(decide (j<(List.length C:Int)))=true then(idx C j).bind λx7=>(I x7).bind λU=>if U=true then some j else dF C I J (i64.wrap (j+1))else some (-1)
def nB(j:List M.Field)(C:M.Field->Option Bool):Option Int:=
 dF j C fuel 0
def C2(j:M.aD)(C:ByteArray):Option Int:=
 (nB j.aHG (λI=>zQ I C)).bind λx1=>some x1
def nZ(j:M.aD)(C:ByteArray):Option (Int×Bool):=
 (C2 j C).bind λx1=>if(decide (x1<0))=true then some (0,false)else(idx j.aHG x1).bind λx4=>some (x4.N,true)
def wZ(j:M.aHV)(C:M.aHV)(I:ByteArray):Option Bool:=
 (nZ j.aD I).bind λx1=>(nZ C.aD I).bind λx3=>if(decide (x1.1<x3.1))=true then some true else if(x1.1==x3.1)=true then(sM j.Key C.Key).bind λx7=>some (decide (x7<0))else some false
def rA(U:ByteArray)(I:List M.aHV)(J:M.aHV)(C:Int->Option (List M.aHV)):Nat->Int->Option (List M.aHV)
 |0,_=>none
 |ai+1,j=>if(decide (j>0))=true then(idx I (i64.wrap (j-1))).bind λaj=>(wZ J aj U).bind λak=>if ak=true then rA U I J C ai (i64.wrap (j-1))else C j else C j
def mN(I:M.aC)(J:ByteArray):Nat->Int->List M.aHV->Option (List M.aHV)
 |0,_,_=>none
 |ai+1,C,j=>if(decide (C<(List.length I.aHF:Int)))=true then(idx I.aHF C).bind λah=>(nZ ah.aD J).bind λak=>if(!ak.2)=true then mN I J ai (i64.wrap (C+1)) j else rA J j ah (λ(U:Int)=>(yX ah).bind λaj=>(PX 56 j U ([aj])).bind λal=>mN I J ai (i64.wrap (C+1)) (List.take U.toNat j++([aj]++List.drop U.toNat j))) fuel (List.length j:Int)else some j
def Bs(j:M.aC)(C:ByteArray):Option (List M.aHV):=
 mN j C fuel 0 ([]:List M.aHV)
def fW(C:ByteArray)(x1:(List M.aHV)):Nat->Int->Option (M.Key×M.Key×Bool)
 |0,_=>none
 |U+1,j=>if(decide (j<(List.length x1:Int)))=true then(idx x1 (i64.wrap (j-1))).bind λI=>(nZ I.aD C).bind λah=>(idx x1 j).bind λJ=>(nZ J.aD C).bind λai=>if(ah.1==ai.1)=true then some (I.Key,J.Key,true)else fW C x1 U (i64.wrap (j+1))else some ((⟨0,0,(⟨#[]⟩:ByteArray)⟩:M.Key),(⟨0,0,(⟨#[]⟩:ByteArray)⟩:M.Key),false)
def kW(C:M.aC)(j:ByteArray):Option (M.Key×M.Key×Bool):=
 (Bs C j).bind λx1=>fW j x1 fuel 1
def fE(j:M.aHB):Nat->Int->Option Bool
 |0,_=>none
 |U+1,C=>if(decide (C<(List.length j.aHX:Int)))=true then(idx j.aHX C).bind λI=>(zU j I.aC).bind λJ=>if(decide (J<0))=true then some false else(cH I.Field).bind λai=>if(!ai)=true then some false else(AX j.aHX C).bind λao=>(kM (List.take C.toNat j.aHX) I).bind λaj=>if aj=true then some false else(idx j.aHP J).bind λak=>(kW ak I.Field).bind λal=>if al.2.2=true then some false else fE j U (i64.wrap (C+1))else some true
def fA(C:M.aHB):Nat->Int->Option Bool
 |0,_=>none
 |J+1,j=>if(decide (j<(List.length C.aHP:Int)))=true then(idx C.aHP j).bind λI=>(xR I).bind λai=>if(!ai)=true then some false else if(decide (j>0))=true then(idx C.aHP (i64.wrap (j-1))).bind λU=>if(Op.bytesLess I.Name.toList U.Name.toList||I.Name.toList==U.Name.toList)=true then some false else fA C J (i64.wrap (j+1))else fA C J (i64.wrap (j+1))else fE C fuel 0
def xY(j:M.aHB):Option Bool:=
 (cH j.Name).bind λx1=>if(!x1)=true then some false else(aV j.aHA 0 1000).bind λx4=>if(!x4)=true then some false else if(decide ((List.length j.aHP:Int)>4))=true then some false else if(decide ((List.length j.aHX:Int)>4))=true then some false else fA j fuel 0
def oQ(j:M.bB):Option Bool:=
 (aV j.aHI 1 1000000).bind λx1=>if x1=true then(aV j.Seq 1 1000000).bind λx4=>if x4=true then(wW j.Key).bind λx7=>if x7=true then(cH j.Field).bind λC=>if C=true then(aV j.N 0 1000000000).bind λI=>some I else some false else some false else some false else some false
def nW(j:M.aJ):Nat->Int->Option Bool
 |0,_=>none
 |I+1,C=>if(decide (C<(List.length j.aHW:Int)))=true then(idx j.aHW C).bind λx9=>(oQ x9).bind λJ=>if(!J)=true then some false else if(x9.aHI !=j.aHI)=true then some false else if(x9.Seq !=(i64.wrap ((i64.wrap (j.aHj-(List.length j.aHW:Int)))+C)))=true then some false else nW j I (i64.wrap (C+1))else(aV j.aHI 1 1000000).bind λU=>if U=true then(aV j.aHj 1 1000000).bind λai=>if ai=true then some (decide ((List.length j.aHW:Int)<=20))else some false else some false
def yL(j:M.aJ):Option Bool:=
 nW j fuel 0
def Ag(j:M.aE):Option Bool:=
 (xR j.aHa).bind λx1=>if x1=true then if(j.aHa.Name.toList==(⟨#[110,111,116,101,115]⟩:ByteArray).toList)=true then(aV j.aHw 0 1000000000000).bind λx5=>if x5=true then(yL j.aHY.aJ).bind λx8=>some x8 else some false else some false else some false
def zE(j:M.aHH)(C:Bool):Option Int:=
 if C=true then some 76 else some (i64.wrap (16+(List.length j.aH3:Int)))
def kP(x7:M.aHM)(I:Int->Int->Option Int):Nat->Int->Int->Option Int
 |0,_,_=>none
 |U+1,C,j=>if(decide (j<(List.length x7.aHS:Int)))=true then(idx x7.aHS j).bind λJ=>(zE J.aHH (J.aHH.aH2==3)).bind λaj=>kP x7 I U (i64.wrap (C+aj)) (i64.wrap (j+1))else I C j
def fD(C:M.aF):Nat->Int->Int->Option Int
 |0,_,_=>none
 |U+1,I,j=>if(decide (j<(List.length C.aHC:Int)))=true then(idx C.aHC j).bind λx7=>kP x7 (λ(J:Int) (ae:Int)=>fD C U J (i64.wrap (j+1))) fuel I 0 else some I
def yV(j:M.aF):Option Int:=
 fD j fuel 0 0
def gF(j:M.Key):Nat->Int->List Int->Option (List Int)
 |0,_,_=>none
 |J+1,C,I=>if(decide (C>=0))=true then if(decide (0<=(i64.wrap (8*C))))=true then(app 1 I ([IntKind.u8.wrap (Int.fdiv (i64.wrap (j.N+1000000000000)) (2^(min (i64.wrap (8*C)).toNat IntKind.i64.bits)))])).bind λU=>gF j J (i64.wrap (C-1)) (I++[IntKind.u8.wrap (Int.fdiv (i64.wrap (j.N+1000000000000)) (2^(min (i64.wrap (8*C)).toNat IntKind.i64.bits)))])else none else(app 1 I (bR j.aHi)).bind λah=>some (I++bR j.aHi)
def Ad(j:M.Key):Option (List Int):=
 (wW j).bind λx1=>if(!x1)=true then some ([]:List Int)else if(j.aHb !=2)=true then gF j fuel 5 ([IntKind.u8.wrap j.aHb])else(app 1 ([IntKind.u8.wrap j.aHb]) (bR j.aHi)).bind λC=>some ([IntKind.u8.wrap j.aHb]++bR j.aHi)
def gH  :Nat->Int->List Int->Option (List Int)
 |0,_,_=>none
 |I+1,j,C=>if(decide (j>=128))=true then(app 1 C ([IntKind.u8.wrap (i64.wrap ((Int.tmod j 128)+128))])).bind λJ=>gH I (i64.wrap (Int.tdiv j 128)) (C++[IntKind.u8.wrap (i64.wrap ((Int.tmod j 128)+128))])else(app 1 C ([IntKind.u8.wrap j])).bind λU=>some (C++[IntKind.u8.wrap j])
def kO(C:List Int)(j:Int):Option (List Int):=
 (lQ C).bind λx1=>(aV j 0 1000000000000).bind λx3=>if(!x3)=true then some x1 else gH fuel j x1
def xD(C:List Int)(j:List Int):Option (List Int):=
 (kO C (List.length j:Int)).bind λx1=>(app 1 x1 j).bind λx3=>some (x1++j)
def hH(C:M.aD):Nat->Int->List Int->Option (List Int)
 |0,_,_=>none
 |U+1,j,I=>if(decide (j<(List.length C.aHG:Int)))=true then(idx C.aHG j).bind λJ=>(xD I (bR J.Name)).bind λai=>(kO ai J.N).bind λaj=>hH C U (i64.wrap (j+1)) aj else some I
def vD(j:M.aD):Option (List Int):=
 (yG j).bind λx1=>if(!x1)=true then some ([]:List Int)else(kO ([]:List Int) (List.length j.aHG:Int)).bind λx4=>hH j fuel 0 x4
def lU(j:M.aC):Nat->Int->Int->Option Int
 |0,_,_=>none
 |J+1,I,C=>if(decide (C<(List.length j.aHF:Int)))=true then(idx j.aHF C).bind λx7=>(Ad x7.Key).bind λU=>(vD x7.aD).bind λaf=>lU j J (i64.wrap (I+(i64.wrap ((List.length U:Int)+(List.length af:Int))))) (i64.wrap (C+1))else some I
def wG(j:M.aC):Option Int:=
 lU j fuel 0 0
def gX(j:M.aHB):Nat->Int->Int->Option Int
 |0,_,_=>none
 |J+1,I,C=>if(decide (C<(List.length j.aHP:Int)))=true then(idx j.aHP C).bind λx7=>(wG x7).bind λU=>gX j J (i64.wrap (I+U)) (i64.wrap (C+1))else some I
def uZ(j:M.aHB):Option Int:=
 gX j fuel 0 0
def Cd(j:M.bP):Option Int:=
 (uZ j.aHa).bind λx1=>some (i64.wrap (x1+(List.length j.Log:Int)))
def Br(j:M.aHD):Option Int:=
 (yV j.aHC).bind λx1=>(Cd j.bP).bind λx3=>(wG j.aE.aHa).bind λx5=>some (i64.wrap ((i64.wrap ((i64.wrap (x1+x3))+x5))+(i64.wrap (40*(List.length j.aE.aHY.aJ.aHW:Int)))))
def yR(j:M.aHD):Option Bool:=
 (cH j.aHL).bind λx1=>if x1=true then(cH j.Top).bind λx4=>if x4=true then(xI j.aG9).bind λx7=>if x7=true then if(j.aG9.aHL.toList==j.aHL.toList)=true then(xZ j.aHC).bind λC=>if C=true then(xY j.bP.aHa).bind λI=>if I=true then(Ag j.aE).bind λJ=>if J=true then(aV j.aHk 0 1000000000000).bind λU=>if U=true then(Br j).bind λai=>some (decide (ai<=2500))else some false else some false else some false else some false else some false else some false else some false else some false
def rJ(j:M.aHD)(C:M.aHD):Option Bool:=
 if(Op.bytesLess j.aHL.toList C.aHL.toList)=true then some true else if(j.aHL.toList==C.aHL.toList)=true then some (Op.bytesLess j.Top.toList C.Top.toList)else some false
def gI(j:M.aA):Nat->Int->Option Bool
 |0,_=>none
 |I+1,C=>if(decide (C<(List.length j.aHE:Int)))=true then(idx j.aHE C).bind λx8=>(yR x8).bind λJ=>if(!J)=true then some false else if(decide (C>0))=true then(idx j.aHE (i64.wrap (C-1))).bind λU=>(rJ U x8).bind λah=>if(!ah)=true then some false else gI j I (i64.wrap (C+1))else gI j I (i64.wrap (C+1))else some (decide ((List.length j.aHE:Int)<=9))
def cO(j:M.aA):Option Bool:=
 gI j fuel 0
def yA(j:ByteArray):Option Bool:=
 (A6 j 30 true).bind λx1=>some x1
def cR(I:M.aM)(j:Int)(x8:M.dO)(J:Int->Option Bool):Nat->Int->Option Bool
 |0,_=>none
 |U+1,C=>if(decide (C<(List.length (List.take j.toNat I.aHR):Int)))=true then(idx (List.take j.toNat I.aHR) C).bind λah=>if(ah.Name.toList==x8.Name.toList)=true then if x8.aH4=true then if(!ah.aH4)=true then some false else if(!x8.aHo)=true then some false else if(!ah.aHo)=true then some false else cR I j x8 J U (i64.wrap (C+1))else cR I j x8 J U (i64.wrap (C+1))else cR I j x8 J U (i64.wrap (C+1))else J C
def fY(C:M.aM):Nat->Int->Option Bool
 |0,_=>none
 |I+1,j=>if(decide (j<(List.length C.aHR:Int)))=true then(idx C.aHR j).bind λx8=>(yA x8.Name).bind λJ=>if(!J)=true then some false else(aV x8.bC 1 1000000000000).bind λU=>if(!U)=true then some false else(AX C.aHR j).bind λai=>cR C j x8 (λ(aa:Int)=>fY C I (i64.wrap (j+1))) fuel 0 else some (decide ((List.length C.aHR:Int)<=12))
def wU(j:M.aM):Option Bool:=
 fY j fuel 0
def tQ(j:M.bC):Nat->Int->Option Bool
 |0,_=>none
 |I+1,C=>if(decide (C<(List.length j.aT:Int)))=true then(idx j.aT C).bind λx8=>(cH x8.aHv).bind λJ=>if(!J)=true then some false else if(x8.aHA !=j.aHA)=true then some false else tQ j I (i64.wrap (C+1))else(aV j.Id 1 1000000000000).bind λU=>if U=true then(cH j.aHL).bind λah=>if ah=true then(cH j.Top).bind λai=>if ai=true then(aV j.aHA 1 1000000000000).bind λaj=>if aj=true then some (decide ((List.length j.aT:Int)<=8))else some false else some false else some false else some false
def uF(j:M.bC):Option Bool:=
 tQ j fuel 0
def uX(j:M.aHD)(C:ByteArray)(I:ByteArray):Option Bool:=
 if(j.aHL.toList==C.toList)=true then some (j.Top.toList==I.toList)else some false
def cZ(C:List M.aHD)(I:M.aHD->Option Bool):Nat->Int->Option Int
 |0,_=>none
 |J+1,j=>if(decide (j<(List.length C:Int)))=true then(idx C j).bind λx7=>(I x7).bind λU=>if U=true then some j else cZ C I J (i64.wrap (j+1))else some (-1)
def lC(j:List M.aHD)(C:M.aHD->Option Bool):Option Int:=
 cZ j C fuel 0
def iZ(j:M.aA)(C:ByteArray)(I:ByteArray):Option Int:=
 (lC j.aHE (λJ=>uX J C I)).bind λx1=>some x1
def lN(j:M.aHL):Nat->Int->Option Bool
 |0,_=>none
 |I+1,C=>if(decide (C<(List.length j.aHl:Int)))=true then(idx j.aHl C).bind λx8=>(cH x8).bind λU=>if(!U)=true then some false else if(decide (C>0))=true then(idx j.aHl (i64.wrap (C-1))).bind λJ=>if(Op.bytesLess x8.toList J.toList||x8.toList==J.toList)=true then some false else lN j I (i64.wrap (C+1))else lN j I (i64.wrap (C+1))else(cH j.Name).bind λah=>if ah=true then(aV j.aHA 1 1000000000000).bind λai=>if ai=true then(aV (List.length j.aHl:Int) 1 6).bind λaj=>some aj else some false else some false
def zJ(j:M.aHL):Option Bool:=
 lN j fuel 0
def cD(C:List ByteArray)(I:ByteArray):Nat->Int->Option Int
 |0,_=>none
 |J+1,j=>if(decide (j<(List.length C:Int)))=true then(idx C j).bind λx7=>if(I.toList==x7.toList)=true then some j else cD C I J (i64.wrap (j+1))else some (-1)
def mY(j:List ByteArray)(C:ByteArray):Option Int:=
 cD j C fuel 0
def mQ(j:ByteArray):Option Int:=
 (mY ([(⟨#[98,97,110,107]⟩:ByteArray),(⟨#[110,101,119,115]⟩:ByteArray),(⟨#[115,104,111,112]⟩:ByteArray)]) j).bind λx1=>some x1
def kV(j:M.aHO):Nat->Int->Option Bool
 |0,_=>none
 |I+1,C=>if(decide (C<(List.length j.aHd:Int)))=true then(idx j.aHd C).bind λJ=>(oQ J).bind λU=>if(!U)=true then some false else kV j I (i64.wrap (C+1))else(xR j.aC).bind λai=>if ai=true then if(j.aC.Name.toList==(⟨#[110,111,116,101,115]⟩:ByteArray).toList)=true then some (decide ((List.length j.aO:Int)<=60))else some false else some false
def iA(C:M.aHO):Nat->Int->Option Bool
 |0,_=>none
 |I+1,j=>if(decide (j<(List.length C.aO:Int)))=true then(idx C.aO j).bind λx8=>(aV x8.aHI 1 1000000).bind λJ=>if(!J)=true then some false else(aV x8.Seq 0 1000000).bind λU=>if(!U)=true then some false else if(decide (j>0))=true then(idx C.aO (i64.wrap (j-1))).bind λah=>if(decide (x8.aHI<=ah.aHI))=true then some false else iA C I (i64.wrap (j+1))else iA C I (i64.wrap (j+1))else kV C fuel 0
def AS(j:M.aHO):Option Bool:=
 iA j fuel 0
def kD(C:M.World):Nat->Int->Option Bool
 |0,_=>none
 |J+1,j=>if(decide (j<(List.length C.aHZ:Int)))=true then(idx C.aHZ j).bind λI=>(zJ I).bind λU=>if(!U)=true then some false else(mQ I.Name).bind λai=>if(ai !=j)=true then some false else(idx C.aHT j).bind λaj=>(AS aj).bind λak=>if(!ak)=true then some false else kD C J (i64.wrap (j+1))else some true
def fI(j:M.World):Nat->Int->Option Bool
 |0,_=>none
 |J+1,I=>if(decide (I<(List.length j.aHQ:Int)))=true then(idx j.aHQ I).bind λC=>(uF C).bind λU=>if(!U)=true then some false else if(decide (C.Id>=j.aHK))=true then some false else if(decide (I>0))=true then(idx j.aHQ (i64.wrap (I-1))).bind λai=>if(decide (C.Id<=ai.Id))=true then some false else(iZ j.aA C.aHL C.Top).bind λaj=>if(decide (aj<0))=true then some false else fI j J (i64.wrap (I+1))else(iZ j.aA C.aHL C.Top).bind λak=>if(decide (ak<0))=true then some false else fI j J (i64.wrap (I+1))else kD j fuel 0
def nL(j:M.World):Option Bool:=
 (aV j.Now 0 999999990000).bind λx1=>if(!x1)=true then some false else(aV j.aHI 1 1000000).bind λx4=>if(!x4)=true then some false else(cO j.aA).bind λx7=>if(!x7)=true then some false else if(decide ((List.length j.aHQ:Int)>6))=true then some false else(aV j.aHK 1 1000000000000).bind λC=>if(!C)=true then some false else(wU j.aHR).bind λI=>if(!I)=true then some false else if((List.length j.aHZ:Int) !=3)=true then some false else if((List.length j.aHT:Int) !=3)=true then some false else fI j fuel 0
def rX(j:M.World)(C:ByteArray)(I:ByteArray):Option (M.aHD×Bool):=
 (iZ j.aA C I).bind λx1=>if(decide (x1<0))=true then some ((⟨(⟨#[]⟩:ByteArray),(⟨#[]⟩:ByteArray),(⟨(⟨#[]⟩:ByteArray),0,0,0⟩:M.aG9),(⟨([]:List M.aHM)⟩:M.aF),(⟨(⟨(⟨#[]⟩:ByteArray),0,([]:List M.aC),([]:List M.aN)⟩:M.aHB),([]:List Int),0⟩:M.bP),(⟨(⟨(⟨#[]⟩:ByteArray),([]:List M.aHV),0⟩:M.aC),0,(⟨(⟨0,0,([]:List M.bB)⟩:M.aJ),0,0⟩:M.aHY)⟩:M.aE),0,false⟩:M.aHD),false)else(idx j.aA.aHE x1).bind λx4=>some (x4,true)
def zO(j:M.World):Option Int:=
 some (i64.wrap ((i64.wrap (1000*j.aHI))+j.aHK))
def BN(j:Int):Option (M.aJ×Bool):=
 (yL (⟨j,1,([]:List M.bB)⟩:M.aJ)).bind λx1=>if(!x1)=true then some ((⟨0,0,([]:List M.bB)⟩:M.aJ),false)else some ((⟨j,1,([]:List M.bB)⟩:M.aJ),true)
def Ab(j:ByteArray)(C:ByteArray)(J:Int):Option (M.aHD×Bool):=
 (BN J).bind λx1=>if(!x1.2)=true then some ((⟨(⟨#[]⟩:ByteArray),(⟨#[]⟩:ByteArray),(⟨(⟨#[]⟩:ByteArray),0,0,0⟩:M.aG9),(⟨([]:List M.aHM)⟩:M.aF),(⟨(⟨(⟨#[]⟩:ByteArray),0,([]:List M.aC),([]:List M.aN)⟩:M.aHB),([]:List Int),0⟩:M.bP),(⟨(⟨(⟨#[]⟩:ByteArray),([]:List M.aHV),0⟩:M.aC),0,(⟨(⟨0,0,([]:List M.bB)⟩:M.aJ),0,0⟩:M.aHY)⟩:M.aE),0,false⟩:M.aHD),false)else(yR (⟨j,C,(⟨j,0,0,0⟩:M.aG9),(⟨([]:List M.aHM)⟩:M.aF),(⟨(⟨(⟨#[97,112,112]⟩:ByteArray),1,[(⟨(⟨#[110,111,116,101,115]⟩:ByteArray),([]:List M.aHV),0⟩:M.aC)],([]:List M.aN)⟩:M.aHB),([]:List Int),0⟩:M.bP),(⟨(⟨(⟨#[110,111,116,101,115]⟩:ByteArray),([]:List M.aHV),0⟩:M.aC),0,(⟨x1.1,0,0⟩:M.aHY)⟩:M.aE),0,false⟩:M.aHD)).bind λI=>if(!I)=true then some ((⟨(⟨#[]⟩:ByteArray),(⟨#[]⟩:ByteArray),(⟨(⟨#[]⟩:ByteArray),0,0,0⟩:M.aG9),(⟨([]:List M.aHM)⟩:M.aF),(⟨(⟨(⟨#[]⟩:ByteArray),0,([]:List M.aC),([]:List M.aN)⟩:M.aHB),([]:List Int),0⟩:M.bP),(⟨(⟨(⟨#[]⟩:ByteArray),([]:List M.aHV),0⟩:M.aC),0,(⟨(⟨0,0,([]:List M.bB)⟩:M.aJ),0,0⟩:M.aHY)⟩:M.aE),0,false⟩:M.aHD),false)else some ((⟨j,C,(⟨j,0,0,0⟩:M.aG9),(⟨([]:List M.aHM)⟩:M.aF),(⟨(⟨(⟨#[97,112,112]⟩:ByteArray),1,[(⟨(⟨#[110,111,116,101,115]⟩:ByteArray),([]:List M.aHV),0⟩:M.aC)],([]:List M.aN)⟩:M.aHB),([]:List Int),0⟩:M.bP),(⟨(⟨(⟨#[110,111,116,101,115]⟩:ByteArray),([]:List M.aHV),0⟩:M.aC),0,(⟨x1.1,0,0⟩:M.aHY)⟩:M.aE),0,false⟩:M.aHD),true)
def zL(j:M.World)(C:ByteArray):Option M.aHL:=
 (mQ C).bind λx1=>if(decide (x1<0))=true then some (⟨(⟨#[]⟩:ByteArray),0,([]:List ByteArray),false⟩:M.aHL)else if(decide (x1>=(List.length j.aHZ:Int)))=true then some (⟨(⟨#[]⟩:ByteArray),0,([]:List ByteArray),false⟩:M.aHL)else(idx j.aHZ x1).bind λx5=>some x5
def rN(j:M.aG9)(C:M.aHL)(I:Bool):Option Int:=
 if(j.aHp !=0)=true then some j.aHp else if I=true then some C.aHA else some 0
def xM(j:M.Instr)(p1:Int):Option Bool:=
 ((aV j.aHb 1 9).bind λx8=>if(!x8)=true then some true else(aV j.R 0 3).bind λC=>if(!C)=true then some true else if(j.aHb==4)=true then some (j.R !=0)else if(j.aHb==9)=true then some (j.R !=0)else some false).bind λx1=>if x1=true then some false else(if(j.aHb==5)=true then some true else if(j.aHb==6)=true then some true else if(j.aHb==7)=true then some true else some (j.aHb==8)).bind λI=>(if I=true then(cH j.aHi).bind λJ=>if(!J)=true then some true else some false else some (!(j.aHi.toList==(⟨#[]⟩:ByteArray).toList))).bind λU=>if U=true then some false else if(j.aHb==1)=true then(aV j.N 0 1000).bind λai=>some ai else if(j.aHb==2)=true then(aV j.N 0 3).bind λaj=>some aj else(if(j.aHb==3)=true then some (j.aHb==3)else some (j.aHb==4)).bind λak=>if ak=true then(aV j.N 0 p1).bind λal=>some al else(if(j.aHb==6)=true then some (j.aHb==6)else if(j.aHb==7)=true then some (j.aHb==7)else some (j.aHb==8)).bind λao=>if ao=true then(aV j.N 0 100).bind λaq=>some aq else some (j.N==0)
def oJ(j:List M.Instr):Nat->Int->Option Bool
 |0,_=>none
 |I+1,C=>if(decide (C<(List.length j:Int)))=true then(idx j C).bind λx7=>(xM x7 (List.length j:Int)).bind λJ=>if(!J)=true then some false else oJ j I (i64.wrap (C+1))else some (decide ((List.length j:Int)<=16))
def AR(j:List M.Instr):Option Bool:=
 oJ j fuel 0
def yI(j:List M.Instr):Option M.aHJ:=
 (AR j).bind λx8=>if(!x8)=true then some (⟨([]:List M.Instr),0,List.replicate 4 0,0,true,false⟩:M.aHJ)else(app 40 ([]:List M.Instr) j).bind λC=>some (⟨j,0,List.replicate 4 0,0,false,false⟩:M.aHJ)
def tJ(j:Int)(C:ByteArray)(I:ByteArray)(J:Int)(U:List M.Instr):Option (M.bC×Bool):=
 (yI U).bind λx1=>(uF (⟨j,C,I,J,([]:List M.aT),x1⟩:M.bC)).bind λx3=>if(!x3)=true then some ((⟨0,(⟨#[]⟩:ByteArray),(⟨#[]⟩:ByteArray),0,([]:List M.aT),(⟨([]:List M.Instr),0,([]:List Int),0,false,false⟩:M.aHJ)⟩:M.bC),false)else some ((⟨j,C,I,J,([]:List M.aT),x1⟩:M.bC),true)
def wY(C:M.aHM)(j:Int):Option Bool:=
 some (C.aHA==j)
def dH(C:List M.aHM)(I:M.aHM->Option Bool):Nat->Int->Option Int
 |0,_=>none
 |J+1,j=>if(decide (j<(List.length C:Int)))=true then(idx C j).bind λx7=>(I x7).bind λU=>if U=true then some j else dH C I J (i64.wrap (j+1))else some (-1)
def mR(j:List M.aHM)(C:M.aHM->Option Bool):Option Int:=
 dH j C fuel 0
def Ai(j:M.aF)(C:Int):Option Int:=
 (mR j.aHC (λI=>wY I C)).bind λx1=>some x1
def eX  :Option M.aHH:=
 some (⟨4,0,0,([]:List Int),false⟩:M.aHH)
def zA(C:M.aF)(p1:Int)(p2:ByteArray)(p3:ByteArray):Option (M.aHH×Bool):=
 (Ai C p1).bind λx1=>(if(decide (x1<0))=true then((eX).bind λx4=>(some (x4,false)))else((idx C.aHC x1).bind λx6=>((rQ x6 p2 p3).bind λj=>(if(decide (j<0))=true then((eX).bind λI=>(some (I,false)))else((idx x6.aHS j).bind λJ=>((mE J.aHH).bind λU=>(some (U,true))))))))
def uB(j:M.aHL)(C:Int):Option Bool:=
 (zJ j).bind λx1=>if x1=true then if(decide (C>(i64.wrap (j.aHA-2))))=true then if(decide (C<=j.aHA))=true then some (decide (C>=1))else some false else some false else some false
def sJ(j:List ByteArray)(C:ByteArray):Option Bool:=
 (mY j C).bind λx1=>some (decide (x1>=0))
def Bt(j:M.aHL)(C:ByteArray):Option Bool:=
 (sJ j.aHl C).bind λx1=>some x1
def iN(C:List Int):Nat->Int->List Int->Option (List Int)
 |0,_,_=>none
 |U+1,j,I=>if(decide (j<(List.length C:Int)))=true then(idx C j).bind λJ=>(app 8 I ([i64.wrap J])).bind λaf=>iN C U (i64.wrap (j+1)) (I++[i64.wrap J])else some I
def xG(j:List Int):Option (List Int):=
 iN j fuel 0 ([(List.length j:Int)])
def EO(C:Int)(j:Int):Option Int:=
 (aV j 1 1000000000000).bind λx1=>if(!x1)=true then some 0 else if(decide (j=0))=true then none else if(decide ((Int.tmod C j)<0))=true then some (i64.wrap ((Int.tmod C j)+j))else some (Int.tmod C j)
def xS(j:List Int):Nat->Int->Int->Option Int
 |0,_,_=>none
 |J+1,I,C=>if(decide (C<(List.length j:Int)))=true then(idx j C).bind λx7=>(EO x7 2147483647).bind λU=>xS j J (Int.tmod (i64.wrap ((i64.wrap ((i64.wrap (I*1000003))+U))+13)) 2147483647) (i64.wrap (C+1))else some I
def DU(j:List Int):Option Int:=
 xS j fuel 11 0
def wL(j:Int)(C:List Int):Option Int:=
 (app 8 ([j]) C).bind λx1=>(app 8 ([j]++C) ([j])).bind λx3=>(DU (([j]++C)++[j])).bind λx5=>some x5
def kK(j:Int)(C:ByteArray):Option Int:=
 (xG (bR C)).bind λx1=>(wL j x1).bind λx3=>if(x3==0)=true then some 1 else some x3
def fH(x5:Int):Nat->Int->List Int->Option (List Int)
 |0,_,_=>none
 |I+1,j,C=>if(decide (j>=0))=true then if(decide (0<=(i64.wrap (8*j))))=true then(app 1 C ([IntKind.u8.wrap (Int.fdiv x5 (2^(min (i64.wrap (8*j)).toNat IntKind.i64.bits)))])).bind λJ=>fH x5 I (i64.wrap (j-1)) (C++[IntKind.u8.wrap (Int.fdiv x5 (2^(min (i64.wrap (8*j)).toNat IntKind.i64.bits)))])else none else some C
def Cn(j:M.aHL)(C:ByteArray)(I:Int):Option (List Int):=
 (kK 107 j.Name).bind λx1=>(kK 109 C).bind λx3=>(wL (i64.wrap (1+I)) ([103,x1,x3])).bind λx5=>fH x5 fuel 5 ([]:List Int)
def zX(j:M.aHL)(I:ByteArray)(C:Int):Option M.aHH:=
 (zJ j).bind λx1=>(if(!x1)=true then((eX).bind λx4=>(some x4))else((uB j C).bind λx6=>(if(!x6)=true then(some (⟨1,404,j.aHA,([]:List Int),false⟩:M.aHH))else((Bt j I).bind λx9=>(if(!x9)=true then(some (⟨1,404,j.aHA,([]:List Int),false⟩:M.aHH))else((Cn j I C).bind λJ=>(some (⟨1,200,C,J,j.aHo⟩:M.aHH))))))))
def oM(J:M.aF)(j:M.aHL)(C:Int)(I:ByteArray)(U:Bool):Option M.aHH:=
 (zA J C j.Name I).bind λx1=>(if x1.2=true then(some x1.1)else(if U=true then((zX j I C).bind λx5=>(some x5))else((eX).bind λx7=>(some x7))))
def vJ(j:M.bC)(I:ByteArray)(C:M.aHH):Option (M.bC×Bool):=
 (iR j).bind λx1=>(app 24 x1.aT ([(⟨I,C.aHA⟩:M.aT)])).bind λx3=>if(C.aHx !=200)=true then(iR j).bind λJ=>some (J,false)else if(C.aHA !=j.aHA)=true then(iR j).bind λU=>some (U,false)else(uF j).bind λaf=>if(!af)=true then(iR j).bind λah=>some (ah,false)else(uF (⟨x1.Id,x1.aHL,x1.Top,x1.aHA,x1.aT++[(⟨I,C.aHA⟩:M.aT)],x1.aHJ⟩:M.bC)).bind λai=>if(!ai)=true then(iR j).bind λaj=>some (aj,false)else some ((⟨x1.Id,x1.aHL,x1.Top,x1.aHA,x1.aT++[(⟨I,C.aHA⟩:M.aT)],x1.aHJ⟩:M.bC),true)
def mC(C:M.aA)(I:M.aHD)(x1:M.aA):Nat->Int->Option (M.aA×Bool)
 |0,_=>none
 |af+1,j=>if(decide (j<(List.length x1.aHE:Int)))=true then(idx x1.aHE j).bind λah=>(rJ ah I).bind λai=>if ai=true then mC C I x1 af (i64.wrap (j+1))else(kC I).bind λJ=>(PX 328 x1.aHE j ([J])).bind λax=>(cO C).bind λaj=>if(!aj)=true then(cJ C).bind λak=>some (ak,false)else(cO (⟨List.take j.toNat x1.aHE++([J]++List.drop j.toNat x1.aHE)⟩:M.aA)).bind λal=>if(!al)=true then(cJ C).bind λao=>some (ao,false)else some ((⟨List.take j.toNat x1.aHE++([J]++List.drop j.toNat x1.aHE)⟩:M.aA),true)else(kC I).bind λU=>(PX 328 x1.aHE j ([U])).bind λay=>(cO C).bind λaq=>if(!aq)=true then(cJ C).bind λar=>some (ar,false)else(cO (⟨List.take j.toNat x1.aHE++([U]++List.drop j.toNat x1.aHE)⟩:M.aA)).bind λav=>if(!av)=true then(cJ C).bind λaw=>some (aw,false)else some ((⟨List.take j.toNat x1.aHE++([U]++List.drop j.toNat x1.aHE)⟩:M.aA),true)
def tE(j:M.aA)(C:M.aHD):Option (M.aA×Bool):=
 (cJ j).bind λx1=>(iZ j C.aHL C.Top).bind λx3=>if(decide (x3>=0))=true then(kC C).bind λx6=>(idx x1.aHE x3).bind λx8=>(cO j).bind λI=>if(!I)=true then(cJ j).bind λJ=>some (J,false)else(cO (⟨List.set x1.aHE x3.toNat x6⟩:M.aA)).bind λU=>if(!U)=true then(cJ j).bind λah=>some (ah,false)else some ((⟨List.set x1.aHE x3.toNat x6⟩:M.aA),true)else mC j C x1 fuel 0
def yE(j:M.World)(J:ByteArray)(p2:ByteArray)(p3:List M.Instr):Option (M.World×Int×Bool):=
 (iT j).bind λx1=>(nL j).bind λx3=>if(!x3)=true then some (x1,0,false)else(mQ J).bind λx6=>if(decide (x6<0))=true then some (x1,0,false)else(mQ p2).bind λx9=>if(decide (x9<0))=true then some (x1,0,false)else(rX x1 J p2).bind λC=>if C.2=true then(zL j J).bind λaw=>(rN C.1.aG9 aw j.aHc).bind λaj=>(tJ j.aHK J p2 aj p3).bind λax=>(oM C.1.aHC aw aj (⟨#[105,110,100,101,120]⟩:ByteArray) j.aHc).bind λba=>(vJ ax.1 (⟨#[105,110,100,101,120]⟩:ByteArray) ba).bind λai=>if(aj==0)=true then some (x1,0,false)else if(!ax.2)=true then some (x1,0,false)else if(!ai.2)=true then some (x1,0,false)else(tE x1.aA (⟨C.1.aHL,C.1.Top,C.1.aG9,C.1.aHC,C.1.bP,C.1.aE,j.Now,C.1.aHh⟩:M.aHD)).bind λak=>(app 144 x1.aHQ ([ai.1])).bind λbl=>if(!ak.2)=true then(iT j).bind λbd=>some (bd,0,false)else(nL (⟨x1.Now,x1.aHc,x1.aHI,ak.1,x1.aHQ++[ai.1],i64.wrap (x1.aHK+1),x1.aHR,x1.aHN,x1.aHZ,x1.aHT⟩:M.World)).bind λbf=>if(!bf)=true then(iT j).bind λbg=>some (bg,0,false)else some ((⟨x1.Now,x1.aHc,x1.aHI,ak.1,x1.aHQ++[ai.1],i64.wrap (x1.aHK+1),x1.aHR,x1.aHN,x1.aHZ,x1.aHT⟩:M.World),ai.1.Id,true)else(zO j).bind λbh=>(Ab J p2 bh).bind λI=>(zL j J).bind λay=>(rN I.1.aG9 ay j.aHc).bind λal=>(tJ j.aHK J p2 al p3).bind λaz=>(oM I.1.aHC ay al (⟨#[105,110,100,101,120]⟩:ByteArray) j.aHc).bind λao=>(vJ az.1 (⟨#[105,110,100,101,120]⟩:ByteArray) ao).bind λU=>if(al==0)=true then some (x1,0,false)else if(!az.2)=true then some (x1,0,false)else if(!U.2)=true then some (x1,0,false)else(tE x1.aA (⟨I.1.aHL,I.1.Top,I.1.aG9,I.1.aHC,I.1.bP,I.1.aE,j.Now,I.1.aHh⟩:M.aHD)).bind λah=>(app 144 x1.aHQ ([U.1])).bind λbj=>if(!ah.2)=true then(iT j).bind λaq=>some (aq,0,false)else(nL (⟨x1.Now,x1.aHc,x1.aHI,ah.1,x1.aHQ++[U.1],i64.wrap (x1.aHK+1),x1.aHR,x1.aHN,x1.aHZ,x1.aHT⟩:M.World)).bind λar=>if(!ar)=true then(iT j).bind λav=>some (av,0,false)else some ((⟨x1.Now,x1.aHc,x1.aHI,ah.1,x1.aHQ++[U.1],i64.wrap (x1.aHK+1),x1.aHR,x1.aHN,x1.aHZ,x1.aHT⟩:M.World),U.1.Id,true)
def eJ(C:List M.aHD)(I:List M.aHD)(J:M.aHD->M.aHD->Option Bool):Nat->Int->Option Bool
 |0,_=>none
 |U+1,j=>if(decide (j<(List.length C:Int)))=true then(idx C j).bind λx9=>(idx I j).bind λaf=>(J x9 af).bind λah=>if(!ah)=true then some false else eJ C I J U (i64.wrap (j+1))else some true
def lF(j:List M.aHD)(C:List M.aHD)(I:M.aHD->M.aHD->Option Bool):Option Bool:=
 if((List.length j:Int) !=(List.length C:Int))=true then some false else eJ j C I fuel 0
def fM(C:List M.aHM)(I:List M.aHM)(J:M.aHM->M.aHM->Option Bool):Nat->Int->Option Bool
 |0,_=>none
 |U+1,j=>if(decide (j<(List.length C:Int)))=true then(idx C j).bind λx9=>(idx I j).bind λaf=>(J x9 af).bind λah=>if(!ah)=true then some false else fM C I J U (i64.wrap (j+1))else some true
def mP(j:List M.aHM)(C:List M.aHM)(I:M.aHM->M.aHM->Option Bool):Option Bool:=
 if((List.length j:Int) !=(List.length C:Int))=true then some false else fM j C I fuel 0
def eK(C:List M.aHU)(I:List M.aHU)(J:M.aHU->M.aHU->Option Bool):Nat->Int->Option Bool
 |0,_=>none
 |U+1,j=>if(decide (j<(List.length C:Int)))=true then(idx C j).bind λx9=>(idx I j).bind λaf=>(J x9 af).bind λah=>if(!ah)=true then some false else eK C I J U (i64.wrap (j+1))else some true
def lE(j:List M.aHU)(C:List M.aHU)(I:M.aHU->M.aHU->Option Bool):Option Bool:=
 if((List.length j:Int) !=(List.length C:Int))=true then some false else eK j C I fuel 0
def kZ(C:List Int)(I:List Int):Nat->Int->Option Bool
 |0,_=>none
 |J+1,j=>if(decide (j<(List.length C:Int)))=true then(idx C j).bind λx8=>(idx I j).bind λU=>if(x8 !=U)=true then some false else kZ C I J (i64.wrap (j+1))else some true
def vO(j:List Int)(C:List Int):Option Bool:=
 if((List.length j:Int) !=(List.length C:Int))=true then some false else kZ j C fuel 0
def uK(j:List Int)(C:List Int):Option Bool:=
 (vO j C).bind λx1=>some x1
def sB(j:M.aHH)(C:M.aHH):Option Bool:=
 if(j.aH2==C.aH2)=true then if(j.aHx==C.aHx)=true then if(j.aHA==C.aHA)=true then(uK j.aH3 C.aH3).bind λx4=>if x4=true then some (j.aH9==C.aH9)else some false else some false else some false else some false
def sK(j:M.aHU)(C:M.aHU):Option Bool:=
 if(j.aHL.toList==C.aHL.toList)=true then if(j.aHv.toList==C.aHv.toList)=true then(sB j.aHH C.aHH).bind λx3=>some x3 else some false else some false
def sY(j:M.aHM)(C:M.aHM):Option Bool:=
 if(j.aHA==C.aHA)=true then(lE j.aHS C.aHS (λI J=>sK I J)).bind λx2=>some x2 else some false
def rU(j:M.aF)(C:M.aF):Option Bool:=
 (mP j.aHC C.aHC (λI J=>sY I J)).bind λx1=>some x1
def fJ(C:List M.aC)(I:List M.aC)(J:M.aC->M.aC->Option Bool):Nat->Int->Option Bool
 |0,_=>none
 |U+1,j=>if(decide (j<(List.length C:Int)))=true then(idx C j).bind λx9=>(idx I j).bind λaf=>(J x9 af).bind λah=>if(!ah)=true then some false else fJ C I J U (i64.wrap (j+1))else some true
def nG(j:List M.aC)(C:List M.aC)(I:M.aC->M.aC->Option Bool):Option Bool:=
 if((List.length j:Int) !=(List.length C:Int))=true then some false else fJ j C I fuel 0
def gA(C:List M.aHV)(I:List M.aHV)(J:M.aHV->M.aHV->Option Bool):Nat->Int->Option Bool
 |0,_=>none
 |U+1,j=>if(decide (j<(List.length C:Int)))=true then(idx C j).bind λx9=>(idx I j).bind λaf=>(J x9 af).bind λah=>if(!ah)=true then some false else gA C I J U (i64.wrap (j+1))else some true
def nT(j:List M.aHV)(C:List M.aHV)(I:M.aHV->M.aHV->Option Bool):Option Bool:=
 if((List.length j:Int) !=(List.length C:Int))=true then some false else gA j C I fuel 0
def kJ(C:List M.Field)(J:List M.Field):Nat->Int->Option Bool
 |0,_=>none
 |U+1,j=>if(decide (j<(List.length C:Int)))=true then(idx C j).bind λx8=>(idx J j).bind λI=>if(!((x8.Name.toList==I.Name.toList)&&(x8.N==I.N)))=true then some false else kJ C J U (i64.wrap (j+1))else some true
def tY(j:List M.Field)(C:List M.Field):Option Bool:=
 if((List.length j:Int) !=(List.length C:Int))=true then some false else kJ j C fuel 0
def uY(j:M.aD)(C:M.aD):Option Bool:=
 (tY j.aHG C.aHG).bind λx1=>some x1
def uP(j:M.aHV)(C:M.aHV):Option Bool:=
 if((j.Key.aHb==C.Key.aHb)&&((j.Key.N==C.Key.N)&&(j.Key.aHi.toList==C.Key.aHi.toList)))=true then(uY j.aD C.aD).bind λx2=>some x2 else some false
def hJ(j:M.aC)(C:M.aC):Option Bool:=
 if(j.Name.toList==C.Name.toList)=true then if(j.aHg==C.aHg)=true then(nT j.aHF C.aHF (λI J=>uP I J)).bind λx3=>some x3 else some false else some false
def fZ(C:List M.aN)(J:List M.aN):Nat->Int->Option Bool
 |0,_=>none
 |U+1,j=>if(decide (j<(List.length C:Int)))=true then(idx C j).bind λx8=>(idx J j).bind λI=>if(!((x8.aC.toList==I.aC.toList)&&(x8.Field.toList==I.Field.toList)))=true then some false else fZ C J U (i64.wrap (j+1))else some true
def oH(j:List M.aN)(C:List M.aN):Option Bool:=
 if((List.length j:Int) !=(List.length C:Int))=true then some false else fZ j C fuel 0
def sA(j:M.aHB)(C:M.aHB):Option Bool:=
 if(j.Name.toList==C.Name.toList)=true then if(j.aHA==C.aHA)=true then(nG j.aHP C.aHP (λI J=>hJ I J)).bind λx3=>if x3=true then(oH j.aHX C.aHX).bind λx6=>some x6 else some false else some false else some false
def yH(j:M.bP)(C:M.bP):Option Bool:=
 (sA j.aHa C.aHa).bind λx1=>if x1=true then(uK j.Log C.Log).bind λx4=>if x4=true then some (j.aHs==C.aHs)else some false else some false
def jZ(I:List M.bB)(J:List M.bB):Nat->Int->Option Bool
 |0,_=>none
 |U+1,C=>if(decide (C<(List.length I:Int)))=true then(idx I C).bind λx8=>(idx J C).bind λj=>if(!((x8.aHI==j.aHI)&&((x8.Seq==j.Seq)&&((x8.Key.aHb==j.Key.aHb)&&((x8.Key.N==j.Key.N)&&((x8.Key.aHi.toList==j.Key.aHi.toList)&&((x8.Field.toList==j.Field.toList)&&(x8.N==j.N))))))))=true then some false else jZ I J U (i64.wrap (C+1))else some true
def oU(j:List M.bB)(C:List M.bB):Option Bool:=
 if((List.length j:Int) !=(List.length C:Int))=true then some false else jZ j C fuel 0
def uA(j:M.aJ)(C:M.aJ):Option Bool:=
 if(j.aHI==C.aHI)=true then if(j.aHj==C.aHj)=true then(oU j.aHW C.aHW).bind λx3=>some x3 else some false else some false
def yZ(j:M.aHY)(C:M.aHY):Option Bool:=
 (uA j.aJ C.aJ).bind λx1=>if x1=true then if(j.aHr==C.aHr)=true then some (j.aHe==C.aHe)else some false else some false
def tU(j:M.aE)(C:M.aE):Option Bool:=
 (hJ j.aHa C.aHa).bind λx1=>if x1=true then if(j.aHw==C.aHw)=true then(yZ j.aHY C.aHY).bind λx5=>some x5 else some false else some false
def pY(j:M.aHD)(C:M.aHD):Option Bool:=
 if(j.aHL.toList==C.aHL.toList)=true then if(j.Top.toList==C.Top.toList)=true then if((j.aG9.aHL.toList==C.aG9.aHL.toList)&&((j.aG9.aHf==C.aG9.aHf)&&((j.aG9.aHm==C.aG9.aHm)&&(j.aG9.aHp==C.aG9.aHp))))=true then(rU j.aHC C.aHC).bind λx4=>if x4=true then(yH j.bP C.bP).bind λx7=>if x7=true then(tU j.aE C.aE).bind λI=>if I=true then if(j.aHk==C.aHk)=true then some (j.aHh==C.aHh)else some false else some false else some false else some false else some false else some false else some false
def tX(j:M.aA)(C:M.aA):Option Bool:=
 (lF j.aHE C.aHE (λI J=>pY I J)).bind λx1=>some x1
def gC(C:List M.bC)(I:List M.bC)(J:M.bC->M.bC->Option Bool):Nat->Int->Option Bool
 |0,_=>none
 |U+1,j=>if(decide (j<(List.length C:Int)))=true then(idx C j).bind λx9=>(idx I j).bind λaf=>(J x9 af).bind λah=>if(!ah)=true then some false else gC C I J U (i64.wrap (j+1))else some true
def nR(j:List M.bC)(C:List M.bC)(I:M.bC->M.bC->Option Bool):Option Bool:=
 if((List.length j:Int) !=(List.length C:Int))=true then some false else gC j C I fuel 0
def iE(C:List M.aT)(J:List M.aT):Nat->Int->Option Bool
 |0,_=>none
 |U+1,j=>if(decide (j<(List.length C:Int)))=true then(idx C j).bind λx8=>(idx J j).bind λI=>if(!((x8.aHv.toList==I.aHv.toList)&&(x8.aHA==I.aHA)))=true then some false else iE C J U (i64.wrap (j+1))else some true
def rV(j:List M.aT)(C:List M.aT):Option Bool:=
 if((List.length j:Int) !=(List.length C:Int))=true then some false else iE j C fuel 0
def kF(I:List M.Instr)(J:List M.Instr):Nat->Int->Option Bool
 |0,_=>none
 |U+1,j=>if(decide (j<(List.length I:Int)))=true then(idx I j).bind λx8=>(idx J j).bind λC=>if(!((x8.aHb==C.aHb)&&((x8.R==C.R)&&((x8.N==C.N)&&(x8.aHi.toList==C.aHi.toList)))))=true then some false else kF I J U (i64.wrap (j+1))else some true
def tW(j:List M.Instr)(C:List M.Instr):Option Bool:=
 if((List.length j:Int) !=(List.length C:Int))=true then some false else kF j C fuel 0
def mV(C:List Int)(I:List Int):Nat->Int->Option Bool
 |0,_=>none
 |J+1,j=>if(decide (j<(List.length C:Int)))=true then(idx C j).bind λx8=>(idx I j).bind λU=>if(x8 !=U)=true then some false else mV C I J (i64.wrap (j+1))else some true
def xB(j:List Int)(C:List Int):Option Bool:=
 if((List.length j:Int) !=(List.length C:Int))=true then some false else mV j C fuel 0
def tT(j:M.aHJ)(C:M.aHJ):Option Bool:=
 (tW j.aHt C.aHt).bind λx1=>if x1=true then if(j.Pc==C.Pc)=true then(xB j.aH1 C.aH1).bind λx5=>if x5=true then if(j.aHy==C.aHy)=true then if(j.aH5==C.aH5)=true then some (j.aH6==C.aH6)else some false else some false else some false else some false else some false
def gM(j:M.bC)(C:M.bC):Option Bool:=
 if(j.Id==C.Id)=true then if(j.aHL.toList==C.aHL.toList)=true then if(j.Top.toList==C.Top.toList)=true then if(j.aHA==C.aHA)=true then(rV j.aT C.aT).bind λx5=>if x5=true then(tT j.aHJ C.aHJ).bind λx8=>some x8 else some false else some false else some false else some false else some false
def lB(I:List M.dO)(J:List M.dO):Nat->Int->Option Bool
 |0,_=>none
 |U+1,j=>if(decide (j<(List.length I:Int)))=true then(idx I j).bind λx8=>(idx J j).bind λC=>if(!((x8.Name.toList==C.Name.toList)&&((x8.bC==C.bC)&&((x8.aHo==C.aHo)&&(x8.aH4==C.aH4)))))=true then some false else lB I J U (i64.wrap (j+1))else some true
def vG(j:List M.dO)(C:List M.dO):Option Bool:=
 if((List.length j:Int) !=(List.length C:Int))=true then some false else lB j C fuel 0
def lA(I:List M.mI)(J:List M.mI):Nat->Int->Option Bool
 |0,_=>none
 |U+1,j=>if(decide (j<(List.length I:Int)))=true then(idx I j).bind λx8=>(idx J j).bind λC=>if(!((x8.To==C.To)&&((x8.aIC==C.aIC)&&(x8.N==C.N))))=true then some false else lA I J U (i64.wrap (j+1))else some true
def vT(j:List M.mI)(C:List M.mI):Option Bool:=
 if((List.length j:Int) !=(List.length C:Int))=true then some false else lA j C fuel 0
def gB(C:List M.aHL)(I:List M.aHL)(J:M.aHL->M.aHL->Option Bool):Nat->Int->Option Bool
 |0,_=>none
 |U+1,j=>if(decide (j<(List.length C:Int)))=true then(idx C j).bind λx9=>(idx I j).bind λaf=>(J x9 af).bind λah=>if(!ah)=true then some false else gB C I J U (i64.wrap (j+1))else some true
def oG(j:List M.aHL)(C:List M.aHL)(I:M.aHL->M.aHL->Option Bool):Option Bool:=
 if((List.length j:Int) !=(List.length C:Int))=true then some false else gB j C I fuel 0
def iD(C:List ByteArray)(I:List ByteArray):Nat->Int->Option Bool
 |0,_=>none
 |J+1,j=>if(decide (j<(List.length C:Int)))=true then(idx C j).bind λx8=>(idx I j).bind λU=>if(!(x8.toList==U.toList))=true then some false else iD C I J (i64.wrap (j+1))else some true
def rY(j:List ByteArray)(C:List ByteArray):Option Bool:=
 if((List.length j:Int) !=(List.length C:Int))=true then some false else iD j C fuel 0
def pT(j:M.aHL)(C:M.aHL):Option Bool:=
 if(j.Name.toList==C.Name.toList)=true then if(j.aHA==C.aHA)=true then(rY j.aHl C.aHl).bind λx3=>if x3=true then some (j.aHo==C.aHo)else some false else some false else some false
def eH(C:List M.aHO)(I:List M.aHO)(J:M.aHO->M.aHO->Option Bool):Nat->Int->Option Bool
 |0,_=>none
 |U+1,j=>if(decide (j<(List.length C:Int)))=true then(idx C j).bind λx9=>(idx I j).bind λaf=>(J x9 af).bind λah=>if(!ah)=true then some false else eH C I J U (i64.wrap (j+1))else some true
def lI(j:List M.aHO)(C:List M.aHO)(I:M.aHO->M.aHO->Option Bool):Option Bool:=
 if((List.length j:Int) !=(List.length C:Int))=true then some false else eH j C I fuel 0
def gP(C:List M.aO)(J:List M.aO):Nat->Int->Option Bool
 |0,_=>none
 |U+1,j=>if(decide (j<(List.length C:Int)))=true then(idx C j).bind λx8=>(idx J j).bind λI=>if(!((x8.aHI==I.aHI)&&(x8.Seq==I.Seq)))=true then some false else gP C J U (i64.wrap (j+1))else some true
def pK(j:List M.aO)(C:List M.aO):Option Bool:=
 if((List.length j:Int) !=(List.length C:Int))=true then some false else gP j C fuel 0
def rG(j:M.aHO)(C:M.aHO):Option Bool:=
 (hJ j.aC C.aC).bind λx1=>if x1=true then(pK j.aO C.aO).bind λx4=>if x4=true then(oU j.aHd C.aHd).bind λx7=>some x7 else some false else some false
def sS(j:M.World)(C:M.World):Option Bool:=
 if(j.Now==C.Now)=true then if(j.aHc==C.aHc)=true then if(j.aHI==C.aHI)=true then(tX j.aA C.aA).bind λx4=>if x4=true then(nR j.aHQ C.aHQ (λI J=>gM I J)).bind λx7=>if x7=true then if(j.aHK==C.aHK)=true then(vG j.aHR.aHR C.aHR.aHR).bind λU=>if U=true then(vT j.aHN.aHn C.aHN.aHn).bind λae=>if ae=true then(oG j.aHZ C.aHZ (λI J=>pT I J)).bind λaf=>if af=true then(lI j.aHT C.aHT (λI J=>rG I J)).bind λah=>some ah else some false else some false else some false else some false else some false else some false else some false else some false else some false
def xF(C:M.bC)(j:Int):Option Bool:=
 some (C.Id==j)
def dX(C:List M.bC)(I:M.bC->Option Bool):Nat->Int->Option Int
 |0,_=>none
 |J+1,j=>if(decide (j<(List.length C:Int)))=true then(idx C j).bind λx7=>(I x7).bind λU=>if U=true then some j else dX C I J (i64.wrap (j+1))else some (-1)
def oL(j:List M.bC)(C:M.bC->Option Bool):Option Int:=
 dX j C fuel 0
def wP(j:M.World)(C:Int):Option Int:=
 (oL j.aHQ (λI=>xF I C)).bind λx1=>some x1
def rZ(C:M.dO)(j:Int):Option Bool:=
 some (C.bC==j)
def dW(C:List M.dO)(I:M.dO->Option Bool):Nat->Int->Option Int
 |0,_=>none
 |J+1,j=>if(decide (j<(List.length C:Int)))=true then(idx C j).bind λx7=>(I x7).bind λU=>if U=true then some j else dW C I J (i64.wrap (j+1))else some (-1)
def oO(j:List M.dO)(C:M.dO->Option Bool):Option Int:=
 dW j C fuel 0
def bX(J:M.dO->Option Bool):Nat->Int->Int->List M.dO->Option (List M.dO)
 |0,_,_,_=>none
 |U+1,C,I,j=>if(decide (I<(List.length j:Int)))=true then(idx j I).bind λaf=>(J af).bind λah=>if(!ah)=true then(idx j C).bind λai=>bX J U (i64.wrap (C+1)) (i64.wrap (I+1)) (List.set j C.toNat af)else bX J U C (i64.wrap (I+1)) j else(Bd j C).bind λaj=>some (List.take C.toNat j)
def nE(j:List M.dO)(C:M.dO->Option Bool):Option (List M.dO):=
 (oO j C).bind λx1=>if(x1==(-1))=true then some j else bX C fuel x1 (i64.wrap (x1+1)) j
def nD(j:M.aM)(C:Int):Nat->Int->Option Bool
 |0,_=>none
 |U+1,I=>if(decide (I<(List.length (List.take C.toNat j.aHR):Int)))=true then(idx (List.take C.toNat j.aHR) I).bind λJ=>(idx j.aHR C).bind λah=>if(J.Name.toList==ah.Name.toList)=true then if(!J.aH4)=true then some false else if(!J.aHo)=true then some false else if(!ah.aHo)=true then some false else nD j C U (i64.wrap (I+1))else nD j C U (i64.wrap (I+1))else some true
def BC(j:M.aM)(C:Int):Option Bool:=
 (AX j.aHR C).bind λx1=>nD j C fuel 0
def gV(x1:M.aM):Nat->Int->List M.dO->Option M.aM
 |0,_,_=>none
 |J+1,j,C=>if(decide (j<(List.length x1.aHR:Int)))=true then(idx C j).bind λI=>if(!I.aH4)=true then(BC (⟨C⟩:M.aM) j).bind λU=>gV x1 J (i64.wrap (j+1)) (List.set C j.toNat (⟨I.Name,I.bC,I.aHo,U⟩:M.dO))else gV x1 J (i64.wrap (j+1)) C else some (⟨C⟩:M.aM)
def uS(j:M.aM):Option M.aM:=
 (tC j).bind λx1=>gV x1 fuel 0 x1.aHR
def vA(C:M.aM)(I:Int):Option M.aM:=
 (tC C).bind λx1=>(nE x1.aHR (λJ=>rZ J I)).bind λx3=>(uS (⟨x3⟩:M.aM)).bind λj=>some j
def wS(C:M.mI)(j:Int):Option Bool:=
 some (C.To==j)
def dS(C:List M.mI)(I:M.mI->Option Bool):Nat->Int->Option Int
 |0,_=>none
 |J+1,j=>if(decide (j<(List.length C:Int)))=true then(idx C j).bind λx7=>(I x7).bind λU=>if U=true then some j else dS C I J (i64.wrap (j+1))else some (-1)
def oF(j:List M.mI)(C:M.mI->Option Bool):Option Int:=
 dS j C fuel 0
def bY(J:M.mI->Option Bool):Nat->Int->Int->List M.mI->Option (List M.mI)
 |0,_,_,_=>none
 |U+1,C,I,j=>if(decide (I<(List.length j:Int)))=true then(idx j I).bind λaf=>(J af).bind λah=>if(!ah)=true then(idx j C).bind λai=>bY J U (i64.wrap (C+1)) (i64.wrap (I+1)) (List.set j C.toNat af)else bY J U C (i64.wrap (I+1)) j else(Bd j C).bind λaj=>some (List.take C.toNat j)
def nA(j:List M.mI)(C:M.mI->Option Bool):Option (List M.mI):=
 (oF j C).bind λx1=>if(x1==(-1))=true then some j else bY C fuel x1 (i64.wrap (x1+1)) j
def zY(j:M.aHN)(C:Int):Option M.aHN:=
 (sU j).bind λx1=>(nA x1.aHn (λI=>wS I C)).bind λx3=>some (⟨x3⟩:M.aHN)
def tG(j:M.World)(C:Int):Option (M.World×Bool):=
 (iT j).bind λx1=>(wP j C).bind λx3=>(nL j).bind λx5=>if(!x5)=true then some (x1,false)else if(decide (x3<0))=true then some (x1,false)else(AX x1.aHQ x3).bind λx9=>(Bd x1.aHQ (i64.wrap (x3+1))).bind λU=>(app 144 (List.take x3.toNat x1.aHQ) (List.drop (i64.wrap (x3+1)).toNat x1.aHQ)).bind λah=>(vA x1.aHR C).bind λI=>(zY x1.aHN C).bind λJ=>some ((⟨x1.Now,x1.aHc,x1.aHI,x1.aA,(List.take x3.toNat x1.aHQ)++(List.drop (i64.wrap (x3+1)).toNat x1.aHQ),x1.aHK,I,J,x1.aHZ,x1.aHT⟩:M.World),true)
def kA(I:M.World)(J:ByteArray)(U:ByteArray):Nat->Int->List M.bC->Option (List M.bC)
 |0,_,_=>none
 |af+1,j,C=>if(decide (j<(List.length I.aHQ:Int)))=true then(idx I.aHQ j).bind λah=>if(ah.aHL.toList==J.toList)=true then if(ah.Top.toList==U.toList)=true then(iR ah).bind λai=>(app 144 C ([ai])).bind λaj=>kA I J U af (i64.wrap (j+1)) (C++[ai])else kA I J U af (i64.wrap (j+1)) C else kA I J U af (i64.wrap (j+1)) C else some C
def An(j:M.World)(C:ByteArray)(I:ByteArray):Option (List M.bC):=
 kA j C I fuel 0 ([]:List M.bC)
def AM(J:List Int):Option Bool:=
 (GJ J).bind λx1=>if x1=true then some true else(vU J).bind λx4=>(yE x4.1 x4.2.1 x4.2.2.1 x4.2.2.2).bind λx6=>(nS x4.1 x4.2.1 x4.2.2.1 x4.2.2.2).bind λx8=>(if(!(x6.2.2==x8.2.2))=true then some true else if(x6.2.1 !=x8.2.1)=true then some true else(sS x6.1 x8.1).bind λaj=>some (!aj)).bind λak=>if ak=true then some false else if(!x6.2.2)=true then(sS x6.1 x4.1).bind λal=>some al else(wP x6.1 x6.2.1).bind λC=>(if(decide (C<0))=true then some true else if(decide (C>=(List.length x6.1.aHQ:Int)))=true then some true else(idx x6.1.aHQ C).bind λI=>if((List.length I.aT:Int) !=1)=true then some true else(idx I.aT 0).bind λao=>if(ao.aHA !=I.aHA)=true then some true else if(x6.2.1 !=x4.1.aHK)=true then some true else(iU x6.1).bind λaq=>some (!aq)).bind λar=>if ar=true then some false else(tG x6.1 x6.2.1).bind λj=>(tG j.1 x6.2.1).bind λav=>(if j.2=true then if(!av.2)=true then(An j.1 x4.2.1 x4.2.2.1).bind λaw=>(An x4.1 x4.2.1 x4.2.2.1).bind λax=>if((List.length aw:Int)==(List.length ax:Int))=true then(gR j.1.aA x4.2.1 x4.2.2.1).bind λU=>if(decide (U>=0))=true then(iU j.1).bind λai=>some ai else some false else some false else some false else some false).bind λay=>some ay
