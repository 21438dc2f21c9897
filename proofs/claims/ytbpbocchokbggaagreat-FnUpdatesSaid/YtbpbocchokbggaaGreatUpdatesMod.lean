/-
  Helper text. No conditions.
-/
import Derived.Test.YtbpbocchokbggaaGreatUpdatesShT
set_option linter.all false
namespace Go.Proofs.YtbpbocchokbggaaGreat.gen
open Go Go.Sh
open Go.IntKind (i64)
structure M.aM where
 b:List Int
 i:Int
 h:Int
def M.aM.en(x:M.aM):List D:=[.sl (List.map enB x.b),.int .i64 x.i,.int .i64 x.h]
structure M.aIz where
 aI7:ByteArray
 aJP:Int
 aJT:Int
 aJX:Int
def M.aIz.en(x:M.aIz):List D:=[.str x.aI7,.int .i64 x.aJP,.int .i64 x.aJT,.int .i64 x.aJX]
theorem M.aIz.en.fl(l:List M.aIz):(List.map M.aIz.en l).all (λy=>y.all D.flat)=true:=HB (λ_=>rfl) l
structure M.aI8 where
 aJq:Int
 aJn:Int
 aI0:Int
 aJr:List Int
 aJu:Bool
def M.aI8.en(x:M.aI8):List D:=[.int .i64 x.aJq,.int .i64 x.aJn,.int .i64 x.aI0,.sl (List.map enB x.aJr),.bool x.aJu]
structure M.aJE where
 aI7:ByteArray
 aJk:ByteArray
 aI8:M.aI8
def M.aJE.en(x:M.aJE):List D:=[.str x.aI7,.str x.aJk,.int .i64 x.aI8.aJq,.int .i64 x.aI8.aJn,.int .i64 x.aI8.aI0,.sl (List.map enB x.aI8.aJr),.bool x.aI8.aJu]
structure M.aI5 where
 aI0:Int
 aJB:List M.aJE
def M.aI5.en(x:M.aI5):List D:=[.int .i64 x.aI0,.sl (List.map M.aJE.en x.aJB)]
structure M.aC where
 aI1:List M.aI5
def M.aC.en(x:M.aC):List D:=[.sl (List.map M.aI5.en x.aI1)]
structure M.Key where
 aJS:Int
 N:Int
 aJb:ByteArray
def M.Key.en(x:M.Key):List D:=[.int .i64 x.aJS,.int .i64 x.N,.str x.aJb]
theorem M.Key.en.fl(l:List M.Key):(List.map M.Key.en l).all (λy=>y.all D.flat)=true:=HB (λ_=>rfl) l
structure M.Field where
 Name:ByteArray
 N:Int
def M.Field.en(x:M.Field):List D:=[.str x.Name,.int .i64 x.N]
theorem M.Field.en.fl(l:List M.Field):(List.map M.Field.en l).all (λy=>y.all D.flat)=true:=HB (λ_=>rfl) l
structure M.aE where
 aI9:List M.Field
def M.aE.en(x:M.aE):List D:=[.sl (List.map M.Field.en x.aI9)]
structure M.aJN where
 Key:M.Key
 aE:M.aE
def M.aJN.en(x:M.aJN):List D:=[.int .i64 x.Key.aJS,.int .i64 x.Key.N,.str x.Key.aJb,.sl (List.map M.Field.en x.aE.aI9)]
structure M.aD where
 Name:ByteArray
 aI6:List M.aJN
 aJa:Int
def M.aD.en(x:M.aD):List D:=[.str x.Name,.sl (List.map M.aJN.en x.aI6),.int .i64 x.aJa]
structure M.aN where
 aD:ByteArray
 Field:ByteArray
def M.aN.en(x:M.aN):List D:=[.str x.aD,.str x.Field]
theorem M.aN.en.fl(l:List M.aN):(List.map M.aN.en l).all (λy=>y.all D.flat)=true:=HB (λ_=>rfl) l
structure M.aI2 where
 Name:ByteArray
 aI0:Int
 aJF:List M.aD
 aJO:List M.aN
def M.aI2.en(x:M.aI2):List D:=[.str x.Name,.int .i64 x.aI0,.sl (List.map M.aD.en x.aJF),.sl (List.map M.aN.en x.aJO)]
structure M.bR where
 aJQ:M.aI2
 Log:List Int
 aJi:Int
def M.bR.en(x:M.bR):List D:=[.str x.aJQ.Name,.int .i64 x.aJQ.aI0,.sl (List.map M.aD.en x.aJQ.aJF),.sl (List.map M.aN.en x.aJQ.aJO),.sl (List.map enB x.Log),.int .i64 x.aJi]
structure M.bC where
 aJA:Int
 Seq:Int
 Key:M.Key
 Field:ByteArray
 N:Int
def M.bC.en(x:M.bC):List D:=[.int .i64 x.aJA,.int .i64 x.Seq,.int .i64 x.Key.aJS,.int .i64 x.Key.N,.str x.Key.aJb,.str x.Field,.int .i64 x.N]
theorem M.bC.en.fl(l:List M.bC):(List.map M.bC.en l).all (λy=>y.all D.flat)=true:=HB (λ_=>rfl) l
structure M.aK where
 aJA:Int
 aJd:Int
 aJM:List M.bC
def M.aK.en(x:M.aK):List D:=[.int .i64 x.aJA,.int .i64 x.aJd,.sl (List.map M.bC.en x.aJM)]
structure M.aJR where
 aK:M.aK
 aJh:Int
 aJY:Int
def M.aJR.en(x:M.aJR):List D:=[.int .i64 x.aK.aJA,.int .i64 x.aK.aJd,.sl (List.map M.bC.en x.aK.aJM),.int .i64 x.aJh,.int .i64 x.aJY]
structure M.aG where
 aJQ:M.aD
 aJm:Int
 aJR:M.aJR
def M.aG.en(x:M.aG):List D:=[.str x.aJQ.Name,.sl (List.map M.aJN.en x.aJQ.aI6),.int .i64 x.aJQ.aJa,.int .i64 x.aJm,.int .i64 x.aJR.aK.aJA,.int .i64 x.aJR.aK.aJd,.sl (List.map M.bC.en x.aJR.aK.aJM),.int .i64 x.aJR.aJh,.int .i64 x.aJR.aJY]
structure M.aI3 where
 aI7:ByteArray
 Top:ByteArray
 aIz:M.aIz
 aI1:M.aC
 bR:M.bR
 aG:M.aG
 aJc:Int
 aJZ:Bool
def M.aI3.en(x:M.aI3):List D:=[.str x.aI7,.str x.Top,.str x.aIz.aI7,.int .i64 x.aIz.aJP,.int .i64 x.aIz.aJT,.int .i64 x.aIz.aJX,.sl (List.map M.aI5.en x.aI1.aI1),.str x.bR.aJQ.Name,.int .i64 x.bR.aJQ.aI0,.sl (List.map M.aD.en x.bR.aJQ.aJF),.sl (List.map M.aN.en x.bR.aJQ.aJO),.sl (List.map enB x.bR.Log),.int .i64 x.bR.aJi,.str x.aG.aJQ.Name,.sl (List.map M.aJN.en x.aG.aJQ.aI6),.int .i64 x.aG.aJQ.aJa,.int .i64 x.aG.aJm,.int .i64 x.aG.aJR.aK.aJA,.int .i64 x.aG.aJR.aK.aJd,.sl (List.map M.bC.en x.aG.aJR.aK.aJM),.int .i64 x.aG.aJR.aJh,.int .i64 x.aG.aJR.aJY,.int .i64 x.aJc,.bool x.aJZ]
structure M.aA where
 aI4:List M.aI3
def M.aA.en(x:M.aA):List D:=[.sl (List.map M.aI3.en x.aI4)]
structure M.aV where
 aJk:ByteArray
 aI0:Int
def M.aV.en(x:M.aV):List D:=[.str x.aJk,.int .i64 x.aI0]
theorem M.aV.en.fl(l:List M.aV):(List.map M.aV.en l).all (λy=>y.all D.flat)=true:=HB (λ_=>rfl) l
structure M.Instr where
 aJS:Int
 R:Int
 N:Int
 aJb:ByteArray
def M.Instr.en(x:M.Instr):List D:=[.int .i64 x.aJS,.int .i64 x.R,.int .i64 x.N,.str x.aJb]
theorem M.Instr.en.fl(l:List M.Instr):(List.map M.Instr.en l).all (λy=>y.all D.flat)=true:=HB (λ_=>rfl) l
structure M.aJH where
 aJj:List M.Instr
 Pc:Int
 aJt:List Int
 aJp:Int
 aJy:Bool
 aJ0:Bool
def M.aJH.en(x:M.aJH):List D:=[.sl (List.map M.Instr.en x.aJj),.int .i64 x.Pc,.sl (List.map enI x.aJt),.int .i64 x.aJp,.bool x.aJy,.bool x.aJ0]
structure M.bG where
 Id:Int
 aI7:ByteArray
 Top:ByteArray
 aI0:Int
 aV:List M.aV
 aJH:M.aJH
def M.bG.en(x:M.bG):List D:=[.int .i64 x.Id,.str x.aI7,.str x.Top,.int .i64 x.aI0,.sl (List.map M.aV.en x.aV),.sl (List.map M.Instr.en x.aJH.aJj),.int .i64 x.aJH.Pc,.sl (List.map enI x.aJH.aJt),.int .i64 x.aJH.aJp,.bool x.aJH.aJy,.bool x.aJH.aJ0]
structure M.mV where
 Name:ByteArray
 bG:Int
 aJf:Bool
 aJx:Bool
def M.mV.en(x:M.mV):List D:=[.str x.Name,.int .i64 x.bG,.bool x.aJf,.bool x.aJx]
theorem M.mV.en.fl(l:List M.mV):(List.map M.mV.en l).all (λy=>y.all D.flat)=true:=HB (λ_=>rfl) l
structure M.aQ where
 aJJ:List M.mV
def M.aQ.en(x:M.aQ):List D:=[.sl (List.map M.mV.en x.aJJ)]
structure M.AP where
 To:Int
 aJ2:Int
 N:Int
def M.AP.en(x:M.AP):List D:=[.int .i64 x.To,.int .i64 x.aJ2,.int .i64 x.N]
theorem M.AP.en.fl(l:List M.AP):(List.map M.AP.en l).all (λy=>y.all D.flat)=true:=HB (λ_=>rfl) l
structure M.aJD where
 aJe:List M.AP
def M.aJD.en(x:M.aJD):List D:=[.sl (List.map M.AP.en x.aJe)]
structure M.aI7 where
 Name:ByteArray
 aI0:Int
 aJW:List ByteArray
 aJf:Bool
def M.aI7.en(x:M.aI7):List D:=[.str x.Name,.int .i64 x.aI0,.sl (List.map enS x.aJW),.bool x.aJf]
structure M.aP where
 aJA:Int
 Seq:Int
def M.aP.en(x:M.aP):List D:=[.int .i64 x.aJA,.int .i64 x.Seq]
theorem M.aP.en.fl(l:List M.aP):(List.map M.aP.en l).all (λy=>y.all D.flat)=true:=HB (λ_=>rfl) l
structure M.aJC where
 aD:M.aD
 aP:List M.aP
 aJU:List M.bC
def M.aJC.en(x:M.aJC):List D:=[.str x.aD.Name,.sl (List.map M.aJN.en x.aD.aI6),.int .i64 x.aD.aJa,.sl (List.map M.aP.en x.aP),.sl (List.map M.bC.en x.aJU)]
structure M.World where
 Now:Int
 aJV:Bool
 aJA:Int
 aA:M.aA
 aJI:List M.bG
 aJG:Int
 aJJ:M.aQ
 aJD:M.aJD
 aJL:List M.aI7
 aJK:List M.aJC
def M.World.en(x:M.World):List D:=[.int .i64 x.Now,.bool x.aJV,.int .i64 x.aJA,.sl (List.map M.aI3.en x.aA.aI4),.sl (List.map M.bG.en x.aJI),.int .i64 x.aJG,.sl (List.map M.mV.en x.aJJ.aJJ),.sl (List.map M.AP.en x.aJD.aJe),.sl (List.map M.aI7.en x.aJL),.sl (List.map M.aJC.en x.aJK)]
structure M.Op where
 aJS:Int
 aD:ByteArray
 Key:M.Key
 aE:M.aE
 Field:ByteArray
def M.Op.en(x:M.Op):List D:=[.int .i64 x.aJS,.str x.aD,.int .i64 x.Key.aJS,.int .i64 x.Key.N,.str x.Key.aJb,.sl (List.map M.Field.en x.aE.aI9),.str x.Field]
structure M.gT where
 aJz:Bool
 aJo:Bool
 Low:M.Key
 aJv:M.Key
def M.gT.en(x:M.gT):List D:=[.bool x.aJz,.bool x.aJo,.int .i64 x.Low.aJS,.int .i64 x.Low.N,.str x.Low.aJb,.int .i64 x.aJv.aJS,.int .i64 x.aJv.N,.str x.aJv.aJb]
theorem M.gT.en.fl(l:List M.gT):(List.map M.gT.en l).all (λy=>y.all D.flat)=true:=HB (λ_=>rfl) l
structure M.mK where
 aJS:Int
 aD:ByteArray
 Field:ByteArray
def M.mK.en(x:M.mK):List D:=[.int .i64 x.aJS,.str x.aD,.str x.Field]
theorem M.mK.en.fl(l:List M.mK):(List.map M.mK.en l).all (λy=>y.all D.flat)=true:=HB (λ_=>rfl) l
def Hu(j:List Int):Option Bool:=
 some (decide ((List.length j:Int)>1048576))
set_option maxRecDepth 40000 in
def oU(j:List Int):Nat->Int->Int->Option M.aM
 |0,_,_=>none
 |J+1,I,C=>if(decide (C<(List.length j:Int)))=true then if(decide (C<4000))=true then(idx j C).bind λx7=>oU j J (i64.wrap (BitVec.ofInt (IntKind.i64.bits) (i64.wrap ((i64.wrap ((i64.wrap (I*137))+(i64.wrap x7)))+11))&&&BitVec.ofInt (IntKind.i64.bits) 1073741823).toNat) (i64.wrap (C+1))else some (⟨j,0,I⟩:M.aM)else some (⟨j,0,I⟩:M.aM)
set_option maxRecDepth 40000 in
theorem S2:type_of%@oU.eq_2:=@oU.eq_2
def Dw(j:List Int):Option M.aM:=
 oU j fuel (i64.wrap (193017+(List.length j:Int))) 0
def uO(j:M.aM):Option (Int×Int×Int):=
 if(decide (j.i<(List.length j.b:Int)))=true then(idx j.b j.i).bind λx5=>some (i64.wrap (j.i+1),i64.wrap ((i64.wrap (j.h*6364136223846793005))+1442695040888963407),i64.wrap (BitVec.ofInt (IntKind.i64.bits) (i64.wrap ((i64.wrap (BitVec.ofInt (IntKind.i64.bits) (i64.wrap (BitVec.ofInt (IntKind.i64.bits) (Int.fdiv (i64.wrap ((i64.wrap (j.h*6364136223846793005))+1442695040888963407)) (2^(min (33:Int).toNat IntKind.i64.bits))) ^^^ BitVec.ofInt (IntKind.i64.bits) (Int.fdiv (i64.wrap ((i64.wrap (j.h*6364136223846793005))+1442695040888963407)) (2^(min (47:Int).toNat IntKind.i64.bits)))).toNat)&&&BitVec.ofInt (IntKind.i64.bits) 255).toNat)+(i64.wrap x5)))&&&BitVec.ofInt (IntKind.i64.bits) 255).toNat)else some (j.i,i64.wrap ((i64.wrap (j.h*6364136223846793005))+1442695040888963407),i64.wrap (BitVec.ofInt (IntKind.i64.bits) (i64.wrap (BitVec.ofInt (IntKind.i64.bits) (Int.fdiv (i64.wrap ((i64.wrap (j.h*6364136223846793005))+1442695040888963407)) (2^(min (33:Int).toNat IntKind.i64.bits))) ^^^ BitVec.ofInt (IntKind.i64.bits) (Int.fdiv (i64.wrap ((i64.wrap (j.h*6364136223846793005))+1442695040888963407)) (2^(min (47:Int).toNat IntKind.i64.bits)))).toNat)&&&BitVec.ofInt (IntKind.i64.bits) 255).toNat)
def aF(j:M.aM)(C:Int):Option (Int×Int×Int):=
 if(decide (C<=0))=true then some (j.i,j.h,0)else if(decide (C<=256))=true then(uO j).bind λx7=>if(decide (C=0))=true then none else some (x7.1,x7.2.1,Int.tmod x7.2.2 C)else(uO j).bind λI=>(uO (⟨j.b,I.1,I.2.1⟩:M.aM)).bind λJ=>(uO (⟨j.b,J.1,J.2.1⟩:M.aM)).bind λU=>if(decide (C=0))=true then none else some (U.1,U.2.1,Int.tmod (i64.wrap ((i64.wrap ((i64.wrap (I.2.2*65536))+(i64.wrap (J.2.2*256))))+U.2.2)) C)
def aY(j:Int)(C:Int)(I:Int):Option Bool:=
 if(decide (j>=C))=true then some (decide (j<=I))else some false
def vW  :Option (List ByteArray):=
 some ([(⟨#[98,97,110,107]⟩:ByteArray),(⟨#[110,101,119,115]⟩:ByteArray),(⟨#[115,104,111,112]⟩:ByteArray)])
def AV(U:Int)(x4:(List ByteArray)):Nat->Int->List M.aI7->List M.aJC->Option M.World
 |0,_,_,_=>none
 |ah+1,J,C,I=>if(decide (J<(List.length x4:Int)))=true then(idx x4 J).bind λj=>(app 56 C ([(⟨j,1,[(⟨#[99,111,100,101]⟩:ByteArray),(⟨#[100,97,116,97]⟩:ByteArray),(⟨#[105,110,100,101,120]⟩:ByteArray),(⟨#[115,116,121,108,101]⟩:ByteArray)],j.toList==(⟨#[110,101,119,115]⟩:ByteArray).toList⟩:M.aI7)])).bind λai=>(app 96 I ([(⟨(⟨(⟨#[110,111,116,101,115]⟩:ByteArray),([]:List M.aJN),0⟩:M.aD),([]:List M.aP),([]:List M.bC)⟩:M.aJC)])).bind λaj=>AV U x4 ah (i64.wrap (J+1)) (C++[(⟨j,1,[(⟨#[99,111,100,101]⟩:ByteArray),(⟨#[100,97,116,97]⟩:ByteArray),(⟨#[105,110,100,101,120]⟩:ByteArray),(⟨#[115,116,121,108,101]⟩:ByteArray)],j.toList==(⟨#[110,101,119,115]⟩:ByteArray).toList⟩:M.aI7)]) (I++[(⟨(⟨(⟨#[110,111,116,101,115]⟩:ByteArray),([]:List M.aJN),0⟩:M.aD),([]:List M.aP),([]:List M.bC)⟩:M.aJC)])else some (⟨0,true,U,(⟨([]:List M.aI3)⟩:M.aA),([]:List M.bG),1,(⟨([]:List M.mV)⟩:M.aQ),(⟨([]:List M.AP)⟩:M.aJD),C,I⟩:M.World)
def A6(j:Int):Option M.World:=
 (aY j 1 1000000).bind λx1=>(if(!x1)=true then(some (⟨0,false,0,(⟨([]:List M.aI3)⟩:M.aA),([]:List M.bG),0,(⟨([]:List M.mV)⟩:M.aQ),(⟨([]:List M.AP)⟩:M.aJD),([]:List M.aI7),([]:List M.aJC)⟩:M.World))else((vW).bind λx4=>(AV j x4 fuel 0 ([]:List M.aI7) ([]:List M.aJC))))
def uR(j:M.aI8):Option M.aI8:=
 (app 1 ([]:List Int) j.aJr).bind λx1=>some j
def oE(C:M.aI5):Nat->Int->List M.aJE->Option M.aI5
 |0,_,_=>none
 |ah+1,J,I=>if(decide (J<(List.length C.aJB:Int)))=true then(idx C.aJB J).bind λj=>(uR j.aI8).bind λU=>(app 88 I ([(⟨j.aI7,j.aJk,U⟩:M.aJE)])).bind λai=>oE C ah (i64.wrap (J+1)) (I++[(⟨j.aI7,j.aJk,U⟩:M.aJE)])else some (⟨C.aI0,I⟩:M.aI5)
def Bd(j:M.aI5):Option M.aI5:=
 oE j fuel 0 ([]:List M.aJE)
def rX(C:M.aC):Nat->Int->List M.aI5->Option M.aC
 |0,_,_=>none
 |U+1,I,j=>if(decide (I<(List.length C.aI1:Int)))=true then(idx C.aI1 I).bind λah=>(Bd ah).bind λJ=>(app 32 j ([J])).bind λai=>rX C U (i64.wrap (I+1)) (j++[J])else some (⟨j⟩:M.aC)
def bP(j:M.aC):Option M.aC:=
 rX j fuel 0 ([]:List M.aI5)
def cO(j:M.aE):Option M.aE:=
 (app 24 ([]:List M.Field) j.aI9).bind λx1=>some j
def Ad(j:M.aJN):Option M.aJN:=
 (cO j.aE).bind λx1=>some (⟨j.Key,x1⟩:M.aJN)
def tN(j:M.aD):Nat->Int->List M.aJN->Option M.aD
 |0,_,_=>none
 |U+1,I,C=>if(decide (I<(List.length j.aI6:Int)))=true then(idx j.aI6 I).bind λah=>(Ad ah).bind λJ=>(app 56 C ([J])).bind λai=>tN j U (i64.wrap (I+1)) (C++[J])else some (⟨j.Name,C,j.aJa⟩:M.aD)
def cD(j:M.aD):Option M.aD:=
 tN j fuel 0 ([]:List M.aJN)
def tR(j:M.aI2):Nat->Int->List M.aD->Option M.aI2
 |0,_,_=>none
 |U+1,I,C=>if(decide (I<(List.length j.aJF:Int)))=true then(idx j.aJF I).bind λah=>(cD ah).bind λJ=>(app 48 C ([J])).bind λai=>tR j U (i64.wrap (I+1)) (C++[J])else some (⟨j.Name,j.aI0,C,j.aJO⟩:M.aI2)
def eY(j:M.aI2):Option M.aI2:=
 (app 32 ([]:List M.aN) j.aJO).bind λx1=>tR j fuel 0 ([]:List M.aD)
def AJ(j:M.bR):Option M.bR:=
 (eY j.aJQ).bind λx1=>(app 1 ([]:List Int) j.Log).bind λx3=>some (⟨x1,j.Log,j.aJi⟩:M.bR)
def uT(j:M.aK):Option M.aK:=
 (app 72 ([]:List M.bC) j.aJM).bind λx1=>some j
def yK(j:M.aJR):Option M.aJR:=
 (uT j.aK).bind λx1=>some (⟨x1,j.aJh,j.aJY⟩:M.aJR)
def yQ(j:M.aG):Option M.aG:=
 (cD j.aJQ).bind λx1=>(yK j.aJR).bind λx3=>some (⟨x1,j.aJm,x3⟩:M.aG)
def gV(j:M.aI3):Option M.aI3:=
 (bP j.aI1).bind λx1=>(AJ j.bR).bind λx3=>(yQ j.aG).bind λx5=>some (⟨j.aI7,j.Top,j.aIz,x1,x3,x5,j.aJc,j.aJZ⟩:M.aI3)
def pW(C:M.aA):Nat->Int->List M.aI3->Option M.aA
 |0,_,_=>none
 |U+1,I,j=>if(decide (I<(List.length C.aI4:Int)))=true then(idx C.aI4 I).bind λah=>(gV ah).bind λJ=>(app 328 j ([J])).bind λai=>pW C U (i64.wrap (I+1)) (j++[J])else some (⟨j⟩:M.aA)
def fO(j:M.aA):Option M.aA:=
 pW j fuel 0 ([]:List M.aI3)
def xE(j:List M.Instr):Option (List M.Instr):=
 (app 40 ([]:List M.Instr) j).bind λx1=>some j
def BW(j:M.aJH):Option M.aJH:=
 (xE j.aJj).bind λx1=>(app 8 ([]:List Int) j.aJt).bind λx3=>some (⟨x1,j.Pc,j.aJt,j.aJp,j.aJy,j.aJ0⟩:M.aJH)
def lQ(j:M.bG):Option M.bG:=
 (app 24 ([]:List M.aV) j.aV).bind λx1=>(BW j.aJH).bind λC=>some (⟨j.Id,j.aI7,j.Top,j.aI0,j.aV,C⟩:M.bG)
def yP(j:M.aQ):Option M.aQ:=
 (app 32 ([]:List M.mV) j.aJJ).bind λx1=>some j
def AN(j:M.aJD):Option M.aJD:=
 (app 24 ([]:List M.AP) j.aJe).bind λx1=>some j
def uS(j:M.aI7):Option M.aI7:=
 (app 16 ([]:List ByteArray) j.aJW).bind λx1=>some j
def gW(j:M.aJC):Option M.aJC:=
 (cD j.aD).bind λx1=>(app 16 ([]:List M.aP) j.aP).bind λx3=>(app 72 ([]:List M.bC) j.aJU).bind λx5=>some (⟨x1,j.aP,j.aJU⟩:M.aJC)
def kJ(j:M.World)(x1:M.aA)(U:List M.bG)(ai:M.aQ)(aj:M.aJD)(ak:List M.aI7):Nat->Int->List M.aJC->Option M.World
 |0,_,_=>none
 |al+1,I,C=>if(decide (I<(List.length j.aJK:Int)))=true then(idx j.aJK I).bind λaf=>(gW af).bind λJ=>(app 96 C ([J])).bind λao=>kJ j x1 U ai aj ak al (i64.wrap (I+1)) (C++[J])else some (⟨j.Now,j.aJV,j.aJA,x1,U,j.aJG,ai,aj,ak,C⟩:M.World)
def kM(j:M.World)(x1:M.aA)(J:List M.bG)(U:M.aQ)(ah:M.aJD):Nat->Int->List M.aI7->Option M.World
 |0,_,_=>none
 |aj+1,I,C=>if(decide (I<(List.length j.aJL:Int)))=true then(idx j.aJL I).bind λak=>(uS ak).bind λai=>(app 56 C ([ai])).bind λal=>kM j x1 J U ah aj (i64.wrap (I+1)) (C++[ai])else kJ j x1 J U ah C fuel 0 ([]:List M.aJC)
def nL(j:M.World)(x1:M.aA):Nat->Int->List M.bG->Option M.World
 |0,_,_=>none
 |U+1,I,C=>if(decide (I<(List.length j.aJI:Int)))=true then(idx j.aJI I).bind λah=>(lQ ah).bind λJ=>(app 144 C ([J])).bind λak=>nL j x1 U (i64.wrap (I+1)) (C++[J])else(yP j.aJJ).bind λai=>(AN j.aJD).bind λaj=>kM j x1 C ai aj fuel 0 ([]:List M.aI7)
def bQ(j:M.World):Option M.World:=
 (fO j.aA).bind λx1=>nL j x1 fuel 0 ([]:List M.bG)
def pY(C:List M.bG)(I:Int):Nat->Int->Option Int
 |0,_=>none
 |J+1,j=>if(decide (j<(List.length C:Int)))=true then(idx C j).bind λx6=>if(x6.Id==I)=true then some j else pY C I J (i64.wrap (j+1))else some (-1)
def B5(j:List M.bG)(C:Int):Option Int:=
 pY j C fuel 0
def Av(j:M.World)(C:Int):Option Int:=
 (B5 j.aJI C).bind λx1=>some x1
def pL(j:ByteArray):Nat->Int->Option Bool
 |0,_=>none
 |I+1,C=>if(decide (C<(j.size:Int)))=true then(YE j C).bind λx5=>if(decide ((x5.toNat:Int)<97))=true then some false else if(decide ((x5.toNat:Int)>122))=true then some false else pL j I (i64.wrap (C+1))else(aY (j.size:Int) 1 8).bind λJ=>some J
def cE(j:ByteArray):Option Bool:=
 pL j fuel 0
def mC(j:M.aI7):Nat->Int->Option Bool
 |0,_=>none
 |I+1,C=>if(decide (C<(List.length j.aJW:Int)))=true then(idx j.aJW C).bind λx6=>(cE x6).bind λJ=>if(!J)=true then some false else if(decide (C>0))=true then(idx j.aJW (i64.wrap (C-1))).bind λU=>if(!(Op.bytesLess U.toList x6.toList))=true then some false else mC j I (i64.wrap (C+1))else mC j I (i64.wrap (C+1))else(cE j.Name).bind λah=>if ah=true then(aY j.aI0 1 1000000000000).bind λai=>if ai=true then(aY (List.length j.aJW:Int) 1 6).bind λaj=>some aj else some false else some false
def uM(j:M.aI7):Option Bool:=
 mC j fuel 0
def jX(j:ByteArray):Nat->Int->Option Bool
 |0,_=>none
 |I+1,C=>if(decide (C<(j.size:Int)))=true then(YE j C).bind λx5=>if(decide ((x5.toNat:Int)<97))=true then if(decide ((x5.toNat:Int)<48))=true then some false else if(decide ((x5.toNat:Int)>57))=true then some false else jX j I (i64.wrap (C+1))else if(decide ((x5.toNat:Int)>122))=true then if(decide ((x5.toNat:Int)<48))=true then some false else if(decide ((x5.toNat:Int)>57))=true then some false else jX j I (i64.wrap (C+1))else jX j I (i64.wrap (C+1))else some (decide ((j.size:Int)<=12))
def Bp(j:ByteArray):Option Bool:=
 jX j fuel 0
def fU(j:M.Key):Option Bool:=
 (aY j.aJS 1 3).bind λx1=>if x1=true then(aY j.N (-1000000000000) 1000000000000).bind λx4=>if x4=true then if(j.aJS !=2)=true then(Bp j.aJb).bind λx8=>if x8=true then if(j.aJS !=1)=true then some true else some (j.aJb.toList==(⟨#[]⟩:ByteArray).toList)else some false else if(j.N==0)=true then(Bp j.aJb).bind λC=>if C=true then if(j.aJS !=1)=true then some true else some (j.aJb.toList==(⟨#[]⟩:ByteArray).toList)else some false else some false else some false else some false
def lA(j:M.bC):Option Bool:=
 (aY j.aJA 1 1000000).bind λx1=>if x1=true then(aY j.Seq 1 1000000).bind λx4=>if x4=true then(fU j.Key).bind λx7=>if x7=true then(cE j.Field).bind λC=>if C=true then(aY j.N 0 1000000000).bind λI=>some I else some false else some false else some false else some false
def iF(j:M.aE):Nat->Int->Option Bool
 |0,_=>none
 |I+1,C=>if(decide (C<(List.length j.aI9:Int)))=true then(idx j.aI9 C).bind λx6=>(cE x6.Name).bind λJ=>if(!J)=true then some false else(aY x6.N 0 1000000000).bind λU=>if(!U)=true then some false else if(decide (C>0))=true then(idx j.aI9 (i64.wrap (C-1))).bind λah=>if(!(Op.bytesLess ah.Name.toList x6.Name.toList))=true then some false else iF j I (i64.wrap (C+1))else iF j I (i64.wrap (C+1))else some (decide ((List.length j.aI9:Int)<=6))
def bL(j:M.aE):Option Bool:=
 iF j fuel 0
def Br(j:Bool)(C:Bool):Option Int:=
 if j=true then some (-1)else if C=true then some 1 else some 0
def bI(j:M.Key)(C:M.Key):Option Int:=
 (fU j).bind λx1=>if(!x1)=true then some 0 else(fU C).bind λx4=>if(!x4)=true then some 0 else if(j.aJS !=C.aJS)=true then(Br (decide (j.aJS<C.aJS)) true).bind λx8=>some x8 else if(j.N !=C.N)=true then(Br (decide (j.N<C.N)) true).bind λI=>some I else(Br (Op.bytesLess j.aJb.toList C.aJb.toList) (!(Op.bytesLess j.aJb.toList C.aJb.toList||j.aJb.toList==C.aJb.toList))).bind λJ=>some J
def kN(j:M.aD):Nat->Int->Option Bool
 |0,_=>none
 |I+1,C=>if(decide (C<(List.length j.aI6:Int)))=true then(idx j.aI6 C).bind λx6=>(fU x6.Key).bind λJ=>if(!J)=true then some false else(bL x6.aE).bind λU=>if(!U)=true then some false else if(decide (C>0))=true then(idx j.aI6 (i64.wrap (C-1))).bind λah=>(bI ah.Key x6.Key).bind λai=>if(decide (ai>=0))=true then some false else kN j I (i64.wrap (C+1))else kN j I (i64.wrap (C+1))else(cE j.Name).bind λaj=>if aj=true then if(decide ((List.length j.aI6:Int)<=16))=true then(aY j.aJa 0 1000000).bind λak=>some ak else some false else some false
def nX(j:M.aD):Option Bool:=
 kN j fuel 0
def lB(j:M.aJC):Nat->Int->Option Bool
 |0,_=>none
 |I+1,C=>if(decide (C<(List.length j.aJU:Int)))=true then(idx j.aJU C).bind λJ=>(lA J).bind λU=>if(!U)=true then some false else lB j I (i64.wrap (C+1))else(nX j.aD).bind λah=>if ah=true then if(j.aD.Name.toList==(⟨#[110,111,116,101,115]⟩:ByteArray).toList)=true then some (decide ((List.length j.aP:Int)<=60))else some false else some false
def iG(j:M.aJC):Nat->Int->Option Bool
 |0,_=>none
 |I+1,C=>if(decide (C<(List.length j.aP:Int)))=true then(idx j.aP C).bind λx6=>(aY x6.aJA 1 1000000).bind λJ=>if(!J)=true then some false else(aY x6.Seq 0 1000000).bind λU=>if(!U)=true then some false else if(decide (C>0))=true then(idx j.aP (i64.wrap (C-1))).bind λah=>if(decide (ah.aJA>=x6.aJA))=true then some false else iG j I (i64.wrap (C+1))else iG j I (i64.wrap (C+1))else lB j fuel 0
def sI(j:M.aJC):Option Bool:=
 iG j fuel 0
def tK(j:M.bG):Nat->Int->Option Bool
 |0,_=>none
 |I+1,C=>if(decide (C<(List.length j.aV:Int)))=true then(idx j.aV C).bind λx6=>(cE x6.aJk).bind λJ=>if(!J)=true then some false else if(x6.aI0 !=j.aI0)=true then some false else tK j I (i64.wrap (C+1))else(aY j.Id 1 1000000000000).bind λU=>if U=true then(cE j.aI7).bind λah=>if ah=true then(cE j.Top).bind λai=>if ai=true then(aY j.aI0 1 1000000000000).bind λaj=>if aj=true then some (decide ((List.length j.aV:Int)<=8))else some false else some false else some false else some false
def uN(j:M.bG):Option Bool:=
 tK j fuel 0
def hU(C:M.aA)(I:ByteArray)(J:ByteArray):Nat->Int->Option Int
 |0,_=>none
 |U+1,j=>if(decide (j<(List.length C.aI4:Int)))=true then(idx C.aI4 j).bind λx8=>if(x8.aI7.toList==I.toList)=true then if(x8.Top.toList==J.toList)=true then some j else hU C I J U (i64.wrap (j+1))else hU C I J U (i64.wrap (j+1))else some (-1)
def fL(j:M.aA)(C:ByteArray)(I:ByteArray):Option Int:=
 hU j C I fuel 0
def bW(j:M.aIz):Nat->Int->Int->Option Bool
 |0,_,_=>none
 |J+1,U,I=>if(decide (I<((3:Nat):Int)))=true then(idx ([j.aJX,j.aJT,j.aJP]) I).bind λC=>(aY C 0 1000000000000).bind λaf=>if(!af)=true then some false else if(C !=0)=true then if(decide (C<=U))=true then some false else bW j J C (i64.wrap (I+1))else bW j J U (i64.wrap (I+1))else(cE j.aI7).bind λah=>some ah
def cG(j:M.aIz):Option Bool:=
 bW j fuel 0 0
def zP(j:M.aI8):Option Bool:=
 (aY j.aJq 1 4).bind λx1=>if x1=true then(aY j.aJn 0 999).bind λx4=>if x4=true then(aY j.aI0 0 1000000000000).bind λx7=>if x7=true then some (decide ((List.length j.aJr:Int)<=60))else some false else some false else some false
def hJ(I:List M.aJE)(J:Int)(x5:M.aJE)(C:Int->Option Bool):Nat->Int->Option Bool
 |0,_=>none
 |U+1,j=>if(decide (j<J))=true then(idx I j).bind λah=>if(ah.aI7.toList==x5.aI7.toList)=true then if(ah.aJk.toList==x5.aJk.toList)=true then some false else hJ I J x5 C U (i64.wrap (j+1))else hJ I J x5 C U (i64.wrap (j+1))else C j
def eZ(j:List M.aJE):Nat->Int->Option Bool
 |0,_=>none
 |I+1,C=>if(decide (C<(List.length j:Int)))=true then(idx j C).bind λx5=>(cE x5.aI7).bind λJ=>if(!J)=true then some false else(cE x5.aJk).bind λU=>if(!U)=true then some false else(zP x5.aI8).bind λai=>if(!ai)=true then some false else hJ j C x5 (λ(aa:Int)=>eZ j I (i64.wrap (C+1))) fuel 0 else some (decide ((List.length j:Int)<=12))
def uY(j:List M.aJE):Option Bool:=
 eZ j fuel 0
def eX(j:M.aC):Nat->Int->Option Bool
 |0,_=>none
 |I+1,C=>if(decide (C<(List.length j.aI1:Int)))=true then(idx j.aI1 C).bind λx6=>(aY x6.aI0 1 1000000000000).bind λJ=>if(!J)=true then some false else if(decide (C>0))=true then(idx j.aI1 (i64.wrap (C-1))).bind λU=>if(decide (U.aI0>=x6.aI0))=true then some false else(uY x6.aJB).bind λah=>if(!ah)=true then some false else eX j I (i64.wrap (C+1))else(uY x6.aJB).bind λai=>if(!ai)=true then some false else eX j I (i64.wrap (C+1))else some (decide ((List.length j.aI1:Int)<=4))
def cT(j:M.aC):Option Bool:=
 eX j fuel 0
def nA(C:M.aI2)(I:ByteArray):Nat->Int->Option Int
 |0,_=>none
 |J+1,j=>if(decide (j<(List.length C.aJF:Int)))=true then(idx C.aJF j).bind λx7=>if(x7.Name.toList==I.toList)=true then some j else nA C I J (i64.wrap (j+1))else some (-1)
def tH(j:M.aI2)(C:ByteArray):Option Int:=
 nA j C fuel 0
def sV(j:M.aE)(I:ByteArray):Nat->Int->Option (Int×Bool)
 |0,_=>none
 |J+1,C=>if(decide (C<(List.length j.aI9:Int)))=true then(idx j.aI9 C).bind λx7=>if(x7.Name.toList==I.toList)=true then some (x7.N,true)else sV j I J (i64.wrap (C+1))else some (0,false)
def lV(j:M.aE)(C:ByteArray):Option (Int×Bool):=
 sV j C fuel 0
def CZ(j:M.aJN)(C:M.aJN)(I:ByteArray):Option Bool:=
 (lV j.aE I).bind λx1=>(lV C.aE I).bind λx3=>if(decide (x1.1<x3.1))=true then some true else if(x1.1==x3.1)=true then(bI j.Key C.Key).bind λx7=>some (decide (x7<0))else some false
def pS(U:ByteArray)(I:List M.aJN)(J:M.aJN)(C:Int->Option (List M.aJN)):Nat->Int->Option (List M.aJN)
 |0,_=>none
 |ai+1,j=>if(decide (j>0))=true then(idx I (i64.wrap (j-1))).bind λaj=>(CZ J aj U).bind λak=>if ak=true then pS U I J C ai (i64.wrap (j-1))else C j else C j
def nE(I:M.aD)(J:ByteArray):Nat->Int->List M.aJN->Option (List M.aJN)
 |0,_,_=>none
 |ai+1,U,j=>if(decide (U<(List.length I.aI6:Int)))=true then(idx I.aI6 U).bind λaf=>(lV af.aE J).bind λaj=>if(!aj.2)=true then nE I J ai (i64.wrap (U+1)) j else pS J j af (λ(C:Int)=>(Bz j C).bind λal=>(app 56 ([]:List M.aJN) (List.take C.toNat j)).bind λao=>(Ad af).bind λah=>(app 56 (List.take C.toNat j) ([ah])).bind λaq=>(app 56 ((List.take C.toNat j)++[ah]) (List.drop C.toNat j)).bind λak=>nE I J ai (i64.wrap (U+1)) (((List.take C.toNat j)++[ah])++(List.drop C.toNat j))) fuel (List.length j:Int)else some j
def BZ(j:M.aD)(C:ByteArray):Option (List M.aJN):=
 nE j C fuel 0 ([]:List M.aJN)
def nO(C:ByteArray)(x1:(List M.aJN)):Nat->Int->Option (M.Key×M.Key×Bool)
 |0,_=>none
 |U+1,j=>if(decide (j<(List.length x1:Int)))=true then(idx x1 (i64.wrap (j-1))).bind λI=>(lV I.aE C).bind λah=>(idx x1 j).bind λJ=>(lV J.aE C).bind λai=>if(ah.1==ai.1)=true then some (I.Key,J.Key,true)else nO C x1 U (i64.wrap (j+1))else some ((⟨0,0,(⟨#[]⟩:ByteArray)⟩:M.Key),(⟨0,0,(⟨#[]⟩:ByteArray)⟩:M.Key),false)
def xO(C:M.aD)(j:ByteArray):Option (M.Key×M.Key×Bool):=
 (BZ C j).bind λx1=>nO j x1 fuel 1
def hH(U:M.aI2)(v4:Int)(C:M.aN)(I:Int->Option Bool):Nat->Int->Option Bool
 |0,_=>none
 |ai+1,j=>if(decide (j<v4))=true then(idx U.aJO j).bind λJ=>if((J.aD.toList==C.aD.toList)&&(J.Field.toList==C.Field.toList))=true then some false else hH U v4 C I ai (i64.wrap (j+1))else I j
def fD(j:M.aI2):Nat->Int->Option Bool
 |0,_=>none
 |U+1,I=>if(decide (I<(List.length j.aJO:Int)))=true then(idx j.aJO I).bind λC=>(tH j C.aD).bind λJ=>if(decide (J<0))=true then some false else(cE C.Field).bind λai=>if(!ai)=true then some false else(idx j.aJF J).bind λaj=>(xO aj C.Field).bind λak=>if ak.2.2=true then some false else hH j I C (λ(af:Int)=>fD j U (i64.wrap (I+1))) fuel 0 else(cE j.Name).bind λal=>if al=true then(aY j.aI0 0 1000).bind λao=>if ao=true then if(decide ((List.length j.aJF:Int)<=4))=true then some (decide ((List.length j.aJO:Int)<=4))else some false else some false else some false
def fC(j:M.aI2):Nat->Int->Option Bool
 |0,_=>none
 |I+1,C=>if(decide (C<(List.length j.aJF:Int)))=true then(idx j.aJF C).bind λx6=>(nX x6).bind λJ=>if(!J)=true then some false else if(decide (C>0))=true then(idx j.aJF (i64.wrap (C-1))).bind λU=>if(!(Op.bytesLess U.Name.toList x6.Name.toList))=true then some false else fC j I (i64.wrap (C+1))else fC j I (i64.wrap (C+1))else fD j fuel 0
def cF(j:M.aI2):Option Bool:=
 fC j fuel 0
def oF(j:M.aK):Nat->Int->Option Bool
 |0,_=>none
 |J+1,C=>if(decide (C<(List.length j.aJM:Int)))=true then(idx j.aJM C).bind λI=>(lA I).bind λU=>if(!U)=true then some false else if(I.aJA !=j.aJA)=true then some false else if(I.Seq !=(i64.wrap ((i64.wrap (j.aJd-(List.length j.aJM:Int)))+C)))=true then some false else oF j J (i64.wrap (C+1))else some true
def iY(j:M.aK):Option Bool:=
 (aY j.aJA 1 1000000).bind λx1=>if(!x1)=true then some false else(aY j.aJd 1 1000000).bind λx4=>if(!x4)=true then some false else if(decide ((List.length j.aJM:Int)>20))=true then some false else oF j fuel 0
def pG(j:M.aG):Option Bool:=
 (nX j.aJQ).bind λx1=>if x1=true then if(j.aJQ.Name.toList==(⟨#[110,111,116,101,115]⟩:ByteArray).toList)=true then(aY j.aJm 0 1000000000000).bind λx5=>if x5=true then(iY j.aJR.aK).bind λx8=>some x8 else some false else some false else some false
def zI(j:M.aI8)(C:Bool):Option Int:=
 if C=true then some 76 else some (i64.wrap (16+(List.length j.aJr:Int)))
def kX(p0:M.aC)(v4:Int)(U:Int->Int->Option Int):Nat->Int->Int->Option Int
 |0,_,_=>none
 |ai+1,C,j=>(idx p0.aI1 v4).bind λI=>if(decide (j<(List.length I.aJB:Int)))=true then(idx I.aJB j).bind λJ=>(zI J.aI8 (J.aI8.aJq==3)).bind λaj=>kX p0 v4 U ai (i64.wrap (C+aj)) (i64.wrap (j+1))else U C j
def eV(j:M.aC):Nat->Int->Int->Option Int
 |0,_,_=>none
 |U+1,I,C=>if(decide (C<(List.length j.aI1:Int)))=true then kX j C (λ(J:Int) (ae:Int)=>eV j U J (i64.wrap (C+1))) fuel I 0 else some I
def yY(j:M.aC):Option Int:=
 eV j fuel 0 0
def bH(j:M.Key):Nat->Int->List Int->Option (List Int)
 |0,_,_=>none
 |J+1,I,C=>if(decide (I>=0))=true then if(j.aJS !=2)=true then if(decide (0<=(i64.wrap (8*I))))=true then(app 1 C ([IntKind.u8.wrap (i64.wrap (BitVec.ofInt (IntKind.i64.bits) (Int.fdiv (i64.wrap (j.N+1000000000000)) (2^(min (i64.wrap (8*I)).toNat IntKind.i64.bits)))&&&BitVec.ofInt (IntKind.i64.bits) 255).toNat)])).bind λU=>bH j J (i64.wrap (I-1)) (C++[IntKind.u8.wrap (i64.wrap (BitVec.ofInt (IntKind.i64.bits) (Int.fdiv (i64.wrap (j.N+1000000000000)) (2^(min (i64.wrap (8*I)).toNat IntKind.i64.bits)))&&&BitVec.ofInt (IntKind.i64.bits) 255).toNat)])else none else(app 1 C (bT j.aJb)).bind λah=>some (C++(bT j.aJb))else(app 1 C (bT j.aJb)).bind λai=>some (C++(bT j.aJb))
def lY(j:M.Key):Option (List Int):=
 (fU j).bind λx1=>if(!x1)=true then some ([]:List Int)else bH j fuel 5 ([IntKind.u8.wrap j.aJS])
def cY  :Nat->Int->List Int->Option (List Int)
 |0,_,_=>none
 |I+1,j,C=>if(decide (j>127))=true then(app 1 C ([IntKind.u8.wrap (i64.wrap (BitVec.ofInt (IntKind.i64.bits) (i64.wrap (BitVec.ofInt (IntKind.i64.bits) j&&&BitVec.ofInt (IntKind.i64.bits) 127).toNat)|||BitVec.ofInt (IntKind.i64.bits) 128).toNat)])).bind λJ=>cY I (Int.fdiv j (2^(min (7:Int).toNat IntKind.i64.bits))) (C++[IntKind.u8.wrap (i64.wrap (BitVec.ofInt (IntKind.i64.bits) (i64.wrap (BitVec.ofInt (IntKind.i64.bits) j&&&BitVec.ofInt (IntKind.i64.bits) 127).toNat)|||BitVec.ofInt (IntKind.i64.bits) 128).toNat)])else(app 1 C ([IntKind.u8.wrap j])).bind λU=>some (C++[IntKind.u8.wrap j])
def bU(j:List Int)(C:Int):Option (List Int):=
 (app 1 ([]:List Int) j).bind λx1=>(aY C 0 1000000000000).bind λx7=>if(!x7)=true then some j else cY fuel C j
def bS(C:List Int)(j:List Int):Option (List Int):=
 (bU C (List.length j:Int)).bind λx1=>(app 1 x1 j).bind λx3=>some (x1++j)
def dB(j:M.aE):Nat->Int->List Int->Option (List Int)
 |0,_,_=>none
 |U+1,C,I=>if(decide (C<(List.length j.aI9:Int)))=true then(idx j.aI9 C).bind λJ=>(bS I (bT J.Name)).bind λah=>(bU ah J.N).bind λai=>dB j U (i64.wrap (C+1)) ai else some I
def gN(j:M.aE):Option (List Int):=
 (bL j).bind λx1=>if(!x1)=true then some ([]:List Int)else(bU ([]:List Int) (List.length j.aI9:Int)).bind λx4=>dB j fuel 0 x4
def mQ(j:M.aD):Nat->Int->Int->Option Int
 |0,_,_=>none
 |J+1,I,C=>if(decide (C<(List.length j.aI6:Int)))=true then(idx j.aI6 C).bind λx7=>(lY x7.Key).bind λU=>(gN x7.aE).bind λaf=>mQ j J (i64.wrap ((i64.wrap (I+(List.length U:Int)))+(List.length af:Int))) (i64.wrap (C+1))else some I
def xH(j:M.aD):Option Int:=
 mQ j fuel 0 0
def iC(j:M.aI2):Nat->Int->Int->Option Int
 |0,_,_=>none
 |J+1,I,C=>if(decide (C<(List.length j.aJF:Int)))=true then(idx j.aJF C).bind λx7=>(xH x7).bind λU=>iC j J (i64.wrap (I+U)) (i64.wrap (C+1))else some I
def wE(j:M.aI2):Option Int:=
 iC j fuel 0 0
def CS(j:M.bR):Option Int:=
 (wE j.aJQ).bind λx1=>some (i64.wrap (x1+(List.length j.Log:Int)))
def B8(j:M.aI3):Option Int:=
 (yY j.aI1).bind λx1=>(CS j.bR).bind λx3=>(xH j.aG.aJQ).bind λx5=>some (i64.wrap ((i64.wrap ((i64.wrap (x1+x3))+x5))+(i64.wrap (40*(List.length j.aG.aJR.aK.aJM:Int)))))
def oT(j:M.aI3):Option Bool:=
 (cE j.aI7).bind λx1=>if x1=true then(cE j.Top).bind λx4=>if x4=true then(cG j.aIz).bind λx7=>if x7=true then if(j.aIz.aI7.toList==j.aI7.toList)=true then(cT j.aI1).bind λC=>if C=true then(cF j.bR.aJQ).bind λI=>if I=true then(pG j.aG).bind λJ=>if J=true then(aY j.aJc 0 1000000000000).bind λU=>if U=true then(B8 j).bind λai=>some (decide (ai<=2500))else some false else some false else some false else some false else some false else some false else some false else some false
def AH(j:M.aI3)(C:ByteArray)(I:ByteArray):Option Bool:=
 if(Op.bytesLess j.aI7.toList C.toList)=true then some true else if(j.aI7.toList==C.toList)=true then some (Op.bytesLess j.Top.toList I.toList)else some false
def gP(j:M.aA):Nat->Int->Option Bool
 |0,_=>none
 |I+1,C=>if(decide (C<(List.length j.aI4:Int)))=true then(idx j.aI4 C).bind λx6=>(oT x6).bind λJ=>if(!J)=true then some false else if(decide (C>0))=true then(idx j.aI4 (i64.wrap (C-1))).bind λU=>(AH U x6.aI7 x6.Top).bind λah=>if(!ah)=true then some false else gP j I (i64.wrap (C+1))else gP j I (i64.wrap (C+1))else some (decide ((List.length j.aI4:Int)<=9))
def cV(j:M.aA):Option Bool:=
 gP j fuel 0
def dY(j:ByteArray):Nat->Int->Option Bool
 |0,_=>none
 |I+1,C=>if(decide (C<(j.size:Int)))=true then(YE j C).bind λx5=>if(decide ((x5.toNat:Int)<97))=true then if((x5.toNat:Int) !=47)=true then some false else dY j I (i64.wrap (C+1))else if(decide ((x5.toNat:Int)>122))=true then if((x5.toNat:Int) !=47)=true then some false else dY j I (i64.wrap (C+1))else dY j I (i64.wrap (C+1))else(aY (j.size:Int) 1 30).bind λJ=>some J
def yS(j:ByteArray):Option Bool:=
 dY j fuel 0
def cZ(I:M.aQ)(J:Int)(x6:M.mV)(C:Int->Option Bool):Nat->Int->Option Bool
 |0,_=>none
 |U+1,j=>if(decide (j<J))=true then(idx I.aJJ j).bind λah=>if x6.aJx=true then if(ah.Name.toList==x6.Name.toList)=true then if(!ah.aJx)=true then some false else if(!x6.aJf)=true then some false else if(!ah.aJf)=true then some false else cZ I J x6 C U (i64.wrap (j+1))else cZ I J x6 C U (i64.wrap (j+1))else cZ I J x6 C U (i64.wrap (j+1))else C j
def fX(j:M.aQ):Nat->Int->Option Bool
 |0,_=>none
 |I+1,C=>if(decide (C<(List.length j.aJJ:Int)))=true then(idx j.aJJ C).bind λx6=>(yS x6.Name).bind λJ=>if(!J)=true then some false else(aY x6.bG 1 1000000000000).bind λU=>if(!U)=true then some false else cZ j C x6 (λ(aa:Int)=>fX j I (i64.wrap (C+1))) fuel 0 else some (decide ((List.length j.aJJ:Int)<=12))
def yF(j:M.aQ):Option Bool:=
 fX j fuel 0
def eD(j:M.World):Nat->Int->Option Bool
 |0,_=>none
 |J+1,I=>if(decide (I<(List.length j.aJI:Int)))=true then(idx j.aJI I).bind λC=>(uN C).bind λU=>if(!U)=true then some false else if(decide (C.Id>=j.aJG))=true then some false else if(decide (I>0))=true then(idx j.aJI (i64.wrap (I-1))).bind λah=>if(decide (ah.Id>=C.Id))=true then some false else(fL j.aA C.aI7 C.Top).bind λai=>if(decide (ai<0))=true then some false else eD j J (i64.wrap (I+1))else(fL j.aA C.aI7 C.Top).bind λaj=>if(decide (aj<0))=true then some false else eD j J (i64.wrap (I+1))else(aY j.Now 0 999999990000).bind λak=>if ak=true then(aY j.aJA 1 1000000).bind λal=>if al=true then(cV j.aA).bind λao=>if ao=true then(aY j.aJG 1 1000000000000).bind λaq=>if aq=true then(yF j.aJJ).bind λar=>some ar else some false else some false else some false else some false
def nH(C:M.World):Nat->Int->Option Bool
 |0,_=>none
 |I+1,j=>if(decide (j<3))=true then((idx C.aJL j).bind λx9=>((uM x9).bind λJ=>(if(!J)=true then(some false)else((vW).bind λU=>((idx U j).bind λah=>(if(!(x9.Name.toList==ah.toList))=true then(some false)else((idx C.aJK j).bind λai=>((sI ai).bind λaj=>(if(!aj)=true then(some false)else(nH C I (i64.wrap (j+1))))))))))))else(eD C fuel 0)
def gY(j:M.World):Option Bool:=
 if((List.length j.aJL:Int) !=3)=true then some false else if((List.length j.aJK:Int) !=3)=true then some false else if(decide ((List.length j.aJI:Int)>6))=true then some false else nH j fuel 0
def pF(I:List M.mV)(J:Int)(j:M.mV):Nat->Int->Option Bool
 |0,_=>none
 |U+1,C=>if(decide (C<J))=true then(idx I C).bind λx8=>if(x8.Name.toList==j.Name.toList)=true then if(!x8.aJx)=true then some false else if(!x8.aJf)=true then some false else if(!j.aJf)=true then some false else pF I J j U (i64.wrap (C+1))else pF I J j U (i64.wrap (C+1))else some true
def Cw(j:List M.mV)(C:Int)(I:M.mV):Option Bool:=
 pF j C I fuel 0
def fA  :Nat->Int->List M.mV->Option M.aQ
 |0,_,_=>none
 |J+1,C,j=>if(decide (C<(List.length j:Int)))=true then(idx j C).bind λI=>if(!I.aJx)=true then(Cw j C I).bind λU=>if U=true then fA J (i64.wrap (C+1)) (List.set j C.toNat (⟨I.Name,I.bG,I.aJf,true⟩:M.mV))else fA J (i64.wrap (C+1)) j else fA J (i64.wrap (C+1)) j else some (⟨j⟩:M.aQ)
def vJ(j:M.aQ):Option M.aQ:=
 (yP j).bind λx1=>fA fuel 0 x1.aJJ
def eS(C:M.aQ)(U:Int):Nat->Int->List M.mV->Option M.aQ
 |0,_,_=>none
 |af+1,I,j=>if(decide (I<(List.length C.aJJ:Int)))=true then(idx C.aJJ I).bind λJ=>if(J.bG !=U)=true then(app 32 j ([J])).bind λai=>eS C U af (i64.wrap (I+1)) (j++[J])else eS C U af (i64.wrap (I+1)) j else(vJ (⟨j⟩:M.aQ)).bind λah=>some ah
def vZ(j:M.aQ)(C:Int):Option M.aQ:=
 eS j C fuel 0 ([]:List M.mV)
def iT(C:M.aJD)(U:Int):Nat->Int->List M.AP->Option M.aJD
 |0,_,_=>none
 |af+1,I,j=>if(decide (I<(List.length C.aJe:Int)))=true then(idx C.aJe I).bind λJ=>if(J.To !=U)=true then(app 24 j ([J])).bind λah=>iT C U af (i64.wrap (I+1)) (j++[J])else iT C U af (i64.wrap (I+1)) j else some (⟨j⟩:M.aJD)
def Ay(j:M.aJD)(C:Int):Option M.aJD:=
 iT j C fuel 0 ([]:List M.AP)
def lX(j:M.World)(C:Int):Option (M.World×Bool):=
 (bQ j).bind λx1=>(Av j C).bind λx3=>(gY j).bind λx5=>if(!x5)=true then some (x1,false)else if(decide (x3<0))=true then some (x1,false)else(Bz x1.aJI x3).bind λx9=>(Dg x1.aJI (i64.wrap (x3+1))).bind λU=>(app 144 (List.take x3.toNat x1.aJI) (List.drop (i64.wrap (x3+1)).toNat x1.aJI)).bind λah=>(vZ j.aJJ C).bind λI=>(Ay j.aJD C).bind λJ=>some ((⟨x1.Now,x1.aJV,x1.aJA,x1.aA,(List.take x3.toNat x1.aJI)++(List.drop (i64.wrap (x3+1)).toNat x1.aJI),x1.aJG,I,J,x1.aJL,x1.aJK⟩:M.World),true)
def fZ(C:M.aM)(j:List ByteArray):Option (Int×Int×ByteArray):=
 (aF C (List.length j:Int)).bind λx5=>(idx j x5.2.2).bind λx7=>some (x5.1,x5.2.1,x7)
def kA(j:M.aM):Option (Int×Int×ByteArray):=
 (fZ j ([(⟨#[98,97,110,107]⟩:ByteArray),(⟨#[110,101,119,115]⟩:ByteArray),(⟨#[115,104,111,112]⟩:ByteArray)])).bind λx4=>some (x4.1,x4.2.1,x4.2.2)
def cC(j:M.aM)(C:Int):Option (Int×Int×Bool):=
 (aF j C).bind λx5=>some (x5.1,x5.2.1,x5.2.2==0)
def dN(j:M.aM):Option (Int×Int×ByteArray):=
 (fZ j ([(⟨#[97]⟩:ByteArray),(⟨#[98]⟩:ByteArray),(⟨#[99]⟩:ByteArray),(⟨#[100,111,110,101]⟩:ByteArray),(⟨#[116,105,116,108,101]⟩:ByteArray)])).bind λx4=>some (x4.1,x4.2.1,x4.2.2)
def Bl(j:M.aM)(p1:Int):Option (Int×Int×M.Instr):=
 (aF j 9).bind λx5=>(aF (⟨j.b,x5.1,x5.2.1⟩:M.aM) 4).bind λx7=>if((i64.wrap (1+x5.2.2))==1)=true then(aF (⟨j.b,x7.1,x7.2.1⟩:M.aM) 6).bind λC=>some (C.1,C.2.1,(⟨i64.wrap (1+x5.2.2),x7.2.2,C.2.2,(⟨#[]⟩:ByteArray)⟩:M.Instr))else if((i64.wrap (1+x5.2.2))==2)=true then(aF (⟨j.b,x7.1,x7.2.1⟩:M.aM) 4).bind λI=>some (I.1,I.2.1,(⟨i64.wrap (1+x5.2.2),x7.2.2,I.2.2,(⟨#[]⟩:ByteArray)⟩:M.Instr))else if((i64.wrap (1+x5.2.2))==3)=true then(aF (⟨j.b,x7.1,x7.2.1⟩:M.aM) (i64.wrap (p1+1))).bind λJ=>some (J.1,J.2.1,(⟨i64.wrap (1+x5.2.2),x7.2.2,J.2.2,(⟨#[]⟩:ByteArray)⟩:M.Instr))else if((i64.wrap (1+x5.2.2))==4)=true then(aF (⟨j.b,x7.1,x7.2.1⟩:M.aM) (i64.wrap (p1+1))).bind λU=>some (U.1,U.2.1,(⟨i64.wrap (1+x5.2.2),0,U.2.2,(⟨#[]⟩:ByteArray)⟩:M.Instr))else if((i64.wrap (1+x5.2.2))==5)=true then(fZ (⟨j.b,x7.1,x7.2.1⟩:M.aM) ([(⟨#[105,110,100,101,120]⟩:ByteArray),(⟨#[115,116,121,108,101]⟩:ByteArray),(⟨#[100,97,116,97]⟩:ByteArray)])).bind λai=>some (ai.1,ai.2.1,(⟨i64.wrap (1+x5.2.2),x7.2.2,0,ai.2.2⟩:M.Instr))else if((i64.wrap (1+x5.2.2))==6)=true then(aF (⟨j.b,x7.1,x7.2.1⟩:M.aM) 4).bind λaj=>(dN (⟨j.b,aj.1,aj.2.1⟩:M.aM)).bind λak=>some (ak.1,ak.2.1,(⟨i64.wrap (1+x5.2.2),x7.2.2,aj.2.2,ak.2.2⟩:M.Instr))else if((i64.wrap (1+x5.2.2))==7)=true then(aF (⟨j.b,x7.1,x7.2.1⟩:M.aM) 4).bind λal=>(dN (⟨j.b,al.1,al.2.1⟩:M.aM)).bind λao=>some (ao.1,ao.2.1,(⟨i64.wrap (1+x5.2.2),x7.2.2,al.2.2,ao.2.2⟩:M.Instr))else if((i64.wrap (1+x5.2.2))==8)=true then(aF (⟨j.b,x7.1,x7.2.1⟩:M.aM) 4).bind λaq=>(dN (⟨j.b,aq.1,aq.2.1⟩:M.aM)).bind λar=>some (ar.1,ar.2.1,(⟨i64.wrap (1+x5.2.2),x7.2.2,aq.2.2,ar.2.2⟩:M.Instr))else if((i64.wrap (1+x5.2.2))==9)=true then some (x7.1,x7.2.1,(⟨i64.wrap (1+x5.2.2),0,0,(⟨#[]⟩:ByteArray)⟩:M.Instr))else some (x7.1,x7.2.1,(⟨i64.wrap (1+x5.2.2),x7.2.2,0,(⟨#[]⟩:ByteArray)⟩:M.Instr))
def mJ(U:M.aM)(x4:(Int×Int×Int)):Nat->Int->List M.Instr->Int->Int->Option (Int×Int×(List M.Instr))
 |0,_,_,_,_=>none
 |ah+1,v5,C,I,J=>if(decide (v5<x4.2.2))=true then(Bl (⟨U.b,I,J⟩:M.aM) x4.2.2).bind λj=>(app 40 C ([j.2.2])).bind λai=>mJ U x4 ah (i64.wrap (v5+1)) (C++[j.2.2]) j.1 j.2.1 else some (I,J,C)
def jY(j:M.aM):Option (Int×Int×(List M.Instr)):=
 (aF j 8).bind λx4=>mJ j x4 fuel 0 ([]:List M.Instr) x4.1 x4.2.1
def kZ(C:ByteArray)(x1:(List ByteArray)):Nat->Int->Option Int
 |0,_=>none
 |I+1,j=>if(decide (j<(List.length x1:Int)))=true then(idx x1 j).bind λx9=>if(x9.toList==C.toList)=true then some j else kZ C x1 I (i64.wrap (j+1))else some (-1)
def gZ(j:ByteArray):Option Int:=
 (vW).bind λx1=>kZ j x1 fuel 0
def Af(j:M.World):Option Int:=
 some (i64.wrap ((i64.wrap (1000*j.aJA))+j.aJG))
def pI(j:Int):Option (M.aK×Bool):=
 (iY (⟨j,1,([]:List M.bC)⟩:M.aK)).bind λx1=>if(!x1)=true then some ((⟨0,0,([]:List M.bC)⟩:M.aK),false)else some ((⟨j,1,([]:List M.bC)⟩:M.aK),true)
def tG(j:ByteArray)(C:ByteArray)(J:Int):Option (M.aI3×Bool):=
 (pI J).bind λx1=>if(!x1.2)=true then some ((⟨(⟨#[]⟩:ByteArray),(⟨#[]⟩:ByteArray),(⟨(⟨#[]⟩:ByteArray),0,0,0⟩:M.aIz),(⟨([]:List M.aI5)⟩:M.aC),(⟨(⟨(⟨#[]⟩:ByteArray),0,([]:List M.aD),([]:List M.aN)⟩:M.aI2),([]:List Int),0⟩:M.bR),(⟨(⟨(⟨#[]⟩:ByteArray),([]:List M.aJN),0⟩:M.aD),0,(⟨(⟨0,0,([]:List M.bC)⟩:M.aK),0,0⟩:M.aJR)⟩:M.aG),0,false⟩:M.aI3),false)else(oT (⟨j,C,(⟨j,0,0,0⟩:M.aIz),(⟨([]:List M.aI5)⟩:M.aC),(⟨(⟨(⟨#[97,112,112]⟩:ByteArray),1,[(⟨(⟨#[110,111,116,101,115]⟩:ByteArray),([]:List M.aJN),0⟩:M.aD)],([]:List M.aN)⟩:M.aI2),([]:List Int),0⟩:M.bR),(⟨(⟨(⟨#[110,111,116,101,115]⟩:ByteArray),([]:List M.aJN),0⟩:M.aD),0,(⟨x1.1,0,0⟩:M.aJR)⟩:M.aG),0,false⟩:M.aI3)).bind λI=>if(!I)=true then some ((⟨(⟨#[]⟩:ByteArray),(⟨#[]⟩:ByteArray),(⟨(⟨#[]⟩:ByteArray),0,0,0⟩:M.aIz),(⟨([]:List M.aI5)⟩:M.aC),(⟨(⟨(⟨#[]⟩:ByteArray),0,([]:List M.aD),([]:List M.aN)⟩:M.aI2),([]:List Int),0⟩:M.bR),(⟨(⟨(⟨#[]⟩:ByteArray),([]:List M.aJN),0⟩:M.aD),0,(⟨(⟨0,0,([]:List M.bC)⟩:M.aK),0,0⟩:M.aJR)⟩:M.aG),0,false⟩:M.aI3),false)else some ((⟨j,C,(⟨j,0,0,0⟩:M.aIz),(⟨([]:List M.aI5)⟩:M.aC),(⟨(⟨(⟨#[97,112,112]⟩:ByteArray),1,[(⟨(⟨#[110,111,116,101,115]⟩:ByteArray),([]:List M.aJN),0⟩:M.aD)],([]:List M.aN)⟩:M.aI2),([]:List Int),0⟩:M.bR),(⟨(⟨(⟨#[110,111,116,101,115]⟩:ByteArray),([]:List M.aJN),0⟩:M.aD),0,(⟨x1.1,0,0⟩:M.aJR)⟩:M.aG),0,false⟩:M.aI3),true)
def mU(C:M.aA)(I:M.aI3)(x1:M.aA):Nat->Int->Option (M.aA×Bool)
 |0,_=>none
 |al+1,j=>if(decide (j<(List.length C.aI4:Int)))=true then(idx C.aI4 j).bind λao=>(AH ao I.aI7 I.Top).bind λaq=>if aq=true then mU C I x1 al (i64.wrap (j+1))else(Bz x1.aI4 j).bind λbd=>(app 328 ([]:List M.aI3) (List.take j.toNat x1.aI4)).bind λbf=>(gV I).bind λU=>(app 328 (List.take j.toNat x1.aI4) ([U])).bind λbg=>(app 328 ((List.take j.toNat x1.aI4)++[U]) (List.drop j.toNat x1.aI4)).bind λbh=>(cV C).bind λar=>if(!ar)=true then(fO C).bind λav=>some (av,false)else(cV (⟨((List.take j.toNat x1.aI4)++[U])++(List.drop j.toNat x1.aI4)⟩:M.aA)).bind λaw=>if(!aw)=true then(fO C).bind λaf=>some (af,false)else some ((⟨((List.take j.toNat x1.aI4)++[U])++(List.drop j.toNat x1.aI4)⟩:M.aA),true)else(Bz x1.aI4 j).bind λax=>(app 328 ([]:List M.aI3) (List.take j.toNat x1.aI4)).bind λay=>(gV I).bind λJ=>(app 328 (List.take j.toNat x1.aI4) ([J])).bind λaz=>(app 328 ((List.take j.toNat x1.aI4)++[J]) (List.drop j.toNat x1.aI4)).bind λba=>(cV C).bind λah=>if(!ah)=true then(fO C).bind λai=>some (ai,false)else(cV (⟨((List.take j.toNat x1.aI4)++[J])++(List.drop j.toNat x1.aI4)⟩:M.aA)).bind λaj=>if(!aj)=true then(fO C).bind λak=>some (ak,false)else some ((⟨((List.take j.toNat x1.aI4)++[J])++(List.drop j.toNat x1.aI4)⟩:M.aA),true)
def gQ(j:M.aA)(C:M.aI3):Option (M.aA×Bool):=
 (fO j).bind λx1=>(fL j C.aI7 C.Top).bind λx3=>if(decide (x3>=0))=true then(gV C).bind λx6=>(idx x1.aI4 x3).bind λx8=>(cV j).bind λI=>if(!I)=true then(fO j).bind λJ=>some (J,false)else(cV (⟨List.set x1.aI4 x3.toNat x6⟩:M.aA)).bind λU=>if(!U)=true then(fO j).bind λah=>some (ah,false)else some ((⟨List.set x1.aI4 x3.toNat x6⟩:M.aA),true)else mU j C x1 fuel 0
def rD(j:M.aIz)(C:M.aI7)(I:Bool):Option Int:=
 if(j.aJX !=0)=true then some j.aJX else if I=true then some C.aI0 else some 0
def yH(j:M.Instr)(p1:Int):Option Bool:=
 (if(j.aJS==5)=true then some true else(aY j.aJS 6 8).bind λx9=>some x9).bind λx1=>(if(j.aJS==1)=true then some 1000 else if(j.aJS==2)=true then some 3 else(if(j.aJS==3)=true then some (j.aJS==3)else some (j.aJS==4)).bind λC=>if C=true then some p1 else(if(j.aJS==6)=true then some (j.aJS==6)else if(j.aJS==7)=true then some (j.aJS==7)else some (j.aJS==8)).bind λI=>if I=true then some 100 else some 0).bind λJ=>((aY j.aJS 1 9).bind λU=>if(!U)=true then some true else(aY j.R 0 3).bind λai=>if(!ai)=true then some true else(aY j.N 0 J).bind λaj=>some (!aj)).bind λak=>if ak=true then some false else(if(j.aJS==4)=true then some (j.R !=0)else if(j.aJS==9)=true then some (j.R !=0)else some false).bind λal=>if al=true then some false else(if x1=true then(cE j.aJb).bind λao=>if ao=true then some true else some false else some (j.aJb.toList==(⟨#[]⟩:ByteArray).toList)).bind λaq=>some aq
def oN(j:List M.Instr):Nat->Int->Option Bool
 |0,_=>none
 |I+1,C=>if(decide (C<(List.length j:Int)))=true then(idx j C).bind λx5=>(yH x5 (List.length j:Int)).bind λJ=>if(!J)=true then some false else oN j I (i64.wrap (C+1))else some (decide ((List.length j:Int)<=16))
def Bm(j:List M.Instr):Option Bool:=
 oN j fuel 0
def zR(j:List M.Instr):Option M.aJH:=
 (Bm j).bind λx8=>if(!x8)=true then some (⟨([]:List M.Instr),0,[0,0,0,0],0,true,false⟩:M.aJH)else(xE j).bind λC=>some (⟨C,0,[0,0,0,0],0,false,false⟩:M.aJH)
def mA(j:Int)(C:ByteArray)(I:ByteArray)(J:Int)(U:List M.Instr):Option (M.bG×Bool):=
 (zR U).bind λx1=>(uN (⟨j,C,I,J,([]:List M.aV),x1⟩:M.bG)).bind λx3=>if(!x3)=true then some ((⟨0,(⟨#[]⟩:ByteArray),(⟨#[]⟩:ByteArray),0,([]:List M.aV),(⟨([]:List M.Instr),0,([]:List Int),0,false,false⟩:M.aJH)⟩:M.bG),false)else some ((⟨j,C,I,J,([]:List M.aV),x1⟩:M.bG),true)
def cU  :Option M.aI8:=
 some (⟨4,0,0,([]:List Int),false⟩:M.aI8)
def mM(C:M.aC)(I:Int):Nat->Int->Option Int
 |0,_=>none
 |J+1,j=>if(decide (j<(List.length C.aI1:Int)))=true then(idx C.aI1 j).bind λx7=>if(x7.aI0==I)=true then some j else mM C I J (i64.wrap (j+1))else some (-1)
def tT(j:M.aC)(C:Int):Option Int:=
 mM j C fuel 0
def nR(C:M.aI5)(I:ByteArray)(J:ByteArray):Nat->Int->Option Int
 |0,_=>none
 |U+1,j=>if(decide (j<(List.length C.aJB:Int)))=true then(idx C.aJB j).bind λx8=>if(x8.aI7.toList==I.toList)=true then if(x8.aJk.toList==J.toList)=true then some j else nR C I J U (i64.wrap (j+1))else nR C I J U (i64.wrap (j+1))else some (-1)
def AD(j:M.aI5)(C:ByteArray)(I:ByteArray):Option Int:=
 nR j C I fuel 0
def zG(C:M.aC)(p1:Int)(p2:ByteArray)(p3:ByteArray):Option (M.aI8×Bool):=
 (tT C p1).bind λx1=>(if(decide (x1<0))=true then((cU).bind λx4=>(some (x4,false)))else((idx C.aI1 x1).bind λx6=>((AD x6 p2 p3).bind λj=>(if(decide (j<0))=true then((cU).bind λI=>(some (I,false)))else((idx x6.aJB j).bind λJ=>((uR J.aI8).bind λU=>(some (U,true))))))))
def AR(j:Int)(C:Int):Option Int:=
 if(decide (C>j))=true then some C else some j
def pC(j:M.aI7)(C:Int):Option Bool:=
 (uM j).bind λx1=>if x1=true then(AR 1 (i64.wrap ((i64.wrap (j.aI0-2))+1))).bind λx4=>(aY C x4 j.aI0).bind λx6=>some x6 else some false
def rC(j:M.aI7)(I:ByteArray):Nat->Int->Option Bool
 |0,_=>none
 |J+1,C=>if(decide (C<(List.length j.aJW:Int)))=true then(idx j.aJW C).bind λx7=>if(x7.toList==I.toList)=true then some true else rC j I J (i64.wrap (C+1))else some false
def BM(j:M.aI7)(C:ByteArray):Option Bool:=
 rC j C fuel 0
def iQ(j:List Int):Nat->Int->List Int->Option (List Int)
 |0,_,_=>none
 |U+1,I,C=>if(decide (I<(List.length j:Int)))=true then(idx j I).bind λJ=>(app 8 C ([i64.wrap J])).bind λaf=>iQ j U (i64.wrap (I+1)) (C++[i64.wrap J])else some C
def tD(j:List Int):Option (List Int):=
 iQ j fuel 0 ([(List.length j:Int)])
def E9(C:Int)(j:Int):Option Int:=
 (aY j 1 1000000000000).bind λx1=>if(!x1)=true then some 0 else if(decide (j=0))=true then none else some (Int.tmod (i64.wrap ((Int.tmod C j)+j)) j)
def yJ(j:List Int):Nat->Int->Int->Option Int
 |0,_,_=>none
 |J+1,I,C=>if(decide (C<(List.length j:Int)))=true then(idx j C).bind λx6=>(E9 x6 2147483647).bind λU=>yJ j J (Int.tmod (i64.wrap ((i64.wrap ((i64.wrap (I*1000003))+U))+13)) 2147483647) (i64.wrap (C+1))else some I
def C9(j:List Int):Option Int:=
 yJ j fuel 11 0
def xD(j:Int)(C:List Int):Option Int:=
 (app 8 ([j]) C).bind λx1=>(app 8 ([j]++C) ([j])).bind λx3=>(C9 (([j]++C)++[j])).bind λx5=>some x5
def kH(j:Int)(C:ByteArray):Option Int:=
 (tD (bT C)).bind λx1=>(xD j x1).bind λx3=>(AR 1 x3).bind λx5=>some x5
def wY(x5:Int):Nat->Int->List Int->Option (List Int)
 |0,_,_=>none
 |I+1,j,C=>if(decide (j>=0))=true then if(decide (0<=(i64.wrap (8*j))))=true then(app 1 C ([IntKind.u8.wrap (i64.wrap (BitVec.ofInt (IntKind.i64.bits) (Int.fdiv x5 (2^(min (i64.wrap (8*j)).toNat IntKind.i64.bits)))&&&BitVec.ofInt (IntKind.i64.bits) 255).toNat)])).bind λJ=>wY x5 I (i64.wrap (j-1)) (C++[IntKind.u8.wrap (i64.wrap (BitVec.ofInt (IntKind.i64.bits) (Int.fdiv x5 (2^(min (i64.wrap (8*j)).toNat IntKind.i64.bits)))&&&BitVec.ofInt (IntKind.i64.bits) 255).toNat)])else none else some C
def Ae(j:M.aI7)(C:ByteArray)(I:Int):Option (List Int):=
 (kH 107 j.Name).bind λx1=>(kH 109 C).bind λx3=>(xD (i64.wrap (1+I)) ([103,x1,x3])).bind λx5=>wY x5 fuel 5 ([]:List Int)
def kB(j:M.aI7)(I:ByteArray)(C:Int):Option M.aI8:=
 (uM j).bind λx1=>(if(!x1)=true then((cU).bind λx4=>(some x4))else((pC j C).bind λx6=>(if(!x6)=true then(some (⟨1,404,j.aI0,([]:List Int),false⟩:M.aI8))else((BM j I).bind λx9=>(if(!x9)=true then(some (⟨1,404,j.aI0,([]:List Int),false⟩:M.aI8))else((Ae j I C).bind λJ=>(some (⟨1,200,C,J,j.aJf⟩:M.aI8))))))))
def oM(J:M.aC)(j:M.aI7)(C:Int)(I:ByteArray)(U:Bool):Option M.aI8:=
 (zG J C j.Name I).bind λx1=>(if x1.2=true then(some x1.1)else(if U=true then((kB j I C).bind λx5=>(some x5))else((cU).bind λx7=>(some x7))))
def pH(j:M.World)(C:M.bG)(p2:ByteArray):Option M.aI8:=
 (fL j.aA C.aI7 C.Top).bind λx1=>((gZ C.aI7).bind λx3=>(if(decide (x1<0))=true then((cU).bind λx6=>(some x6))else(if(decide (x3<0))=true then((cU).bind λx9=>(some x9))else((idx j.aA.aI4 x1).bind λI=>((idx j.aJL x3).bind λJ=>((oM I.aI1 J C.aI0 p2 j.aJV).bind λU=>(some U)))))))
def lS(j:M.bG)(I:ByteArray)(C:M.aI8):Option (M.bG×Bool):=
 (lQ j).bind λx1=>(app 24 x1.aV ([(⟨I,C.aI0⟩:M.aV)])).bind λx3=>if(C.aJn !=200)=true then(lQ j).bind λJ=>some (J,false)else if(C.aI0 !=j.aI0)=true then(lQ j).bind λU=>some (U,false)else(uN j).bind λaf=>if(!af)=true then(lQ j).bind λah=>some (ah,false)else(uN (⟨x1.Id,x1.aI7,x1.Top,x1.aI0,x1.aV++[(⟨I,C.aI0⟩:M.aV)],x1.aJH⟩:M.bG)).bind λai=>if(!ai)=true then(lQ j).bind λaj=>some (aj,false)else some ((⟨x1.Id,x1.aI7,x1.Top,x1.aI0,x1.aV++[(⟨I,C.aI0⟩:M.aV)],x1.aJH⟩:M.bG),true)
def lM(j:M.World)(J:ByteArray)(U:ByteArray)(p3:List M.Instr):Option (M.World×Int×Bool):=
 (bQ j).bind λx1=>(gZ J).bind λx3=>(gY j).bind λx5=>if(!x5)=true then some (x1,0,false)else if(decide (x3<0))=true then some (x1,0,false)else(gZ U).bind λx9=>if(decide (x9<0))=true then some (x1,0,false)else(Af j).bind λbg=>(tG J U bg).bind λC=>(fL j.aA J U).bind λbf=>if(decide (bf>=0))=true then(idx j.aA.aI4 bf).bind λbh=>(gV bh).bind λI=>(gQ j.aA (⟨I.aI7,I.Top,I.aIz,I.aI1,I.bR,I.aG,j.Now,I.aJZ⟩:M.aI3)).bind λaj=>(idx j.aJL x3).bind λbj=>(rD I.aIz bj j.aJV).bind λbl=>(mA j.aJG J U bl p3).bind λak=>if(!aj.2)=true then(bQ j).bind λbm=>some (bm,0,false)else if(!ak.2)=true then(bQ j).bind λbn=>some (bn,0,false)else(pH (⟨x1.Now,x1.aJV,x1.aJA,aj.1,x1.aJI,x1.aJG,x1.aJJ,x1.aJD,x1.aJL,x1.aJK⟩:M.World) ak.1 (⟨#[105,110,100,101,120]⟩:ByteArray)).bind λbo=>(lS ak.1 (⟨#[105,110,100,101,120]⟩:ByteArray) bo).bind λal=>(app 144 x1.aJI ([al.1])).bind λbt=>if(!al.2)=true then(bQ j).bind λbq=>some (bq,0,false)else(gY (⟨x1.Now,x1.aJV,x1.aJA,aj.1,x1.aJI++[al.1],i64.wrap (j.aJG+1),x1.aJJ,x1.aJD,x1.aJL,x1.aJK⟩:M.World)).bind λao=>if(!ao)=true then(bQ j).bind λaq=>some (aq,0,false)else some ((⟨x1.Now,x1.aJV,x1.aJA,aj.1,x1.aJI++[al.1],i64.wrap (j.aJG+1),x1.aJJ,x1.aJD,x1.aJL,x1.aJK⟩:M.World),ak.1.Id,true)else(gQ j.aA (⟨C.1.aI7,C.1.Top,C.1.aIz,C.1.aI1,C.1.bR,C.1.aG,j.Now,C.1.aJZ⟩:M.aI3)).bind λaa=>(idx j.aJL x3).bind λar=>(rD C.1.aIz ar j.aJV).bind λav=>(mA j.aJG J U av p3).bind λae=>if(!aa.2)=true then(bQ j).bind λaw=>some (aw,0,false)else if(!ae.2)=true then(bQ j).bind λax=>some (ax,0,false)else(pH (⟨x1.Now,x1.aJV,x1.aJA,aa.1,x1.aJI,x1.aJG,x1.aJJ,x1.aJD,x1.aJL,x1.aJK⟩:M.World) ae.1 (⟨#[105,110,100,101,120]⟩:ByteArray)).bind λay=>(lS ae.1 (⟨#[105,110,100,101,120]⟩:ByteArray) ay).bind λaf=>(app 144 x1.aJI ([af.1])).bind λbr=>if(!af.2)=true then(bQ j).bind λaz=>some (az,0,false)else(gY (⟨x1.Now,x1.aJV,x1.aJA,aa.1,x1.aJI++[af.1],i64.wrap (j.aJG+1),x1.aJJ,x1.aJD,x1.aJL,x1.aJK⟩:M.World)).bind λba=>if(!ba)=true then(bQ j).bind λbd=>some (bd,0,false)else some ((⟨x1.Now,x1.aJV,x1.aJA,aa.1,x1.aJI++[af.1],i64.wrap (j.aJG+1),x1.aJJ,x1.aJD,x1.aJL,x1.aJK⟩:M.World),ae.1.Id,true)
def fR(j:M.aM):Nat->Int->Int->Bool->Int->Int->Int->Int->List M.aI3->List M.bG->List M.mV->List M.AP->List M.aI7->List M.aJC->Option (Int×Int×M.World)
 |0,_,_,_,_,_,_,_,_,_,_,_,_,_=>none
 |bn+1,v4,av,aw,ax,ar,ak,al,ae,af,ah,ai,aa,aj=>if(decide (v4>0))=true then(aF (⟨j.b,ak,al⟩:M.aM) 6).bind λC=>if(C.2.2==0)=true then(aF (⟨j.b,C.1,C.2.1⟩:M.aM) (i64.wrap (ar+1))).bind λbo=>(lX (⟨av,aw,ax,(⟨ae⟩:M.aA),af,ar,(⟨ah⟩:M.aQ),(⟨ai⟩:M.aJD),aa,aj⟩:M.World) bo.2.2).bind λU=>fR j bn (i64.wrap (v4-1)) U.1.Now U.1.aJV U.1.aJA U.1.aJG bo.1 bo.2.1 U.1.aA.aI4 U.1.aJI U.1.aJJ.aJJ U.1.aJD.aJe U.1.aJL U.1.aJK else if(C.2.2==1)=true then(aF (⟨j.b,C.1,C.2.1⟩:M.aM) 5).bind λbq=>fR j bn (i64.wrap (v4-1)) (i64.wrap (av+bq.2.2)) aw ax ar bq.1 bq.2.1 ae af ah ai aa aj else if(C.2.2==2)=true then(aF (⟨j.b,C.1,C.2.1⟩:M.aM) 3).bind λbf=>(aF (⟨j.b,bf.1,bf.2.1⟩:M.aM) 3).bind λbg=>(idx aa bf.2.2).bind λbh=>fR j bn (i64.wrap (v4-1)) av aw ax ar bg.1 bg.2.1 ae af ah ai (List.set aa bf.2.2.toNat (⟨bh.Name,i64.wrap (1+bg.2.2),bh.aJW,bh.aJf⟩:M.aI7)) aj else(kA (⟨j.b,C.1,C.2.1⟩:M.aM)).bind λaz=>(cC (⟨j.b,az.1,az.2.1⟩:M.aM) 3).bind λba=>if ba.2.2=true then(kA (⟨j.b,ba.1,ba.2.1⟩:M.aM)).bind λbj=>(jY (⟨j.b,bj.1,bj.2.1⟩:M.aM)).bind λbl=>(lM (⟨av,aw,ax,(⟨ae⟩:M.aA),af,ar,(⟨ah⟩:M.aQ),(⟨ai⟩:M.aJD),aa,aj⟩:M.World) az.2.2 bj.2.2 bl.2.2).bind λI=>fR j bn (i64.wrap (v4-1)) I.1.Now I.1.aJV I.1.aJA I.1.aJG bl.1 bl.2.1 I.1.aA.aI4 I.1.aJI I.1.aJJ.aJJ I.1.aJD.aJe I.1.aJL I.1.aJK else(jY (⟨j.b,ba.1,ba.2.1⟩:M.aM)).bind λbm=>(lM (⟨av,aw,ax,(⟨ae⟩:M.aA),af,ar,(⟨ah⟩:M.aQ),(⟨ai⟩:M.aJD),aa,aj⟩:M.World) az.2.2 az.2.2 bm.2.2).bind λJ=>fR j bn (i64.wrap (v4-1)) J.1.Now J.1.aJV J.1.aJA J.1.aJG bm.1 bm.2.1 J.1.aA.aI4 J.1.aJI J.1.aJJ.aJJ J.1.aJD.aJe J.1.aJL J.1.aJK else some (ak,al,(⟨av,aw,ax,(⟨ae⟩:M.aA),af,ar,(⟨ah⟩:M.aQ),(⟨ai⟩:M.aJD),aa,aj⟩:M.World))
def A3(C:M.aM):Option (Int×Int×M.World):=
 (aF C 3).bind λx4=>(A6 (i64.wrap (1+x4.2.2))).bind λx6=>(aF (⟨C.b,x4.1,x4.2.1⟩:M.aM) 5).bind λj=>fR C fuel j.2.2 x6.Now x6.aJV x6.aJA x6.aJG j.1 j.2.1 x6.aA.aI4 x6.aJI x6.aJJ.aJJ x6.aJD.aJe x6.aJL x6.aJK
def CK(j:Int):Option Int:=
 if(decide (j>1000000000000))=true then some j else some (i64.wrap (j+1))
def B3(j:M.aI7):Option (M.aI7×Bool):=
 (uS j).bind λx1=>(CK j.aI0).bind λx3=>(uM j).bind λx5=>if(!x5)=true then(uS j).bind λx8=>some (x8,false)else(uM (⟨x1.Name,x3,x1.aJW,x1.aJf⟩:M.aI7)).bind λC=>if(!C)=true then(uS j).bind λI=>some (I,false)else some ((⟨x1.Name,x3,x1.aJW,x1.aJf⟩:M.aI7),true)
def lD(j:M.World)(I:ByteArray):Option (M.World×Bool):=
 (bQ j).bind λx1=>(gZ I).bind λx3=>(gY j).bind λx5=>if(!x5)=true then some (x1,false)else if(decide (x3<0))=true then some (x1,false)else(idx j.aJL x3).bind λx9=>(B3 x9).bind λC=>(idx x1.aJL x3).bind λJ=>some ((⟨x1.Now,x1.aJV,x1.aJA,x1.aA,x1.aJI,x1.aJG,x1.aJJ,x1.aJD,List.set x1.aJL x3.toNat C.1,x1.aJK⟩:M.World),C.2)
def wB(j:M.aIz)(C:Int):Option (M.aIz×Bool):=
 (cG j).bind λx1=>if(!x1)=true then some (j,false)else(cG (⟨j.aI7,C,j.aJT,j.aJX⟩:M.aIz)).bind λx4=>if(!x4)=true then some (j,false)else if(decide (C<1))=true then some (j,false)else if(j.aJP !=0)=true then some (j,false)else some ((⟨j.aI7,C,j.aJT,j.aJX⟩:M.aIz),true)
def uD(j:M.aIz):Option Int:=
 (AR j.aJT j.aJP).bind λx1=>(AR j.aJX x1).bind λx3=>some x3
def nB(I:M.aC)(C:Int)(x1:M.aC):Nat->Int->Option (M.aC×Bool)
 |0,_=>none
 |ai+1,j=>if(decide (j<(List.length I.aI1:Int)))=true then(idx I.aI1 j).bind λaj=>if(decide (aj.aI0<C))=true then nB I C x1 ai (i64.wrap (j+1))else(Bz x1.aI1 j).bind λar=>(app 32 ([]:List M.aI5) (List.take j.toNat x1.aI1)).bind λav=>(app 32 (List.take j.toNat x1.aI1) ([(⟨C,([]:List M.aJE)⟩:M.aI5)])).bind λaw=>(app 32 ((List.take j.toNat x1.aI1)++[(⟨C,([]:List M.aJE)⟩:M.aI5)]) (List.drop j.toNat x1.aI1)).bind λax=>(cT I).bind λak=>if(!ak)=true then(bP I).bind λal=>some (al,false)else(cT (⟨((List.take j.toNat x1.aI1)++[(⟨C,([]:List M.aJE)⟩:M.aI5)])++(List.drop j.toNat x1.aI1)⟩:M.aC)).bind λao=>if(!ao)=true then(bP I).bind λaq=>some (aq,false)else some ((⟨((List.take j.toNat x1.aI1)++[(⟨C,([]:List M.aJE)⟩:M.aI5)])++(List.drop j.toNat x1.aI1)⟩:M.aC),true)else(Bz x1.aI1 j).bind λay=>(app 32 ([]:List M.aI5) (List.take j.toNat x1.aI1)).bind λaz=>(app 32 (List.take j.toNat x1.aI1) ([(⟨C,([]:List M.aJE)⟩:M.aI5)])).bind λba=>(app 32 ((List.take j.toNat x1.aI1)++[(⟨C,([]:List M.aJE)⟩:M.aI5)]) (List.drop j.toNat x1.aI1)).bind λbd=>(cT I).bind λJ=>if(!J)=true then(bP I).bind λU=>some (U,false)else(cT (⟨((List.take j.toNat x1.aI1)++[(⟨C,([]:List M.aJE)⟩:M.aI5)])++(List.drop j.toNat x1.aI1)⟩:M.aC)).bind λaf=>if(!af)=true then(bP I).bind λah=>some (ah,false)else some ((⟨((List.take j.toNat x1.aI1)++[(⟨C,([]:List M.aJE)⟩:M.aI5)])++(List.drop j.toNat x1.aI1)⟩:M.aC),true)
def mD(j:M.aC)(C:Int):Option (M.aC×Bool):=
 (bP j).bind λx1=>nB j C x1 fuel 0
def kY(j:M.aC)(p1:Int)(C:ByteArray)(I:ByteArray)(p4:M.aI8):Option (M.aC×Bool):=
 (bP j).bind λx1=>(tT j p1).bind λx3=>if(decide (x3<0))=true then some (x1,false)else(uR p4).bind λx6=>(idx x1.aI1 x3).bind λx8=>(AD x8 C I).bind λJ=>if(decide (J>=0))=true then(idx x8.aJB J).bind λaq=>(cT j).bind λU=>if(!U)=true then(bP j).bind λaf=>some (af,false)else(cT (⟨List.set x1.aI1 x3.toNat (⟨x8.aI0,List.set x8.aJB J.toNat (⟨C,I,x6⟩:M.aJE)⟩:M.aI5)⟩:M.aC)).bind λah=>if(!ah)=true then(bP j).bind λai=>some (ai,false)else some ((⟨List.set x1.aI1 x3.toNat (⟨x8.aI0,List.set x8.aJB J.toNat (⟨C,I,x6⟩:M.aJE)⟩:M.aI5)⟩:M.aC),true)else(app 88 x8.aJB ([(⟨C,I,x6⟩:M.aJE)])).bind λar=>(cT j).bind λaj=>if(!aj)=true then(bP j).bind λak=>some (ak,false)else(cT (⟨List.set x1.aI1 x3.toNat (⟨x8.aI0,x8.aJB++[(⟨C,I,x6⟩:M.aJE)]⟩:M.aI5)⟩:M.aC)).bind λal=>if(!al)=true then(bP j).bind λao=>some (ao,false)else some ((⟨List.set x1.aI1 x3.toNat (⟨x8.aI0,x8.aJB++[(⟨C,I,x6⟩:M.aJE)]⟩:M.aI5)⟩:M.aC),true)
def lH(p0:M.aC)(j:M.aI7)(I:Int):Nat->Int->List M.aI5->Option (M.aC×Bool)
 |0,_,_=>none
 |ai+1,C,J=>if(decide (C<(List.length j.aJW:Int)))=true then(idx j.aJW C).bind λU=>(kB j U I).bind λaj=>(kY (⟨J⟩:M.aC) I j.Name U aj).bind λah=>if(!ah.2)=true then(bP p0).bind λak=>some (ak,false)else lH p0 j I ai (i64.wrap (C+1)) ah.1.aI1 else some ((⟨J⟩:M.aC),true)
def wC(j:M.aC)(I:M.aI7)(C:Int)(U:Bool):Option (M.aC×Bool):=
 (mD j C).bind λx1=>if(!x1.2)=true then(bP j).bind λx4=>some (x4,false)else if(!U)=true then(bP j).bind λx7=>some (x7,false)else(pC I C).bind λx9=>if(!x9)=true then(bP j).bind λJ=>some (J,false)else lH j I C fuel 0 x1.1.aI1
def yW(j:M.aIz)(C:Bool):Option (M.aIz×Int):=
 (cG j).bind λx1=>if(!x1)=true then some (j,0)else if(j.aJP==0)=true then some (j,0)else if(!C)=true then some ((⟨j.aI7,0,j.aJT,j.aJX⟩:M.aIz),j.aJP)else some ((⟨j.aI7,0,j.aJP,j.aJX⟩:M.aIz),j.aJT)
def xG(j:M.aC)(C:Int):Option (M.aC×Bool):=
 (bP j).bind λx1=>(tT j C).bind λx3=>if(decide (x3<0))=true then some (x1,false)else(Bz x1.aI1 x3).bind λx6=>(Dg x1.aI1 (i64.wrap (x3+1))).bind λx8=>(app 32 (List.take x3.toNat x1.aI1) (List.drop (i64.wrap (x3+1)).toNat x1.aI1)).bind λI=>some ((⟨(List.take x3.toNat x1.aI1)++(List.drop (i64.wrap (x3+1)).toNat x1.aI1)⟩:M.aC),true)
def tO(j:M.aI3)(C:M.aI3):Option (M.aI3×Bool):=
 (oT j).bind λx1=>if(!x1)=true then(gV j).bind λx4=>some (x4,false)else(oT C).bind λx6=>if(!x6)=true then(gV j).bind λx9=>some (x9,false)else some (C,true)
def pD(j:M.aI3)(I:M.aC)(C:M.aIz):Option (M.aI3×Bool):=
 (gV j).bind λx1=>(bP I).bind λx3=>(tO j (⟨x1.aI7,x1.Top,C,x3,x1.bR,x1.aG,x1.aJc,x1.aJZ⟩:M.aI3)).bind λx5=>if x5.2=true then some ((⟨x1.aI7,x1.Top,C,x3,x1.bR,x1.aG,x1.aJc,x1.aJZ⟩:M.aI3),true)else some (x5.1,false)
def Ag(j:M.World)(C:M.aI3)(I:Bool):Option (M.World×Bool):=
 (bQ j).bind λx1=>(gQ j.aA C).bind λx3=>if(!I)=true then some (x1,false)else if(!x3.2)=true then some (x1,false)else some ((⟨x1.Now,x1.aJV,x1.aJA,x3.1,x1.aJI,x1.aJG,x1.aJJ,x1.aJD,x1.aJL,x1.aJK⟩:M.World),true)
def dC(j:M.World)(p1:ByteArray)(p2:ByteArray):Option (M.World×Bool):=
 (fL j.aA p1 p2).bind λx1=>(gZ p1).bind λx3=>(gY j).bind λx5=>if(!x5)=true then(bQ j).bind λx8=>some (x8,false)else if(decide (x1<0))=true then(bQ j).bind λal=>some (al,false)else if(decide (x3<0))=true then(bQ j).bind λao=>some (ao,false)else(idx j.aA.aI4 x1).bind λC=>(idx j.aJL x3).bind λI=>(wB C.aIz I.aI0).bind λai=>if(!ai.2)=true then(bQ j).bind λaq=>some (aq,false)else(uD C.aIz).bind λar=>if(decide (I.aI0<=ar))=true then(bQ j).bind λav=>some (av,false)else(wC C.aI1 I I.aI0 j.aJV).bind λJ=>(yW ai.1 J.2).bind λaj=>(xG J.1 aj.2).bind λaw=>(pD C aw.1 aj.1).bind λak=>(Ag j ak.1 ak.2).bind λU=>if U.2=true then some (U.1,J.2)else some (U.1,false)
def kK(j:M.World)(J:ByteArray)(U:ByteArray):Nat->Int->List M.bG->Option (List M.bG)
 |0,_,_=>none
 |aa+1,I,C=>if(decide (I<(List.length j.aJI:Int)))=true then(idx j.aJI I).bind λae=>if(ae.aI7.toList==J.toList)=true then if(ae.Top.toList==U.toList)=true then(lQ ae).bind λaf=>(app 144 C ([af])).bind λah=>kK j J U aa (i64.wrap (I+1)) (C++[af])else kK j J U aa (i64.wrap (I+1)) C else kK j J U aa (i64.wrap (I+1)) C else some C
def BX(j:M.World)(C:ByteArray)(I:ByteArray):Option (List M.bG):=
 kK j C I fuel 0 ([]:List M.bG)
def eQ(j:List M.bG)(U:ByteArray):Nat->Int->List Int->Option (List Int)
 |0,_,_=>none
 |ae+1,I,C=>if(decide (I<(List.length j:Int)))=true then(idx j I).bind λJ=>if(J.aI7.toList==U.toList)=true then(app 8 C ([J.aI0])).bind λaf=>eQ j U ae (i64.wrap (I+1)) (C++[J.aI0])else eQ j U ae (i64.wrap (I+1)) C else some C
def wD(j:List M.bG)(C:ByteArray):Option (List Int):=
 eQ j C fuel 0 ([]:List Int)
def iO(j:M.aIz)(C:List Int):Nat->Int->Option Bool
 |0,_=>none
 |J+1,I=>if(decide (I<(List.length C:Int)))=true then(idx C I).bind λx7=>if(x7==j.aJX)=true then some false else iO j C J (i64.wrap (I+1))else(cG j).bind λU=>if U=true then some (j.aJT !=0)else some false
def xN(j:M.aIz)(C:List Int):Option Bool:=
 iO j C fuel 0
def Bg(j:M.aIz)(C:List Int):Option (M.aIz×Int×Bool):=
 (xN j C).bind λx1=>if(!x1)=true then some (j,0,false)else some ((⟨j.aI7,j.aJP,0,j.aJT⟩:M.aIz),j.aJX,true)
def eI(j:M.World)(U:ByteArray)(p2:ByteArray):Option (M.World×Bool):=
 (fL j.aA U p2).bind λx1=>(gY j).bind λx3=>if(!x3)=true then(bQ j).bind λx6=>some (x6,false)else if(decide (x1<0))=true then(bQ j).bind λx9=>some (x9,false)else(idx j.aA.aI4 x1).bind λC=>(BX j U p2).bind λaj=>(wD aj U).bind λak=>(Bg C.aIz ak).bind λI=>(xG C.aI1 I.2.1).bind λal=>(pD C al.1 I.1).bind λJ=>if I.2.2=true then(Ag j J.1 J.2).bind λah=>some (ah.1,ah.2)else(Ag j J.1 false).bind λai=>some (ai.1,ai.2)
def Ca(J:M.aM)(I:M.World):Option (Int×Int×M.World):=
 (kA J).bind λx5=>(cC (⟨J.b,x5.1,x5.2.1⟩:M.aM) 4).bind λai=>if ai.2.2=true then(kA (⟨J.b,ai.1,ai.2.1⟩:M.aM)).bind λU=>(aF (⟨J.b,U.1,U.2.1⟩:M.aM) 6).bind λj=>if(j.2.2==0)=true then(lD I x5.2.2).bind λaq=>some (j.1,j.2.1,aq.1)else if(j.2.2==1)=true then(dC I x5.2.2 U.2.2).bind λar=>some (j.1,j.2.1,ar.1)else if(j.2.2==2)=true then(dC I x5.2.2 U.2.2).bind λav=>some (j.1,j.2.1,av.1)else if(j.2.2==3)=true then(eI I x5.2.2 U.2.2).bind λaw=>some (j.1,j.2.1,aw.1)else if(j.2.2==4)=true then(jY (⟨J.b,j.1,j.2.1⟩:M.aM)).bind λaj=>(lM I x5.2.2 U.2.2 aj.2.2).bind λax=>some (aj.1,aj.2.1,ax.1)else(aF (⟨J.b,j.1,j.2.1⟩:M.aM) 4).bind λak=>(lX I (i64.wrap (1+ak.2.2))).bind λay=>some (ak.1,ak.2.1,ay.1)else(aF (⟨J.b,ai.1,ai.2.1⟩:M.aM) 6).bind λC=>if(C.2.2==0)=true then(lD I x5.2.2).bind λaz=>some (C.1,C.2.1,az.1)else if(C.2.2==1)=true then(dC I x5.2.2 x5.2.2).bind λba=>some (C.1,C.2.1,ba.1)else if(C.2.2==2)=true then(dC I x5.2.2 x5.2.2).bind λbd=>some (C.1,C.2.1,bd.1)else if(C.2.2==3)=true then(eI I x5.2.2 x5.2.2).bind λbf=>some (C.1,C.2.1,bf.1)else if(C.2.2==4)=true then(jY (⟨J.b,C.1,C.2.1⟩:M.aM)).bind λal=>(lM I x5.2.2 x5.2.2 al.2.2).bind λbg=>some (al.1,al.2.1,bg.1)else(aF (⟨J.b,C.1,C.2.1⟩:M.aM) 4).bind λaf=>(lX I (i64.wrap (1+af.2.2))).bind λao=>some (af.1,af.2.1,ao.1)
def sU(p0:M.aM):Nat->Int->Int->Bool->Int->Int->Int->Int->List M.aI3->List M.bG->List M.mV->List M.AP->List M.aI7->List M.aJC->Option (Int×Int×M.World)
 |0,_,_,_,_,_,_,_,_,_,_,_,_,_=>none
 |ax+1,v4,aq,ar,av,aw,C,I,J,U,aj,ak,al,ao=>if(decide (v4>0))=true then(Ca (⟨p0.b,C,I⟩:M.aM) (⟨aq,ar,av,(⟨J⟩:M.aA),U,aw,(⟨aj⟩:M.aQ),(⟨ak⟩:M.aJD),al,ao⟩:M.World)).bind λj=>sU p0 ax (i64.wrap (v4-1)) j.2.2.Now j.2.2.aJV j.2.2.aJA j.2.2.aJG j.1 j.2.1 j.2.2.aA.aI4 j.2.2.aJI j.2.2.aJJ.aJJ j.2.2.aJD.aJe j.2.2.aJL j.2.2.aJK else some (C,I,(⟨aq,ar,av,(⟨J⟩:M.aA),U,aw,(⟨aj⟩:M.aQ),(⟨ak⟩:M.aJD),al,ao⟩:M.World))
def Bk(C:M.aM):Option (Int×Int×M.World):=
 (A3 C).bind λx4=>(aF (⟨C.b,x4.1,x4.2.1⟩:M.aM) 7).bind λj=>sU C fuel j.2.2 x4.2.2.Now x4.2.2.aJV x4.2.2.aJA x4.2.2.aJG j.1 j.2.1 x4.2.2.aA.aI4 x4.2.2.aJI x4.2.2.aJJ.aJJ x4.2.2.aJD.aJe x4.2.2.aJL x4.2.2.aJK
def bO(C:M.aM)(j:List Int):Option (Int×Int×Int):=
 (aF C (List.length j:Int)).bind λx5=>(idx j x5.2.2).bind λx7=>some (x5.1,x5.2.1,x7)
def nY(j:M.aM):Option (Int×Int×ByteArray):=
 (fZ j ([(⟨#[98,97,110,107]⟩:ByteArray),(⟨#[115,104,111,112]⟩:ByteArray),(⟨#[110,101,119,115]⟩:ByteArray)])).bind λx4=>some (x4.1,x4.2.1,x4.2.2)
def dZ(j:M.aM):Option (Int×Int×M.Key):=
 (aF j 6).bind λx4=>some (x4.1,x4.2.1,(⟨1,x4.2.2,(⟨#[]⟩:ByteArray)⟩:M.Key))
def nZ(j:M.aE)(I:ByteArray)(J:Int)(x1:M.aE):Nat->Int->Option (M.aE×Bool)
 |0,_=>none
 |af+1,C=>if(decide (C<(List.length j.aI9:Int)))=true then(idx j.aI9 C).bind λU=>if(Op.bytesLess U.Name.toList I.toList)=true then nZ j I J x1 af (i64.wrap (C+1))else if(U.Name.toList==I.toList)=true then(idx x1.aI9 C).bind λae=>(bL j).bind λah=>if(!ah)=true then(cO j).bind λai=>some (ai,false)else(bL (⟨List.set x1.aI9 C.toNat (⟨ae.Name,J⟩:M.Field)⟩:M.aE)).bind λaj=>if(!aj)=true then(cO j).bind λak=>some (ak,false)else some ((⟨List.set x1.aI9 C.toNat (⟨ae.Name,J⟩:M.Field)⟩:M.aE),true)else(Bz j.aI9 C).bind λaz=>(app 24 ([]:List M.Field) (List.take C.toNat j.aI9)).bind λba=>(app 24 (List.take C.toNat j.aI9) ([(⟨I,J⟩:M.Field)])).bind λbd=>(Dg j.aI9 C).bind λbf=>(app 24 ((List.take C.toNat j.aI9)++[(⟨I,J⟩:M.Field)]) (List.drop C.toNat j.aI9)).bind λbg=>(bL j).bind λal=>if(!al)=true then(cO j).bind λao=>some (ao,false)else(bL (⟨((List.take C.toNat j.aI9)++[(⟨I,J⟩:M.Field)])++(List.drop C.toNat j.aI9)⟩:M.aE)).bind λaq=>if(!aq)=true then(cO j).bind λar=>some (ar,false)else some ((⟨((List.take C.toNat j.aI9)++[(⟨I,J⟩:M.Field)])++(List.drop C.toNat j.aI9)⟩:M.aE),true)else(Bz j.aI9 C).bind λbh=>(app 24 ([]:List M.Field) (List.take C.toNat j.aI9)).bind λbj=>(app 24 (List.take C.toNat j.aI9) ([(⟨I,J⟩:M.Field)])).bind λbl=>(Dg j.aI9 C).bind λbm=>(app 24 ((List.take C.toNat j.aI9)++[(⟨I,J⟩:M.Field)]) (List.drop C.toNat j.aI9)).bind λbn=>(bL j).bind λav=>if(!av)=true then(cO j).bind λaw=>some (aw,false)else(bL (⟨((List.take C.toNat j.aI9)++[(⟨I,J⟩:M.Field)])++(List.drop C.toNat j.aI9)⟩:M.aE)).bind λax=>if(!ax)=true then(cO j).bind λay=>some (ay,false)else some ((⟨((List.take C.toNat j.aI9)++[(⟨I,J⟩:M.Field)])++(List.drop C.toNat j.aI9)⟩:M.aE),true)
def jW(j:M.aE)(C:ByteArray)(I:Int):Option (M.aE×Bool):=
 (cO j).bind λx1=>nZ j C I x1 fuel 0
def oO(I:M.aM):Nat->Int->Int->Int->List M.Field->Option (Int×Int×M.aE)
 |0,_,_,_,_=>none
 |aj+1,v4,J,U,af=>if(decide (v4>0))=true then(dN (⟨I.b,J,U⟩:M.aM)).bind λj=>(aF (⟨I.b,j.1,j.2.1⟩:M.aM) 5).bind λC=>(jW (⟨af⟩:M.aE) j.2.2 C.2.2).bind λak=>oO I aj (i64.wrap (v4-1)) C.1 C.2.1 ak.1.aI9 else some (J,U,(⟨af⟩:M.aE))
def lO(j:M.aM):Option (Int×Int×M.aE):=
 (aF j 4).bind λx4=>oO j fuel x4.2.2 x4.1 x4.2.1 ([]:List M.Field)
def eG(J:List Int)(C:Int):Nat->Int->Int->Option (Int×Int×Bool)
 |0,_,_=>none
 |U+1,I,j=>if(decide (j<6))=true then if(decide (C<0))=true then some (0,0,false)else if(decide (C>=(i64.wrap ((List.length J:Int)-j))))=true then some (0,0,false)else(idx J (i64.wrap (C+j))).bind λx9=>if(decide (0<=(i64.wrap (7*j))))=true then if(decide ((i64.wrap x9)<128))=true then if((i64.wrap x9)==0)=true then if(decide (j>0))=true then some (0,0,false)else if(decide ((i64.wrap (BitVec.ofInt (IntKind.i64.bits) I|||BitVec.ofInt (IntKind.i64.bits) (i64.wrap ((i64.wrap (BitVec.ofInt (IntKind.i64.bits) (i64.wrap x9)&&&BitVec.ofInt (IntKind.i64.bits) 127).toNat)*2^(min (i64.wrap (7*j)).toNat IntKind.i64.bits)))).toNat)>1000000000000))=true then some (0,0,false)else some (i64.wrap (BitVec.ofInt (IntKind.i64.bits) I|||BitVec.ofInt (IntKind.i64.bits) (i64.wrap ((i64.wrap (BitVec.ofInt (IntKind.i64.bits) (i64.wrap x9)&&&BitVec.ofInt (IntKind.i64.bits) 127).toNat)*2^(min (i64.wrap (7*j)).toNat IntKind.i64.bits)))).toNat,i64.wrap ((i64.wrap (C+j))+1),true)else if(decide ((i64.wrap (BitVec.ofInt (IntKind.i64.bits) I|||BitVec.ofInt (IntKind.i64.bits) (i64.wrap ((i64.wrap (BitVec.ofInt (IntKind.i64.bits) (i64.wrap x9)&&&BitVec.ofInt (IntKind.i64.bits) 127).toNat)*2^(min (i64.wrap (7*j)).toNat IntKind.i64.bits)))).toNat)>1000000000000))=true then some (0,0,false)else some (i64.wrap (BitVec.ofInt (IntKind.i64.bits) I|||BitVec.ofInt (IntKind.i64.bits) (i64.wrap ((i64.wrap (BitVec.ofInt (IntKind.i64.bits) (i64.wrap x9)&&&BitVec.ofInt (IntKind.i64.bits) 127).toNat)*2^(min (i64.wrap (7*j)).toNat IntKind.i64.bits)))).toNat,i64.wrap ((i64.wrap (C+j))+1),true)else eG J C U (i64.wrap (BitVec.ofInt (IntKind.i64.bits) I|||BitVec.ofInt (IntKind.i64.bits) (i64.wrap ((i64.wrap (BitVec.ofInt (IntKind.i64.bits) (i64.wrap x9)&&&BitVec.ofInt (IntKind.i64.bits) 127).toNat)*2^(min (i64.wrap (7*j)).toNat IntKind.i64.bits)))).toNat) (i64.wrap (j+1))else none else some (0,0,false)
def fQ(j:List Int)(C:Int):Option (Int×Int×Bool):=
 eG j C fuel 0 0
def eF(j:List Int)(C:Int)(I:Int):Option ((List Int)×Int×Bool):=
 (fQ j C).bind λx1=>if(!x1.2.2)=true then some (([]:List Int),0,false)else if(decide (x1.1>I))=true then some (([]:List Int),0,false)else if(decide (x1.1>(i64.wrap ((List.length j:Int)-x1.2.1))))=true then some (([]:List Int),0,false)else(VS j x1.2.1 (i64.wrap (x1.2.1+x1.1))).bind λx6=>(app 1 ([]:List Int) (List.drop x1.2.1.toNat (List.take (i64.wrap (x1.2.1+x1.1)).toNat j))).bind λx8=>some (List.drop x1.2.1.toNat (List.take (i64.wrap (x1.2.1+x1.1)).toNat j),i64.wrap (x1.2.1+x1.1),true)
def yX(j:Int)(C:List Int):Option Int:=
 (tD C).bind λx1=>(app 8 ([101,j]) x1).bind λx3=>(C9 ([101,j]++x1)).bind λx5=>some x5
def vF(J:List Int):Nat->Int->List (List Int)->Option ((List (List Int))×Int)
 |0,_,_=>none
 |ah+1,C,j=>if(decide (C<(List.length J:Int)))=true then(eF J C 4000).bind λI=>if(!I.2.2)=true then some (j,C)else(fQ J I.2.1).bind λU=>if(!U.2.2)=true then some (j,C)else(yX (List.length j:Int) I.1).bind λai=>if(U.1 !=ai)=true then some (j,C)else(app 24 j ([I.1])).bind λaj=>vF J ah U.2.1 (j++[I.1])else some (j,C)
def BN(j:List Int):Option ((List (List Int))×Int):=
 vF j fuel 0 ([]:List (List Int))
def mL(j:List Int)(x2:Int):Nat->Int->Int->Option (M.Key×Bool)
 |0,_,_=>none
 |J+1,C,I=>if(decide (I<7))=true then(idx j I).bind λU=>mL j x2 J (i64.wrap (BitVec.ofInt (IntKind.i64.bits) (i64.wrap (C*2^(min (8:Int).toNat IntKind.i64.bits)))|||BitVec.ofInt (IntKind.i64.bits) (i64.wrap U)).toNat) (i64.wrap (I+1))else(Dg j 7).bind λah=>(toStr (List.drop (7:Int).toNat j)).bind λai=>(fU (⟨i64.wrap x2,i64.wrap (C-1000000000000),dO (List.drop (7:Int).toNat j)⟩:M.Key)).bind λaf=>if(!af)=true then some ((⟨0,0,(⟨#[]⟩:ByteArray)⟩:M.Key),false)else some ((⟨i64.wrap x2,i64.wrap (C-1000000000000),dO (List.drop (7:Int).toNat j)⟩:M.Key),true)
def wR(j:List Int):Option (M.Key×Bool):=
 if((List.length j:Int)==0)=true then some ((⟨0,0,(⟨#[]⟩:ByteArray)⟩:M.Key),false)else(idx j 0).bind λx2=>if((i64.wrap x2) !=2)=true then if(decide ((List.length j:Int)<7))=true then some ((⟨0,0,(⟨#[]⟩:ByteArray)⟩:M.Key),false)else mL j x2 fuel 0 1 else(Dg j 1).bind λI=>(toStr (List.drop (1:Int).toNat j)).bind λJ=>(fU (⟨i64.wrap x2,0,dO (List.drop (1:Int).toNat j)⟩:M.Key)).bind λC=>if(!C)=true then some ((⟨0,0,(⟨#[]⟩:ByteArray)⟩:M.Key),false)else some ((⟨i64.wrap x2,0,dO (List.drop (1:Int).toNat j)⟩:M.Key),true)
def tM(U:List Int)(x1:(Int×Int×Bool)):Nat->Int->Int->List M.Field->Option (M.aE×Int×Bool)
 |0,_,_,_=>none
 |ah+1,v8,C,I=>if(decide (C<x1.1))=true then(eF U v8 8).bind λj=>if(!j.2.2)=true then some ((⟨([]:List M.Field)⟩:M.aE),0,false)else(fQ U j.2.1).bind λJ=>if(!J.2.2)=true then some ((⟨([]:List M.Field)⟩:M.aE),0,false)else(toStr j.1).bind λaj=>(app 24 I ([(⟨dO j.1,J.1⟩:M.Field)])).bind λak=>tM U x1 ah J.2.1 (i64.wrap (C+1)) (I++[(⟨dO j.1,J.1⟩:M.Field)])else(bL (⟨I⟩:M.aE)).bind λai=>some ((⟨I⟩:M.aE),v8,ai)
def D2(j:List Int)(C:Int):Option (M.aE×Int×Bool):=
 (fQ j C).bind λx1=>if(!x1.2.2)=true then some ((⟨([]:List M.Field)⟩:M.aE),0,false)else if(decide (x1.1>6))=true then some ((⟨([]:List M.Field)⟩:M.aE),0,false)else tM j x1 fuel x1.2.1 0 ([]:List M.Field)
def rN(j:List Int):Option (M.aE×Bool):=
 (D2 j 0).bind λx1=>if(!x1.2.2)=true then some ((⟨([]:List M.Field)⟩:M.aE),false)else if(x1.2.1 !=(List.length j:Int))=true then some ((⟨([]:List M.Field)⟩:M.aE),false)else some (x1.1,true)
def Cr(j:List Int)(J:Int):Option (M.Op×Int×Bool):=
 (fQ j J).bind λx1=>(eF j x1.2.1 100).bind λx3=>(eF j x3.2.1 100).bind λx5=>(eF j x5.2.1 200).bind λx7=>(eF j x7.2.1 100).bind λx9=>if(!x1.2.2)=true then some ((⟨0,(⟨#[]⟩:ByteArray),(⟨0,0,(⟨#[]⟩:ByteArray)⟩:M.Key),(⟨([]:List M.Field)⟩:M.aE),(⟨#[]⟩:ByteArray)⟩:M.Op),0,false)else if(!x3.2.2)=true then some ((⟨0,(⟨#[]⟩:ByteArray),(⟨0,0,(⟨#[]⟩:ByteArray)⟩:M.Key),(⟨([]:List M.Field)⟩:M.aE),(⟨#[]⟩:ByteArray)⟩:M.Op),0,false)else if(!x5.2.2)=true then some ((⟨0,(⟨#[]⟩:ByteArray),(⟨0,0,(⟨#[]⟩:ByteArray)⟩:M.Key),(⟨([]:List M.Field)⟩:M.aE),(⟨#[]⟩:ByteArray)⟩:M.Op),0,false)else if(!x7.2.2)=true then some ((⟨0,(⟨#[]⟩:ByteArray),(⟨0,0,(⟨#[]⟩:ByteArray)⟩:M.Key),(⟨([]:List M.Field)⟩:M.aE),(⟨#[]⟩:ByteArray)⟩:M.Op),0,false)else if(!x9.2.2)=true then some ((⟨0,(⟨#[]⟩:ByteArray),(⟨0,0,(⟨#[]⟩:ByteArray)⟩:M.Key),(⟨([]:List M.Field)⟩:M.aE),(⟨#[]⟩:ByteArray)⟩:M.Op),0,false)else(toStr x3.1).bind λU=>(toStr x9.1).bind λah=>(wR x5.1).bind λC=>(rN x7.1).bind λI=>some ((⟨x1.1,dO x3.1,C.1,I.1,dO x9.1⟩:M.Op),x9.2.1,true)
def De(j:M.Op):Option Bool:=
 (aY j.aJS 1 6).bind λx1=>if x1=true then(cE j.aD).bind λx4=>if x4=true then if(j.aJS==5)=true then(bL j.aE).bind λx8=>if x8=true then if(j.aJS==6)=true then(cE j.Field).bind λC=>if C=true then some true else if(j.aJS !=6)=true then some (j.Field.toList==(⟨#[]⟩:ByteArray).toList)else some false else if(j.aJS !=6)=true then some (j.Field.toList==(⟨#[]⟩:ByteArray).toList)else some false else some false else(fU j.Key).bind λI=>if I=true then(bL j.aE).bind λJ=>if J=true then if(j.aJS==6)=true then(cE j.Field).bind λU=>if U=true then some true else if(j.aJS !=6)=true then some (j.Field.toList==(⟨#[]⟩:ByteArray).toList)else some false else if(j.aJS !=6)=true then some (j.Field.toList==(⟨#[]⟩:ByteArray).toList)else some false else some false else some false else some false else some false
def rE(C:List M.Op):Nat->Int->List Int->Option (List Int)
 |0,_,_=>none
 |U+1,I,J=>if(decide (I<(List.length C:Int)))=true then(idx C I).bind λj=>(De j).bind λah=>if(!ah)=true then some ([]:List Int)else(bU J j.aJS).bind λai=>(bS ai (bT j.aD)).bind λaj=>(lY j.Key).bind λak=>(bS aj ak).bind λal=>(gN j.aE).bind λao=>(bS al ao).bind λaq=>(bS aq (bT j.Field)).bind λar=>rE C U (i64.wrap (I+1)) ar else if(decide ((List.length C:Int)>6))=true then some ([]:List Int)else some J
def wS(j:List M.Op):Option (List Int):=
 (bU ([]:List Int) (List.length j:Int)).bind λx1=>rE j fuel 0 x1
def zK(j:List Int)(C:List Int):Option Bool:=
 (toStr j).bind λx1=>(toStr C).bind λx3=>some ((dO j).toList==(dO C).toList)
def mS(I:List Int)(x1:(Int×Int×Bool)):Nat->Int->Int->List M.Op->Option ((List M.Op)×Bool)
 |0,_,_,_=>none
 |U+1,v5,J,j=>if(decide (J<x1.1))=true then(Cr I v5).bind λC=>if(!C.2.2)=true then some (([]:List M.Op),false)else(app 96 j ([C.1])).bind λaj=>mS I x1 U C.2.1 (i64.wrap (J+1)) (j++[C.1])else(wS j).bind λah=>(zK ah I).bind λai=>if(!ai)=true then some (([]:List M.Op),false)else some (j,true)
def wQ(j:List Int):Option ((List M.Op)×Bool):=
 (fQ j 0).bind λx1=>if(!x1.2.2)=true then some (([]:List M.Op),false)else if(decide (x1.1>6))=true then some (([]:List M.Op),false)else mS j x1 fuel x1.2.1 0 ([]:List M.Op)
def oY(I:M.aD)(j:M.Key):Nat->Int->Option Int
 |0,_=>none
 |J+1,C=>if(decide (C<(List.length I.aI6:Int)))=true then(idx I.aI6 C).bind λx8=>if((x8.Key.aJS==j.aJS)&&((x8.Key.N==j.N)&&(x8.Key.aJb.toList==j.aJb.toList)))=true then some C else oY I j J (i64.wrap (C+1))else some (-1)
def oL(j:M.aD)(C:M.Key):Option Int:=
 oY j C fuel 0
def rM(p0:M.aD)(I:M.Key)(p2:M.aE)(C:M.aD):Nat->Int->Option (M.aD×Bool)
 |0,_=>none
 |aj+1,j=>if(decide (j<(List.length p0.aI6:Int)))=true then(idx p0.aI6 j).bind λak=>(bI ak.Key I).bind λal=>if(decide (al<0))=true then rM p0 I p2 C aj (i64.wrap (j+1))else(Bz C.aI6 j).bind λaw=>(app 56 ([]:List M.aJN) (List.take j.toNat C.aI6)).bind λax=>(cO p2).bind λU=>(app 56 (List.take j.toNat C.aI6) ([(⟨I,U⟩:M.aJN)])).bind λay=>(app 56 ((List.take j.toNat C.aI6)++[(⟨I,U⟩:M.aJN)]) (List.drop j.toNat C.aI6)).bind λaz=>if(I.aJS==1)=true then(aY I.N (i64.wrap (p0.aJa+1)) 1000000).bind λah=>if ah=true then some ((⟨C.Name,((List.take j.toNat C.aI6)++[(⟨I,U⟩:M.aJN)])++(List.drop j.toNat C.aI6),I.N⟩:M.aD),true)else some ((⟨C.Name,((List.take j.toNat C.aI6)++[(⟨I,U⟩:M.aJN)])++(List.drop j.toNat C.aI6),C.aJa⟩:M.aD),true)else some ((⟨C.Name,((List.take j.toNat C.aI6)++[(⟨I,U⟩:M.aJN)])++(List.drop j.toNat C.aI6),C.aJa⟩:M.aD),true)else(Bz C.aI6 j).bind λao=>(app 56 ([]:List M.aJN) (List.take j.toNat C.aI6)).bind λaq=>(cO p2).bind λJ=>(app 56 (List.take j.toNat C.aI6) ([(⟨I,J⟩:M.aJN)])).bind λar=>(app 56 ((List.take j.toNat C.aI6)++[(⟨I,J⟩:M.aJN)]) (List.drop j.toNat C.aI6)).bind λav=>if(I.aJS==1)=true then(aY I.N (i64.wrap (p0.aJa+1)) 1000000).bind λai=>if ai=true then some ((⟨C.Name,((List.take j.toNat C.aI6)++[(⟨I,J⟩:M.aJN)])++(List.drop j.toNat C.aI6),I.N⟩:M.aD),true)else some ((⟨C.Name,((List.take j.toNat C.aI6)++[(⟨I,J⟩:M.aJN)])++(List.drop j.toNat C.aI6),C.aJa⟩:M.aD),true)else some ((⟨C.Name,((List.take j.toNat C.aI6)++[(⟨I,J⟩:M.aJN)])++(List.drop j.toNat C.aI6),C.aJa⟩:M.aD),true)
def eK(j:M.aD)(J:M.Key)(U:M.aE):Option (M.aD×Bool):=
 (nX j).bind λx1=>if(!x1)=true then(cD j).bind λx4=>some (x4,false)else(fU J).bind λx6=>if(!x6)=true then(cD j).bind λx9=>some (x9,false)else(bL U).bind λaf=>if(!af)=true then(cD j).bind λah=>some (ah,false)else(cD j).bind λC=>(oL j J).bind λI=>if(decide (I>=0))=true then(cO U).bind λai=>(idx C.aI6 I).bind λaj=>some ((⟨C.Name,List.set C.aI6 I.toNat (⟨aj.Key,ai⟩:M.aJN),C.aJa⟩:M.aD),true)else if(decide ((List.length j.aI6:Int)>=16))=true then some (C,false)else rM j J U C fuel 0
def AL(j:M.aD)(C:M.Key)(I:M.aE):Option (M.aD×Bool):=
 (oL j C).bind λx1=>if(decide (x1>=0))=true then(cD j).bind λx4=>some (x4,false)else(eK j C I).bind λx6=>some (x6.1,x6.2)
def Aw(C:M.Key)(j:M.gT):Option Bool:=
 (fU C).bind λx1=>if(!x1)=true then some false else if j.aJz=true then(fU j.Low).bind λx5=>if(!x5)=true then some false else if j.aJo=true then(fU j.aJv).bind λx9=>if(!x9)=true then some false else if(!j.aJz)=true then if(!j.aJo)=true then some true else(bI C j.aJv).bind λI=>some (decide (I<=0))else(bI j.Low C).bind λJ=>if(decide (J<=0))=true then if(!j.aJo)=true then some true else(bI C j.aJv).bind λU=>some (decide (U<=0))else some false else if(!j.aJz)=true then if(!j.aJo)=true then some true else(bI C j.aJv).bind λah=>some (decide (ah<=0))else(bI j.Low C).bind λai=>if(decide (ai<=0))=true then if(!j.aJo)=true then some true else(bI C j.aJv).bind λaj=>some (decide (aj<=0))else some false else if j.aJo=true then(fU j.aJv).bind λak=>if(!ak)=true then some false else if(!j.aJz)=true then if(!j.aJo)=true then some true else(bI C j.aJv).bind λal=>some (decide (al<=0))else(bI j.Low C).bind λao=>if(decide (ao<=0))=true then if(!j.aJo)=true then some true else(bI C j.aJv).bind λaq=>some (decide (aq<=0))else some false else if(!j.aJz)=true then if(!j.aJo)=true then some true else(bI C j.aJv).bind λar=>some (decide (ar<=0))else(bI j.Low C).bind λav=>if(decide (av<=0))=true then if(!j.aJo)=true then some true else(bI C j.aJv).bind λaw=>some (decide (aw<=0))else some false
def iV(j:M.aD)(J:M.gT):Nat->Int->List M.aJN->Option (M.aD×Int)
 |0,_,_=>none
 |U+1,I,C=>if(decide (I<(List.length j.aI6:Int)))=true then(idx j.aI6 I).bind λaf=>(Aw af.Key J).bind λai=>if(!ai)=true then(Ad af).bind λah=>(app 56 C ([ah])).bind λaj=>iV j J U (i64.wrap (I+1)) (C++[ah])else iV j J U (i64.wrap (I+1)) C else some ((⟨j.Name,C,j.aJa⟩:M.aD),i64.wrap ((List.length j.aI6:Int)-(List.length C:Int)))
def tE(j:M.aD)(C:M.gT):Option (M.aD×Int):=
 (nX j).bind λx1=>if(!x1)=true then(cD j).bind λx4=>some (x4,0)else iV j C fuel 0 ([]:List M.aJN)
def Du(j:M.aD)(p1:M.Key)(C:ByteArray):Option (M.aD×Int×Bool):=
 (oL j p1).bind λx1=>if(decide (x1>=0))=true then(idx j.aI6 x1).bind λx4=>(lV x4.aE C).bind λx9=>(jW x4.aE C (i64.wrap (x9.1+1))).bind λah=>(eK j p1 ah.1).bind λI=>if ah.2=true then some (I.1,i64.wrap (x9.1+1),I.2)else some (I.1,i64.wrap (x9.1+1),false)else(lV (⟨([]:List M.Field)⟩:M.aE) C).bind λJ=>(jW (⟨([]:List M.Field)⟩:M.aE) C (i64.wrap (J.1+1))).bind λai=>(eK j p1 ai.1).bind λU=>if ai.2=true then some (U.1,i64.wrap (J.1+1),U.2)else some (U.1,i64.wrap (J.1+1),false)
def BV(C:M.aD)(j:M.Op):Option (M.aD×Int×Bool):=
 if(j.aJS==1)=true then(eK C j.Key j.aE).bind λx2=>some (x2.1,1,x2.2)else if(j.aJS==2)=true then(AL C j.Key j.aE).bind λx5=>some (x5.1,1,x5.2)else if(j.aJS==3)=true then(tE C (⟨true,true,j.Key,j.Key⟩:M.gT)).bind λx8=>some (x8.1,x8.2,true)else if(j.aJS==4)=true then(oL C j.Key).bind λJ=>if(decide (J<0))=true then(cD C).bind λah=>some (ah,-1,true)else(cD C).bind λai=>(idx C.aI6 J).bind λaj=>some (ai,(List.length aj.aE.aI9:Int),true)else if(j.aJS==5)=true then(tE C (⟨false,false,(⟨0,0,(⟨#[]⟩:ByteArray)⟩:M.Key),(⟨0,0,(⟨#[]⟩:ByteArray)⟩:M.Key)⟩:M.gT)).bind λU=>some (U.1,U.2,true)else(Du C j.Key j.Field).bind λI=>some (I.1,I.2.1,I.2.2)
def Cm(j:M.aI2)(I:M.Op):Option (M.aI2×Int×Bool):=
 (eY j).bind λx1=>(tH j I.aD).bind λx3=>(cF j).bind λx5=>if(!x5)=true then some (x1,0,false)else(De I).bind λx8=>if(!x8)=true then some (x1,0,false)else if(decide (x3<0))=true then some (x1,0,false)else(idx j.aJF x3).bind λJ=>(BV J I).bind λC=>(idx x1.aJF x3).bind λaj=>if(!C.2.2)=true then(eY j).bind λU=>some (U,0,false)else(cF (⟨x1.Name,x1.aI0,List.set x1.aJF x3.toNat C.1,x1.aJO⟩:M.aI2)).bind λah=>if(!ah)=true then(eY j).bind λai=>some (ai,0,false)else some ((⟨x1.Name,x1.aI0,List.set x1.aJF x3.toNat C.1,x1.aJO⟩:M.aI2),C.2.1,true)
def wU(p0:M.aI2)(I:List M.Op):Nat->Int->ByteArray->Int->List Int->List M.aD->List M.aN->Option (M.aI2×(List Int)×Bool)
 |0,_,_,_,_,_,_=>none
 |ak+1,J,ah,ai,C,U,ae=>if(decide (J<(List.length I:Int)))=true then(idx I J).bind λal=>(Cm (⟨ah,ai,U,ae⟩:M.aI2) al).bind λj=>if(!j.2.2)=true then(eY p0).bind λao=>some (ao,([]:List Int),false)else(app 8 C ([j.2.1])).bind λaq=>wU p0 I ak (i64.wrap (J+1)) j.1.Name j.1.aI0 (C++[j.2.1]) j.1.aJF j.1.aJO else some ((⟨ah,ai,U,ae⟩:M.aI2),C,true)
def Ak(j:M.aI2)(C:List M.Op):Option (M.aI2×(List Int)×Bool):=
 (eY j).bind λx1=>(cF j).bind λI=>if(!I)=true then some (x1,([]:List Int),false)else if(decide ((List.length C:Int)>6))=true then some (x1,([]:List Int),false)else wU j C fuel 0 x1.Name x1.aI0 ([]:List Int) x1.aJF x1.aJO
def sZ(x3:((List (List Int))×Int)):Nat->Int->ByteArray->Int->List M.aD->List M.aN->Option (M.aI2×Int)
 |0,_,_,_,_,_=>none
 |ak+1,C,U,ah,I,J=>if(decide (C<(List.length x3.1:Int)))=true then(idx x3.1 C).bind λal=>(wQ al).bind λaj=>if(!aj.2)=true then some ((⟨U,ah,I,J⟩:M.aI2),C)else(Ak (⟨U,ah,I,J⟩:M.aI2) aj.1).bind λj=>sZ x3 ak (i64.wrap (C+1)) j.1.Name j.1.aI0 j.1.aJF j.1.aJO else some ((⟨U,ah,I,J⟩:M.aI2),(List.length x3.1:Int))
def Ba(j:M.bR):Option (M.aI2×Int):=
 (eY j.aJQ).bind λx1=>(BN j.Log).bind λx3=>sZ x3 fuel 0 x1.Name x1.aI0 x1.aJF x1.aJO
def xA(j:List Int)(I:Int)(J:List Int):Option ((List Int)×Bool):=
 (app 1 ([]:List Int) j).bind λx1=>(bS j J).bind λx8=>(yX I J).bind λU=>(bU x8 U).bind λC=>if(decide (I<0))=true then some (j,false)else if(decide ((List.length C:Int)>4000))=true then some (j,false)else some (C,true)
def pU(j:M.bR)(I:List M.Op):Option (M.bR×Bool):=
 (AJ j).bind λx1=>(Ba j).bind λx3=>(Ak x3.1 I).bind λx5=>(wS I).bind λx7=>if(!x5.2.2)=true then some (x1,false)else if((List.length x7:Int)==0)=true then some (x1,false)else if(x3.2 !=j.aJi)=true then some (x1,false)else(xA j.Log j.aJi x7).bind λC=>if(!C.2)=true then some (x1,false)else some ((⟨x1.aJQ,C.1,i64.wrap (j.aJi+1)⟩:M.bR),true)
def iW(j:M.aK)(C:M.Key)(I:ByteArray)(J:Int):Option (M.aK×Bool):=
 (uT j).bind λx1=>(iY j).bind λx3=>if(!x3)=true then some (x1,false)else(app 72 x1.aJM ([(⟨j.aJA,j.aJd,C,I,J⟩:M.bC)])).bind λx6=>(iY (⟨x1.aJA,i64.wrap (j.aJd+1),x1.aJM++[(⟨j.aJA,j.aJd,C,I,J⟩:M.bC)]⟩:M.aK)).bind λU=>if(!U)=true then(uT j).bind λae=>some (ae,false)else some ((⟨x1.aJA,i64.wrap (j.aJd+1),x1.aJM++[(⟨j.aJA,j.aJd,C,I,J⟩:M.bC)]⟩:M.aK),true)
def mF(C:M.aD)(j:M.bC):Option (M.aD×Bool):=
 (oL C j.Key).bind λx1=>if(decide (x1>=0))=true then(idx C.aI6 x1).bind λx4=>(jW x4.aE j.Field j.N).bind λx9=>if(!x9.2)=true then(cD C).bind λah=>some (ah,false)else(eK C j.Key x9.1).bind λI=>some (I.1,I.2)else(jW (⟨([]:List M.Field)⟩:M.aE) j.Field j.N).bind λJ=>if(!J.2)=true then(cD C).bind λai=>some (ai,false)else(eK C j.Key J.1).bind λU=>some (U.1,U.2)
def lC(C:List M.bC):Nat->Int->ByteArray->Int->List M.aJN->Option M.aD
 |0,_,_,_,_=>none
 |ai+1,I,U,af,J=>if(decide (I<(List.length C:Int)))=true then(idx C I).bind λaj=>(mF (⟨U,J,af⟩:M.aD) aj).bind λj=>if j.2=true then lC C ai (i64.wrap (I+1)) j.1.Name j.1.aJa j.1.aI6 else lC C ai (i64.wrap (I+1)) U af J else some (⟨U,J,af⟩:M.aD)
def zN(j:M.aD)(C:List M.bC):Option M.aD:=
 (cD j).bind λx1=>lC C fuel 0 x1.Name x1.aJa x1.aI6
def BA(j:M.aG):Option M.aD:=
 (zN j.aJQ j.aJR.aK.aJM).bind λx1=>some x1
def nK(j:M.aG)(C:M.Key)(I:ByteArray)(J:Int):Option (M.aG×Bool):=
 (yQ j).bind λx1=>(iW j.aJR.aK C I J).bind λx3=>(BA j).bind λx5=>(mF x5 (⟨0,0,C,I,J⟩:M.bC)).bind λx7=>(pG j).bind λx9=>if(!x9)=true then some (x1,false)else if(!x3.2)=true then some (x1,false)else if(!x7.2)=true then some (x1,false)else some ((⟨x1.aJQ,x1.aJm,(⟨x3.1,x1.aJR.aJh,x1.aJR.aJY⟩:M.aJR)⟩:M.aG),true)
def gF(C:M.aM)(j:(M.aI3×Bool))(bh:ByteArray)(bj:Int)(ba:Int)(aw:List M.aD)(ax:List M.aN)(ay:List Int):Nat->Int->ByteArray->Int->Int->Int->Int->Int->Int->Int->Int->List M.aJN->List M.bC->Option (Int×Int×M.aI3)
 |0,_,_,_,_,_,_,_,_,_,_,_,_=>none
 |bw+1,bd,ai,aj,ak,al,ao,aq,ar,aa,ae,af,ah=>if(decide (bd>0))=true then(dZ (⟨C.b,aa,ae⟩:M.aM)).bind λbl=>(dN (⟨C.b,bl.1,bl.2.1⟩:M.aM)).bind λbm=>(aF (⟨C.b,bm.1,bm.2.1⟩:M.aM) 6).bind λbn=>(nK (⟨(⟨ai,af,aj⟩:M.aD),ak,(⟨(⟨al,ao,ah⟩:M.aK),aq,ar⟩:M.aJR)⟩:M.aG) bl.2.2 bm.2.2 bn.2.2).bind λI=>gF C j bh bj ba aw ax ay bw (i64.wrap (bd-1)) I.1.aJQ.Name I.1.aJQ.aJa I.1.aJm I.1.aJR.aK.aJA I.1.aJR.aK.aJd I.1.aJR.aJh I.1.aJR.aJY bn.1 bn.2.1 I.1.aJQ.aI6 I.1.aJR.aK.aJM else(cC (⟨C.b,aa,ae⟩:M.aM) 2).bind λJ=>if J.2.2=true then(aF (⟨C.b,J.1,J.2.1⟩:M.aM) 3).bind λU=>(mD j.1.aI1 (i64.wrap (1+U.2.2))).bind λbu=>(aF (⟨C.b,U.1,U.2.1⟩:M.aM) 50).bind λbo=>(cC (⟨C.b,bo.1,bo.2.1⟩:M.aM) 4).bind λbq=>some (bq.1,bq.2.1,(⟨j.1.aI7,j.1.Top,(⟨j.1.aIz.aI7,j.1.aIz.aJP,j.1.aIz.aJT,i64.wrap (1+U.2.2)⟩:M.aIz),bu.1,(⟨(⟨bh,bj,aw,ax⟩:M.aI2),ay,ba⟩:M.bR),(⟨(⟨ai,af,aj⟩:M.aD),ak,(⟨(⟨al,ao,ah⟩:M.aK),aq,ar⟩:M.aJR)⟩:M.aG),bo.2.2,bq.2.2⟩:M.aI3))else(aF (⟨C.b,J.1,J.2.1⟩:M.aM) 50).bind λbr=>(cC (⟨C.b,br.1,br.2.1⟩:M.aM) 4).bind λbt=>some (bt.1,bt.2.1,(⟨j.1.aI7,j.1.Top,j.1.aIz,j.1.aI1,(⟨(⟨bh,bj,aw,ax⟩:M.aI2),ay,ba⟩:M.bR),(⟨(⟨ai,af,aj⟩:M.aD),ak,(⟨(⟨al,ao,ah⟩:M.aK),aq,ar⟩:M.aJR)⟩:M.aG),br.2.2,bt.2.2⟩:M.aI3))
def gJ(I:M.aM)(j:(M.aI3×Bool)):Nat->Int->ByteArray->Int->Int->Int->Int->List M.aD->List M.aN->List Int->Option (Int×Int×M.aI3)
 |0,_,_,_,_,_,_,_,_,_=>none
 |ax+1,v7,aq,ar,ak,aa,ae,ah,ai,aj=>if(decide (v7>0))=true then(dZ (⟨I.b,aa,ae⟩:M.aM)).bind λU=>(lO (⟨I.b,U.1,U.2.1⟩:M.aM)).bind λaw=>(pU (⟨(⟨aq,ar,ah,ai⟩:M.aI2),aj,ak⟩:M.bR) ([(⟨1,(⟨#[110,111,116,101,115]⟩:ByteArray),U.2.2,aw.2.2,(⟨#[]⟩:ByteArray)⟩:M.Op)])).bind λC=>gJ I j ax (i64.wrap (v7-1)) C.1.aJQ.Name C.1.aJQ.aI0 C.1.aJi aw.1 aw.2.1 C.1.aJQ.aJF C.1.aJQ.aJO C.1.Log else(aF (⟨I.b,aa,ae⟩:M.aM) 3).bind λJ=>gF I j aq ar ak ah ai aj fuel J.2.2 j.1.aG.aJQ.Name j.1.aG.aJQ.aJa j.1.aG.aJm j.1.aG.aJR.aK.aJA j.1.aG.aJR.aK.aJd j.1.aG.aJR.aJh j.1.aG.aJR.aJY J.1 J.2.1 j.1.aG.aJQ.aI6 j.1.aG.aJR.aK.aJM
def xJ(C:M.aM):Option (Int×Int×M.aI3):=
 (nY C).bind λx4=>((cC (⟨C.b,x4.1,x4.2.1⟩:M.aM) 3).bind λI=>if I.2.2=true then(nY (⟨C.b,I.1,I.2.1⟩:M.aM)).bind λJ=>some (J.2.2,J.1,J.2.1)else some (x4.2.2,I.1,I.2.1)).bind λU=>(aF (⟨C.b,U.2.1,U.2.2⟩:M.aM) 3).bind λai=>(tG x4.2.2 U.1 (i64.wrap (1+ai.2.2))).bind λj=>(aF (⟨C.b,ai.1,ai.2.1⟩:M.aM) 4).bind λaj=>gJ C j fuel aj.2.2 j.1.bR.aJQ.Name j.1.bR.aJQ.aI0 j.1.bR.aJi aj.1 aj.2.1 j.1.bR.aJQ.aJF j.1.bR.aJQ.aJO j.1.bR.Log
def yM(j:M.aM):Option (Int×Int×ByteArray):=
 (fZ j ([(⟨#[105,110,100,101,120]⟩:ByteArray),(⟨#[115,116,121,108,101]⟩:ByteArray),(⟨#[99,111,100,101]⟩:ByteArray),(⟨#[100,97,116,97]⟩:ByteArray)])).bind λx4=>some (x4.1,x4.2.1,x4.2.2)
def rT(U:M.aM)(p1:Int):Nat->Int->List Int->Int->Int->Option (Int×Int×(List Int))
 |0,_,_,_,_=>none
 |ah+1,v6,C,I,J=>if(decide (v6<p1))=true then(uO (⟨U.b,I,J⟩:M.aM)).bind λj=>(app 1 C ([IntKind.u8.wrap j.2.2])).bind λai=>rT U p1 ah (i64.wrap (v6+1)) (C++[IntKind.u8.wrap j.2.2]) j.1 j.2.1 else some (I,J,C)
def AO(j:M.aM)(C:Int):Option (Int×Int×(List Int)):=
 rT j C fuel 0 ([]:List Int) j.i j.h
def sX(C:M.aM):Option (Int×Int×M.aI8):=
 (aF C 3).bind λx4=>(aF (⟨C.b,x4.1,x4.2.1⟩:M.aM) 4).bind λx6=>(aF (⟨C.b,x6.1,x6.2.1⟩:M.aM) 6).bind λx8=>(AO (⟨C.b,x8.1,x8.2.1⟩:M.aM) x8.2.2).bind λJ=>(cC (⟨C.b,J.1,J.2.1⟩:M.aM) 2).bind λI=>(aF (⟨C.b,I.1,I.2.1⟩:M.aM) 14).bind λj=>if(j.2.2==0)=true then(bO (⟨C.b,j.1,j.2.1⟩:M.aM) ([0,4,5])).bind λU=>some (U.1,U.2.1,(⟨U.2.2,200,i64.wrap (1+x6.2.2),J.2.2,I.2.2⟩:M.aI8))else if(j.2.2==1)=true then(bO (⟨C.b,j.1,j.2.1⟩:M.aM) ([-1,0,404,999,1000])).bind λai=>some (ai.1,ai.2.1,(⟨i64.wrap (1+x4.2.2),ai.2.2,i64.wrap (1+x6.2.2),J.2.2,I.2.2⟩:M.aI8))else if(j.2.2==2)=true then(bO (⟨C.b,j.1,j.2.1⟩:M.aM) ([60,61])).bind λaj=>(AO (⟨C.b,aj.1,aj.2.1⟩:M.aM) aj.2.2).bind λak=>some (ak.1,ak.2.1,(⟨i64.wrap (1+x4.2.2),200,i64.wrap (1+x6.2.2),ak.2.2,I.2.2⟩:M.aI8))else some (j.1,j.2.1,(⟨i64.wrap (1+x4.2.2),200,i64.wrap (1+x6.2.2),J.2.2,I.2.2⟩:M.aI8))
def pK(j:M.aM):Nat->Int->Int->Int->List M.aI5->Option (Int×Int×M.aC)
 |0,_,_,_,_=>none
 |ao+1,ah,aa,ae,af=>if(decide (ah>0))=true then(aF (⟨j.b,aa,ae⟩:M.aM) 4).bind λC=>(nY (⟨j.b,C.1,C.2.1⟩:M.aM)).bind λI=>(yM (⟨j.b,I.1,I.2.1⟩:M.aM)).bind λJ=>(sX (⟨j.b,J.1,J.2.1⟩:M.aM)).bind λU=>(kY (⟨af⟩:M.aC) (i64.wrap (1+C.2.2)) I.2.2 J.2.2 U.2.2).bind λaq=>pK j ao (i64.wrap (ah-1)) U.1 U.2.1 aq.1.aI1 else some (aa,ae,(⟨af⟩:M.aC))
def tJ(j:M.aM):Nat->Int->Int->Int->List M.aI5->Option (Int×Int×M.aC)
 |0,_,_,_,_=>none
 |aj+1,v4,J,U,af=>if(decide (v4>0))=true then(aF (⟨j.b,J,U⟩:M.aM) 4).bind λC=>(mD (⟨af⟩:M.aC) (i64.wrap (1+C.2.2))).bind λak=>tJ j aj (i64.wrap (v4-1)) C.1 C.2.1 ak.1.aI1 else(aF (⟨j.b,J,U⟩:M.aM) 5).bind λI=>pK j fuel I.2.2 I.1 I.2.1 af
def Cy(j:M.aM):Option (Int×Int×M.aC):=
 (aF j 3).bind λx4=>tJ j fuel x4.2.2 x4.1 x4.2.1 ([]:List M.aI5)
def tL(j:(Int×Int×Int)):Nat->Int->List M.aI5->Option (Int×Int×M.aC)
 |0,_,_=>none
 |J+1,C,I=>if(decide (C<=4))=true then(mD (⟨I⟩:M.aC) C).bind λU=>tL j J (i64.wrap (C+1)) U.1.aI1 else some (j.1,j.2.1,(⟨I⟩:M.aC))
def CE(C:M.aM):Option (Int×Int×M.aC):=
 (Cy C).bind λx4=>(aF (⟨C.b,x4.1,x4.2.1⟩:M.aM) 12).bind λj=>if(j.2.2==0)=true then(bO (⟨C.b,j.1,j.2.1⟩:M.aM) ([0,1,9,1000000000001])).bind λI=>(app 32 x4.2.2.aI1 ([(⟨I.2.2,([]:List M.aJE)⟩:M.aI5)])).bind λaj=>some (I.1,I.2.1,(⟨x4.2.2.aI1++[(⟨I.2.2,([]:List M.aJE)⟩:M.aI5)]⟩:M.aC))else if(j.2.2==1)=true then if(decide ((List.length x4.2.2.aI1:Int)>0))=true then(idx x4.2.2.aI1 0).bind λai=>(fZ (⟨C.b,j.1,j.2.1⟩:M.aM) ([(⟨#[105,110,100,101,120]⟩:ByteArray),(⟨#[]⟩:ByteArray),(⟨#[122,122]⟩:ByteArray)])).bind λJ=>(sX (⟨C.b,J.1,J.2.1⟩:M.aM)).bind λU=>(app 88 ai.aJB ([(⟨(⟨#[98,97,110,107]⟩:ByteArray),J.2.2,U.2.2⟩:M.aJE)])).bind λak=>some (U.1,U.2.1,(⟨List.set x4.2.2.aI1 (0:Int).toNat (⟨ai.aI0,ai.aJB++[(⟨(⟨#[98,97,110,107]⟩:ByteArray),J.2.2,U.2.2⟩:M.aJE)]⟩:M.aI5)⟩:M.aC))else some (j.1,j.2.1,x4.2.2)else if(j.2.2==2)=true then tL j fuel 1 x4.2.2.aI1 else some (j.1,j.2.1,x4.2.2)
def zA(j:M.aM):Option (Int×Int×Int):=
 (aF j 9).bind λx4=>(bO (⟨j.b,x4.1,x4.2.1⟩:M.aM) ([0,1,2,-1,255,256,-1000000000000,1000000000000,x4.2.2])).bind λx6=>some (x6.1,x6.2.1,x6.2.2)
def Cp(C:M.aM):Option (Int×Int×M.Key):=
 (fZ C ([(⟨#[]⟩:ByteArray),(⟨#[97]⟩:ByteArray),(⟨#[97,98]⟩:ByteArray),(⟨#[98]⟩:ByteArray),(⟨#[122,57]⟩:ByteArray),(⟨#[97,98,99,100,101,102,103,104,105,106,107,108]⟩:ByteArray)])).bind λx4=>(aF (⟨C.b,x4.1,x4.2.1⟩:M.aM) 3).bind λj=>if(j.2.2==0)=true then some (j.1,j.2.1,(⟨2,0,x4.2.2⟩:M.Key))else if(j.2.2==1)=true then(zA (⟨C.b,j.1,j.2.1⟩:M.aM)).bind λI=>some (I.1,I.2.1,(⟨3,I.2.2,x4.2.2⟩:M.Key))else(zA (⟨C.b,j.1,j.2.1⟩:M.aM)).bind λJ=>some (J.1,J.2.1,(⟨1,J.2.2,(⟨#[]⟩:ByteArray)⟩:M.Key))
def rF(j:M.aM):Nat->Int->ByteArray->Int->Int->Int->List M.aJN->Option (Int×Int×M.aD)
 |0,_,_,_,_,_,_=>none
 |av+1,v6,J,U,aa,ae,I=>if(decide (v6>0))=true then(dZ (⟨j.b,aa,ae⟩:M.aM)).bind λak=>(lO (⟨j.b,ak.1,ak.2.1⟩:M.aM)).bind λal=>(eK (⟨J,I,U⟩:M.aD) ak.2.2 al.2.2).bind λao=>rF j av (i64.wrap (v6-1)) ao.1.Name ao.1.aJa al.1 al.2.1 ao.1.aI6 else(cC (⟨j.b,aa,ae⟩:M.aM) 8).bind λC=>if C.2.2=true then(Cp (⟨j.b,C.1,C.2.1⟩:M.aM)).bind λaq=>(lO (⟨j.b,aq.1,aq.2.1⟩:M.aM)).bind λar=>(eK (⟨J,I,U⟩:M.aD) aq.2.2 ar.2.2).bind λaw=>some (ar.1,ar.2.1,aw.1)else some (C.1,C.2.1,(⟨J,I,U⟩:M.aD))
def rY(j:M.aM)(C:ByteArray):Option (Int×Int×M.aD):=
 (bO j ([0,2,4,6])).bind λx5=>rF j fuel x5.2.2 C 0 x5.1 x5.2.1 ([]:List M.aJN)
def pV(C:M.aI2)(I:M.mK):Nat->Int->Option Int
 |0,_=>none
 |J+1,j=>if(decide (j<(List.length C.aJO:Int)))=true then(idx C.aJO j).bind λx8=>if(x8.aD.toList==I.aD.toList)=true then if(x8.Field.toList==I.Field.toList)=true then some j else pV C I J (i64.wrap (j+1))else pV C I J (i64.wrap (j+1))else some (-1)
def Dt(j:M.aI2)(C:M.mK):Option Int:=
 pV j C fuel 0
def As(j:M.aI2)(p1:ByteArray)(J:List M.aD):Nat->Int->List M.aN->Option M.aI2
 |0,_,_=>none
 |ah+1,I,C=>if(decide (I<(List.length j.aJO:Int)))=true then(idx j.aJO I).bind λU=>if(!(U.aD.toList==p1.toList))=true then(app 32 C ([U])).bind λai=>As j p1 J ah (i64.wrap (I+1)) (C++[U])else As j p1 J ah (i64.wrap (I+1)) C else some (⟨j.Name,j.aI0,J,C⟩:M.aI2)
def AA(j:M.aI2)(I:ByteArray):Nat->Int->List M.aD->Option M.aI2
 |0,_,_=>none
 |U+1,J,C=>if(decide (J<(List.length j.aJF:Int)))=true then(idx j.aJF J).bind λaf=>if(!(af.Name.toList==I.toList))=true then(cD af).bind λah=>(app 48 C ([ah])).bind λai=>AA j I U (i64.wrap (J+1)) (C++[ah])else AA j I U (i64.wrap (J+1)) C else As j I C fuel 0 ([]:List M.aN)
def F4(j:M.aI2)(C:ByteArray):Option M.aI2:=
 AA j C fuel 0 ([]:List M.aD)
def pQ(I:M.aI2)(C:M.mK)(x1:M.aI2):Nat->Int->Option (M.aI2×Bool)
 |0,_=>none
 |ai+1,j=>(if(decide (j<(List.length I.aJF:Int)))=true then(idx I.aJF j).bind λaj=>some (Op.bytesLess aj.Name.toList C.aD.toList)else some false).bind λak=>if ak=true then pQ I C x1 ai (i64.wrap (j+1))else(Bz x1.aJF j).bind λal=>(app 48 ([]:List M.aD) (List.take j.toNat x1.aJF)).bind λao=>(app 48 (List.take j.toNat x1.aJF) ([(⟨C.aD,([]:List M.aJN),0⟩:M.aD)])).bind λaq=>(app 48 ((List.take j.toNat x1.aJF)++[(⟨C.aD,([]:List M.aJN),0⟩:M.aD)]) (List.drop j.toNat x1.aJF)).bind λar=>((cF I).bind λJ=>if(!J)=true then some true else(cF (⟨x1.Name,x1.aI0,((List.take j.toNat x1.aJF)++[(⟨C.aD,([]:List M.aJN),0⟩:M.aD)])++(List.drop j.toNat x1.aJF),x1.aJO⟩:M.aI2)).bind λU=>some (!U)).bind λaf=>if af=true then(eY I).bind λah=>some (ah,false)else some ((⟨x1.Name,x1.aI0,((List.take j.toNat x1.aJF)++[(⟨C.aD,([]:List M.aJN),0⟩:M.aD)])++(List.drop j.toNat x1.aJF),x1.aJO⟩:M.aI2),true)
def mZ(C:M.aI2)(j:M.mK):Option (M.aI2×Bool):=
 (eY C).bind λx1=>(tH C j.aD).bind λx3=>(Dt C j).bind λx5=>(if(j.aJS==1)=true then some (decide (x3<0))else some false).bind λx7=>if x7=true then pQ C j x1 fuel 0 else(if(j.aJS==2)=true then some (decide (x3>=0))else some false).bind λJ=>if J=true then(F4 C j.aD).bind λI=>((cF C).bind λU=>if(!U)=true then some true else(cF I).bind λah=>some (!ah)).bind λai=>if ai=true then(eY C).bind λaj=>some (aj,false)else some (I,true)else(if(j.aJS==3)=true then if(decide (x3>=0))=true then some (decide (x5<0))else some false else some false).bind λak=>if ak=true then(app 32 x1.aJO ([(⟨j.aD,j.Field⟩:M.aN)])).bind λba=>((cF C).bind λal=>if(!al)=true then some true else(cF (⟨x1.Name,x1.aI0,x1.aJF,x1.aJO++[(⟨j.aD,j.Field⟩:M.aN)]⟩:M.aI2)).bind λao=>some (!ao)).bind λaq=>if aq=true then(eY C).bind λar=>some (ar,false)else some ((⟨x1.Name,x1.aI0,x1.aJF,x1.aJO++[(⟨j.aD,j.Field⟩:M.aN)]⟩:M.aI2),true)else(if(j.aJS==4)=true then some (decide (x5>=0))else some false).bind λav=>if av=true then(Bz x1.aJO x5).bind λbd=>(Dg x1.aJO (i64.wrap (x5+1))).bind λbf=>(app 32 (List.take x5.toNat x1.aJO) (List.drop (i64.wrap (x5+1)).toNat x1.aJO)).bind λbg=>((cF C).bind λaw=>if(!aw)=true then some true else(cF (⟨x1.Name,x1.aI0,x1.aJF,(List.take x5.toNat x1.aJO)++(List.drop (i64.wrap (x5+1)).toNat x1.aJO)⟩:M.aI2)).bind λax=>some (!ax)).bind λay=>if ay=true then(eY C).bind λaz=>some (az,false)else some ((⟨x1.Name,x1.aI0,x1.aJF,(List.take x5.toNat x1.aJO)++(List.drop (i64.wrap (x5+1)).toNat x1.aJO)⟩:M.aI2),true)else some (x1,false)
def CO(j:M.aM):Option (Int×Int×M.aI2):=
 (rY j (⟨#[110,111,116,101,115]⟩:ByteArray)).bind λx4=>(rY (⟨j.b,x4.1,x4.2.1⟩:M.aM) (⟨#[116,97,103,115]⟩:ByteArray)).bind λx6=>(aBy 48 ([x4.2.2,x6.2.2])).bind λx8=>(cC (⟨j.b,x6.1,x6.2.1⟩:M.aM) 2).bind λC=>if C.2.2=true then(rY (⟨j.b,C.1,C.2.1⟩:M.aM) (⟨#[108,105,115,116,115]⟩:ByteArray)).bind λI=>(app 48 ([I.2.2]) ([x4.2.2,x6.2.2])).bind λao=>(cC (⟨j.b,I.1,I.2.1⟩:M.aM) 3).bind λJ=>if J.2.2=true then(dN (⟨j.b,J.1,J.2.1⟩:M.aM)).bind λai=>(mZ (⟨(⟨#[97,112,112]⟩:ByteArray),1,[I.2.2]++[x4.2.2,x6.2.2],([]:List M.aN)⟩:M.aI2) (⟨3,(⟨#[110,111,116,101,115]⟩:ByteArray),ai.2.2⟩:M.mK)).bind λak=>some (ai.1,ai.2.1,ak.1)else some (J.1,J.2.1,(⟨(⟨#[97,112,112]⟩:ByteArray),1,[I.2.2]++[x4.2.2,x6.2.2],([]:List M.aN)⟩:M.aI2))else(cC (⟨j.b,C.1,C.2.1⟩:M.aM) 3).bind λU=>if U.2.2=true then(dN (⟨j.b,U.1,U.2.1⟩:M.aM)).bind λaj=>(mZ (⟨(⟨#[97,112,112]⟩:ByteArray),1,[x4.2.2,x6.2.2],([]:List M.aN)⟩:M.aI2) (⟨3,(⟨#[110,111,116,101,115]⟩:ByteArray),aj.2.2⟩:M.mK)).bind λal=>some (aj.1,aj.2.1,al.1)else some (U.1,U.2.1,(⟨(⟨#[97,112,112]⟩:ByteArray),1,[x4.2.2,x6.2.2],([]:List M.aN)⟩:M.aI2))
def Em(j:M.aM):Option (Int×Int×M.Op):=
 (aF j 6).bind λx4=>(fZ (⟨j.b,x4.1,x4.2.1⟩:M.aM) ([(⟨#[110,111,116,101,115]⟩:ByteArray),(⟨#[116,97,103,115]⟩:ByteArray),(⟨#[110,111,116,101,115]⟩:ByteArray),(⟨#[108,105,115,116,115]⟩:ByteArray)])).bind λx6=>(dZ (⟨j.b,x6.1,x6.2.1⟩:M.aM)).bind λx8=>if((i64.wrap (1+x4.2.2))==1)=true then(lO (⟨j.b,x8.1,x8.2.1⟩:M.aM)).bind λI=>some (I.1,I.2.1,(⟨i64.wrap (1+x4.2.2),x6.2.2,x8.2.2,I.2.2,(⟨#[]⟩:ByteArray)⟩:M.Op))else if((i64.wrap (1+x4.2.2))==2)=true then(lO (⟨j.b,x8.1,x8.2.1⟩:M.aM)).bind λJ=>some (J.1,J.2.1,(⟨i64.wrap (1+x4.2.2),x6.2.2,x8.2.2,J.2.2,(⟨#[]⟩:ByteArray)⟩:M.Op))else if((i64.wrap (1+x4.2.2))==6)=true then(dN (⟨j.b,x8.1,x8.2.1⟩:M.aM)).bind λU=>some (U.1,U.2.1,(⟨i64.wrap (1+x4.2.2),x6.2.2,x8.2.2,(⟨([]:List M.Field)⟩:M.aE),U.2.2⟩:M.Op))else if((i64.wrap (1+x4.2.2))==5)=true then(cC (⟨j.b,x8.1,x8.2.1⟩:M.aM) 2).bind λC=>if C.2.2=true then(dZ (⟨j.b,C.1,C.2.1⟩:M.aM)).bind λai=>some (ai.1,ai.2.1,(⟨1,x6.2.2,ai.2.2,(⟨([]:List M.Field)⟩:M.aE),(⟨#[]⟩:ByteArray)⟩:M.Op))else some (C.1,C.2.1,(⟨i64.wrap (1+x4.2.2),x6.2.2,(⟨0,0,(⟨#[]⟩:ByteArray)⟩:M.Key),(⟨([]:List M.Field)⟩:M.aE),(⟨#[]⟩:ByteArray)⟩:M.Op))else some (x8.1,x8.2.1,(⟨i64.wrap (1+x4.2.2),x6.2.2,x8.2.2,(⟨([]:List M.Field)⟩:M.aE),(⟨#[]⟩:ByteArray)⟩:M.Op))
def wI(U:M.aM):Nat->Int->List M.Op->Int->Int->Option (Int×Int×(List M.Op))
 |0,_,_,_,_=>none
 |ah+1,v6,C,I,J=>if(decide (v6>0))=true then(Em (⟨U.b,I,J⟩:M.aM)).bind λj=>(app 96 C ([j.2.2])).bind λai=>wI U ah (i64.wrap (v6-1)) (C++[j.2.2]) j.1 j.2.1 else some (I,J,C)
def DF(C:M.aM)(I:Int):Option (Int×Int×(List M.Op)):=
 (aF C (i64.wrap (I+1))).bind λj=>wI C fuel j.2.2 ([]:List M.Op) j.1 j.2.1
def rV(p0:M.aM):Nat->Int->ByteArray->Int->Int->Int->Int->List M.aD->List M.aN->List Int->Option (Int×Int×M.bR)
 |0,_,_,_,_,_,_,_,_,_=>none
 |ar+1,v4,ak,al,ao,I,J,U,ah,ai=>if(decide (v4>0))=true then(DF (⟨p0.b,I,J⟩:M.aM) 3).bind λC=>(pU (⟨(⟨ak,al,U,ah⟩:M.aI2),ai,ao⟩:M.bR) C.2.2).bind λj=>rV p0 ar (i64.wrap (v4-1)) j.1.aJQ.Name j.1.aJQ.aI0 j.1.aJi C.1 C.2.1 j.1.aJQ.aJF j.1.aJQ.aJO j.1.Log else some (I,J,(⟨(⟨ak,al,U,ah⟩:M.aI2),ai,ao⟩:M.bR))
def BT(C:M.aM):Option (Int×Int×M.bR):=
 (CO C).bind λx4=>(aF (⟨C.b,x4.1,x4.2.1⟩:M.aM) 5).bind λj=>rV C fuel j.2.2 x4.2.2.Name x4.2.2.aI0 0 j.1 j.2.1 x4.2.2.aJF x4.2.2.aJO ([]:List Int)
def CX(I:M.aM)(C:List Int):Option (Int×Int×(List Int)):=
 (app 1 ([]:List Int) C).bind λx5=>(aF I 6).bind λj=>if(j.2.2==0)=true then if(decide ((List.length C:Int)>0))=true then(aF (⟨I.b,j.1,j.2.1⟩:M.aM) (List.length C:Int)).bind λJ=>(aF (⟨I.b,J.1,J.2.1⟩:M.aM) 256).bind λai=>(idx C J.2.2).bind λaj=>some (ai.1,ai.2.1,List.set C J.2.2.toNat (IntKind.u8.wrap ai.2.2))else some (j.1,j.2.1,C)else if(j.2.2==1)=true then(aF (⟨I.b,j.1,j.2.1⟩:M.aM) (i64.wrap ((List.length C:Int)+1))).bind λU=>(Bz C U.2.2).bind λak=>some (U.1,U.2.1,List.take U.2.2.toNat C)else if(j.2.2==2)=true then(bO (⟨I.b,j.1,j.2.1⟩:M.aM) ([0,1,128,255])).bind λah=>(app 1 C ([IntKind.u8.wrap ah.2.2])).bind λal=>some (ah.1,ah.2.1,C++[IntKind.u8.wrap ah.2.2])else some (j.1,j.2.1,C)
def CP(I:M.aM):Option (Int×Int×M.bR):=
 (BT I).bind λx4=>(aF (⟨I.b,x4.1,x4.2.1⟩:M.aM) 10).bind λj=>if(j.2.2==0)=true then some (j.1,j.2.1,(⟨x4.2.2.aJQ,x4.2.2.Log,i64.wrap (x4.2.2.aJi+1)⟩:M.bR))else if(j.2.2==1)=true then(CX (⟨I.b,j.1,j.2.1⟩:M.aM) x4.2.2.Log).bind λC=>some (C.1,C.2.1,(⟨x4.2.2.aJQ,C.2.2,x4.2.2.aJi⟩:M.bR))else if(j.2.2==2)=true then(xA x4.2.2.Log x4.2.2.aJi ([1,2])).bind λJ=>some (j.1,j.2.1,(⟨x4.2.2.aJQ,J.1,i64.wrap (x4.2.2.aJi+1)⟩:M.bR))else some (j.1,j.2.1,x4.2.2)
def vA(j:M.aJC)(I:Int):Nat->Int->Option Int
 |0,_=>none
 |J+1,C=>if(decide (C<(List.length j.aP:Int)))=true then(idx j.aP C).bind λx7=>if(x7.aJA==I)=true then some x7.Seq else vA j I J (i64.wrap (C+1))else some 0
def yL(j:M.aJC)(C:Int):Option Int:=
 vA j C fuel 0
def vE(j:List M.aP)(I:Int)(J:Int):Nat->Int->Option (List M.aP)
 |0,_=>none
 |ae+1,C=>if(decide (C<(List.length j:Int)))=true then(idx j C).bind λU=>if(decide (U.aJA<I))=true then vE j I J ae (i64.wrap (C+1))else if(U.aJA==I)=true then some (List.set j C.toNat (⟨U.aJA,J⟩:M.aP))else(Bz j C).bind λaf=>(app 16 ([]:List M.aP) (List.take C.toNat j)).bind λah=>(app 16 (List.take C.toNat j) ([(⟨I,J⟩:M.aP)])).bind λai=>(Dg j C).bind λaj=>(app 16 ((List.take C.toNat j)++[(⟨I,J⟩:M.aP)]) (List.drop C.toNat j)).bind λak=>some (((List.take C.toNat j)++[(⟨I,J⟩:M.aP)])++(List.drop C.toNat j))else(Bz j C).bind λal=>(app 16 ([]:List M.aP) (List.take C.toNat j)).bind λao=>(app 16 (List.take C.toNat j) ([(⟨I,J⟩:M.aP)])).bind λaq=>(Dg j C).bind λar=>(app 16 ((List.take C.toNat j)++[(⟨I,J⟩:M.aP)]) (List.drop C.toNat j)).bind λav=>some (((List.take C.toNat j)++[(⟨I,J⟩:M.aP)])++(List.drop C.toNat j))
def BS(j:List M.aP)(C:Int)(I:Int):Option (List M.aP):=
 (app 16 ([]:List M.aP) j).bind λx1=>vE j C I fuel 0
def dD(C:M.aJC)(j:M.bC):Option (M.aJC×Int):=
 (gW C).bind λx1=>(sI C).bind λx3=>if(!x3)=true then some (x1,4)else(lA j).bind λx6=>if(!x6)=true then some (x1,4)else(BS C.aP j.aJA j.Seq).bind λx9=>(yL C j.aJA).bind λI=>if(decide ((List.length x9:Int)>60))=true then some (x1,4)else if(decide (j.Seq<=I))=true then some (x1,2)else if(decide (j.Seq>(i64.wrap (I+1))))=true then some (x1,3)else(mF C.aD j).bind λJ=>if J.2=true then(app 72 x1.aJU ([j])).bind λU=>some ((⟨J.1,x9,x1.aJU++[j]⟩:M.aJC),1)else(app 72 x1.aJU ([j])).bind λah=>some ((⟨x1.aD,x9,x1.aJU++[j]⟩:M.aJC),1)
def mX(C:M.aM):Nat->Int->ByteArray->Int->Int->Int->List M.aJN->List M.aP->List M.bC->Option (Int×Int×M.aJC)
 |0,_,_,_,_,_,_,_,_=>none
 |aw+1,v4,aj,ak,aa,ae,J,U,ai=>if(decide (v4>0))=true then(aF (⟨C.b,aa,ae⟩:M.aM) 3).bind λI=>(yL (⟨(⟨aj,J,ak⟩:M.aD),U,ai⟩:M.aJC) (i64.wrap (1+I.2.2))).bind λax=>(dZ (⟨C.b,I.1,I.2.1⟩:M.aM)).bind λaq=>(dN (⟨C.b,aq.1,aq.2.1⟩:M.aM)).bind λar=>(aF (⟨C.b,ar.1,ar.2.1⟩:M.aM) 6).bind λav=>(dD (⟨(⟨aj,J,ak⟩:M.aD),U,ai⟩:M.aJC) (⟨i64.wrap (1+I.2.2),i64.wrap (ax+1),aq.2.2,ar.2.2,av.2.2⟩:M.bC)).bind λj=>mX C aw (i64.wrap (v4-1)) j.1.aD.Name j.1.aD.aJa av.1 av.2.1 j.1.aD.aI6 j.1.aP j.1.aJU else some (aa,ae,(⟨(⟨aj,J,ak⟩:M.aD),U,ai⟩:M.aJC))
def xB(C:M.aM):Option (Int×Int×M.aJC):=
 (rY C (⟨#[110,111,116,101,115]⟩:ByteArray)).bind λx4=>(aF (⟨C.b,x4.1,x4.2.1⟩:M.aM) 6).bind λj=>mX C fuel j.2.2 x4.2.2.Name x4.2.2.aJa j.1 j.2.1 x4.2.2.aI6 ([]:List M.aP) ([]:List M.bC)
def zH(j:M.aJC)(C:Int):Option (M.aG×Bool):=
 (pI C).bind λx1=>(cD j.aD).bind λx3=>if(!x1.2)=true then some ((⟨(⟨(⟨#[]⟩:ByteArray),([]:List M.aJN),0⟩:M.aD),0,(⟨(⟨0,0,([]:List M.bC)⟩:M.aK),0,0⟩:M.aJR)⟩:M.aG),false)else(sI j).bind λx6=>if(!x6)=true then some ((⟨(⟨(⟨#[]⟩:ByteArray),([]:List M.aJN),0⟩:M.aD),0,(⟨(⟨0,0,([]:List M.bC)⟩:M.aK),0,0⟩:M.aJR)⟩:M.aG),false)else(pG (⟨x3,(List.length j.aJU:Int),(⟨x1.1,0,0⟩:M.aJR)⟩:M.aG)).bind λx9=>if(!x9)=true then some ((⟨(⟨(⟨#[]⟩:ByteArray),([]:List M.aJN),0⟩:M.aD),0,(⟨(⟨0,0,([]:List M.bC)⟩:M.aK),0,0⟩:M.aJR)⟩:M.aG),false)else some ((⟨x3,(List.length j.aJU:Int),(⟨x1.1,0,0⟩:M.aJR)⟩:M.aG),true)
def Bx(j:M.aK):Option (M.bC×Bool):=
 if((List.length j.aJM:Int)==0)=true then some ((⟨0,0,(⟨0,0,(⟨#[]⟩:ByteArray)⟩:M.Key),(⟨#[]⟩:ByteArray),0⟩:M.bC),false)else(idx j.aJM 0).bind λx2=>some (x2,true)
def pT(C:M.aK)(I:Int)(x1:M.aK):Nat->Int->Option (M.aK×Int)
 |0,_=>none
 |J+1,j=>if(decide (j<(List.length C.aJM:Int)))=true then(idx C.aJM j).bind λU=>if(decide (U.Seq<=I))=true then pT C I x1 J (i64.wrap (j+1))else(Dg C.aJM j).bind λaf=>(app 72 ([]:List M.bC) (List.drop j.toNat C.aJM)).bind λah=>some ((⟨x1.aJA,x1.aJd,List.drop j.toNat C.aJM⟩:M.aK),j)else(Dg C.aJM j).bind λai=>(app 72 ([]:List M.bC) (List.drop j.toNat C.aJM)).bind λaj=>some ((⟨x1.aJA,x1.aJd,List.drop j.toNat C.aJM⟩:M.aK),j)
def dE(j:M.aK)(C:Int):Option (M.aK×Int):=
 (uT j).bind λx1=>(iY j).bind λx3=>if(!x3)=true then some (x1,0)else pT j C x1 fuel 0
def iK(j:Int)(C:Int):Option Int:=
 if(decide (C<j))=true then some C else some j
def rK(C:Int):Nat->Int->Int->Option Int
 |0,_,_=>none
 |J+1,j,I=>if(decide (I<C))=true then if(decide (j<64))=true then rK C J (i64.wrap (2*j)) (i64.wrap (I+1))else some j else some j
def jZ(j:Int):Option Int:=
 rK j fuel 1 0
def Be(j:M.aJR)(p1:M.aJC)(C:Int)(p3:Int):Option (M.aJR×M.aJC×Int):=
 (yK j).bind λx1=>(Bx j.aK).bind λx3=>if(!x3.2)=true then(gW p1).bind λx6=>some (x1,x6,0)else(iY j.aK).bind λx8=>if(!x8)=true then(gW p1).bind λbo=>some (x1,bo,0)else if(decide (C<j.aJY))=true then(gW p1).bind λbq=>some (x1,bq,0)else(aY C 0 1000000000000).bind λbr=>if(!br)=true then(gW p1).bind λbt=>some (x1,bt,0)else(gW p1).bind λao=>if(p3==0)=true then(dD ao x3.1).bind λI=>if(p3==3)=true then(dD I.1 x3.1).bind λah=>if(ah.2==1)=true then(dE j.aK x3.1.Seq).bind λbu=>some ((⟨bu.1,0,0⟩:M.aJR),ah.1,1)else if(ah.2==2)=true then(dE j.aK x3.1.Seq).bind λbw=>some ((⟨bw.1,0,0⟩:M.aJR),ah.1,1)else(iK 59 j.aJh).bind λbx=>(iK 60 (i64.wrap (bx+1))).bind λbl=>(jZ bl).bind λbz=>some ((⟨x1.aK,bl,i64.wrap (C+bz)⟩:M.aJR),ah.1,2)else if(I.2==1)=true then(dE j.aK x3.1.Seq).bind λc9=>some ((⟨c9.1,0,0⟩:M.aJR),I.1,1)else if(I.2==2)=true then(dE j.aK x3.1.Seq).bind λca=>some ((⟨ca.1,0,0⟩:M.aJR),I.1,1)else(iK 59 j.aJh).bind λcc=>(iK 60 (i64.wrap (cc+1))).bind λbm=>(jZ bm).bind λcd=>some ((⟨x1.aK,bm,i64.wrap (C+cd)⟩:M.aJR),I.1,2)else if(p3==2)=true then(dD ao x3.1).bind λbn=>if(p3==3)=true then(dD bn.1 x3.1).bind λJ=>if(J.2==1)=true then(dE j.aK x3.1.Seq).bind λaq=>some ((⟨aq.1,0,0⟩:M.aJR),J.1,1)else if(J.2==2)=true then(dE j.aK x3.1.Seq).bind λar=>some ((⟨ar.1,0,0⟩:M.aJR),J.1,1)else(iK 59 j.aJh).bind λav=>(iK 60 (i64.wrap (av+1))).bind λai=>(jZ ai).bind λaw=>some ((⟨x1.aK,ai,i64.wrap (C+aw)⟩:M.aJR),J.1,2)else(iK 59 j.aJh).bind λax=>(iK 60 (i64.wrap (ax+1))).bind λaj=>(jZ aj).bind λay=>some ((⟨x1.aK,aj,i64.wrap (C+ay)⟩:M.aJR),bn.1,2)else if(p3==3)=true then(dD ao x3.1).bind λaz=>(dD az.1 x3.1).bind λU=>if(U.2==1)=true then(dE j.aK x3.1.Seq).bind λba=>some ((⟨ba.1,0,0⟩:M.aJR),U.1,1)else if(U.2==2)=true then(dE j.aK x3.1.Seq).bind λbd=>some ((⟨bd.1,0,0⟩:M.aJR),U.1,1)else(iK 59 j.aJh).bind λbf=>(iK 60 (i64.wrap (bf+1))).bind λak=>(jZ ak).bind λbg=>some ((⟨x1.aK,ak,i64.wrap (C+bg)⟩:M.aJR),U.1,2)else(iK 59 j.aJh).bind λbh=>(iK 60 (i64.wrap (bh+1))).bind λal=>(jZ al).bind λbj=>some ((⟨x1.aK,al,i64.wrap (C+bj)⟩:M.aJR),ao,2)
def yG(j:M.aG)(C:M.aJC):Option (M.aG×Int):=
 (yQ j).bind λx1=>(pG j).bind λx3=>if(!x3)=true then some (x1,0)else(sI C).bind λx6=>if(!x6)=true then some (x1,0)else if(decide (j.aJm>(List.length C.aJU:Int)))=true then some (x1,0)else(Dg C.aJU j.aJm).bind λah=>(zN j.aJQ (List.drop j.aJm.toNat C.aJU)).bind λI=>(yL C j.aJR.aK.aJA).bind λJ=>(dE j.aJR.aK J).bind λU=>some ((⟨I,(List.length C.aJU:Int),(⟨U.1,x1.aJR.aJh,x1.aJR.aJY⟩:M.aJR)⟩:M.aG),i64.wrap ((List.length C.aJU:Int)-j.aJm))
def fM(j:M.aM):Nat->Int->ByteArray->Int->Int->Int->Int->Int->Int->Int->Int->ByteArray->Int->List M.aJN->List M.bC->List M.aJN->List M.aP->List M.bC->Option (Int×Int×M.aG×M.aJC)
 |0,_,_,_,_,_,_,_,_,_,_,_,_,_,_,_,_,_=>none
 |bw+1,v7,ay,az,ba,bd,bf,bg,aw,aj,ak,ar,av,ah,ai,aa,ae,af=>if(decide (v7>0))=true then(aF (⟨j.b,aj,ak⟩:M.aM) 5).bind λC=>if(C.2.2==0)=true then(dZ (⟨j.b,C.1,C.2.1⟩:M.aM)).bind λbx=>(dN (⟨j.b,bx.1,bx.2.1⟩:M.aM)).bind λbz=>(aF (⟨j.b,bz.1,bz.2.1⟩:M.aM) 6).bind λc9=>(nK (⟨(⟨ay,ah,az⟩:M.aD),ba,(⟨(⟨bd,bf,ai⟩:M.aK),bg,aw⟩:M.aJR)⟩:M.aG) bx.2.2 bz.2.2 c9.2.2).bind λbj=>fM j bw (i64.wrap (v7-1)) bj.1.aJQ.Name bj.1.aJQ.aJa bj.1.aJm bj.1.aJR.aK.aJA bj.1.aJR.aK.aJd bj.1.aJR.aJh bj.1.aJR.aJY c9.1 c9.2.1 ar av bj.1.aJQ.aI6 bj.1.aJR.aK.aJM aa ae af else if(C.2.2==1)=true then(dZ (⟨j.b,C.1,C.2.1⟩:M.aM)).bind λbm=>(dN (⟨j.b,bm.1,bm.2.1⟩:M.aM)).bind λbn=>(aF (⟨j.b,bn.1,bn.2.1⟩:M.aM) 6).bind λbo=>(nK (⟨(⟨ay,ah,az⟩:M.aD),ba,(⟨(⟨bd,bf,ai⟩:M.aK),bg,aw⟩:M.aJR)⟩:M.aG) bm.2.2 bn.2.2 bo.2.2).bind λJ=>fM j bw (i64.wrap (v7-1)) J.1.aJQ.Name J.1.aJQ.aJa J.1.aJm J.1.aJR.aK.aJA J.1.aJR.aK.aJd J.1.aJR.aJh J.1.aJR.aJY bo.1 bo.2.1 ar av J.1.aJQ.aI6 J.1.aJR.aK.aJM aa ae af else if(C.2.2==2)=true then(aF (⟨j.b,C.1,C.2.1⟩:M.aM) 4).bind λbq=>(Be (⟨(⟨bd,bf,ai⟩:M.aK),bg,aw⟩:M.aJR) (⟨(⟨ar,aa,av⟩:M.aD),ae,af⟩:M.aJC) aw bq.2.2).bind λI=>fM j bw (i64.wrap (v7-1)) ay az ba I.1.aK.aJA I.1.aK.aJd I.1.aJh I.1.aJY bq.1 bq.2.1 I.2.1.aD.Name I.2.1.aD.aJa ah I.1.aK.aJM I.2.1.aD.aI6 I.2.1.aP I.2.1.aJU else if(C.2.2==3)=true then(aF (⟨j.b,C.1,C.2.1⟩:M.aM) 3).bind λbl=>(yL (⟨(⟨ar,aa,av⟩:M.aD),ae,af⟩:M.aJC) (i64.wrap (1+bl.2.2))).bind λca=>(dZ (⟨j.b,bl.1,bl.2.1⟩:M.aM)).bind λbr=>(dN (⟨j.b,br.1,br.2.1⟩:M.aM)).bind λbt=>(aF (⟨j.b,bt.1,bt.2.1⟩:M.aM) 6).bind λbu=>(dD (⟨(⟨ar,aa,av⟩:M.aD),ae,af⟩:M.aJC) (⟨i64.wrap (1+bl.2.2),i64.wrap (ca+1),br.2.2,bt.2.2,bu.2.2⟩:M.bC)).bind λbh=>fM j bw (i64.wrap (v7-1)) ay az ba bd bf bg aw bu.1 bu.2.1 bh.1.aD.Name bh.1.aD.aJa ah ai bh.1.aD.aI6 bh.1.aP bh.1.aJU else(yG (⟨(⟨ay,ah,az⟩:M.aD),ba,(⟨(⟨bd,bf,ai⟩:M.aK),bg,aw⟩:M.aJR)⟩:M.aG) (⟨(⟨ar,aa,av⟩:M.aD),ae,af⟩:M.aJC)).bind λU=>fM j bw (i64.wrap (v7-1)) U.1.aJQ.Name U.1.aJQ.aJa U.1.aJm U.1.aJR.aK.aJA U.1.aJR.aK.aJd U.1.aJR.aJh U.1.aJR.aJY C.1 C.2.1 ar av U.1.aJQ.aI6 U.1.aJR.aK.aJM aa ae af else some (aj,ak,(⟨(⟨ay,ah,az⟩:M.aD),ba,(⟨(⟨bd,bf,ai⟩:M.aK),bg,aw⟩:M.aJR)⟩:M.aG),(⟨(⟨ar,aa,av⟩:M.aD),ae,af⟩:M.aJC))
def Cb(I:M.aM):Option (Int×Int×M.aG×M.aJC):=
 (xB I).bind λx4=>(zH x4.2.2 4).bind λj=>(aF (⟨I.b,x4.1,x4.2.1⟩:M.aM) 6).bind λC=>fM I fuel C.2.2 j.1.aJQ.Name j.1.aJQ.aJa j.1.aJm j.1.aJR.aK.aJA j.1.aJR.aK.aJd j.1.aJR.aJh j.1.aJR.aJY C.1 C.2.1 x4.2.2.aD.Name x4.2.2.aD.aJa j.1.aJQ.aI6 j.1.aJR.aK.aJM x4.2.2.aD.aI6 x4.2.2.aP x4.2.2.aJU
def A0(C:M.aM):Option (Int×Int×M.Key):=
 (Cp C).bind λx4=>(aF (⟨C.b,x4.1,x4.2.1⟩:M.aM) 10).bind λj=>if(j.2.2==0)=true then(aF (⟨C.b,j.1,j.2.1⟩:M.aM) 5).bind λI=>some (I.1,I.2.1,(⟨I.2.2,x4.2.2.N,x4.2.2.aJb⟩:M.Key))else if(j.2.2==1)=true then(bO (⟨C.b,j.1,j.2.1⟩:M.aM) ([-1000000000001,1000000000001,5])).bind λJ=>some (J.1,J.2.1,(⟨x4.2.2.aJS,J.2.2,x4.2.2.aJb⟩:M.Key))else if(j.2.2==2)=true then(fZ (⟨C.b,j.1,j.2.1⟩:M.aM) ([(⟨#[65]⟩:ByteArray),(⟨#[97,32,98]⟩:ByteArray),(⟨#[97,98,99,100,101,102,103,104,105,106,107,108,109]⟩:ByteArray),(⟨#[120,39]⟩:ByteArray)])).bind λU=>some (U.1,U.2.1,(⟨x4.2.2.aJS,x4.2.2.N,U.2.2⟩:M.Key))else some (j.1,j.2.1,x4.2.2)
def vN(j:(Int×Int×Int)):Nat->Int->List M.Field->Option (Int×Int×M.aE)
 |0,_,_=>none
 |J+1,C,I=>if(decide (C<((6:Nat):Int)))=true then(idx ([(⟨#[100]⟩:ByteArray),(⟨#[101]⟩:ByteArray),(⟨#[102]⟩:ByteArray),(⟨#[103]⟩:ByteArray),(⟨#[104]⟩:ByteArray),(⟨#[105]⟩:ByteArray)]) C).bind λU=>(jW (⟨I⟩:M.aE) U 1).bind λaj=>vN j J (i64.wrap (C+1)) aj.1.aI9 else some (j.1,j.2.1,(⟨I⟩:M.aE))
def DA(J:M.aM):Option (Int×Int×M.aE):=
 (lO J).bind λx4=>(aF (⟨J.b,x4.1,x4.2.1⟩:M.aM) 12).bind λj=>if(j.2.2==0)=true then(fZ (⟨J.b,j.1,j.2.1⟩:M.aM) ([(⟨#[]⟩:ByteArray),(⟨#[65]⟩:ByteArray),(⟨#[122,122,122,122,122,122,122,122,122]⟩:ByteArray),(⟨#[122]⟩:ByteArray),(⟨#[97]⟩:ByteArray)])).bind λC=>(bO (⟨J.b,C.1,C.2.1⟩:M.aM) ([0,-1,1000000000,1000000001])).bind λI=>(app 24 x4.2.2.aI9 ([(⟨C.2.2,I.2.2⟩:M.Field)])).bind λU=>some (I.1,I.2.1,(⟨x4.2.2.aI9++[(⟨C.2.2,I.2.2⟩:M.Field)]⟩:M.aE))else if(j.2.2==1)=true then vN j fuel 0 x4.2.2.aI9 else some (j.1,j.2.1,x4.2.2)
def AY(j:M.aD)(C:M.aE):Option (M.aD×M.Key×Bool):=
 if(decide (j.aJa>=1000000))=true then(cD j).bind λx2=>some (x2,(⟨0,0,(⟨#[]⟩:ByteArray)⟩:M.Key),false)else(AL j (⟨1,i64.wrap (j.aJa+1),(⟨#[]⟩:ByteArray)⟩:M.Key) C).bind λx4=>if(!x4.2)=true then(cD j).bind λx7=>some (x7,(⟨0,0,(⟨#[]⟩:ByteArray)⟩:M.Key),false)else some (x4.1,(⟨1,i64.wrap (j.aJa+1),(⟨#[]⟩:ByteArray)⟩:M.Key),true)
def zX(C:(Int×Int×Int)):Nat->ByteArray->Int->List M.aJN->Option (Int×Int×M.aD)
 |0,_,_,_=>none
 |aj+1,I,J,j=>if(decide ((List.length j:Int)<16))=true then(nX (⟨I,j,J⟩:M.aD)).bind λak=>if ak=true then(AY (⟨I,j,J⟩:M.aD) (⟨([]:List M.Field)⟩:M.aE)).bind λU=>zX C aj U.1.Name U.1.aJa U.1.aI6 else some (C.1,C.2.1,(⟨I,j,J⟩:M.aD))else some (C.1,C.2.1,(⟨I,j,J⟩:M.aD))
def Cn(C:M.aM):Option (Int×Int×M.aD):=
 (rY C (⟨#[110,111,116,101,115]⟩:ByteArray)).bind λx4=>(aF (⟨C.b,x4.1,x4.2.1⟩:M.aM) 12).bind λj=>if(j.2.2==0)=true then(fZ (⟨C.b,j.1,j.2.1⟩:M.aM) ([(⟨#[]⟩:ByteArray),(⟨#[81]⟩:ByteArray),(⟨#[97,98,99,100,101,102,103,104,105]⟩:ByteArray)])).bind λU=>some (U.1,U.2.1,(⟨U.2.2,x4.2.2.aI6,x4.2.2.aJa⟩:M.aD))else if(j.2.2==1)=true then(bO (⟨C.b,j.1,j.2.1⟩:M.aM) ([-1,999999,1000000,1000001])).bind λai=>some (ai.1,ai.2.1,(⟨x4.2.2.Name,x4.2.2.aI6,ai.2.2⟩:M.aD))else if(j.2.2==2)=true then(A0 (⟨C.b,j.1,j.2.1⟩:M.aM)).bind λI=>(DA (⟨C.b,I.1,I.2.1⟩:M.aM)).bind λJ=>(app 56 x4.2.2.aI6 ([(⟨I.2.2,J.2.2⟩:M.aJN)])).bind λaj=>some (J.1,J.2.1,(⟨x4.2.2.Name,x4.2.2.aI6++[(⟨I.2.2,J.2.2⟩:M.aJN)],x4.2.2.aJa⟩:M.aD))else if(j.2.2==3)=true then zX j fuel x4.2.2.Name x4.2.2.aJa x4.2.2.aI6 else some (j.1,j.2.1,x4.2.2)
def mP(j:M.aM):Nat->Int->Int->Int->Int->Int->List M.bC->Option (Int×Int×M.aK)
 |0,_,_,_,_,_,_=>none
 |av+1,v7,J,U,aa,ae,I=>if(decide (v7>0))=true then(dZ (⟨j.b,aa,ae⟩:M.aM)).bind λak=>(dN (⟨j.b,ak.1,ak.2.1⟩:M.aM)).bind λal=>(aF (⟨j.b,al.1,al.2.1⟩:M.aM) 6).bind λao=>(iW (⟨J,U,I⟩:M.aK) ak.2.2 al.2.2 ao.2.2).bind λaq=>mP j av (i64.wrap (v7-1)) aq.1.aJA aq.1.aJd ao.1 ao.2.1 aq.1.aJM else(cC (⟨j.b,aa,ae⟩:M.aM) 3).bind λC=>if C.2.2=true then(aF (⟨j.b,C.1,C.2.1⟩:M.aM) 4).bind λar=>(dE (⟨J,U,I⟩:M.aK) ar.2.2).bind λaw=>some (ar.1,ar.2.1,aw.1)else some (C.1,C.2.1,(⟨J,U,I⟩:M.aK))
def AB(j:M.aM)(C:Int):Option (Int×Int×M.aK):=
 (pI C).bind λx5=>(bO j ([0,2,4,6])).bind λx7=>mP j fuel x7.2.2 x5.1.aJA x5.1.aJd x7.1 x7.2.1 x5.1.aJM
def xK(p0:M.aM):Nat->Int->Int->Int->Int->List M.bC->Option (Int×Int×M.aK)
 |0,_,_,_,_,_=>none
 |al+1,C,I,J,U,j=>if(decide ((List.length j:Int)<20))=true then(iY (⟨C,I,j⟩:M.aK)).bind λao=>if ao=true then(dZ (⟨p0.b,J,U⟩:M.aM)).bind λaj=>(iW (⟨C,I,j⟩:M.aK) aj.2.2 (⟨#[97]⟩:ByteArray) 1).bind λak=>xK p0 al ak.1.aJA ak.1.aJd aj.1 aj.2.1 ak.1.aJM else some (J,U,(⟨C,I,j⟩:M.aK))else some (J,U,(⟨C,I,j⟩:M.aK))
def Cu(C:M.aM):Option (Int×Int×M.aK):=
 (aF C 3).bind λx4=>(AB (⟨C.b,x4.1,x4.2.1⟩:M.aM) (i64.wrap (1+x4.2.2))).bind λx6=>(aF (⟨C.b,x6.1,x6.2.1⟩:M.aM) 12).bind λj=>if(j.2.2==0)=true then(bO (⟨C.b,j.1,j.2.1⟩:M.aM) ([0,9,1000001])).bind λU=>some (U.1,U.2.1,(⟨U.2.2,x6.2.2.aJd,x6.2.2.aJM⟩:M.aK))else if(j.2.2==1)=true then(bO (⟨C.b,j.1,j.2.1⟩:M.aM) ([0,3,1000000,1000001])).bind λai=>some (ai.1,ai.2.1,(⟨x6.2.2.aJA,ai.2.2,x6.2.2.aJM⟩:M.aK))else if(j.2.2==2)=true then(A0 (⟨C.b,j.1,j.2.1⟩:M.aM)).bind λI=>(bO (⟨C.b,I.1,I.2.1⟩:M.aM) ([0,-1])).bind λJ=>(app 72 x6.2.2.aJM ([(⟨x6.2.2.aJA,x6.2.2.aJd,I.2.2,(⟨#[97]⟩:ByteArray),J.2.2⟩:M.bC)])).bind λaj=>some (J.1,J.2.1,(⟨x6.2.2.aJA,x6.2.2.aJd,x6.2.2.aJM++[(⟨x6.2.2.aJA,x6.2.2.aJd,I.2.2,(⟨#[97]⟩:ByteArray),J.2.2⟩:M.bC)]⟩:M.aK))else if(j.2.2==3)=true then xK C fuel x6.2.2.aJA x6.2.2.aJd j.1 j.2.1 x6.2.2.aJM else some (j.1,j.2.1,x6.2.2)
def CI(C:M.aM):Option (Int×Int×M.aG):=
 (Cb C).bind λx4=>(aF (⟨C.b,x4.1,x4.2.1⟩:M.aM) 12).bind λj=>if(j.2.2==0)=true then(Cn (⟨C.b,j.1,j.2.1⟩:M.aM)).bind λI=>some (I.1,I.2.1,(⟨I.2.2,x4.2.2.1.aJm,x4.2.2.1.aJR⟩:M.aG))else if(j.2.2==1)=true then(bO (⟨C.b,j.1,j.2.1⟩:M.aM) ([-1,9,1000000000001])).bind λJ=>some (J.1,J.2.1,(⟨x4.2.2.1.aJQ,J.2.2,x4.2.2.1.aJR⟩:M.aG))else if(j.2.2==2)=true then(Cu (⟨C.b,j.1,j.2.1⟩:M.aM)).bind λU=>some (U.1,U.2.1,(⟨x4.2.2.1.aJQ,x4.2.2.1.aJm,(⟨U.2.2,x4.2.2.1.aJR.aJh,x4.2.2.1.aJR.aJY⟩:M.aJR)⟩:M.aG))else some (j.1,j.2.1,x4.2.2.1)
set_option maxRecDepth 40000 in
def pM(x4:(Int×Int×M.aI3))(C:(Int×Int×Int)):Nat->List Int->Option (Int×Int×M.aI3)
 |0,_=>none
 |I+1,j=>if(decide ((List.length j:Int)<2600))=true then(app 1 j ([0])).bind λJ=>pM x4 C I (j++[0])else some (C.1,C.2.1,(⟨x4.2.2.aI7,x4.2.2.Top,x4.2.2.aIz,x4.2.2.aI1,(⟨x4.2.2.bR.aJQ,j,x4.2.2.bR.aJi⟩:M.bR),x4.2.2.aG,x4.2.2.aJc,x4.2.2.aJZ⟩:M.aI3))
set_option maxRecDepth 40000 in
theorem RQ:type_of%@pM.eq_2:=@pM.eq_2
def CT(C:M.aM):Option (Int×Int×M.aI3):=
 (xJ C).bind λx4=>(aF (⟨C.b,x4.1,x4.2.1⟩:M.aM) 14).bind λj=>if(j.2.2==0)=true then(fZ (⟨C.b,j.1,j.2.1⟩:M.aM) ([(⟨#[]⟩:ByteArray),(⟨#[122,122,122]⟩:ByteArray)])).bind λI=>some (I.1,I.2.1,(⟨I.2.2,x4.2.2.Top,x4.2.2.aIz,x4.2.2.aI1,x4.2.2.bR,x4.2.2.aG,x4.2.2.aJc,x4.2.2.aJZ⟩:M.aI3))else if(j.2.2==1)=true then(CE (⟨C.b,j.1,j.2.1⟩:M.aM)).bind λJ=>some (J.1,J.2.1,(⟨x4.2.2.aI7,x4.2.2.Top,x4.2.2.aIz,J.2.2,x4.2.2.bR,x4.2.2.aG,x4.2.2.aJc,x4.2.2.aJZ⟩:M.aI3))else if(j.2.2==2)=true then(CP (⟨C.b,j.1,j.2.1⟩:M.aM)).bind λU=>some (U.1,U.2.1,(⟨x4.2.2.aI7,x4.2.2.Top,x4.2.2.aIz,x4.2.2.aI1,U.2.2,x4.2.2.aG,x4.2.2.aJc,x4.2.2.aJZ⟩:M.aI3))else if(j.2.2==3)=true then(CI (⟨C.b,j.1,j.2.1⟩:M.aM)).bind λai=>some (ai.1,ai.2.1,(⟨x4.2.2.aI7,x4.2.2.Top,x4.2.2.aIz,x4.2.2.aI1,x4.2.2.bR,ai.2.2,x4.2.2.aJc,x4.2.2.aJZ⟩:M.aI3))else if(j.2.2==4)=true then(bO (⟨C.b,j.1,j.2.1⟩:M.aM) ([-1,1000000000001])).bind λaj=>some (aj.1,aj.2.1,(⟨x4.2.2.aI7,x4.2.2.Top,x4.2.2.aIz,x4.2.2.aI1,x4.2.2.bR,x4.2.2.aG,aj.2.2,x4.2.2.aJZ⟩:M.aI3))else if(j.2.2==5)=true then pM x4 j fuel x4.2.2.bR.Log else some (j.1,j.2.1,x4.2.2)
def kT(J:M.aM):Nat->Int->Int->Int->List M.aI3->Option (Int×Int×M.aA)
 |0,_,_,_,_=>none
 |ak+1,v4,aa,ae,C=>if(decide (v4>0))=true then(xJ (⟨J.b,aa,ae⟩:M.aM)).bind λU=>(gQ (⟨C⟩:M.aA) U.2.2).bind λal=>kT J ak (i64.wrap (v4-1)) U.1 U.2.1 al.1.aI4 else(cC (⟨J.b,aa,ae⟩:M.aM) 12).bind λj=>if j.2.2=true then(CT (⟨J.b,j.1,j.2.1⟩:M.aM)).bind λI=>(app 328 C ([I.2.2])).bind λao=>some (I.1,I.2.1,(⟨C++[I.2.2]⟩:M.aA))else some (j.1,j.2.1,(⟨C⟩:M.aA))
def vG(j:M.aM):Option (Int×Int×M.aA):=
 (aF j 4).bind λx4=>kT j fuel x4.2.2 x4.1 x4.2.1 ([]:List M.aI3)
def rL(p0:M.aM):Nat->Int->Int->ByteArray->ByteArray->Int->Int->Int->Bool->Bool->Int->Int->List M.aV->List M.Instr->List Int->Option (Int×Int×M.bG)
 |0,_,_,_,_,_,_,_,_,_,_,_,_,_,_=>none
 |az+1,v7,ao,aq,ar,C,av,aw,ax,ak,J,U,af,ah,ai=>if(decide (v7>0))=true then(yM (⟨p0.b,J,U⟩:M.aM)).bind λI=>(lS (⟨ao,aq,ar,C,af,(⟨ah,av,ai,aw,ax,ak⟩:M.aJH)⟩:M.bG) I.2.2 (⟨0,200,C,([]:List Int),false⟩:M.aI8)).bind λj=>rL p0 az (i64.wrap (v7-1)) j.1.Id j.1.aI7 j.1.Top j.1.aI0 j.1.aJH.Pc j.1.aJH.aJp j.1.aJH.aJy j.1.aJH.aJ0 I.1 I.2.1 j.1.aV j.1.aJH.aJj j.1.aJH.aJt else some (J,U,(⟨ao,aq,ar,C,af,(⟨ah,av,ai,aw,ax,ak⟩:M.aJH)⟩:M.bG))
def B4(C:M.aM):Option (Int×Int×M.bG):=
 (nY C).bind λx4=>((cC (⟨C.b,x4.1,x4.2.1⟩:M.aM) 3).bind λI=>if I.2.2=true then(nY (⟨C.b,I.1,I.2.1⟩:M.aM)).bind λJ=>some (J.2.2,J.1,J.2.1)else some (x4.2.2,I.1,I.2.1)).bind λU=>(aF (⟨C.b,U.2.1,U.2.2⟩:M.aM) 9).bind λai=>(aF (⟨C.b,ai.1,ai.2.1⟩:M.aM) 3).bind λaj=>(jY (⟨C.b,aj.1,aj.2.1⟩:M.aM)).bind λak=>(mA (i64.wrap (1+ai.2.2)) x4.2.2 U.1 (i64.wrap (1+aj.2.2)) ak.2.2).bind λj=>(aF (⟨C.b,ak.1,ak.2.1⟩:M.aM) 3).bind λal=>rL C fuel al.2.2 j.1.Id j.1.aI7 j.1.Top j.1.aI0 j.1.aJH.Pc j.1.aJH.aJp j.1.aJH.aJy j.1.aJH.aJ0 al.1 al.2.1 j.1.aV j.1.aJH.aJj j.1.aJH.aJt
def wW(x4:(Int×Int×M.bG))(C:(Int×Int×Int)):Nat->List M.aV->Option (Int×Int×M.bG)
 |0,_=>none
 |I+1,j=>if(decide ((List.length j:Int)<8))=true then(app 24 j ([(⟨(⟨#[105,110,100,101,120]⟩:ByteArray),x4.2.2.aI0⟩:M.aV)])).bind λJ=>wW x4 C I (j++[(⟨(⟨#[105,110,100,101,120]⟩:ByteArray),x4.2.2.aI0⟩:M.aV)])else some (C.1,C.2.1,(⟨x4.2.2.Id,x4.2.2.aI7,x4.2.2.Top,x4.2.2.aI0,j,x4.2.2.aJH⟩:M.bG))
def Bt(C:M.aM):Option (Int×Int×M.bG):=
 (B4 C).bind λx4=>(aF (⟨C.b,x4.1,x4.2.1⟩:M.aM) 12).bind λj=>if(j.2.2==0)=true then(bO (⟨C.b,j.1,j.2.1⟩:M.aM) ([0,1000000000000,1000000000001])).bind λU=>some (U.1,U.2.1,(⟨U.2.2,x4.2.2.aI7,x4.2.2.Top,x4.2.2.aI0,x4.2.2.aV,x4.2.2.aJH⟩:M.bG))else if(j.2.2==1)=true then(fZ (⟨C.b,j.1,j.2.1⟩:M.aM) ([(⟨#[105,110,100,101,120]⟩:ByteArray),(⟨#[]⟩:ByteArray)])).bind λI=>(aF (⟨C.b,I.1,I.2.1⟩:M.aM) 2).bind λJ=>(app 24 x4.2.2.aV ([(⟨I.2.2,i64.wrap (x4.2.2.aI0+J.2.2)⟩:M.aV)])).bind λaj=>some (J.1,J.2.1,(⟨x4.2.2.Id,x4.2.2.aI7,x4.2.2.Top,x4.2.2.aI0,x4.2.2.aV++[(⟨I.2.2,i64.wrap (x4.2.2.aI0+J.2.2)⟩:M.aV)],x4.2.2.aJH⟩:M.bG))else if(j.2.2==2)=true then(bO (⟨C.b,j.1,j.2.1⟩:M.aM) ([0,1000000000001])).bind λai=>some (ai.1,ai.2.1,(⟨x4.2.2.Id,x4.2.2.aI7,x4.2.2.Top,ai.2.2,x4.2.2.aV,x4.2.2.aJH⟩:M.bG))else if(j.2.2==3)=true then wW x4 j fuel x4.2.2.aV else some (j.1,j.2.1,x4.2.2)
def A4(C:M.aM):Option (Int×Int×M.bC):=
 (aF C 3).bind λx4=>(aF (⟨C.b,x4.1,x4.2.1⟩:M.aM) 4).bind λx6=>(dZ (⟨C.b,x6.1,x6.2.1⟩:M.aM)).bind λx8=>(dN (⟨C.b,x8.1,x8.2.1⟩:M.aM)).bind λI=>(aF (⟨C.b,I.1,I.2.1⟩:M.aM) 6).bind λJ=>(aF (⟨C.b,J.1,J.2.1⟩:M.aM) 12).bind λj=>if(j.2.2==0)=true then(bO (⟨C.b,j.1,j.2.1⟩:M.aM) ([0,1000000,1000001])).bind λU=>some (U.1,U.2.1,(⟨U.2.2,i64.wrap (1+x6.2.2),x8.2.2,I.2.2,J.2.2⟩:M.bC))else if(j.2.2==1)=true then(bO (⟨C.b,j.1,j.2.1⟩:M.aM) ([0,1000000,1000001])).bind λai=>some (ai.1,ai.2.1,(⟨i64.wrap (1+x4.2.2),ai.2.2,x8.2.2,I.2.2,J.2.2⟩:M.bC))else if(j.2.2==2)=true then(A0 (⟨C.b,j.1,j.2.1⟩:M.aM)).bind λaj=>some (aj.1,aj.2.1,(⟨i64.wrap (1+x4.2.2),i64.wrap (1+x6.2.2),aj.2.2,I.2.2,J.2.2⟩:M.bC))else if(j.2.2==3)=true then some (j.1,j.2.1,(⟨i64.wrap (1+x4.2.2),i64.wrap (1+x6.2.2),x8.2.2,(⟨#[]⟩:ByteArray),J.2.2⟩:M.bC))else if(j.2.2==4)=true then(bO (⟨C.b,j.1,j.2.1⟩:M.aM) ([-1,1000000000,1000000001])).bind λak=>some (ak.1,ak.2.1,(⟨i64.wrap (1+x4.2.2),i64.wrap (1+x6.2.2),x8.2.2,I.2.2,ak.2.2⟩:M.bC))else some (j.1,j.2.1,(⟨i64.wrap (1+x4.2.2),i64.wrap (1+x6.2.2),x8.2.2,I.2.2,J.2.2⟩:M.bC))
def xL(x4:(Int×Int×M.aJC))(I:(Int×Int×Int)):Nat->Int->List M.aP->Option (Int×Int×M.aJC)
 |0,_,_=>none
 |J+1,j,C=>if(decide (j<64))=true then(app 16 C ([(⟨j,0⟩:M.aP)])).bind λU=>xL x4 I J (i64.wrap (j+1)) (C++[(⟨j,0⟩:M.aP)])else some (I.1,I.2.1,(⟨x4.2.2.aD,C,x4.2.2.aJU⟩:M.aJC))
def BC(C:M.aM):Option (Int×Int×M.aJC):=
 (xB C).bind λx4=>(aF (⟨C.b,x4.1,x4.2.1⟩:M.aM) 12).bind λj=>if(j.2.2==0)=true then(Cn (⟨C.b,j.1,j.2.1⟩:M.aM)).bind λai=>some (ai.1,ai.2.1,(⟨ai.2.2,x4.2.2.aP,x4.2.2.aJU⟩:M.aJC))else if(j.2.2==1)=true then(bO (⟨C.b,j.1,j.2.1⟩:M.aM) ([0,2,9,1000001])).bind λI=>(bO (⟨C.b,I.1,I.2.1⟩:M.aM) ([0,-1])).bind λJ=>(app 16 x4.2.2.aP ([(⟨I.2.2,J.2.2⟩:M.aP)])).bind λaj=>some (J.1,J.2.1,(⟨x4.2.2.aD,x4.2.2.aP++[(⟨I.2.2,J.2.2⟩:M.aP)],x4.2.2.aJU⟩:M.aJC))else if(j.2.2==2)=true then(A4 (⟨C.b,j.1,j.2.1⟩:M.aM)).bind λU=>(app 72 x4.2.2.aJU ([U.2.2])).bind λak=>some (U.1,U.2.1,(⟨x4.2.2.aD,x4.2.2.aP,x4.2.2.aJU++[U.2.2]⟩:M.aJC))else if(j.2.2==3)=true then xL x4 j fuel 4 ([]:List M.aP)else some (j.1,j.2.1,x4.2.2)
def CU(I:M.aM):Option (Int×Int×M.World):=
 (Bk I).bind λx4=>(cC (⟨I.b,x4.1,x4.2.1⟩:M.aM) 4).bind λC=>(aF (⟨I.b,C.1,C.2.1⟩:M.aM) 24).bind λj=>if(j.2.2==0)=true then(bO (⟨I.b,j.1,j.2.1⟩:M.aM) ([-1,999999990000,999999990001])).bind λai=>some (ai.1,ai.2.1,(⟨ai.2.2,!C.2.2,x4.2.2.aJA,x4.2.2.aA,x4.2.2.aJI,x4.2.2.aJG,x4.2.2.aJJ,x4.2.2.aJD,x4.2.2.aJL,x4.2.2.aJK⟩:M.World))else if(j.2.2==1)=true then some (j.1,j.2.1,(⟨x4.2.2.Now,!C.2.2,0,x4.2.2.aA,x4.2.2.aJI,x4.2.2.aJG,x4.2.2.aJJ,x4.2.2.aJD,x4.2.2.aJL,x4.2.2.aJK⟩:M.World))else if(j.2.2==2)=true then(Bz x4.2.2.aJL 2).bind λao=>some (j.1,j.2.1,(⟨x4.2.2.Now,!C.2.2,x4.2.2.aJA,x4.2.2.aA,x4.2.2.aJI,x4.2.2.aJG,x4.2.2.aJJ,x4.2.2.aJD,List.take (2:Int).toNat x4.2.2.aJL,x4.2.2.aJK⟩:M.World))else if(j.2.2==3)=true then(vG (⟨I.b,j.1,j.2.1⟩:M.aM)).bind λaj=>some (aj.1,aj.2.1,(⟨x4.2.2.Now,!C.2.2,x4.2.2.aJA,aj.2.2,x4.2.2.aJI,x4.2.2.aJG,x4.2.2.aJJ,x4.2.2.aJD,x4.2.2.aJL,x4.2.2.aJK⟩:M.World))else if(j.2.2==4)=true then(Bt (⟨I.b,j.1,j.2.1⟩:M.aM)).bind λJ=>(app 144 x4.2.2.aJI ([J.2.2])).bind λak=>some (J.1,J.2.1,(⟨x4.2.2.Now,!C.2.2,x4.2.2.aJA,x4.2.2.aA,x4.2.2.aJI++[J.2.2],x4.2.2.aJG,x4.2.2.aJJ,x4.2.2.aJD,x4.2.2.aJL,x4.2.2.aJK⟩:M.World))else if(j.2.2==5)=true then some (j.1,j.2.1,(⟨x4.2.2.Now,!C.2.2,x4.2.2.aJA,x4.2.2.aA,x4.2.2.aJI,0,x4.2.2.aJJ,x4.2.2.aJD,x4.2.2.aJL,x4.2.2.aJK⟩:M.World))else if(j.2.2==6)=true then(BC (⟨I.b,j.1,j.2.1⟩:M.aM)).bind λU=>(idx x4.2.2.aJK 0).bind λal=>some (U.1,U.2.1,(⟨x4.2.2.Now,!C.2.2,x4.2.2.aJA,x4.2.2.aA,x4.2.2.aJI,x4.2.2.aJG,x4.2.2.aJJ,x4.2.2.aJD,x4.2.2.aJL,List.set x4.2.2.aJK (0:Int).toNat U.2.2⟩:M.World))else some (j.1,j.2.1,(⟨x4.2.2.Now,!C.2.2,x4.2.2.aJA,x4.2.2.aA,x4.2.2.aJI,x4.2.2.aJG,x4.2.2.aJJ,x4.2.2.aJD,x4.2.2.aJL,x4.2.2.aJK⟩:M.World))
def Bi(j:M.aM):Option (Int×Int×M.World×ByteArray×ByteArray):=
 (CU j).bind λx4=>if(decide ((List.length x4.2.2.aA.aI4:Int)>0))=true then(cC (⟨j.b,x4.1,x4.2.1⟩:M.aM) 6).bind λC=>if(!C.2.2)=true then(aF (⟨j.b,C.1,C.2.1⟩:M.aM) (List.length x4.2.2.aA.aI4:Int)).bind λI=>(idx x4.2.2.aA.aI4 I.2.2).bind λak=>some (I.1,I.2.1,x4.2.2,ak.aI7,ak.Top)else(kA (⟨j.b,C.1,C.2.1⟩:M.aM)).bind λJ=>(kA (⟨j.b,J.1,J.2.1⟩:M.aM)).bind λU=>some (U.1,U.2.1,x4.2.2,J.2.2,U.2.2)else(kA (⟨j.b,x4.1,x4.2.1⟩:M.aM)).bind λai=>(kA (⟨j.b,ai.1,ai.2.1⟩:M.aM)).bind λaj=>some (aj.1,aj.2.1,x4.2.2,ai.2.2,aj.2.2)
def oD(j:List Int):Option (M.World×ByteArray×ByteArray):=
 (Dw j).bind λx1=>(Bi x1).bind λx8=>some (x8.2.2.1,x8.2.2.2.1,x8.2.2.2.2)
def mB(j:List Int):Option (List Int):=
 (app 1 ([]:List Int) j).bind λx1=>some j
def gI(j:M.aI8):Option M.aI8:=
 (mB j.aJr).bind λx1=>some (⟨j.aJq,j.aJn,j.aI0,x1,j.aJu⟩:M.aI8)
def hY(J:M.aI5)(U:Int->List M.aJE->Option M.aC):Nat->Int->List M.aJE->Option M.aC
 |0,_,_=>none
 |ak+1,C,I=>if(decide (C<(List.length J.aJB:Int)))=true then(idx J.aJB C).bind λj=>(gI j.aI8).bind λaj=>(app 88 I ([(⟨j.aI7,j.aJk,aj⟩:M.aJE)])).bind λal=>hY J U ak (i64.wrap (C+1)) (I++[(⟨j.aI7,j.aJk,aj⟩:M.aJE)])else U C I
def eU(J:M.aC):Nat->Int->List M.aI5->Option M.aC
 |0,_,_=>none
 |aj+1,C,j=>if(decide (C<(List.length J.aI1:Int)))=true then(idx J.aI1 C).bind λI=>hY I (λ(ai:Int) (U:List M.aJE)=>(app 32 j ([(⟨I.aI0,U⟩:M.aI5)])).bind λak=>eU J aj (i64.wrap (C+1)) (j++[(⟨I.aI0,U⟩:M.aI5)])) fuel 0 ([]:List M.aJE)else some (⟨j⟩:M.aC)
def bB(j:M.aC):Option M.aC:=
 eU j fuel 0 ([]:List M.aI5)
def zM(j:M.aE):Option M.aE:=
 (app 24 ([]:List M.Field) j.aI9).bind λx1=>some j
def zS(j:M.aJN):Option M.aJN:=
 (zM j.aE).bind λx1=>some (⟨j.Key,x1⟩:M.aJN)
def mN(j:M.aD):Nat->Int->List M.aJN->Option M.aD
 |0,_,_=>none
 |U+1,I,C=>if(decide (I<(List.length j.aI6:Int)))=true then(idx j.aI6 I).bind λai=>(zS ai).bind λJ=>(app 56 C ([J])).bind λaj=>mN j U (i64.wrap (I+1)) (C++[J])else some (⟨j.Name,C,j.aJa⟩:M.aD)
def tP(j:M.aD):Option M.aD:=
 mN j fuel 0 ([]:List M.aJN)
def iB(j:M.aI2):Nat->Int->List M.aD->Option M.aI2
 |0,_,_=>none
 |U+1,I,C=>if(decide (I<(List.length j.aJF:Int)))=true then(idx j.aJF I).bind λai=>(tP ai).bind λJ=>(app 48 C ([J])).bind λaj=>iB j U (i64.wrap (I+1)) (C++[J])else some (⟨j.Name,j.aI0,C,j.aJO⟩:M.aI2)
def wG(j:M.aI2):Option M.aI2:=
 (app 32 ([]:List M.aN) j.aJO).bind λx1=>iB j fuel 0 ([]:List M.aD)
def A5(j:M.bR):Option M.bR:=
 (wG j.aJQ).bind λx1=>(mB j.Log).bind λx3=>some (⟨x1,x3,j.aJi⟩:M.bR)
def zT(j:M.aK):Option M.aK:=
 (app 72 ([]:List M.bC) j.aJM).bind λx1=>some j
def Bj(j:M.aJR):Option M.aJR:=
 (zT j.aK).bind λx1=>some (⟨x1,j.aJh,j.aJY⟩:M.aJR)
def yC(j:M.aG):Option M.aG:=
 (tP j.aJQ).bind λx1=>(Bj j.aJR).bind λx3=>some (⟨x1,j.aJm,x3⟩:M.aG)
def eE(j:M.aI3):Option M.aI3:=
 (bB j.aI1).bind λx1=>(A5 j.bR).bind λx3=>(yC j.aG).bind λx5=>some (⟨j.aI7,j.Top,j.aIz,x1,x3,x5,j.aJc,j.aJZ⟩:M.aI3)
def iN(I:M.aA):Nat->Int->List M.aI3->Option M.aA
 |0,_,_=>none
 |U+1,j,C=>if(decide (j<(List.length I.aI4:Int)))=true then(idx I.aI4 j).bind λah=>(eE ah).bind λJ=>(app 328 C ([J])).bind λai=>iN I U (i64.wrap (j+1)) (C++[J])else some (⟨C⟩:M.aA)
def cQ(j:M.aA):Option M.aA:=
 iN j fuel 0 ([]:List M.aI3)
def xZ(j:M.aJH):Option M.aJH:=
 (app 40 ([]:List M.Instr) j.aJj).bind λx1=>(app 8 ([]:List Int) j.aJt).bind λC=>some j
def zZ(j:M.bG):Option M.bG:=
 (app 24 ([]:List M.aV) j.aV).bind λx1=>(xZ j.aJH).bind λx9=>some (⟨j.Id,j.aI7,j.Top,j.aI0,j.aV,x9⟩:M.bG)
def mW(j:List M.bG):Nat->Int->List M.bG->Option (List M.bG)
 |0,_,_=>none
 |U+1,I,C=>if(decide (I<(List.length j:Int)))=true then(idx j I).bind λaf=>(zZ af).bind λJ=>(app 144 C ([J])).bind λah=>mW j U (i64.wrap (I+1)) (C++[J])else some C
def Am(j:List M.bG):Option (List M.bG):=
 mW j fuel 0 ([]:List M.bG)
def Ao(j:M.aQ):Option M.aQ:=
 (app 32 ([]:List M.mV) j.aJJ).bind λx1=>some j
def yB(j:M.aJD):Option M.aJD:=
 (app 24 ([]:List M.AP) j.aJe).bind λx1=>some j
def sE(j:M.aI7):Option M.aI7:=
 (app 16 ([]:List ByteArray) j.aJW).bind λx1=>some j
def zL(j:M.aJC):Option M.aJC:=
 (tP j.aD).bind λx1=>(app 16 ([]:List M.aP) j.aP).bind λx3=>(app 72 ([]:List M.bC) j.aJU).bind λx5=>some (⟨x1,j.aP,j.aJU⟩:M.aJC)
def gG(j:M.World)(x1:M.aA)(x3:(List M.bG))(x5:M.aQ)(x7:M.aJD)(J:List M.aI7):Nat->Int->List M.aJC->Option M.World
 |0,_,_=>none
 |ai+1,I,C=>if(decide (I<(List.length j.aJK:Int)))=true then(idx j.aJK I).bind λaj=>(zL aj).bind λU=>(app 96 C ([U])).bind λak=>gG j x1 x3 x5 x7 J ai (i64.wrap (I+1)) (C++[U])else some (⟨j.Now,j.aJV,j.aJA,x1,x3,j.aJG,x5,x7,J,C⟩:M.World)
def iZ(j:M.World)(x1:M.aA)(x3:(List M.bG))(x5:M.aQ)(x7:M.aJD):Nat->Int->List M.aI7->Option M.World
 |0,_,_=>none
 |U+1,I,C=>if(decide (I<(List.length j.aJL:Int)))=true then(idx j.aJL I).bind λai=>(sE ai).bind λJ=>(app 56 C ([J])).bind λaj=>iZ j x1 x3 x5 x7 U (i64.wrap (I+1)) (C++[J])else gG j x1 x3 x5 x7 C fuel 0 ([]:List M.aJC)
def pJ(j:M.World):Option M.World:=
 (cQ j.aA).bind λx1=>(Am j.aJI).bind λx3=>(Ao j.aJJ).bind λx5=>(yB j.aJD).bind λx7=>iZ j x1 x3 x5 x7 fuel 0 ([]:List M.aI7)
def vQ(j:M.aI3)(C:ByteArray)(I:ByteArray):Option Bool:=
 if(j.aI7.toList==C.toList)=true then some (j.Top.toList==I.toList)else some false
def dI(C:List M.aI3)(I:M.aI3->Option Bool):Nat->Int->Option Int
 |0,_=>none
 |J+1,j=>if(decide (j<(List.length C:Int)))=true then(idx C j).bind λx7=>(I x7).bind λU=>if U=true then some j else dI C I J (i64.wrap (j+1))else some (-1)
def lN(j:List M.aI3)(C:M.aI3->Option Bool):Option Int:=
 dI j C fuel 0
def nD(j:M.aA)(C:ByteArray)(I:ByteArray):Option Int:=
 (lN j.aI4 (λJ=>vQ J C I)).bind λx1=>some x1
def gR(j:M.World)(C:ByteArray)(I:ByteArray):Option (M.aI3×Bool):=
 (nD j.aA C I).bind λx1=>if(decide (x1<0))=true then some ((⟨(⟨#[]⟩:ByteArray),(⟨#[]⟩:ByteArray),(⟨(⟨#[]⟩:ByteArray),0,0,0⟩:M.aIz),(⟨([]:List M.aI5)⟩:M.aC),(⟨(⟨(⟨#[]⟩:ByteArray),0,([]:List M.aD),([]:List M.aN)⟩:M.aI2),([]:List Int),0⟩:M.bR),(⟨(⟨(⟨#[]⟩:ByteArray),([]:List M.aJN),0⟩:M.aD),0,(⟨(⟨0,0,([]:List M.bC)⟩:M.aK),0,0⟩:M.aJR)⟩:M.aG),0,false⟩:M.aI3),false)else(idx j.aA.aI4 x1).bind λx4=>some (x4,true)
def cM(C:List ByteArray)(I:ByteArray):Nat->Int->Option Int
 |0,_=>none
 |J+1,j=>if(decide (j<(List.length C:Int)))=true then(idx C j).bind λx7=>if(I.toList==x7.toList)=true then some j else cM C I J (i64.wrap (j+1))else some (-1)
def nM(j:List ByteArray)(C:ByteArray):Option Int:=
 cM j C fuel 0
def pZ(j:ByteArray):Option Int:=
 (nM ([(⟨#[98,97,110,107]⟩:ByteArray),(⟨#[110,101,119,115]⟩:ByteArray),(⟨#[115,104,111,112]⟩:ByteArray)]) j).bind λx1=>some x1
def CM(j:M.World)(C:ByteArray):Option M.aI7:=
 (pZ C).bind λx1=>if(decide (x1<0))=true then some (⟨(⟨#[]⟩:ByteArray),0,([]:List ByteArray),false⟩:M.aI7)else if(decide (x1>=(List.length j.aJL:Int)))=true then some (⟨(⟨#[]⟩:ByteArray),0,([]:List ByteArray),false⟩:M.aI7)else(idx j.aJL x1).bind λx5=>some x5
def aZ(j:Int)(C:Int)(I:Int):Option Bool:=
 if(decide (C<=j))=true then some (decide (j<=I))else some false
def kC(j:ByteArray)(J:Int)(C:Bool):Nat->Int->Option Bool
 |0,_=>none
 |U+1,I=>if(decide (I<(j.size:Int)))=true then(YE j I).bind λx7=>if(decide ((x7.toNat:Int)>=97))=true then if(decide ((x7.toNat:Int)<=122))=true then kC j J C U (i64.wrap (I+1))else if C=true then if(!((x7.toNat:Int)==47))=true then some false else kC j J C U (i64.wrap (I+1))else some false else if C=true then if(!((x7.toNat:Int)==47))=true then some false else kC j J C U (i64.wrap (I+1))else some false else(aZ (j.size:Int) 1 J).bind λae=>some ae
def Bq(j:ByteArray)(C:Int)(I:Bool):Option Bool:=
 kC j C I fuel 0
def cX(j:ByteArray):Option Bool:=
 (Bq j 8 false).bind λx1=>some x1
def dX(C:M.aIz):Nat->Int->Int->Option Bool
 |0,_,_=>none
 |U+1,I,J=>if(decide (J<((3:Nat):Int)))=true then(idx ([C.aJX,C.aJT,C.aJP]) J).bind λj=>(aZ j 0 1000000000000).bind λah=>if(!ah)=true then some false else if(j !=0)=true then if(decide (j<=I))=true then some false else dX C U (if j>I then j else I) (i64.wrap (J+1))else dX C U (if j>I then j else I) (i64.wrap (J+1))else(cX C.aI7).bind λai=>some ai
def gA(j:M.aIz):Option Bool:=
 dX j fuel 0 0
def wV(j:M.aJE)(C:ByteArray)(I:ByteArray):Option Bool:=
 if(j.aI7.toList==C.toList)=true then some (j.aJk.toList==I.toList)else some false
def dJ(C:List M.aJE)(I:M.aJE->Option Bool):Nat->Int->Option Int
 |0,_=>none
 |J+1,j=>if(decide (j<(List.length C:Int)))=true then(idx C j).bind λx7=>(I x7).bind λU=>if U=true then some j else dJ C I J (i64.wrap (j+1))else some (-1)
def lW(j:List M.aJE)(C:M.aJE->Option Bool):Option Int:=
 dJ j C fuel 0
def nW(j:M.aI5)(C:ByteArray)(I:ByteArray):Option Int:=
 (lW j.aJB (λJ=>wV J C I)).bind λx1=>some x1
def uX(j:M.aI8):Option Bool:=
 (aZ j.aJq 1 4).bind λx1=>if x1=true then(aZ j.aJn 0 999).bind λx4=>if x4=true then(aZ j.aI0 0 1000000000000).bind λx7=>if x7=true then some (decide ((List.length j.aJr:Int)<=60))else some false else some false else some false
def fH(x8:M.aI5)(I:Int->Option Bool):Nat->Int->Option Bool
 |0,_=>none
 |J+1,j=>if(decide (j<(List.length x8.aJB:Int)))=true then(idx x8.aJB j).bind λC=>(cX C.aI7).bind λU=>if(!U)=true then some false else(cX C.aJk).bind λaj=>if(!aj)=true then some false else(nW x8 C.aI7 C.aJk).bind λak=>if(ak !=j)=true then some false else(uX C.aI8).bind λal=>if(!al)=true then some false else fH x8 I J (i64.wrap (j+1))else I j
def eW(x8:M.aI5)(I:Int->Option Bool):Nat->Int->Option Bool
 |0,_=>none
 |J+1,j=>if(decide (j<(List.length x8.aJB:Int)))=true then(idx x8.aJB j).bind λC=>(cX C.aI7).bind λU=>if(!U)=true then some false else(cX C.aJk).bind λaj=>if(!aj)=true then some false else(nW x8 C.aI7 C.aJk).bind λak=>if(ak !=j)=true then some false else(uX C.aI8).bind λal=>if(!al)=true then some false else eW x8 I J (i64.wrap (j+1))else I j
def fG(C:M.aC):Nat->Int->Option Bool
 |0,_=>none
 |I+1,j=>if(decide (j<(List.length C.aI1:Int)))=true then(idx C.aI1 j).bind λx8=>(aZ x8.aI0 1 1000000000000).bind λJ=>if(!J)=true then some false else if(decide (j>0))=true then(idx C.aI1 (i64.wrap (j-1))).bind λU=>if(decide (x8.aI0<=U.aI0))=true then some false else if(decide ((List.length x8.aJB:Int)>12))=true then some false else fH x8 (λ(aa:Int)=>fG C I (i64.wrap (j+1))) fuel 0 else if(decide ((List.length x8.aJB:Int)>12))=true then some false else eW x8 (λ(ae:Int)=>fG C I (i64.wrap (j+1))) fuel 0 else some (decide ((List.length C.aI1:Int)<=4))
def cR(j:M.aC):Option Bool:=
 fG j fuel 0
def eM(j:ByteArray):Nat->Int->Option Bool
 |0,_=>none
 |I+1,C=>if(decide (C<(j.size:Int)))=true then(YE j C).bind λx5=>if(decide ((x5.toNat:Int)>=97))=true then if(decide ((x5.toNat:Int)<=122))=true then eM j I (i64.wrap (C+1))else if(decide ((x5.toNat:Int)>=48))=true then if(!(decide ((x5.toNat:Int)<=57)))=true then some false else eM j I (i64.wrap (C+1))else some false else if(decide ((x5.toNat:Int)>=48))=true then if(!(decide ((x5.toNat:Int)<=57)))=true then some false else eM j I (i64.wrap (C+1))else some false else some (decide ((j.size:Int)<=12))
def An(j:ByteArray):Option Bool:=
 eM j fuel 0
def xR(j:M.Key):Option Bool:=
 (aZ j.aJS 1 3).bind λx1=>if(!x1)=true then some false else(aZ j.N (-1000000000000) 1000000000000).bind λx4=>if(!x4)=true then some false else(An j.aJb).bind λx7=>if(!x7)=true then some false else if(j.aJS==2)=true then if(!(j.N !=0))=true then if(j.aJS==1)=true then some (!(!(j.aJb.toList==(⟨#[]⟩:ByteArray).toList)))else some true else some false else if(j.aJS==1)=true then some (!(!(j.aJb.toList==(⟨#[]⟩:ByteArray).toList)))else some true
def iI(j:M.aE):Nat->Int->Option Bool
 |0,_=>none
 |I+1,C=>if(decide (C<(List.length j.aI9:Int)))=true then(idx j.aI9 C).bind λx8=>(cX x8.Name).bind λU=>if(!U)=true then some false else(aZ x8.N 0 1000000000).bind λah=>if(!ah)=true then some false else if(decide (C>0))=true then(idx j.aI9 (i64.wrap (C-1))).bind λJ=>if(Op.bytesLess x8.Name.toList J.Name.toList||x8.Name.toList==J.Name.toList)=true then some false else iI j I (i64.wrap (C+1))else iI j I (i64.wrap (C+1))else some (decide ((List.length j.aI9:Int)<=6))
def zE(j:M.aE):Option Bool:=
 iI j fuel 0
def xQ(j:Int)(C:Int):Option Int:=
 if(decide (j<C))=true then some (-1)else if(decide (j>C))=true then some 1 else some 0
def pN(j:ByteArray)(C:ByteArray):Option Int:=some (Lib.compareBytes j.data.toList C.data.toList)
def Bs(j:ByteArray)(C:ByteArray):Option Int:=
 (pN j C).bind λx1=>some x1
def sS(j:M.Key)(C:M.Key):Option Int:=
 (xR j).bind λx1=>if(!x1)=true then some 0 else(xR C).bind λx4=>if(!x4)=true then some 0 else(xQ j.aJS C.aJS).bind λx7=>if(x7 !=0)=true then some x7 else(xQ j.N C.N).bind λI=>if(I !=0)=true then some I else(Bs j.aJb C.aJb).bind λJ=>some J
def kO(j:M.aD):Nat->Int->Option Bool
 |0,_=>none
 |I+1,C=>if(decide (C<(List.length j.aI6:Int)))=true then(idx j.aI6 C).bind λx8=>(xR x8.Key).bind λJ=>if(!J)=true then some false else(zE x8.aE).bind λU=>if(!U)=true then some false else if(decide (C>0))=true then(idx j.aI6 (i64.wrap (C-1))).bind λah=>(sS ah.Key x8.Key).bind λai=>if(decide (ai>=0))=true then some false else kO j I (i64.wrap (C+1))else kO j I (i64.wrap (C+1))else(cX j.Name).bind λaj=>if aj=true then if(decide ((List.length j.aI6:Int)<=16))=true then(aZ j.aJa 0 1000000).bind λak=>some ak else some false else some false
def yN(j:M.aD):Option Bool:=
 kO j fuel 0
def xS(C:M.aD)(j:ByteArray):Option Bool:=
 some (C.Name.toList==j.toList)
def dV(C:List M.aD)(I:M.aD->Option Bool):Nat->Int->Option Int
 |0,_=>none
 |J+1,j=>if(decide (j<(List.length C:Int)))=true then(idx C j).bind λx7=>(I x7).bind λU=>if U=true then some j else dV C I J (i64.wrap (j+1))else some (-1)
def nI(j:List M.aD)(C:M.aD->Option Bool):Option Int:=
 dV j C fuel 0
def Aq(j:M.aI2)(C:ByteArray):Option Int:=
 (nI j.aJF (λI=>xS I C)).bind λx1=>some x1
def eC(C:List M.aN)(I:M.aN):Nat->Int->Option Int
 |0,_=>none
 |J+1,j=>if(decide (j<(List.length C:Int)))=true then(idx C j).bind λx8=>if((I.aD.toList==x8.aD.toList)&&(I.Field.toList==x8.Field.toList))=true then some j else eC C I J (i64.wrap (j+1))else some (-1)
def oH(j:List M.aN)(C:M.aN):Option Int:=
 eC j C fuel 0
def kS(j:List M.aN)(C:M.aN):Option Bool:=
 (oH j C).bind λx1=>some (decide (x1>=0))
def Al(C:M.Field)(j:ByteArray):Option Bool:=
 some (C.Name.toList==j.toList)
def dP(C:List M.Field)(I:M.Field->Option Bool):Nat->Int->Option Int
 |0,_=>none
 |J+1,j=>if(decide (j<(List.length C:Int)))=true then(idx C j).bind λx7=>(I x7).bind λU=>if U=true then some j else dP C I J (i64.wrap (j+1))else some (-1)
def nP(j:List M.Field)(C:M.Field->Option Bool):Option Int:=
 dP j C fuel 0
def Ds(j:M.aE)(C:ByteArray):Option Int:=
 (nP j.aI9 (λI=>Al I C)).bind λx1=>some x1
def oK(j:M.aE)(C:ByteArray):Option (Int×Bool):=
 (Ds j C).bind λx1=>if(decide (x1<0))=true then some (0,false)else(idx j.aI9 x1).bind λx4=>some (x4.N,true)
def xW(j:M.aJN)(C:M.aJN)(I:ByteArray):Option Bool:=
 (oK j.aE I).bind λx1=>(oK C.aE I).bind λx3=>if(decide (x1.1<x3.1))=true then some true else if(x1.1==x3.1)=true then(sS j.Key C.Key).bind λx7=>some (decide (x7<0))else some false
def rJ(U:ByteArray)(I:List M.aJN)(J:M.aJN)(C:Int->Option (List M.aJN)):Nat->Int->Option (List M.aJN)
 |0,_=>none
 |ai+1,j=>if(decide (j>0))=true then(idx I (i64.wrap (j-1))).bind λaj=>(xW J aj U).bind λak=>if ak=true then rJ U I J C ai (i64.wrap (j-1))else C j else C j
def nC(I:M.aD)(J:ByteArray):Nat->Int->List M.aJN->Option (List M.aJN)
 |0,_,_=>none
 |ai+1,C,j=>if(decide (C<(List.length I.aI6:Int)))=true then(idx I.aI6 C).bind λah=>(oK ah.aE J).bind λak=>if(!ak.2)=true then nC I J ai (i64.wrap (C+1)) j else rJ J j ah (λ(U:Int)=>(zS ah).bind λaj=>(ND 56 j U ([aj])).bind λal=>nC I J ai (i64.wrap (C+1)) (List.take U.toNat j++([aj]++List.drop U.toNat j))) fuel (List.length j:Int)else some j
def BQ(j:M.aD)(C:ByteArray):Option (List M.aJN):=
 nC j C fuel 0 ([]:List M.aJN)
def fV(C:ByteArray)(x1:(List M.aJN)):Nat->Int->Option (M.Key×M.Key×Bool)
 |0,_=>none
 |U+1,j=>if(decide (j<(List.length x1:Int)))=true then(idx x1 (i64.wrap (j-1))).bind λI=>(oK I.aE C).bind λah=>(idx x1 j).bind λJ=>(oK J.aE C).bind λai=>if(ah.1==ai.1)=true then some (I.Key,J.Key,true)else fV C x1 U (i64.wrap (j+1))else some ((⟨0,0,(⟨#[]⟩:ByteArray)⟩:M.Key),(⟨0,0,(⟨#[]⟩:ByteArray)⟩:M.Key),false)
def lF(C:M.aD)(j:ByteArray):Option (M.Key×M.Key×Bool):=
 (BQ C j).bind λx1=>fV j x1 fuel 1
def fF(j:M.aI2):Nat->Int->Option Bool
 |0,_=>none
 |U+1,C=>if(decide (C<(List.length j.aJO:Int)))=true then(idx j.aJO C).bind λI=>(Aq j I.aD).bind λJ=>if(decide (J<0))=true then some false else(cX I.Field).bind λai=>if(!ai)=true then some false else(Bz j.aJO C).bind λao=>(kS (List.take C.toNat j.aJO) I).bind λaj=>if aj=true then some false else(idx j.aJF J).bind λak=>(lF ak I.Field).bind λal=>if al.2.2=true then some false else fF j U (i64.wrap (C+1))else some true
def fB(C:M.aI2):Nat->Int->Option Bool
 |0,_=>none
 |J+1,j=>if(decide (j<(List.length C.aJF:Int)))=true then(idx C.aJF j).bind λI=>(yN I).bind λai=>if(!ai)=true then some false else if(decide (j>0))=true then(idx C.aJF (i64.wrap (j-1))).bind λU=>if(Op.bytesLess I.Name.toList U.Name.toList||I.Name.toList==U.Name.toList)=true then some false else fB C J (i64.wrap (j+1))else fB C J (i64.wrap (j+1))else fF C fuel 0
def yT(j:M.aI2):Option Bool:=
 (cX j.Name).bind λx1=>if(!x1)=true then some false else(aZ j.aI0 0 1000).bind λx4=>if(!x4)=true then some false else if(decide ((List.length j.aJF:Int)>4))=true then some false else if(decide ((List.length j.aJO:Int)>4))=true then some false else fB j fuel 0
def oZ(j:M.bC):Option Bool:=
 (aZ j.aJA 1 1000000).bind λx1=>if x1=true then(aZ j.Seq 1 1000000).bind λx4=>if x4=true then(xR j.Key).bind λx7=>if x7=true then(cX j.Field).bind λC=>if C=true then(aZ j.N 0 1000000000).bind λI=>some I else some false else some false else some false else some false
def oG(j:M.aK):Nat->Int->Option Bool
 |0,_=>none
 |I+1,C=>if(decide (C<(List.length j.aJM:Int)))=true then(idx j.aJM C).bind λx9=>(oZ x9).bind λJ=>if(!J)=true then some false else if(x9.aJA !=j.aJA)=true then some false else if(x9.Seq !=(i64.wrap ((i64.wrap (j.aJd-(List.length j.aJM:Int)))+C)))=true then some false else oG j I (i64.wrap (C+1))else(aZ j.aJA 1 1000000).bind λU=>if U=true then(aZ j.aJd 1 1000000).bind λai=>if ai=true then some (decide ((List.length j.aJM:Int)<=20))else some false else some false
def A8(j:M.aK):Option Bool:=
 oG j fuel 0
def Az(j:M.aG):Option Bool:=
 (yN j.aJQ).bind λx1=>if x1=true then if(j.aJQ.Name.toList==(⟨#[110,111,116,101,115]⟩:ByteArray).toList)=true then(aZ j.aJm 0 1000000000000).bind λx5=>if x5=true then(A8 j.aJR.aK).bind λx8=>some x8 else some false else some false else some false
def zW(j:M.aI8)(C:Bool):Option Int:=
 if C=true then some 76 else some (i64.wrap (16+(List.length j.aJr:Int)))
def kV(x7:M.aI5)(I:Int->Int->Option Int):Nat->Int->Int->Option Int
 |0,_,_=>none
 |U+1,C,j=>if(decide (j<(List.length x7.aJB:Int)))=true then(idx x7.aJB j).bind λJ=>(zW J.aI8 (J.aI8.aJq==3)).bind λaj=>kV x7 I U (i64.wrap (C+aj)) (i64.wrap (j+1))else I C j
def fE(C:M.aC):Nat->Int->Int->Option Int
 |0,_,_=>none
 |U+1,I,j=>if(decide (j<(List.length C.aI1:Int)))=true then(idx C.aI1 j).bind λx7=>kV x7 (λ(J:Int) (ae:Int)=>fE C U J (i64.wrap (j+1))) fuel I 0 else some I
def zQ(j:M.aC):Option Int:=
 fE j fuel 0 0
def gH(j:M.Key):Nat->Int->List Int->Option (List Int)
 |0,_,_=>none
 |J+1,C,I=>if(decide (C>=0))=true then if(decide (0<=(i64.wrap (8*C))))=true then(app 1 I ([IntKind.u8.wrap (Int.fdiv (i64.wrap (j.N+1000000000000)) (2^(min (i64.wrap (8*C)).toNat IntKind.i64.bits)))])).bind λU=>gH j J (i64.wrap (C-1)) (I++[IntKind.u8.wrap (Int.fdiv (i64.wrap (j.N+1000000000000)) (2^(min (i64.wrap (8*C)).toNat IntKind.i64.bits)))])else none else(app 1 I (bT j.aJb)).bind λah=>some (I++bT j.aJb)
def Ax(j:M.Key):Option (List Int):=
 (xR j).bind λx1=>if(!x1)=true then some ([]:List Int)else if(j.aJS !=2)=true then gH j fuel 5 ([IntKind.u8.wrap j.aJS])else(app 1 ([IntKind.u8.wrap j.aJS]) (bT j.aJb)).bind λC=>some ([IntKind.u8.wrap j.aJS]++bT j.aJb)
def gK  :Nat->Int->List Int->Option (List Int)
 |0,_,_=>none
 |I+1,j,C=>if(decide (j>=128))=true then(app 1 C ([IntKind.u8.wrap (i64.wrap ((Int.tmod j 128)+128))])).bind λJ=>gK I (i64.wrap (Int.tdiv j 128)) (C++[IntKind.u8.wrap (i64.wrap ((Int.tmod j 128)+128))])else(app 1 C ([IntKind.u8.wrap j])).bind λU=>some (C++[IntKind.u8.wrap j])
def kU(C:List Int)(j:Int):Option (List Int):=
 (mB C).bind λx1=>(aZ j 0 1000000000000).bind λx3=>if(!x3)=true then some x1 else gK fuel j x1
def yA(C:List Int)(j:List Int):Option (List Int):=
 (kU C (List.length j:Int)).bind λx1=>(app 1 x1 j).bind λx3=>some (x1++j)
def iD(C:M.aE):Nat->Int->List Int->Option (List Int)
 |0,_,_=>none
 |U+1,j,I=>if(decide (j<(List.length C.aI9:Int)))=true then(idx C.aI9 j).bind λJ=>(yA I (bT J.Name)).bind λai=>(kU ai J.N).bind λaj=>iD C U (i64.wrap (j+1)) aj else some I
def vY(j:M.aE):Option (List Int):=
 (zE j).bind λx1=>if(!x1)=true then some ([]:List Int)else(kU ([]:List Int) (List.length j.aI9:Int)).bind λx4=>iD j fuel 0 x4
def mH(j:M.aD):Nat->Int->Int->Option Int
 |0,_,_=>none
 |J+1,I,C=>if(decide (C<(List.length j.aI6:Int)))=true then(idx j.aI6 C).bind λx7=>(Ax x7.Key).bind λU=>(vY x7.aE).bind λaf=>mH j J (i64.wrap (I+(i64.wrap ((List.length U:Int)+(List.length af:Int))))) (i64.wrap (C+1))else some I
def wZ(j:M.aD):Option Int:=
 mH j fuel 0 0
def iA(j:M.aI2):Nat->Int->Int->Option Int
 |0,_,_=>none
 |J+1,I,C=>if(decide (C<(List.length j.aJF:Int)))=true then(idx j.aJF C).bind λx7=>(wZ x7).bind λU=>iA j J (i64.wrap (I+U)) (i64.wrap (C+1))else some I
def vV(j:M.aI2):Option Int:=
 iA j fuel 0 0
def CD(j:M.bR):Option Int:=
 (vV j.aJQ).bind λx1=>some (i64.wrap (x1+(List.length j.Log:Int)))
def BP(j:M.aI3):Option Int:=
 (zQ j.aI1).bind λx1=>(CD j.bR).bind λx3=>(wZ j.aG.aJQ).bind λx5=>some (i64.wrap ((i64.wrap ((i64.wrap (x1+x3))+x5))+(i64.wrap (40*(List.length j.aG.aJR.aK.aJM:Int)))))
def sD(j:M.aI3):Option Bool:=
 (cX j.aI7).bind λx1=>if x1=true then(cX j.Top).bind λx4=>if x4=true then(gA j.aIz).bind λx7=>if x7=true then if(j.aIz.aI7.toList==j.aI7.toList)=true then(cR j.aI1).bind λC=>if C=true then(yT j.bR.aJQ).bind λI=>if I=true then(Az j.aG).bind λJ=>if J=true then(aZ j.aJc 0 1000000000000).bind λU=>if U=true then(BP j).bind λai=>some (decide (ai<=2500))else some false else some false else some false else some false else some false else some false else some false else some false
def rR(j:M.aI3)(C:M.aI3):Option Bool:=
 if(Op.bytesLess j.aI7.toList C.aI7.toList)=true then some true else if(j.aI7.toList==C.aI7.toList)=true then some (Op.bytesLess j.Top.toList C.Top.toList)else some false
def gL(j:M.aA):Nat->Int->Option Bool
 |0,_=>none
 |I+1,C=>if(decide (C<(List.length j.aI4:Int)))=true then(idx j.aI4 C).bind λx8=>(sD x8).bind λJ=>if(!J)=true then some false else if(decide (C>0))=true then(idx j.aI4 (i64.wrap (C-1))).bind λU=>(rR U x8).bind λah=>if(!ah)=true then some false else gL j I (i64.wrap (C+1))else gL j I (i64.wrap (C+1))else some (decide ((List.length j.aI4:Int)<=9))
def cW(j:M.aA):Option Bool:=
 gL j fuel 0
def yV(j:ByteArray):Option Bool:=
 (Bq j 30 true).bind λx1=>some x1
def dA(I:M.aQ)(j:Int)(x8:M.mV)(J:Int->Option Bool):Nat->Int->Option Bool
 |0,_=>none
 |U+1,C=>if(decide (C<(List.length (List.take j.toNat I.aJJ):Int)))=true then(idx (List.take j.toNat I.aJJ) C).bind λah=>if(ah.Name.toList==x8.Name.toList)=true then if x8.aJx=true then if(!ah.aJx)=true then some false else if(!x8.aJf)=true then some false else if(!ah.aJf)=true then some false else dA I j x8 J U (i64.wrap (C+1))else dA I j x8 J U (i64.wrap (C+1))else dA I j x8 J U (i64.wrap (C+1))else J C
def fY(C:M.aQ):Nat->Int->Option Bool
 |0,_=>none
 |I+1,j=>if(decide (j<(List.length C.aJJ:Int)))=true then(idx C.aJJ j).bind λx8=>(yV x8.Name).bind λJ=>if(!J)=true then some false else(aZ x8.bG 1 1000000000000).bind λU=>if(!U)=true then some false else(Bz C.aJJ j).bind λai=>dA C j x8 (λ(aa:Int)=>fY C I (i64.wrap (j+1))) fuel 0 else some (decide ((List.length C.aJJ:Int)<=12))
def xP(j:M.aQ):Option Bool:=
 fY j fuel 0
def tU(j:M.bG):Nat->Int->Option Bool
 |0,_=>none
 |I+1,C=>if(decide (C<(List.length j.aV:Int)))=true then(idx j.aV C).bind λx8=>(cX x8.aJk).bind λJ=>if(!J)=true then some false else if(x8.aI0 !=j.aI0)=true then some false else tU j I (i64.wrap (C+1))else(aZ j.Id 1 1000000000000).bind λU=>if U=true then(cX j.aI7).bind λah=>if ah=true then(cX j.Top).bind λai=>if ai=true then(aZ j.aI0 1 1000000000000).bind λaj=>if aj=true then some (decide ((List.length j.aV:Int)<=8))else some false else some false else some false else some false
def CY(j:M.bG):Option Bool:=
 tU j fuel 0
def lZ(j:M.aI7):Nat->Int->Option Bool
 |0,_=>none
 |I+1,C=>if(decide (C<(List.length j.aJW:Int)))=true then(idx j.aJW C).bind λx8=>(cX x8).bind λU=>if(!U)=true then some false else if(decide (C>0))=true then(idx j.aJW (i64.wrap (C-1))).bind λJ=>if(Op.bytesLess x8.toList J.toList||x8.toList==J.toList)=true then some false else lZ j I (i64.wrap (C+1))else lZ j I (i64.wrap (C+1))else(cX j.Name).bind λah=>if ah=true then(aZ j.aI0 1 1000000000000).bind λai=>if ai=true then(aZ (List.length j.aJW:Int) 1 6).bind λaj=>some aj else some false else some false
def uK(j:M.aI7):Option Bool:=
 lZ j fuel 0
def lE(j:M.aJC):Nat->Int->Option Bool
 |0,_=>none
 |I+1,C=>if(decide (C<(List.length j.aJU:Int)))=true then(idx j.aJU C).bind λJ=>(oZ J).bind λU=>if(!U)=true then some false else lE j I (i64.wrap (C+1))else(yN j.aD).bind λai=>if ai=true then if(j.aD.Name.toList==(⟨#[110,111,116,101,115]⟩:ByteArray).toList)=true then some (decide ((List.length j.aP:Int)<=60))else some false else some false
def iH(C:M.aJC):Nat->Int->Option Bool
 |0,_=>none
 |I+1,j=>if(decide (j<(List.length C.aP:Int)))=true then(idx C.aP j).bind λx8=>(aZ x8.aJA 1 1000000).bind λJ=>if(!J)=true then some false else(aZ x8.Seq 0 1000000).bind λU=>if(!U)=true then some false else if(decide (j>0))=true then(idx C.aP (i64.wrap (j-1))).bind λah=>if(decide (x8.aJA<=ah.aJA))=true then some false else iH C I (i64.wrap (j+1))else iH C I (i64.wrap (j+1))else lE C fuel 0
def Bf(j:M.aJC):Option Bool:=
 iH j fuel 0
def kI(C:M.World):Nat->Int->Option Bool
 |0,_=>none
 |J+1,j=>if(decide (j<(List.length C.aJL:Int)))=true then(idx C.aJL j).bind λI=>(uK I).bind λU=>if(!U)=true then some false else(pZ I.Name).bind λai=>if(ai !=j)=true then some false else(idx C.aJK j).bind λaj=>(Bf aj).bind λak=>if(!ak)=true then some false else kI C J (i64.wrap (j+1))else some true
def fI(j:M.World):Nat->Int->Option Bool
 |0,_=>none
 |J+1,I=>if(decide (I<(List.length j.aJI:Int)))=true then(idx j.aJI I).bind λC=>(CY C).bind λU=>if(!U)=true then some false else if(decide (C.Id>=j.aJG))=true then some false else if(decide (I>0))=true then(idx j.aJI (i64.wrap (I-1))).bind λai=>if(decide (C.Id<=ai.Id))=true then some false else(nD j.aA C.aI7 C.Top).bind λaj=>if(decide (aj<0))=true then some false else fI j J (i64.wrap (I+1))else(nD j.aA C.aI7 C.Top).bind λak=>if(decide (ak<0))=true then some false else fI j J (i64.wrap (I+1))else kI j fuel 0
def uP(j:M.World):Option Bool:=
 (aZ j.Now 0 999999990000).bind λx1=>if(!x1)=true then some false else(aZ j.aJA 1 1000000).bind λx4=>if(!x4)=true then some false else(cW j.aA).bind λx7=>if(!x7)=true then some false else if(decide ((List.length j.aJI:Int)>6))=true then some false else(aZ j.aJG 1 1000000000000).bind λC=>if(!C)=true then some false else(xP j.aJJ).bind λI=>if(!I)=true then some false else if((List.length j.aJL:Int) !=3)=true then some false else if((List.length j.aJK:Int) !=3)=true then some false else fI j fuel 0
def uA(j:M.aIz):Option Int:=
 some (if j.aJP>(if j.aJT>j.aJX then j.aJT else j.aJX)then j.aJP else if j.aJT>j.aJX then j.aJT else j.aJX)
def vT(j:M.aIz)(C:Int):Option (M.aIz×Bool):=
 (gA j).bind λx1=>if(!x1)=true then some (j,false)else if(decide (C<1))=true then some (j,false)else if(j.aJP !=0)=true then some (j,false)else(gA (⟨j.aI7,C,j.aJT,j.aJX⟩:M.aIz)).bind λx6=>if(!x6)=true then some (j,false)else some ((⟨j.aI7,C,j.aJT,j.aJX⟩:M.aIz),true)
def pE(j:M.aI7)(C:Int):Option Bool:=
 (uK j).bind λx1=>if x1=true then if(decide (C>(i64.wrap (j.aI0-2))))=true then if(decide (C<=j.aI0))=true then some (decide (C>=1))else some false else some false else some false
def mO(I:M.aC)(C:Int)(x1:M.aC):Nat->Int->Option (M.aC×Bool)
 |0,_=>none
 |J+1,j=>if(decide (j<(List.length x1.aI1:Int)))=true then(idx x1.aI1 j).bind λU=>if(decide (U.aI0<C))=true then mO I C x1 J (i64.wrap (j+1))else(ND 32 x1.aI1 j ([(⟨C,([]:List M.aJE)⟩:M.aI5)])).bind λar=>(cR I).bind λaf=>if(!af)=true then(bB I).bind λah=>some (ah,false)else(cR (⟨List.take j.toNat x1.aI1++([(⟨C,([]:List M.aJE)⟩:M.aI5)]++List.drop j.toNat x1.aI1)⟩:M.aC)).bind λai=>if(!ai)=true then(bB I).bind λaj=>some (aj,false)else some ((⟨List.take j.toNat x1.aI1++([(⟨C,([]:List M.aJE)⟩:M.aI5)]++List.drop j.toNat x1.aI1)⟩:M.aC),true)else(ND 32 x1.aI1 j ([(⟨C,([]:List M.aJE)⟩:M.aI5)])).bind λav=>(cR I).bind λak=>if(!ak)=true then(bB I).bind λal=>some (al,false)else(cR (⟨List.take j.toNat x1.aI1++([(⟨C,([]:List M.aJE)⟩:M.aI5)]++List.drop j.toNat x1.aI1)⟩:M.aC)).bind λao=>if(!ao)=true then(bB I).bind λaq=>some (aq,false)else some ((⟨List.take j.toNat x1.aI1++([(⟨C,([]:List M.aJE)⟩:M.aI5)]++List.drop j.toNat x1.aI1)⟩:M.aC),true)
def Ar(j:M.aC)(C:Int):Option (M.aC×Bool):=
 (bB j).bind λx1=>mO j C x1 fuel 0
def kW  :Option M.aI8:=
 some (⟨4,0,0,([]:List Int),false⟩:M.aI8)
def sP(j:List ByteArray)(C:ByteArray):Option Bool:=
 (nM j C).bind λx1=>some (decide (x1>=0))
def BR(j:M.aI7)(C:ByteArray):Option Bool:=
 (sP j.aJW C).bind λx1=>some x1
def iX(C:List Int):Nat->Int->List Int->Option (List Int)
 |0,_,_=>none
 |U+1,j,I=>if(decide (j<(List.length C:Int)))=true then(idx C j).bind λJ=>(app 8 I ([i64.wrap J])).bind λaf=>iX C U (i64.wrap (j+1)) (I++[i64.wrap J])else some I
def yD(j:List Int):Option (List Int):=
 iX j fuel 0 ([(List.length j:Int)])
def FC(C:Int)(j:Int):Option Int:=
 (aZ j 1 1000000000000).bind λx1=>if(!x1)=true then some 0 else if(decide (j=0))=true then none else if(decide ((Int.tmod C j)<0))=true then some (i64.wrap ((Int.tmod C j)+j))else some (Int.tmod C j)
def yO(j:List Int):Nat->Int->Int->Option Int
 |0,_,_=>none
 |J+1,I,C=>if(decide (C<(List.length j:Int)))=true then(idx j C).bind λx7=>(FC x7 2147483647).bind λU=>yO j J (Int.tmod (i64.wrap ((i64.wrap ((i64.wrap (I*1000003))+U))+13)) 2147483647) (i64.wrap (C+1))else some I
def Es(j:List Int):Option Int:=
 yO j fuel 11 0
def xF(j:Int)(C:List Int):Option Int:=
 (app 8 ([j]) C).bind λx1=>(app 8 ([j]++C) ([j])).bind λx3=>(Es (([j]++C)++[j])).bind λx5=>some x5
def kQ(j:Int)(C:ByteArray):Option Int:=
 (yD (bT C)).bind λx1=>(xF j x1).bind λx3=>if(x3==0)=true then some 1 else some x3
def bX(x5:Int):Nat->Int->List Int->Option (List Int)
 |0,_,_=>none
 |I+1,j,C=>if(decide (j>=0))=true then if(decide (0<=(i64.wrap (8*j))))=true then(app 1 C ([IntKind.u8.wrap (Int.fdiv x5 (2^(min (i64.wrap (8*j)).toNat IntKind.i64.bits)))])).bind λJ=>bX x5 I (i64.wrap (j-1)) (C++[IntKind.u8.wrap (Int.fdiv x5 (2^(min (i64.wrap (8*j)).toNat IntKind.i64.bits)))])else none else some C
def Aj(j:M.aI7)(C:ByteArray)(I:Int):Option (List Int):=
 (kQ 107 j.Name).bind λx1=>(kQ 109 C).bind λx3=>(xF (i64.wrap (1+I)) ([103,x1,x3])).bind λx5=>bX x5 fuel 5 ([]:List Int)
def xC(j:M.aI7)(I:ByteArray)(C:Int):Option M.aI8:=
 (uK j).bind λx1=>(if(!x1)=true then((kW).bind λx4=>(some x4))else((pE j C).bind λx6=>(if(!x6)=true then(some (⟨1,404,j.aI0,([]:List Int),false⟩:M.aI8))else((BR j I).bind λx9=>(if(!x9)=true then(some (⟨1,404,j.aI0,([]:List Int),false⟩:M.aI8))else((Aj j I C).bind λJ=>(some (⟨1,200,C,J,j.aJf⟩:M.aI8))))))))
def xU(C:M.aI5)(j:Int):Option Bool:=
 some (C.aI0==j)
def dU(C:List M.aI5)(I:M.aI5->Option Bool):Nat->Int->Option Int
 |0,_=>none
 |J+1,j=>if(decide (j<(List.length C:Int)))=true then(idx C j).bind λx7=>(I x7).bind λU=>if U=true then some j else dU C I J (i64.wrap (j+1))else some (-1)
def nG(j:List M.aI5)(C:M.aI5->Option Bool):Option Int:=
 dU j C fuel 0
def tQ(j:M.aC)(C:Int):Option Int:=
 (nG j.aI1 (λI=>xU I C)).bind λx1=>some x1
def uB(j:M.aC)(p1:Int)(J:ByteArray)(U:ByteArray)(p4:M.aI8):Option (M.aC×Bool):=
 (bB j).bind λx1=>(tQ j p1).bind λx3=>if(decide (x3<0))=true then some (x1,false)else(idx x1.aI1 x3).bind λx6=>(nW x6 J U).bind λC=>if(decide (C>=0))=true then(gI p4).bind λah=>(idx x6.aJB C).bind λI=>(cR j).bind λai=>if(!ai)=true then(bB j).bind λaj=>some (aj,false)else(cR (⟨List.set x1.aI1 x3.toNat (⟨x6.aI0,List.set x6.aJB C.toNat (⟨I.aI7,I.aJk,ah⟩:M.aJE)⟩:M.aI5)⟩:M.aC)).bind λak=>if(!ak)=true then(bB j).bind λal=>some (al,false)else some ((⟨List.set x1.aI1 x3.toNat (⟨x6.aI0,List.set x6.aJB C.toNat (⟨I.aI7,I.aJk,ah⟩:M.aJE)⟩:M.aI5)⟩:M.aC),true)else(gI p4).bind λaf=>(app 88 x6.aJB ([(⟨J,U,af⟩:M.aJE)])).bind λaw=>(cR j).bind λao=>if(!ao)=true then(bB j).bind λaq=>some (aq,false)else(cR (⟨List.set x1.aI1 x3.toNat (⟨x6.aI0,x6.aJB++[(⟨J,U,af⟩:M.aJE)]⟩:M.aI5)⟩:M.aC)).bind λar=>if(!ar)=true then(bB j).bind λav=>some (av,false)else some ((⟨List.set x1.aI1 x3.toNat (⟨x6.aI0,x6.aJB++[(⟨J,U,af⟩:M.aJE)]⟩:M.aI5)⟩:M.aC),true)
def dW(p0:M.aC)(C:M.aI7)(J:Int):Nat->Bool->Int->List M.aI5->Option (M.aC×Bool)
 |0,_,_,_=>none
 |af+1,j,I,U=>if(decide (I<(List.length C.aJW:Int)))=true then(idx C.aJW I).bind λah=>if j=true then(xC C ah J).bind λaj=>(uB (⟨U⟩:M.aC) J C.Name ah aj).bind λai=>dW p0 C J af ai.2 (i64.wrap (I+1)) ai.1.aI1 else dW p0 C J af j (i64.wrap (I+1)) U else if(!j)=true then(bB p0).bind λak=>some (ak,false)else some ((⟨U⟩:M.aC),true)
def vX(j:M.aC)(I:M.aI7)(C:Int)(J:Bool):Option (M.aC×Bool):=
 if(!J)=true then(bB j).bind λx2=>some (x2,false)else(pE I C).bind λx4=>if(!x4)=true then(bB j).bind λx7=>some (x7,false)else(Ar j C).bind λx9=>dW j I C fuel x9.2 0 x9.1.aI1
def yU(j:M.aIz)(C:Bool):Option (M.aIz×Int):=
 (gA j).bind λx1=>if(!x1)=true then some (j,0)else if(j.aJP==0)=true then some (j,0)else if C=true then some ((⟨j.aI7,0,j.aJP,j.aJX⟩:M.aIz),j.aJT)else some ((⟨j.aI7,0,j.aJT,j.aJX⟩:M.aIz),j.aJP)
def wX(j:M.aC)(C:Int):Option (M.aC×Bool):=
 (bB j).bind λx1=>(tQ j C).bind λx3=>if(decide (x3<0))=true then some (x1,false)else(VJ x1.aI1 x3 (i64.wrap (x3+1))).bind λx6=>some ((⟨List.take x3.toNat x1.aI1++List.drop (i64.wrap (x3+1)).toNat x1.aI1⟩:M.aC),true)
def uC(j:M.aI3)(C:M.aI3):Option (M.aI3×Bool):=
 (sD j).bind λx1=>if(!x1)=true then(eE j).bind λx4=>some (x4,false)else(sD C).bind λx6=>if(!x6)=true then(eE j).bind λx9=>some (x9,false)else(eE C).bind λI=>some (I,true)
def uG(j:M.aI3)(C:M.aC)(I:M.aIz):Option (M.aI3×Bool):=
 (uC j (⟨j.aI7,j.Top,I,C,j.bR,j.aG,j.aJc,j.aJZ⟩:M.aI3)).bind λx1=>some (x1.1,x1.2)
def mR(C:M.aA)(I:M.aI3)(x1:M.aA):Nat->Int->Option (M.aA×Bool)
 |0,_=>none
 |af+1,j=>if(decide (j<(List.length x1.aI4:Int)))=true then(idx x1.aI4 j).bind λah=>(rR ah I).bind λai=>if ai=true then mR C I x1 af (i64.wrap (j+1))else(eE I).bind λJ=>(ND 328 x1.aI4 j ([J])).bind λax=>(cW C).bind λaj=>if(!aj)=true then(cQ C).bind λak=>some (ak,false)else(cW (⟨List.take j.toNat x1.aI4++([J]++List.drop j.toNat x1.aI4)⟩:M.aA)).bind λal=>if(!al)=true then(cQ C).bind λao=>some (ao,false)else some ((⟨List.take j.toNat x1.aI4++([J]++List.drop j.toNat x1.aI4)⟩:M.aA),true)else(eE I).bind λU=>(ND 328 x1.aI4 j ([U])).bind λay=>(cW C).bind λaq=>if(!aq)=true then(cQ C).bind λar=>some (ar,false)else(cW (⟨List.take j.toNat x1.aI4++([U]++List.drop j.toNat x1.aI4)⟩:M.aA)).bind λav=>if(!av)=true then(cQ C).bind λaw=>some (aw,false)else some ((⟨List.take j.toNat x1.aI4++([U]++List.drop j.toNat x1.aI4)⟩:M.aA),true)
def Ap(j:M.aA)(C:M.aI3):Option (M.aA×Bool):=
 (cQ j).bind λx1=>(nD j C.aI7 C.Top).bind λx3=>if(decide (x3>=0))=true then(eE C).bind λx6=>(idx x1.aI4 x3).bind λx8=>(cW j).bind λI=>if(!I)=true then(cQ j).bind λJ=>some (J,false)else(cW (⟨List.set x1.aI4 x3.toNat x6⟩:M.aA)).bind λU=>if(!U)=true then(cQ j).bind λah=>some (ah,false)else some ((⟨List.set x1.aI4 x3.toNat x6⟩:M.aA),true)else mR j C x1 fuel 0
def gX(j:M.World)(C:M.aI3)(I:M.aC)(J:M.aIz):Option (M.World×Bool):=
 (pJ j).bind λx1=>(uG C I J).bind λx3=>(Ap x1.aA x3.1).bind λx5=>if(!x3.2)=true then some (x1,false)else if(!x5.2)=true then some (x1,false)else some ((⟨x1.Now,x1.aJV,x1.aJA,x5.1,x1.aJI,x1.aJG,x1.aJJ,x1.aJD,x1.aJL,x1.aJK⟩:M.World),true)
def rO(j:M.World)(p1:ByteArray)(p2:ByteArray):Option (M.World×Bool):=
 (pJ j).bind λx1=>(gR j p1 p2).bind λx3=>(CM j p1).bind λx5=>(uP j).bind λx7=>if(!x7)=true then some (x1,false)else if(!x3.2)=true then some (x1,false)else(uA x3.1.aIz).bind λaj=>if(decide (x5.aI0<=aj))=true then some (x1,false)else(vT x3.1.aIz x5.aI0).bind λJ=>if(!J.2)=true then some (x1,false)else(vX x3.1.aI1 x5 x5.aI0 j.aJV).bind λC=>(yU J.1 C.2).bind λI=>if(I.2 !=0)=true then(wX C.1 I.2).bind λak=>(gX j x3.1 ak.1 I.1).bind λU=>if(!U.2)=true then some (x1,false)else some (U.1,C.2)else(gX j x3.1 C.1 I.1).bind λai=>if(!ai.2)=true then some (x1,false)else some (ai.1,C.2)
def eO(C:List M.aI3)(I:List M.aI3)(J:M.aI3->M.aI3->Option Bool):Nat->Int->Option Bool
 |0,_=>none
 |U+1,j=>if(decide (j<(List.length C:Int)))=true then(idx C j).bind λx9=>(idx I j).bind λaf=>(J x9 af).bind λah=>if(!ah)=true then some false else eO C I J U (i64.wrap (j+1))else some true
def lR(j:List M.aI3)(C:List M.aI3)(I:M.aI3->M.aI3->Option Bool):Option Bool:=
 if((List.length j:Int) !=(List.length C:Int))=true then some false else eO j C I fuel 0
def fN(C:List M.aI5)(I:List M.aI5)(J:M.aI5->M.aI5->Option Bool):Nat->Int->Option Bool
 |0,_=>none
 |U+1,j=>if(decide (j<(List.length C:Int)))=true then(idx C j).bind λx9=>(idx I j).bind λaf=>(J x9 af).bind λah=>if(!ah)=true then some false else fN C I J U (i64.wrap (j+1))else some true
def nF(j:List M.aI5)(C:List M.aI5)(I:M.aI5->M.aI5->Option Bool):Option Bool:=
 if((List.length j:Int) !=(List.length C:Int))=true then some false else fN j C I fuel 0
def eP(C:List M.aJE)(I:List M.aJE)(J:M.aJE->M.aJE->Option Bool):Nat->Int->Option Bool
 |0,_=>none
 |U+1,j=>if(decide (j<(List.length C:Int)))=true then(idx C j).bind λx9=>(idx I j).bind λaf=>(J x9 af).bind λah=>if(!ah)=true then some false else eP C I J U (i64.wrap (j+1))else some true
def lP(j:List M.aJE)(C:List M.aJE)(I:M.aJE->M.aJE->Option Bool):Option Bool:=
 if((List.length j:Int) !=(List.length C:Int))=true then some false else eP j C I fuel 0
def lJ(C:List Int)(I:List Int):Nat->Int->Option Bool
 |0,_=>none
 |J+1,j=>if(decide (j<(List.length C:Int)))=true then(idx C j).bind λx8=>(idx I j).bind λU=>if(x8 !=U)=true then some false else lJ C I J (i64.wrap (j+1))else some true
def wH(j:List Int)(C:List Int):Option Bool:=
 if((List.length j:Int) !=(List.length C:Int))=true then some false else lJ j C fuel 0
def uW(j:List Int)(C:List Int):Option Bool:=
 (wH j C).bind λx1=>some x1
def sH(j:M.aI8)(C:M.aI8):Option Bool:=
 if(j.aJq==C.aJq)=true then if(j.aJn==C.aJn)=true then if(j.aI0==C.aI0)=true then(uW j.aJr C.aJr).bind λx4=>if x4=true then some (j.aJu==C.aJu)else some false else some false else some false else some false
def sQ(j:M.aJE)(C:M.aJE):Option Bool:=
 if(j.aI7.toList==C.aI7.toList)=true then if(j.aJk.toList==C.aJk.toList)=true then(sH j.aI8 C.aI8).bind λx3=>some x3 else some false else some false
def tC(j:M.aI5)(C:M.aI5):Option Bool:=
 if(j.aI0==C.aI0)=true then(lP j.aJB C.aJB (λI J=>sQ I J)).bind λx2=>some x2 else some false
def rZ(j:M.aC)(C:M.aC):Option Bool:=
 (nF j.aI1 C.aI1 (λI J=>tC I J)).bind λx1=>some x1
def fJ(C:List M.aD)(I:List M.aD)(J:M.aD->M.aD->Option Bool):Nat->Int->Option Bool
 |0,_=>none
 |U+1,j=>if(decide (j<(List.length C:Int)))=true then(idx C j).bind λx9=>(idx I j).bind λaf=>(J x9 af).bind λah=>if(!ah)=true then some false else fJ C I J U (i64.wrap (j+1))else some true
def nS(j:List M.aD)(C:List M.aD)(I:M.aD->M.aD->Option Bool):Option Bool:=
 if((List.length j:Int) !=(List.length C:Int))=true then some false else fJ j C I fuel 0
def gC(C:List M.aJN)(I:List M.aJN)(J:M.aJN->M.aJN->Option Bool):Nat->Int->Option Bool
 |0,_=>none
 |U+1,j=>if(decide (j<(List.length C:Int)))=true then(idx C j).bind λx9=>(idx I j).bind λaf=>(J x9 af).bind λah=>if(!ah)=true then some false else gC C I J U (i64.wrap (j+1))else some true
def oC(j:List M.aJN)(C:List M.aJN)(I:M.aJN->M.aJN->Option Bool):Option Bool:=
 if((List.length j:Int) !=(List.length C:Int))=true then some false else gC j C I fuel 0
def kP(C:List M.Field)(J:List M.Field):Nat->Int->Option Bool
 |0,_=>none
 |U+1,j=>if(decide (j<(List.length C:Int)))=true then(idx C j).bind λx8=>(idx J j).bind λI=>if(!((x8.Name.toList==I.Name.toList)&&(x8.N==I.N)))=true then some false else kP C J U (i64.wrap (j+1))else some true
def uF(j:List M.Field)(C:List M.Field):Option Bool:=
 if((List.length j:Int) !=(List.length C:Int))=true then some false else kP j C fuel 0
def vU(j:M.aE)(C:M.aE):Option Bool:=
 (uF j.aI9 C.aI9).bind λx1=>some x1
def vD(j:M.aJN)(C:M.aJN):Option Bool:=
 if((j.Key.aJS==C.Key.aJS)&&((j.Key.N==C.Key.N)&&(j.Key.aJb.toList==C.Key.aJb.toList)))=true then(vU j.aE C.aE).bind λx2=>some x2 else some false
def iE(j:M.aD)(C:M.aD):Option Bool:=
 if(j.Name.toList==C.Name.toList)=true then if(j.aJa==C.aJa)=true then(oC j.aI6 C.aI6 (λI J=>vD I J)).bind λx3=>some x3 else some false else some false
def gB(C:List M.aN)(J:List M.aN):Nat->Int->Option Bool
 |0,_=>none
 |U+1,j=>if(decide (j<(List.length C:Int)))=true then(idx C j).bind λx8=>(idx J j).bind λI=>if(!((x8.aD.toList==I.aD.toList)&&(x8.Field.toList==I.Field.toList)))=true then some false else gB C J U (i64.wrap (j+1))else some true
def oR(j:List M.aN)(C:List M.aN):Option Bool:=
 if((List.length j:Int) !=(List.length C:Int))=true then some false else gB j C fuel 0
def sG(j:M.aI2)(C:M.aI2):Option Bool:=
 if(j.Name.toList==C.Name.toList)=true then if(j.aI0==C.aI0)=true then(nS j.aJF C.aJF (λI J=>iE I J)).bind λx3=>if x3=true then(oR j.aJO C.aJO).bind λx6=>some x6 else some false else some false else some false
def zF(j:M.bR)(C:M.bR):Option Bool:=
 (sG j.aJQ C.aJQ).bind λx1=>if x1=true then(uW j.Log C.Log).bind λx4=>if x4=true then some (j.aJi==C.aJi)else some false else some false
def kF(I:List M.bC)(J:List M.bC):Nat->Int->Option Bool
 |0,_=>none
 |U+1,C=>if(decide (C<(List.length I:Int)))=true then(idx I C).bind λx8=>(idx J C).bind λj=>if(!((x8.aJA==j.aJA)&&((x8.Seq==j.Seq)&&((x8.Key.aJS==j.Key.aJS)&&((x8.Key.N==j.Key.N)&&((x8.Key.aJb.toList==j.Key.aJb.toList)&&((x8.Field.toList==j.Field.toList)&&(x8.N==j.N))))))))=true then some false else kF I J U (i64.wrap (C+1))else some true
def pB(j:List M.bC)(C:List M.bC):Option Bool:=
 if((List.length j:Int) !=(List.length C:Int))=true then some false else kF j C fuel 0
def uI(j:M.aK)(C:M.aK):Option Bool:=
 if(j.aJA==C.aJA)=true then if(j.aJd==C.aJd)=true then(pB j.aJM C.aJM).bind λx3=>some x3 else some false else some false
def zU(j:M.aJR)(C:M.aJR):Option Bool:=
 (uI j.aK C.aK).bind λx1=>if x1=true then if(j.aJh==C.aJh)=true then some (j.aJY==C.aJY)else some false else some false
def tX(j:M.aG)(C:M.aG):Option Bool:=
 (iE j.aJQ C.aJQ).bind λx1=>if x1=true then if(j.aJm==C.aJm)=true then(zU j.aJR C.aJR).bind λx5=>some x5 else some false else some false
def rG(j:M.aI3)(C:M.aI3):Option Bool:=
 if(j.aI7.toList==C.aI7.toList)=true then if(j.Top.toList==C.Top.toList)=true then if((j.aIz.aI7.toList==C.aIz.aI7.toList)&&((j.aIz.aJP==C.aIz.aJP)&&((j.aIz.aJT==C.aIz.aJT)&&(j.aIz.aJX==C.aIz.aJX))))=true then(rZ j.aI1 C.aI1).bind λx4=>if x4=true then(zF j.bR C.bR).bind λx7=>if x7=true then(tX j.aG C.aG).bind λI=>if I=true then if(j.aJc==C.aJc)=true then some (j.aJZ==C.aJZ)else some false else some false else some false else some false else some false else some false else some false
def uE(j:M.aA)(C:M.aA):Option Bool:=
 (lR j.aI4 C.aI4 (λI J=>rG I J)).bind λx1=>some x1
def gE(C:List M.bG)(I:List M.bG)(J:M.bG->M.bG->Option Bool):Nat->Int->Option Bool
 |0,_=>none
 |U+1,j=>if(decide (j<(List.length C:Int)))=true then(idx C j).bind λx9=>(idx I j).bind λaf=>(J x9 af).bind λah=>if(!ah)=true then some false else gE C I J U (i64.wrap (j+1))else some true
def oA(j:List M.bG)(C:List M.bG)(I:M.bG->M.bG->Option Bool):Option Bool:=
 if((List.length j:Int) !=(List.length C:Int))=true then some false else gE j C I fuel 0
def iM(C:List M.aV)(J:List M.aV):Nat->Int->Option Bool
 |0,_=>none
 |U+1,j=>if(decide (j<(List.length C:Int)))=true then(idx C j).bind λx8=>(idx J j).bind λI=>if(!((x8.aJk.toList==I.aJk.toList)&&(x8.aI0==I.aI0)))=true then some false else iM C J U (i64.wrap (j+1))else some true
def sA(j:List M.aV)(C:List M.aV):Option Bool:=
 if((List.length j:Int) !=(List.length C:Int))=true then some false else iM j C fuel 0
def kL(I:List M.Instr)(J:List M.Instr):Nat->Int->Option Bool
 |0,_=>none
 |U+1,j=>if(decide (j<(List.length I:Int)))=true then(idx I j).bind λx8=>(idx J j).bind λC=>if(!((x8.aJS==C.aJS)&&((x8.R==C.R)&&((x8.N==C.N)&&(x8.aJb.toList==C.aJb.toList)))))=true then some false else kL I J U (i64.wrap (j+1))else some true
def tZ(j:List M.Instr)(C:List M.Instr):Option Bool:=
 if((List.length j:Int) !=(List.length C:Int))=true then some false else kL j C fuel 0
def nJ(C:List Int)(I:List Int):Nat->Int->Option Bool
 |0,_=>none
 |J+1,j=>if(decide (j<(List.length C:Int)))=true then(idx C j).bind λx8=>(idx I j).bind λU=>if(x8 !=U)=true then some false else nJ C I J (i64.wrap (j+1))else some true
def xY(j:List Int)(C:List Int):Option Bool:=
 if((List.length j:Int) !=(List.length C:Int))=true then some false else nJ j C fuel 0
def tW(j:M.aJH)(C:M.aJH):Option Bool:=
 (tZ j.aJj C.aJj).bind λx1=>if x1=true then if(j.Pc==C.Pc)=true then(xY j.aJt C.aJt).bind λx5=>if x5=true then if(j.aJp==C.aJp)=true then if(j.aJy==C.aJy)=true then some (j.aJ0==C.aJ0)else some false else some false else some false else some false else some false
def gS(j:M.bG)(C:M.bG):Option Bool:=
 if(j.Id==C.Id)=true then if(j.aI7.toList==C.aI7.toList)=true then if(j.Top.toList==C.Top.toList)=true then if(j.aI0==C.aI0)=true then(sA j.aV C.aV).bind λx5=>if x5=true then(tW j.aJH C.aJH).bind λx8=>some x8 else some false else some false else some false else some false else some false
def lL(I:List M.mV)(J:List M.mV):Nat->Int->Option Bool
 |0,_=>none
 |U+1,j=>if(decide (j<(List.length I:Int)))=true then(idx I j).bind λx8=>(idx J j).bind λC=>if(!((x8.Name.toList==C.Name.toList)&&((x8.bG==C.bG)&&((x8.aJf==C.aJf)&&(x8.aJx==C.aJx)))))=true then some false else lL I J U (i64.wrap (j+1))else some true
def wA(j:List M.mV)(C:List M.mV):Option Bool:=
 if((List.length j:Int) !=(List.length C:Int))=true then some false else lL j C fuel 0
def lK(I:List M.AP)(J:List M.AP):Nat->Int->Option Bool
 |0,_=>none
 |U+1,j=>if(decide (j<(List.length I:Int)))=true then(idx I j).bind λx8=>(idx J j).bind λC=>if(!((x8.To==C.To)&&((x8.aJ2==C.aJ2)&&(x8.N==C.N))))=true then some false else lK I J U (i64.wrap (j+1))else some true
def wK(j:List M.AP)(C:List M.AP):Option Bool:=
 if((List.length j:Int) !=(List.length C:Int))=true then some false else lK j C fuel 0
def gD(C:List M.aI7)(I:List M.aI7)(J:M.aI7->M.aI7->Option Bool):Nat->Int->Option Bool
 |0,_=>none
 |U+1,j=>if(decide (j<(List.length C:Int)))=true then(idx C j).bind λx9=>(idx I j).bind λaf=>(J x9 af).bind λah=>if(!ah)=true then some false else gD C I J U (i64.wrap (j+1))else some true
def oQ(j:List M.aI7)(C:List M.aI7)(I:M.aI7->M.aI7->Option Bool):Option Bool:=
 if((List.length j:Int) !=(List.length C:Int))=true then some false else gD j C I fuel 0
def iL(C:List ByteArray)(I:List ByteArray):Nat->Int->Option Bool
 |0,_=>none
 |J+1,j=>if(decide (j<(List.length C:Int)))=true then(idx C j).bind λx8=>(idx I j).bind λU=>if(!(x8.toList==U.toList))=true then some false else iL C I J (i64.wrap (j+1))else some true
def sB(j:List ByteArray)(C:List ByteArray):Option Bool:=
 if((List.length j:Int) !=(List.length C:Int))=true then some false else iL j C fuel 0
def rA(j:M.aI7)(C:M.aI7):Option Bool:=
 if(j.Name.toList==C.Name.toList)=true then if(j.aI0==C.aI0)=true then(sB j.aJW C.aJW).bind λx3=>if x3=true then some (j.aJf==C.aJf)else some false else some false else some false
def eN(C:List M.aJC)(I:List M.aJC)(J:M.aJC->M.aJC->Option Bool):Nat->Int->Option Bool
 |0,_=>none
 |U+1,j=>if(decide (j<(List.length C:Int)))=true then(idx C j).bind λx9=>(idx I j).bind λaf=>(J x9 af).bind λah=>if(!ah)=true then some false else eN C I J U (i64.wrap (j+1))else some true
def lU(j:List M.aJC)(C:List M.aJC)(I:M.aJC->M.aJC->Option Bool):Option Bool:=
 if((List.length j:Int) !=(List.length C:Int))=true then some false else eN j C I fuel 0
def gU(C:List M.aP)(J:List M.aP):Nat->Int->Option Bool
 |0,_=>none
 |U+1,j=>if(decide (j<(List.length C:Int)))=true then(idx C j).bind λx8=>(idx J j).bind λI=>if(!((x8.aJA==I.aJA)&&(x8.Seq==I.Seq)))=true then some false else gU C J U (i64.wrap (j+1))else some true
def pP(j:List M.aP)(C:List M.aP):Option Bool:=
 if((List.length j:Int) !=(List.length C:Int))=true then some false else gU j C fuel 0
def rP(j:M.aJC)(C:M.aJC):Option Bool:=
 (iE j.aD C.aD).bind λx1=>if x1=true then(pP j.aP C.aP).bind λx4=>if x4=true then(pB j.aJU C.aJU).bind λx7=>some x7 else some false else some false
def sY(j:M.World)(C:M.World):Option Bool:=
 if(j.Now==C.Now)=true then if(j.aJV==C.aJV)=true then if(j.aJA==C.aJA)=true then(uE j.aA C.aA).bind λx4=>if x4=true then(oA j.aJI C.aJI (λI J=>gS I J)).bind λx7=>if x7=true then if(j.aJG==C.aJG)=true then(wA j.aJJ.aJJ C.aJJ.aJJ).bind λU=>if U=true then(wK j.aJD.aJe C.aJD.aJe).bind λae=>if ae=true then(oQ j.aJL C.aJL (λI J=>rA I J)).bind λaf=>if af=true then(lU j.aJK C.aJK (λI J=>rP I J)).bind λah=>some ah else some false else some false else some false else some false else some false else some false else some false else some false else some false
def fW(j:M.World)(C:ByteArray)(I:ByteArray):Option (List Int):=
 (gR j C I).bind λx1=>if(!x1.2)=true then some ([]:List Int)else some ([x1.1.aIz.aJX,x1.1.aIz.aJT,x1.1.aIz.aJP])
def kG(I:M.World)(J:ByteArray)(U:ByteArray):Nat->Int->List M.bG->Option (List M.bG)
 |0,_,_=>none
 |af+1,j,C=>if(decide (j<(List.length I.aJI:Int)))=true then(idx I.aJI j).bind λah=>if(ah.aI7.toList==J.toList)=true then if(ah.Top.toList==U.toList)=true then(zZ ah).bind λai=>(app 144 C ([ai])).bind λaj=>kG I J U af (i64.wrap (j+1)) (C++[ai])else kG I J U af (i64.wrap (j+1)) C else kG I J U af (i64.wrap (j+1)) C else some C
def BO(j:M.World)(C:ByteArray)(I:ByteArray):Option (List M.bG):=
 kG j C I fuel 0 ([]:List M.bG)
def eR(C:List M.bG)(U:ByteArray):Nat->Int->List Int->Option (List Int)
 |0,_,_=>none
 |ae+1,j,I=>if(decide (j<(List.length C:Int)))=true then(idx C j).bind λJ=>if(J.aI7.toList==U.toList)=true then(app 8 I ([J.aI0])).bind λaf=>eR C U ae (i64.wrap (j+1)) (I++[J.aI0])else eR C U ae (i64.wrap (j+1)) I else some I
def wL(j:List M.bG)(C:ByteArray):Option (List Int):=
 eR j C fuel 0 ([]:List Int)
def iS(C:List Int)(I:Int):Nat->Int->Option Int
 |0,_=>none
 |J+1,j=>if(decide (j<(List.length C:Int)))=true then(idx C j).bind λx7=>if(I==x7)=true then some j else iS C I J (i64.wrap (j+1))else some (-1)
def AX(j:List Int)(C:Int):Option Int:=
 iS j C fuel 0
def sJ(j:List Int)(C:Int):Option Bool:=
 (AX j C).bind λx1=>some (decide (x1>=0))
def xT(j:M.aIz)(C:List Int):Option Bool:=
 (gA j).bind λx1=>if x1=true then if(j.aJT !=0)=true then(sJ C j.aJX).bind λx5=>some (!x5)else some false else some false
def Bh(j:M.aIz)(C:List Int):Option (M.aIz×Int×Bool):=
 (xT j C).bind λx1=>if(!x1)=true then some (j,0,false)else some ((⟨j.aI7,j.aJP,0,j.aJT⟩:M.aIz),j.aJX,true)
def nQ(j:M.World)(I:ByteArray)(U:ByteArray):Option (M.World×Bool):=
 (pJ j).bind λx1=>(gR j I U).bind λx3=>(uP j).bind λx5=>if(!x5)=true then some (x1,false)else if(!x3.2)=true then some (x1,false)else(BO j I U).bind λx9=>(wL x9 I).bind λaf=>(Bh x3.1.aIz af).bind λC=>if(!C.2.2)=true then some (x1,false)else(wX x3.1.aI1 C.2.1).bind λah=>(gX j x3.1 ah.1 C.1).bind λJ=>some (J.1,J.2)
def zV(C:M.aC)(p1:Int)(p2:ByteArray)(p3:ByteArray):Option (M.aI8×Bool):=
 (tQ C p1).bind λx1=>(if(decide (x1<0))=true then((kW).bind λx4=>(some (x4,false)))else((idx C.aI1 x1).bind λx6=>((nW x6 p2 p3).bind λj=>(if(decide (j<0))=true then((kW).bind λI=>(some (I,false)))else((idx x6.aJB j).bind λJ=>((gI J.aI8).bind λU=>(some (U,true))))))))
def lI(C:M.World)(j:M.bG)(I:ByteArray):Option Bool:=
 (gR C j.aI7 j.Top).bind λx1=>if(!x1.2)=true then some false else(zV x1.1.aI1 j.aI0 j.aI7 I).bind λx4=>some x4.2
def mG(x4:(M.World×ByteArray×ByteArray))(x6:(M.World×Bool))(C:(M.World×Bool)):Nat->Int->Option Bool
 |0,_=>none
 |al+1,I=>(if(decide (I<(List.length x6.1.aJI:Int)))=true then some C.2 else some false).bind λJ=>if J=true then(idx x6.1.aJI I).bind λj=>(if(j.aI7.toList==x4.2.1.toList)=true then if(j.Top.toList==x4.2.2.toList)=true then(lI x6.1 j (⟨#[105,110,100,101,120]⟩:ByteArray)).bind λU=>if U=true then(lI C.1 j (⟨#[105,110,100,101,120]⟩:ByteArray)).bind λaj=>some (!aj)else some false else some false else some false).bind λak=>if ak=true then some false else mG x4 x6 C al (i64.wrap (I+1))else some true
def Au(J:List Int):Option Bool:=
 (Hu J).bind λx1=>if x1=true then some true else(oD J).bind λx4=>(rO x4.1 x4.2.1 x4.2.2).bind λx6=>(dC x4.1 x4.2.1 x4.2.2).bind λx8=>(if(!(x6.2==x8.2))=true then some true else(sY x6.1 x8.1).bind λai=>some (!ai)).bind λaj=>if aj=true then some false else(fW x6.1 x4.2.1 x4.2.2).bind λj=>(if x6.2=true then if((List.length j:Int) !=3)=true then some true else(idx j 1).bind λak=>(gZ x4.2.1).bind λal=>(idx x4.1.aJL al).bind λao=>if(ak !=ao.aI0)=true then some true else(idx j 2).bind λaq=>some (aq !=0)else some false).bind λar=>if ar=true then some false else(nQ x6.1 x4.2.1 x4.2.2).bind λC=>(eI x6.1 x4.2.1 x4.2.2).bind λI=>(if(!(C.2==I.2))=true then some true else(sY C.1 I.1).bind λU=>some (!U)).bind λav=>if av=true then some false else mG x4 x6 C fuel 0
