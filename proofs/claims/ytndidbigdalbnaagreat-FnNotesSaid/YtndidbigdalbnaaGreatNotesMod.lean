/-
  Helper text. No conditions.
-/
import Derived.Test.YtndidbigdalbnaaGreatNotesShT
set_option linter.all false
namespace Go.Proofs.YtndidbigdalbnaaGreat.gen
open Go Go.Sh
open Go.IntKind (i64 u8)
structure M.bN where
 b:List Int
 i:Int
 h:Int
def M.bN.en(x:M.bN):List D:=[.sl (x.b.map enB),.int .i64 x.i,.int .i64 x.h]
structure M.aKd where
 aKl:ByteArray
 aLB:Int
 aLH:Int
 aLL:Int
def M.aKd.en(x:M.aKd):List D:=[.str x.aKl,.int .i64 x.aLB,.int .i64 x.aLH,.int .i64 x.aLL]
theorem M.aKd.en.fl(l:List M.aKd):(l.map M.aKd.en).all (λy=>y.all D.flat)=true:=IJ (λ_=>rfl) l
structure M.aKo where
 aLX:Int
 aLV:Int
 aKb:Int
 aLZ:List Int
 aLc:Bool
def M.aKo.en(x:M.aKo):List D:=[.int .i64 x.aLX,.int .i64 x.aLV,.int .i64 x.aKb,.sl (x.aLZ.map enB),.bool x.aLc]
structure M.aK2 where
 aKl:ByteArray
 aLQ:ByteArray
 aKo:M.aKo
def M.aK2.en(x:M.aK2):List D:=[.str x.aKl,.str x.aLQ,.int .i64 x.aKo.aLX,.int .i64 x.aKo.aLV,.int .i64 x.aKo.aKb,.sl (x.aKo.aLZ.map enB),.bool x.aKo.aLc]
structure M.aKv where
 aKb:Int
 aKs:List M.aK2
def M.aKv.en(x:M.aKv):List D:=[.int .i64 x.aKb,.sl (x.aKs.map M.aK2.en)]
structure M.aN where
 aKi:List M.aKv
def M.aN.en(x:M.aN):List D:=[.sl (x.aKi.map M.aKv.en)]
structure M.bD where
 aKx:Int
 N:Int
 aK5:ByteArray
def M.bD.en(x:M.bD):List D:=[.int .i64 x.aKx,.int .i64 x.N,.str x.aK5]
theorem M.bD.en.fl(l:List M.bD):(l.map M.bD.en).all (λy=>y.all D.flat)=true:=IJ (λ_=>rfl) l
structure M.aR where
 Name:ByteArray
 N:Int
def M.aR.en(x:M.aR):List D:=[.str x.Name,.int .i64 x.N]
theorem M.aR.en.fl(l:List M.aR):(l.map M.aR.en).all (λy=>y.all D.flat)=true:=IJ (λ_=>rfl) l
structure M.aF where
 aKj:List M.aR
def M.aF.en(x:M.aF):List D:=[.sl (x.aKj.map M.aR.en)]
structure M.aKy where
 Key:M.bD
 aF:M.aF
def M.aKy.en(x:M.aKy):List D:=[.int .i64 x.Key.aKx,.int .i64 x.Key.N,.str x.Key.aK5,.sl (x.aF.aKj.map M.aR.en)]
structure M.aD where
 Name:ByteArray
 aKg:List M.aKy
 aK7:Int
def M.aD.en(x:M.aD):List D:=[.str x.Name,.sl (x.aKg.map M.aKy.en),.int .i64 x.aK7]
structure M.aV where
 aD:ByteArray
 Field:ByteArray
def M.aV.en(x:M.aV):List D:=[.str x.aD,.str x.Field]
theorem M.aV.en.fl(l:List M.aV):(l.map M.aV.en).all (λy=>y.all D.flat)=true:=IJ (λ_=>rfl) l
structure M.aKc where
 Name:ByteArray
 aKb:Int
 aKm:List M.aD
 aKz:List M.aV
def M.aKc.en(x:M.aKc):List D:=[.str x.Name,.int .i64 x.aKb,.sl (x.aKm.map M.aD.en),.sl (x.aKz.map M.aV.en)]
structure M.bJ where
 aK1:M.aKc
 Log:List Int
 aLF:Int
def M.bJ.en(x:M.bJ):List D:=[.str x.aK1.Name,.int .i64 x.aK1.aKb,.sl (x.aK1.aKm.map M.aD.en),.sl (x.aK1.aKz.map M.aV.en),.sl (x.Log.map enB),.int .i64 x.aLF]
structure M.cH where
 aKk:Int
 Seq:Int
 Key:M.bD
 Field:ByteArray
 N:Int
def M.cH.en(x:M.cH):List D:=[.int .i64 x.aKk,.int .i64 x.Seq,.int .i64 x.Key.aKx,.int .i64 x.Key.N,.str x.Key.aK5,.str x.Field,.int .i64 x.N]
theorem M.cH.en.fl(l:List M.cH):(l.map M.cH.en).all (λy=>y.all D.flat)=true:=IJ (λ_=>rfl) l
structure M.aO where
 aKk:Int
 aLE:Int
 aKw:List M.cH
def M.aO.en(x:M.aO):List D:=[.int .i64 x.aKk,.int .i64 x.aLE,.sl (x.aKw.map M.cH.en)]
structure M.aK3 where
 aO:M.aO
 aLI:Int
 aK8:Int
def M.aK3.en(x:M.aK3):List D:=[.int .i64 x.aO.aKk,.int .i64 x.aO.aLE,.sl (x.aO.aKw.map M.cH.en),.int .i64 x.aLI,.int .i64 x.aK8]
structure M.aH where
 aK1:M.aD
 aLT:Int
 aK3:M.aK3
def M.aH.en(x:M.aH):List D:=[.str x.aK1.Name,.sl (x.aK1.aKg.map M.aKy.en),.int .i64 x.aK1.aK7,.int .i64 x.aLT,.int .i64 x.aK3.aO.aKk,.int .i64 x.aK3.aO.aLE,.sl (x.aK3.aO.aKw.map M.cH.en),.int .i64 x.aK3.aLI,.int .i64 x.aK3.aK8]
structure M.aKe where
 aKl:ByteArray
 Top:ByteArray
 aKd:M.aKd
 aKi:M.aN
 bJ:M.bJ
 aH:M.aH
 aLC:Int
 aK9:Bool
def M.aKe.en(x:M.aKe):List D:=[.str x.aKl,.str x.Top,.str x.aKd.aKl,.int .i64 x.aKd.aLB,.int .i64 x.aKd.aLH,.int .i64 x.aKd.aLL,.sl (x.aKi.aKi.map M.aKv.en),.str x.bJ.aK1.Name,.int .i64 x.bJ.aK1.aKb,.sl (x.bJ.aK1.aKm.map M.aD.en),.sl (x.bJ.aK1.aKz.map M.aV.en),.sl (x.bJ.Log.map enB),.int .i64 x.bJ.aLF,.str x.aH.aK1.Name,.sl (x.aH.aK1.aKg.map M.aKy.en),.int .i64 x.aH.aK1.aK7,.int .i64 x.aH.aLT,.int .i64 x.aH.aK3.aO.aKk,.int .i64 x.aH.aK3.aO.aLE,.sl (x.aH.aK3.aO.aKw.map M.cH.en),.int .i64 x.aH.aK3.aLI,.int .i64 x.aH.aK3.aK8,.int .i64 x.aLC,.bool x.aK9]
structure M.aC where
 aKf:List M.aKe
def M.aC.en(x:M.aC):List D:=[.sl (x.aKf.map M.aKe.en)]
structure M.aT where
 aLQ:ByteArray
 aKb:Int
def M.aT.en(x:M.aT):List D:=[.str x.aLQ,.int .i64 x.aKb]
theorem M.aT.en.fl(l:List M.aT):(l.map M.aT.en).all (λy=>y.all D.flat)=true:=IJ (λ_=>rfl) l
structure M.aY where
 aKx:Int
 R:Int
 N:Int
 aK5:ByteArray
def M.aY.en(x:M.aY):List D:=[.int .i64 x.aKx,.int .i64 x.R,.int .i64 x.N,.str x.aK5]
theorem M.aY.en.fl(l:List M.aY):(l.map M.aY.en).all (λy=>y.all D.flat)=true:=IJ (λ_=>rfl) l
structure M.aKh where
 aLA:List M.aY
 Pc:Int
 aLN:List Int
 aLM:Int
 aLU:Bool
 aLR:Bool
def M.aKh.en(x:M.aKh):List D:=[.sl (x.aLA.map M.aY.en),.int .i64 x.Pc,.sl (x.aLN.map enI),.int .i64 x.aLM,.bool x.aLU,.bool x.aLR]
structure M.bK where
 Id:Int
 aKl:ByteArray
 Top:ByteArray
 aKb:Int
 aT:List M.aT
 aKh:M.aKh
def M.bK.en(x:M.bK):List D:=[.int .i64 x.Id,.str x.aKl,.str x.Top,.int .i64 x.aKb,.sl (x.aT.map M.aT.en),.sl (x.aKh.aLA.map M.aY.en),.int .i64 x.aKh.Pc,.sl (x.aKh.aLN.map enI),.int .i64 x.aKh.aLM,.bool x.aKh.aLU,.bool x.aKh.aLR]
structure M.vE where
 Name:ByteArray
 bK:Int
 aLK:Bool
 aLb:Bool
def M.vE.en(x:M.vE):List D:=[.str x.Name,.int .i64 x.bK,.bool x.aLK,.bool x.aLb]
theorem M.vE.en.fl(l:List M.vE):(l.map M.vE.en).all (λy=>y.all D.flat)=true:=IJ (λ_=>rfl) l
structure M.aW where
 aKu:List M.vE
def M.aW.en(x:M.aW):List D:=[.sl (x.aKu.map M.vE.en)]
structure M.Eb where
 To:Int
 aLf:Int
 N:Int
def M.Eb.en(x:M.Eb):List D:=[.int .i64 x.To,.int .i64 x.aLf,.int .i64 x.N]
theorem M.Eb.en.fl(l:List M.Eb):(l.map M.Eb.en).all (λy=>y.all D.flat)=true:=IJ (λ_=>rfl) l
structure M.aKp where
 aLJ:List M.Eb
def M.aKp.en(x:M.aKp):List D:=[.sl (x.aLJ.map M.Eb.en)]
structure M.aKl where
 Name:ByteArray
 aKb:Int
 aLG:List ByteArray
 aLK:Bool
def M.aKl.en(x:M.aKl):List D:=[.str x.Name,.int .i64 x.aKb,.sl (x.aLG.map enS),.bool x.aLK]
structure M.aQ where
 aKk:Int
 Seq:Int
def M.aQ.en(x:M.aQ):List D:=[.int .i64 x.aKk,.int .i64 x.Seq]
theorem M.aQ.en.fl(l:List M.aQ):(l.map M.aQ.en).all (λy=>y.all D.flat)=true:=IJ (λ_=>rfl) l
structure M.aKt where
 aD:M.aD
 aQ:List M.aQ
 aK6:List M.cH
def M.aKt.en(x:M.aKt):List D:=[.str x.aD.Name,.sl (x.aD.aKg.map M.aKy.en),.int .i64 x.aD.aK7,.sl (x.aQ.map M.aQ.en),.sl (x.aK6.map M.cH.en)]
structure M.aE where
 Now:Int
 aK4:Bool
 aKk:Int
 aC:M.aC
 aKq:List M.bK
 aKn:Int
 aKu:M.aW
 aKp:M.aKp
 aK0:List M.aKl
 aKr:List M.aKt
def M.aE.en(x:M.aE):List D:=[.int .i64 x.Now,.bool x.aK4,.int .i64 x.aKk,.sl (x.aC.aKf.map M.aKe.en),.sl (x.aKq.map M.bK.en),.int .i64 x.aKn,.sl (x.aKu.aKu.map M.vE.en),.sl (x.aKp.aLJ.map M.Eb.en),.sl (x.aK0.map M.aKl.en),.sl (x.aKr.map M.aKt.en)]
structure M.Ask where
 aKx:Int
 R:Int
 N:Int
 aK5:ByteArray
 Value:Int
def M.Ask.en(x:M.Ask):List D:=[.int .i64 x.aKx,.int .i64 x.R,.int .i64 x.N,.str x.aK5,.int .i64 x.Value]
theorem M.Ask.en.fl(l:List M.Ask):(l.map M.Ask.en).all (λy=>y.all D.flat)=true:=IJ (λ_=>rfl) l
structure M.fA where
 aKx:Int
 aD:ByteArray
 Key:M.bD
 aF:M.aF
 Field:ByteArray
def M.fA.en(x:M.fA):List D:=[.int .i64 x.aKx,.str x.aD,.int .i64 x.Key.aKx,.int .i64 x.Key.N,.str x.Key.aK5,.sl (x.aF.aKj.map M.aR.en),.str x.Field]
structure M.fY where
 aLY:Bool
 aLS:Bool
 Low:M.bD
 aLW:M.bD
def M.fY.en(x:M.fY):List D:=[.bool x.aLY,.bool x.aLS,.int .i64 x.Low.aKx,.int .i64 x.Low.N,.str x.Low.aK5,.int .i64 x.aLW.aKx,.int .i64 x.aLW.N,.str x.aLW.aK5]
theorem M.fY.en.fl(l:List M.fY):(l.map M.fY.en).all (λy=>y.all D.flat)=true:=IJ (λ_=>rfl) l
structure M.tC where
 aKx:Int
 aD:ByteArray
 Field:ByteArray
def M.tC.en(x:M.tC):List D:=[.int .i64 x.aKx,.str x.aD,.str x.Field]
theorem M.tC.en.fl(l:List M.tC):(l.map M.tC.en).all (λy=>y.all D.flat)=true:=IJ (λ_=>rfl) l
def JM(j:List Int):Option Bool:=
 some (decide ((j.length:Int)>1048576))
set_option maxRecDepth 40000 in
def pL(j:List Int):Nat->Int->Int->Option M.bN
 |0,_,_=>none
 |J+1,I,C=>if decide (C<(List.length j:Int))then if decide (C<4000)then(idx j C).bind λx7=>pL j J (i64.wrap (BitVec.ofInt i64.bits (i64.wrap ((i64.wrap ((i64.wrap (I*137))+(i64.wrap x7)))+11))&&&BitVec.ofInt i64.bits 1073741823).toNat) (i64.wrap (C+1))else some (⟨j,0,I⟩:M.bN)else some (⟨j,0,I⟩:M.bN)
set_option maxRecDepth 40000 in
theorem VF:type_of%@pL.eq_2:=@pL.eq_2
def EV(j:List Int):Option M.bN:=
 pL j aJ (i64.wrap (193017+(j.length))) 0
def vX(j:M.bN):Option (Int×Int×Int):=
 if decide (j.i<(j.b.length))then(idx j.b j.i).bind λx5=>some (i64.wrap (j.i+1),i64.wrap ((i64.wrap (j.h*6364136223846793005))+1442695040888963407),i64.wrap (BitVec.ofInt i64.bits (i64.wrap ((i64.wrap (BitVec.ofInt i64.bits (i64.wrap (BitVec.ofInt i64.bits (Int.fdiv (i64.wrap ((i64.wrap (j.h*6364136223846793005))+1442695040888963407)) (2^(min (33:Int).toNat i64.bits))) ^^^ BitVec.ofInt i64.bits (Int.fdiv (i64.wrap ((i64.wrap (j.h*6364136223846793005))+1442695040888963407)) (2^(min (47:Int).toNat i64.bits)))).toNat)&&&BitVec.ofInt i64.bits 255).toNat)+(i64.wrap x5)))&&&BitVec.ofInt i64.bits 255).toNat)else some (j.i,i64.wrap ((i64.wrap (j.h*6364136223846793005))+1442695040888963407),i64.wrap (BitVec.ofInt i64.bits (i64.wrap (BitVec.ofInt i64.bits (Int.fdiv (i64.wrap ((i64.wrap (j.h*6364136223846793005))+1442695040888963407)) (2^(min (33:Int).toNat i64.bits))) ^^^ BitVec.ofInt i64.bits (Int.fdiv (i64.wrap ((i64.wrap (j.h*6364136223846793005))+1442695040888963407)) (2^(min (47:Int).toNat i64.bits)))).toNat)&&&BitVec.ofInt i64.bits 255).toNat)
def aG(j:M.bN)(C:Int):Option (Int×Int×Int):=
 if decide (C<=0)then some (j.i,j.h,0)else if decide (C<=256)then(vX j).bind λx7=>if decide (C=0)then none else some (x7.1,x7.2.1,Int.tmod x7.2.2 C)else(vX j).bind λI=>(vX ⟨j.b,I.1,I.2.1⟩).bind λJ=>(vX ⟨j.b,J.1,J.2.1⟩).bind λU=>if decide (C=0)then none else some (U.1,U.2.1,Int.tmod (i64.wrap ((i64.wrap ((i64.wrap (I.2.2*65536))+(i64.wrap (J.2.2*256))))+U.2.2)) C)
def bG(j:Int)(C:Int)(I:Int):Option Bool:=
 if decide (j>=C)then some (decide (j<=I))else some false
def xZ  :Option (List ByteArray):=
 some ([⟨#[98,97,110,107]⟩,⟨#[110,101,119,115]⟩,⟨#[115,104,111,112]⟩])
def B7(U:Int)(x4:(List ByteArray)):Nat->Int->List M.aKl->List M.aKt->Option M.aE
 |0,_,_,_=>none
 |ah+1,J,C,I=>if decide (J<(List.length x4:Int))then(idx x4 J).bind λj=>(app 56 C ([(⟨j,1,[(⟨#[99,111,100,101]⟩:ByteArray),(⟨#[100,97,116,97]⟩:ByteArray),(⟨#[105,110,100,101,120]⟩:ByteArray),(⟨#[115,116,121,108,101]⟩:ByteArray)],j.toList==(⟨#[110,101,119,115]⟩:ByteArray).toList⟩:M.aKl)])).bind λai=>(app 96 I ([(⟨(⟨(⟨#[110,111,116,101,115]⟩:ByteArray),([]:List M.aKy),0⟩:M.aD),([]:List M.aQ),([]:List M.cH)⟩:M.aKt)])).bind λaj=>B7 U x4 ah (i64.wrap (J+1)) (C++[(⟨j,1,[(⟨#[99,111,100,101]⟩:ByteArray),(⟨#[100,97,116,97]⟩:ByteArray),(⟨#[105,110,100,101,120]⟩:ByteArray),(⟨#[115,116,121,108,101]⟩:ByteArray)],j.toList==(⟨#[110,101,119,115]⟩:ByteArray).toList⟩:M.aKl)]) (I++[(⟨(⟨(⟨#[110,111,116,101,115]⟩:ByteArray),([]:List M.aKy),0⟩:M.aD),([]:List M.aQ),([]:List M.cH)⟩:M.aKt)])else some (⟨0,true,U,(⟨([]:List M.aKe)⟩:M.aC),([]:List M.bK),1,(⟨([]:List M.vE)⟩:M.aW),(⟨([]:List M.Eb)⟩:M.aKp),C,I⟩:M.aE)
def Cg(j:Int):Option M.aE:=
 (bG j 1 1000000).bind λx1=>(if !x1 then(some ⟨0,false,0,⟨[]⟩,[],0,⟨[]⟩,⟨[]⟩,[],[]⟩)else((xZ).bind λx4=>(B7 j x4 aJ 0 [] [])))
def vY(j:M.aKo):Option M.aKo:=
 (app 1 [] j.aLZ).bind λx1=>some j
def oY(C:M.aKv):Nat->Int->List M.aK2->Option M.aKv
 |0,_,_=>none
 |ah+1,J,I=>if decide (J<(List.length C.aKs:Int))then(idx C.aKs J).bind λj=>(vY j.aKo).bind λU=>(app 88 I ([(⟨j.aKl,j.aLQ,U⟩:M.aK2)])).bind λai=>oY C ah (i64.wrap (J+1)) (I++[(⟨j.aKl,j.aLQ,U⟩:M.aK2)])else some (⟨C.aKb,I⟩:M.aKv)
def Cl(j:M.aKv):Option M.aKv:=
 oY j aJ 0 []
def sU(C:M.aN):Nat->Int->List M.aKv->Option M.aN
 |0,_,_=>none
 |U+1,I,j=>if decide (I<(List.length C.aKi:Int))then(idx C.aKi I).bind λah=>(Cl ah).bind λJ=>(app 32 j ([J])).bind λai=>sU C U (i64.wrap (I+1)) (j++[J])else some (⟨j⟩:M.aN)
def dY(j:M.aN):Option M.aN:=
 sU j aJ 0 []
def cR(j:M.aF):Option M.aF:=
 (app 24 [] j.aKj).bind λx1=>some j
def Bm(j:M.aKy):Option M.aKy:=
 (cR j.aF).bind λx1=>some ⟨j.Key,x1⟩
def vA(j:M.aD):Nat->Int->List M.aKy->Option M.aD
 |0,_,_=>none
 |U+1,I,C=>if decide (I<(List.length j.aKg:Int))then(idx j.aKg I).bind λah=>(Bm ah).bind λJ=>(app 56 C ([J])).bind λai=>vA j U (i64.wrap (I+1)) (C++[J])else some (⟨j.Name,C,j.aK7⟩:M.aD)
def cP(j:M.aD):Option M.aD:=
 vA j aJ 0 []
def vD(j:M.aKc):Nat->Int->List M.aD->Option M.aKc
 |0,_,_=>none
 |U+1,I,C=>if decide (I<(List.length j.aKm:Int))then(idx j.aKm I).bind λah=>(cP ah).bind λJ=>(app 48 C ([J])).bind λai=>vD j U (i64.wrap (I+1)) (C++[J])else some (⟨j.Name,j.aKb,C,j.aKz⟩:M.aKc)
def fS(j:M.aKc):Option M.aKc:=
 (app 32 [] j.aKz).bind λx1=>vD j aJ 0 []
def Aq(j:M.bJ):Option M.bJ:=
 (fS j.aK1).bind λx1=>(app 1 [] j.Log).bind λx3=>some ⟨x1,j.Log,j.aLF⟩
def vZ(j:M.aO):Option M.aO:=
 (app 72 [] j.aKw).bind λx1=>some j
def As(j:M.aK3):Option M.aK3:=
 (vZ j.aO).bind λx1=>some ⟨x1,j.aLI,j.aK8⟩
def xB(j:M.aH):Option M.aH:=
 (cP j.aK1).bind λx1=>(As j.aK3).bind λx3=>some ⟨x1,j.aLT,x3⟩
def gL(j:M.aKe):Option M.aKe:=
 (dY j.aKi).bind λx1=>(Aq j.bJ).bind λx3=>(xB j.aH).bind λx5=>some ⟨j.aKl,j.Top,j.aKd,x1,x3,x5,j.aLC,j.aK9⟩
def rT(C:M.aC):Nat->Int->List M.aKe->Option M.aC
 |0,_,_=>none
 |U+1,I,j=>if decide (I<(List.length C.aKf:Int))then(idx C.aKf I).bind λah=>(gL ah).bind λJ=>(app 328 j ([J])).bind λai=>rT C U (i64.wrap (I+1)) (j++[J])else some (⟨j⟩:M.aC)
def gM(j:M.aC):Option M.aC:=
 rT j aJ 0 []
def zG(j:List M.aY):Option (List M.aY):=
 (app 40 [] j).bind λx1=>some j
def Au(j:M.aKh):Option M.aKh:=
 (zG j.aLA).bind λx1=>(app 8 [] j.aLN).bind λx3=>some ⟨x1,j.Pc,j.aLN,j.aLM,j.aLU,j.aLR⟩
def mL(j:M.bK):Option M.bK:=
 (app 24 [] j.aT).bind λx1=>(Au j.aKh).bind λC=>some ⟨j.Id,j.aKl,j.Top,j.aKb,j.aT,C⟩
def Ax(j:M.aW):Option M.aW:=
 (app 32 [] j.aKu).bind λx1=>some j
def BZ(j:M.aKp):Option M.aKp:=
 (app 24 [] j.aLJ).bind λx1=>some j
def C5(j:M.aKl):Option M.aKl:=
 (app 16 [] j.aLG).bind λx1=>some j
def iJ(j:M.aKt):Option M.aKt:=
 (cP j.aD).bind λx1=>(app 16 [] j.aQ).bind λx3=>(app 72 [] j.aK6).bind λx5=>some ⟨x1,j.aQ,j.aK6⟩
def lI(j:M.aE)(x1:M.aC)(U:List M.bK)(ai:M.aW)(aj:M.aKp)(ak:List M.aKl):Nat->Int->List M.aKt->Option M.aE
 |0,_,_=>none
 |al+1,I,C=>if decide (I<(List.length j.aKr:Int))then(idx j.aKr I).bind λaf=>(iJ af).bind λJ=>(app 96 C ([J])).bind λao=>lI j x1 U ai aj ak al (i64.wrap (I+1)) (C++[J])else some (⟨j.Now,j.aK4,j.aKk,x1,U,j.aKn,ai,aj,ak,C⟩:M.aE)
def lM(j:M.aE)(x1:M.aC)(J:List M.bK)(U:M.aW)(ah:M.aKp):Nat->Int->List M.aKl->Option M.aE
 |0,_,_=>none
 |aj+1,I,C=>if decide (I<(List.length j.aK0:Int))then(idx j.aK0 I).bind λak=>(C5 ak).bind λai=>(app 56 C ([ai])).bind λal=>lM j x1 J U ah aj (i64.wrap (I+1)) (C++[ai])else lI j x1 J U ah C aJ 0 ([]:List M.aKt)
def oE(j:M.aE)(x1:M.aC):Nat->Int->List M.bK->Option M.aE
 |0,_,_=>none
 |U+1,I,C=>if decide (I<(List.length j.aKq:Int))then(idx j.aKq I).bind λah=>(mL ah).bind λJ=>(app 144 C ([J])).bind λak=>oE j x1 U (i64.wrap (I+1)) (C++[J])else(Ax j.aKu).bind λai=>(BZ j.aKp).bind λaj=>lM j x1 C ai aj aJ 0 ([]:List M.aKl)
def dM(j:M.aE):Option M.aE:=
 (gM j.aC).bind λx1=>oE j x1 aJ 0 []
def rV(C:List M.bK)(I:Int):Nat->Int->Option Int
 |0,_=>none
 |J+1,j=>if decide (j<(List.length C:Int))then(idx C j).bind λx6=>if x6.Id==I then some j else rV C I J (i64.wrap (j+1))else some (-1)
def C9(j:List M.bK)(C:Int):Option Int:=
 rV j C aJ 0
def zI(j:M.aE)(C:Int):Option Int:=
 (C9 j.aKq C).bind λx1=>some x1
def vC(j:ByteArray):Nat->Int->Option Bool
 |0,_=>none
 |I+1,C=>if decide (C<(j.size:Int))then(aBH j C).bind λx5=>if decide ((x5.toNat:Int)<97)then some false else if decide ((x5.toNat:Int)>122)then some false else vC j I (i64.wrap (C+1))else(bG (j.size:Int) 1 8).bind λJ=>some J
def cU(j:ByteArray):Option Bool:=
 vC j aJ 0
def mX(j:M.aKl):Nat->Int->Option Bool
 |0,_=>none
 |I+1,C=>if decide (C<(List.length j.aLG:Int))then(idx j.aLG C).bind λx6=>(cU x6).bind λJ=>if !J then some false else if decide (C>0)then(idx j.aLG (i64.wrap (C-1))).bind λU=>if !(Op.bytesLess U.toList x6.toList)then some false else mX j I (i64.wrap (C+1))else mX j I (i64.wrap (C+1))else(cU j.Name).bind λah=>if ah then(bG j.aKb 1 1000000000000).bind λai=>if ai then(bG (List.length j.aLG:Int) 1 6).bind λaj=>some aj else some false else some false
def Bp(j:M.aKl):Option Bool:=
 mX j aJ 0
def mW(j:ByteArray):Nat->Int->Option Bool
 |0,_=>none
 |I+1,C=>if decide (C<(j.size:Int))then(aBH j C).bind λx5=>if decide ((x5.toNat:Int)<97)then if decide ((x5.toNat:Int)<48)then some false else if decide ((x5.toNat:Int)>57)then some false else mW j I (i64.wrap (C+1))else if decide ((x5.toNat:Int)>122)then if decide ((x5.toNat:Int)<48)then some false else if decide ((x5.toNat:Int)>57)then some false else mW j I (i64.wrap (C+1))else mW j I (i64.wrap (C+1))else some (decide ((j.size:Int)<=12))
def Cs(j:ByteArray):Option Bool:=
 mW j aJ 0
def gQ(j:M.bD):Option Bool:=
 (bG j.aKx 1 3).bind λx1=>if x1 then(bG j.N (-1000000000000) 1000000000000).bind λx4=>if x4 then if j.aKx !=2 then(Cs j.aK5).bind λx8=>if x8 then if j.aKx !=1 then some true else some (j.aK5.toList==(⟨#[]⟩:ByteArray).toList)else some false else if j.N==0 then(Cs j.aK5).bind λC=>if C then if j.aKx !=1 then some true else some (j.aK5.toList==(⟨#[]⟩:ByteArray).toList)else some false else some false else some false else some false
def lV(j:M.cH):Option Bool:=
 (bG j.aKk 1 1000000).bind λx1=>if x1 then(bG j.Seq 1 1000000).bind λx4=>if x4 then(gQ j.Key).bind λx7=>if x7 then(cU j.Field).bind λC=>if C then(bG j.N 0 1000000000).bind λI=>some I else some false else some false else some false else some false
def lW(j:M.aF):Nat->Int->Option Bool
 |0,_=>none
 |I+1,C=>if decide (C<(List.length j.aKj:Int))then(idx j.aKj C).bind λx6=>(cU x6.Name).bind λJ=>if !J then some false else(bG x6.N 0 1000000000).bind λU=>if !U then some false else if decide (C>0)then(idx j.aKj (i64.wrap (C-1))).bind λah=>if !(Op.bytesLess ah.Name.toList x6.Name.toList)then some false else lW j I (i64.wrap (C+1))else lW j I (i64.wrap (C+1))else some (decide ((List.length j.aKj:Int)<=6))
def cA(j:M.aF):Option Bool:=
 lW j aJ 0
def Cu(j:Bool)(C:Bool):Option Int:=
 if j then some (-1)else if C then some 1 else some 0
def bV(j:M.bD)(C:M.bD):Option Int:=
 (gQ j).bind λx1=>if !x1 then some 0 else(gQ C).bind λx4=>if !x4 then some 0 else if j.aKx !=C.aKx then(Cu (decide (j.aKx<C.aKx)) true).bind λx8=>some x8 else if j.N !=C.N then(Cu (decide (j.N<C.N)) true).bind λI=>some I else(Cu (Op.bytesLess j.aK5.toList C.aK5.toList) (!(Op.bytesLess j.aK5.toList C.aK5.toList||j.aK5.toList==C.aK5.toList))).bind λJ=>some J
def lN(j:M.aD):Nat->Int->Option Bool
 |0,_=>none
 |I+1,C=>if decide (C<(List.length j.aKg:Int))then(idx j.aKg C).bind λx6=>(gQ x6.Key).bind λJ=>if !J then some false else(cA x6.aF).bind λU=>if !U then some false else if decide (C>0)then(idx j.aKg (i64.wrap (C-1))).bind λah=>(bV ah.Key x6.Key).bind λai=>if decide (ai>=0)then some false else lN j I (i64.wrap (C+1))else lN j I (i64.wrap (C+1))else(cU j.Name).bind λaj=>if aj then if decide ((List.length j.aKg:Int)<=16)then(bG j.aK7 0 1000000).bind λak=>some ak else some false else some false
def oP(j:M.aD):Option Bool:=
 lN j aJ 0
def lX(j:M.aKt):Nat->Int->Option Bool
 |0,_=>none
 |I+1,C=>if decide (C<(List.length j.aK6:Int))then(idx j.aK6 C).bind λJ=>(lV J).bind λU=>if !U then some false else lX j I (i64.wrap (C+1))else(oP j.aD).bind λah=>if ah then if j.aD.Name.toList==(⟨#[110,111,116,101,115]⟩:ByteArray).toList then some (decide ((List.length j.aQ:Int)<=60))else some false else some false
def iZ(j:M.aKt):Nat->Int->Option Bool
 |0,_=>none
 |I+1,C=>if decide (C<(List.length j.aQ:Int))then(idx j.aQ C).bind λx6=>(bG x6.aKk 1 1000000).bind λJ=>if !J then some false else(bG x6.Seq 0 1000000).bind λU=>if !U then some false else if decide (C>0)then(idx j.aQ (i64.wrap (C-1))).bind λah=>if decide (ah.aKk>=x6.aKk)then some false else iZ j I (i64.wrap (C+1))else iZ j I (i64.wrap (C+1))else lX j aJ 0
def tM(j:M.aKt):Option Bool:=
 iZ j aJ 0
def uR(j:M.bK):Nat->Int->Option Bool
 |0,_=>none
 |I+1,C=>if decide (C<(List.length j.aT:Int))then(idx j.aT C).bind λx6=>(cU x6.aLQ).bind λJ=>if !J then some false else if x6.aKb !=j.aKb then some false else uR j I (i64.wrap (C+1))else(bG j.Id 1 1000000000000).bind λU=>if U then(cU j.aKl).bind λah=>if ah then(cU j.Top).bind λai=>if ai then(bG j.aKb 1 1000000000000).bind λaj=>if aj then some (decide ((List.length j.aT:Int)<=8))else some false else some false else some false else some false
def vW(j:M.bK):Option Bool:=
 uR j aJ 0
def iN(C:M.aC)(I:ByteArray)(J:ByteArray):Nat->Int->Option Int
 |0,_=>none
 |U+1,j=>if decide (j<(List.length C.aKf:Int))then(idx C.aKf j).bind λx8=>if x8.aKl.toList==I.toList then if x8.Top.toList==J.toList then some j else iN C I J U (i64.wrap (j+1))else iN C I J U (i64.wrap (j+1))else some (-1)
def dZ(j:M.aC)(C:ByteArray)(I:ByteArray):Option Int:=
 iN j C I aJ 0
def cZ(j:M.aKd):Nat->Int->Int->Option Bool
 |0,_,_=>none
 |J+1,U,I=>if decide (I<((3:Nat):Int))then(idx ([j.aLL,j.aLH,j.aLB]) I).bind λC=>(bG C 0 1000000000000).bind λaf=>if !af then some false else if C !=0 then if decide (C<=U)then some false else cZ j J C (i64.wrap (I+1))else cZ j J U (i64.wrap (I+1))else(cU j.aKl).bind λah=>some ah
def oH(j:M.aKd):Option Bool:=
 cZ j aJ 0 0
def A3(j:M.aKo):Option Bool:=
 (bG j.aLX 1 4).bind λx1=>if x1 then(bG j.aLV 0 999).bind λx4=>if x4 then(bG j.aKb 0 1000000000000).bind λx7=>if x7 then some (decide ((j.aLZ.length:Int)<=60))else some false else some false else some false
def iL(I:List M.aK2)(J:Int)(x5:M.aK2)(C:Int->Option Bool):Nat->Int->Option Bool
 |0,_=>none
 |U+1,j=>if decide (j<J)then(idx I j).bind λah=>if ah.aKl.toList==x5.aKl.toList then if ah.aLQ.toList==x5.aLQ.toList then some false else iL I J x5 C U (i64.wrap (j+1))else iL I J x5 C U (i64.wrap (j+1))else C j
def fU(j:List M.aK2):Nat->Int->Option Bool
 |0,_=>none
 |I+1,C=>if decide (C<(List.length j:Int))then(idx j C).bind λx5=>(cU x5.aKl).bind λJ=>if !J then some false else(cU x5.aLQ).bind λU=>if !U then some false else(A3 x5.aKo).bind λai=>if !ai then some false else iL j C x5 (λ(aa:Int)=>fU j I (i64.wrap (C+1))) aJ 0 else some (decide ((List.length j:Int)<=12))
def xD(j:List M.aK2):Option Bool:=
 fU j aJ 0
def fR(j:M.aN):Nat->Int->Option Bool
 |0,_=>none
 |I+1,C=>if decide (C<(List.length j.aKi:Int))then(idx j.aKi C).bind λx6=>(bG x6.aKb 1 1000000000000).bind λJ=>if !J then some false else if decide (C>0)then(idx j.aKi (i64.wrap (C-1))).bind λU=>if decide (U.aKb>=x6.aKb)then some false else(xD x6.aKs).bind λah=>if !ah then some false else fR j I (i64.wrap (C+1))else(xD x6.aKs).bind λai=>if !ai then some false else fR j I (i64.wrap (C+1))else some (decide ((List.length j.aKi:Int)<=4))
def dC(j:M.aN):Option Bool:=
 fR j aJ 0
def nO(C:M.aKc)(I:ByteArray):Nat->Int->Option Int
 |0,_=>none
 |J+1,j=>if decide (j<(List.length C.aKm:Int))then(idx C.aKm j).bind λx7=>if x7.Name.toList==I.toList then some j else nO C I J (i64.wrap (j+1))else some (-1)
def mS(j:M.aKc)(C:ByteArray):Option Int:=
 nO j C aJ 0
def tY(j:M.aF)(I:ByteArray):Nat->Int->Option (Int×Bool)
 |0,_=>none
 |J+1,C=>if decide (C<(List.length j.aKj:Int))then(idx j.aKj C).bind λx7=>if x7.Name.toList==I.toList then some (x7.N,true)else tY j I J (i64.wrap (C+1))else some (0,false)
def kM(j:M.aF)(C:ByteArray):Option (Int×Bool):=
 tY j C aJ 0
def Ea(j:M.aKy)(C:M.aKy)(I:ByteArray):Option Bool:=
 (kM j.aF I).bind λx1=>(kM C.aF I).bind λx3=>if decide (x1.1<x3.1)then some true else if x1.1==x3.1 then(bV j.Key C.Key).bind λx7=>some (decide (x7<0))else some false
def rP(U:ByteArray)(I:List M.aKy)(J:M.aKy)(C:Int->Option (List M.aKy)):Nat->Int->Option (List M.aKy)
 |0,_=>none
 |ai+1,j=>if decide (j>0)then(idx I (i64.wrap (j-1))).bind λaj=>(Ea J aj U).bind λak=>if ak then rP U I J C ai (i64.wrap (j-1))else C j else C j
def nW(I:M.aD)(J:ByteArray):Nat->Int->List M.aKy->Option (List M.aKy)
 |0,_,_=>none
 |ai+1,U,j=>if decide (U<(List.length I.aKg:Int))then(idx I.aKg U).bind λaf=>(kM af.aF J).bind λaj=>if !aj.2 then nW I J ai (i64.wrap (U+1)) j else rP J j af (λ(C:Int)=>(B6 j C).bind λal=>(app 56 ([]:List M.aKy) (List.take C.toNat j)).bind λao=>(Bm af).bind λah=>(app 56 (List.take C.toNat j) ([ah])).bind λaq=>(app 56 ((List.take C.toNat j)++[ah]) (List.drop C.toNat j)).bind λak=>nW I J ai (i64.wrap (U+1)) (((List.take C.toNat j)++[ah])++(List.drop C.toNat j))) aJ (List.length j:Int)else some j
def C4(j:M.aD)(C:ByteArray):Option (List M.aKy):=
 nW j C aJ 0 []
def oF(C:ByteArray)(x1:(List M.aKy)):Nat->Int->Option (M.bD×M.bD×Bool)
 |0,_=>none
 |U+1,j=>if decide (j<(List.length x1:Int))then(idx x1 (i64.wrap (j-1))).bind λI=>(kM I.aF C).bind λah=>(idx x1 j).bind λJ=>(kM J.aF C).bind λai=>if ah.1==ai.1 then some (I.Key,J.Key,true)else oF C x1 U (i64.wrap (j+1))else some ((⟨0,0,(⟨#[]⟩:ByteArray)⟩:M.bD),(⟨0,0,(⟨#[]⟩:ByteArray)⟩:M.bD),false)
def zX(C:M.aD)(j:ByteArray):Option (M.bD×M.bD×Bool):=
 (C4 C j).bind λx1=>oF j x1 aJ 1
def iK(U:M.aKc)(v4:Int)(C:M.aV)(I:Int->Option Bool):Nat->Int->Option Bool
 |0,_=>none
 |ai+1,j=>if decide (j<v4)then(idx U.aKz j).bind λJ=>if(J.aD.toList==C.aD.toList)&&(J.Field.toList==C.Field.toList)then some false else iK U v4 C I ai (i64.wrap (j+1))else I j
def fX(j:M.aKc):Nat->Int->Option Bool
 |0,_=>none
 |U+1,I=>if decide (I<(List.length j.aKz:Int))then(idx j.aKz I).bind λC=>(mS j C.aD).bind λJ=>if decide (J<0)then some false else(cU C.Field).bind λai=>if !ai then some false else(idx j.aKm J).bind λaj=>(zX aj C.Field).bind λak=>if ak.2.2 then some false else iK j I C (λ(af:Int)=>fX j U (i64.wrap (I+1))) aJ 0 else(cU j.Name).bind λal=>if al then(bG j.aKb 0 1000).bind λao=>if ao then if decide ((List.length j.aKm:Int)<=4)then some (decide ((List.length j.aKz:Int)<=4))else some false else some false else some false
def fW(j:M.aKc):Nat->Int->Option Bool
 |0,_=>none
 |I+1,C=>if decide (C<(List.length j.aKm:Int))then(idx j.aKm C).bind λx6=>(oP x6).bind λJ=>if !J then some false else if decide (C>0)then(idx j.aKm (i64.wrap (C-1))).bind λU=>if !(Op.bytesLess U.Name.toList x6.Name.toList)then some false else fW j I (i64.wrap (C+1))else fW j I (i64.wrap (C+1))else fX j aJ 0
def cX(j:M.aKc):Option Bool:=
 fW j aJ 0
def oZ(j:M.aO):Nat->Int->Option Bool
 |0,_=>none
 |J+1,C=>if decide (C<(List.length j.aKw:Int))then(idx j.aKw C).bind λI=>(lV I).bind λU=>if !U then some false else if I.aKk !=j.aKk then some false else if I.Seq !=(i64.wrap ((i64.wrap (j.aLE-(List.length j.aKw:Int)))+C))then some false else oZ j J (i64.wrap (C+1))else some true
def kR(j:M.aO):Option Bool:=
 (bG j.aKk 1 1000000).bind λx1=>if !x1 then some false else(bG j.aLE 1 1000000).bind λx4=>if !x4 then some false else if decide ((j.aKw.length:Int)>20)then some false else oZ j aJ 0
def rD(j:M.aH):Option Bool:=
 (oP j.aK1).bind λx1=>if x1 then if j.aK1.Name.toList==(⟨#[110,111,116,101,115]⟩:ByteArray).toList then(bG j.aLT 0 1000000000000).bind λx5=>if x5 then(kR j.aK3.aO).bind λx8=>some x8 else some false else some false else some false
def Cx(j:M.aKo)(C:Bool):Option Int:=
 if C then some 76 else some (i64.wrap (16+(j.aLZ.length)))
def lU(p0:M.aN)(v4:Int)(U:Int->Int->Option Int):Nat->Int->Int->Option Int
 |0,_,_=>none
 |ai+1,C,j=>(idx p0.aKi v4).bind λI=>if decide (j<(List.length I.aKs:Int))then(idx I.aKs j).bind λJ=>(Cx J.aKo (J.aKo.aLX==3)).bind λaj=>lU p0 v4 U ai (i64.wrap (C+aj)) (i64.wrap (j+1))else U C j
def fP(j:M.aN):Nat->Int->Int->Option Int
 |0,_,_=>none
 |U+1,I,C=>if decide (C<(List.length j.aKi:Int))then lU j C (λ(J:Int) (ae:Int)=>fP j U J (i64.wrap (C+1))) aJ I 0 else some I
def Cv(j:M.aN):Option Int:=
 fP j aJ 0 0
def bT(j:M.bD):Nat->Int->List Int->Option (List Int)
 |0,_,_=>none
 |J+1,I,C=>if decide (I>=0)then if j.aKx !=2 then if decide (0<=(i64.wrap (8*I)))then(app 1 C ([u8.wrap (i64.wrap (BitVec.ofInt i64.bits (Int.fdiv (i64.wrap (j.N+1000000000000)) (2^(min (i64.wrap (8*I)).toNat i64.bits)))&&&BitVec.ofInt i64.bits 255).toNat)])).bind λU=>bT j J (i64.wrap (I-1)) (C++[u8.wrap (i64.wrap (BitVec.ofInt i64.bits (Int.fdiv (i64.wrap (j.N+1000000000000)) (2^(min (i64.wrap (8*I)).toNat i64.bits)))&&&BitVec.ofInt i64.bits 255).toNat)])else none else(app 1 C (bF j.aK5)).bind λah=>some (C++(bF j.aK5))else(app 1 C (bF j.aK5)).bind λai=>some (C++(bF j.aK5))
def mT(j:M.bD):Option (List Int):=
 (gQ j).bind λx1=>if !x1 then some []else bT j aJ 5 ([u8.wrap j.aKx])
def dI  :Nat->Int->List Int->Option (List Int)
 |0,_,_=>none
 |I+1,j,C=>if decide (j>127)then(app 1 C ([u8.wrap (i64.wrap (BitVec.ofInt i64.bits (i64.wrap (BitVec.ofInt i64.bits j&&&BitVec.ofInt i64.bits 127).toNat)|||BitVec.ofInt i64.bits 128).toNat)])).bind λJ=>dI I (Int.fdiv j (2^(min (7:Int).toNat i64.bits))) (C++[u8.wrap (i64.wrap (BitVec.ofInt i64.bits (i64.wrap (BitVec.ofInt i64.bits j&&&BitVec.ofInt i64.bits 127).toNat)|||BitVec.ofInt i64.bits 128).toNat)])else(app 1 C ([u8.wrap j])).bind λU=>some (C++[u8.wrap j])
def cK(j:List Int)(C:Int):Option (List Int):=
 (app 1 [] j).bind λx1=>(bG C 0 1000000000000).bind λx7=>if !x7 then some j else dI aJ C j
def cJ(C:List Int)(j:List Int):Option (List Int):=
 (cK C (j.length)).bind λx1=>(app 1 x1 j).bind λx3=>some (x1++j)
def dL(j:M.aF):Nat->Int->List Int->Option (List Int)
 |0,_,_=>none
 |U+1,C,I=>if decide (C<(List.length j.aKj:Int))then(idx j.aKj C).bind λJ=>(cJ I (bF J.Name)).bind λah=>(cK ah J.N).bind λai=>dL j U (i64.wrap (C+1)) ai else some I
def hJ(j:M.aF):Option (List Int):=
 (cA j).bind λx1=>if !x1 then some []else(cK [] (j.aKj.length)).bind λx4=>dL j aJ 0 x4
def nH(j:M.aD):Nat->Int->Int->Option Int
 |0,_,_=>none
 |J+1,I,C=>if decide (C<(List.length j.aKg:Int))then(idx j.aKg C).bind λx7=>(mT x7.Key).bind λU=>(hJ x7.aF).bind λaf=>nH j J (i64.wrap ((i64.wrap (I+(List.length U:Int)))+(List.length af:Int))) (i64.wrap (C+1))else some I
def BI(j:M.aD):Option Int:=
 nH j aJ 0 0
def iX(j:M.aKc):Nat->Int->Int->Option Int
 |0,_,_=>none
 |J+1,I,C=>if decide (C<(List.length j.aKm:Int))then(idx j.aKm C).bind λx7=>(BI x7).bind λU=>iX j J (i64.wrap (I+U)) (i64.wrap (C+1))else some I
def Br(j:M.aKc):Option Int:=
 iX j aJ 0 0
def D0(j:M.bJ):Option Int:=
 (Br j.aK1).bind λx1=>some (i64.wrap (x1+(j.Log.length)))
def Dc(j:M.aKe):Option Int:=
 (Cv j.aKi).bind λx1=>(D0 j.bJ).bind λx3=>(BI j.aH.aK1).bind λx5=>some (i64.wrap ((i64.wrap ((i64.wrap (x1+x3))+x5))+(i64.wrap (40*(j.aH.aK3.aO.aKw.length)))))
def pJ(j:M.aKe):Option Bool:=
 (cU j.aKl).bind λx1=>if x1 then(cU j.Top).bind λx4=>if x4 then(oH j.aKd).bind λx7=>if x7 then if j.aKd.aKl.toList==j.aKl.toList then(dC j.aKi).bind λC=>if C then(cX j.bJ.aK1).bind λI=>if I then(rD j.aH).bind λJ=>if J then(bG j.aLC 0 1000000000000).bind λU=>if U then(Dc j).bind λai=>some (decide (ai<=2500))else some false else some false else some false else some false else some false else some false else some false else some false
def BU(j:M.aKe)(C:ByteArray)(I:ByteArray):Option Bool:=
 if Op.bytesLess j.aKl.toList C.toList then some true else if j.aKl.toList==C.toList then some (Op.bytesLess j.Top.toList I.toList)else some false
def kX(j:M.aC):Nat->Int->Option Bool
 |0,_=>none
 |I+1,C=>if decide (C<(List.length j.aKf:Int))then(idx j.aKf C).bind λx6=>(pJ x6).bind λJ=>if !J then some false else if decide (C>0)then(idx j.aKf (i64.wrap (C-1))).bind λU=>(BU U x6.aKl x6.Top).bind λah=>if !ah then some false else kX j I (i64.wrap (C+1))else kX j I (i64.wrap (C+1))else some (decide ((List.length j.aKf:Int)<=9))
def dE(j:M.aC):Option Bool:=
 kX j aJ 0
def eI(j:ByteArray):Nat->Int->Option Bool
 |0,_=>none
 |I+1,C=>if decide (C<(j.size:Int))then(aBH j C).bind λx5=>if decide ((x5.toNat:Int)<97)then if(x5.toNat:Int) !=47 then some false else eI j I (i64.wrap (C+1))else if decide ((x5.toNat:Int)>122)then if(x5.toNat:Int) !=47 then some false else eI j I (i64.wrap (C+1))else eI j I (i64.wrap (C+1))else(bG (j.size:Int) 1 30).bind λJ=>some J
def AE(j:ByteArray):Option Bool:=
 eI j aJ 0
def dJ(I:M.aW)(J:Int)(x6:M.vE)(C:Int->Option Bool):Nat->Int->Option Bool
 |0,_=>none
 |U+1,j=>if decide (j<J)then(idx I.aKu j).bind λah=>if x6.aLb then if ah.Name.toList==x6.Name.toList then if !ah.aLb then some false else if !x6.aLK then some false else if !ah.aLK then some false else dJ I J x6 C U (i64.wrap (j+1))else dJ I J x6 C U (i64.wrap (j+1))else dJ I J x6 C U (i64.wrap (j+1))else C j
def gS(j:M.aW):Nat->Int->Option Bool
 |0,_=>none
 |I+1,C=>if decide (C<(List.length j.aKu:Int))then(idx j.aKu C).bind λx6=>(AE x6.Name).bind λJ=>if !J then some false else(bG x6.bK 1 1000000000000).bind λU=>if !U then some false else dJ j C x6 (λ(aa:Int)=>gS j I (i64.wrap (C+1))) aJ 0 else some (decide ((List.length j.aKu:Int)<=12))
def Am(j:M.aW):Option Bool:=
 gS j aJ 0
def gD(j:M.aE):Nat->Int->Option Bool
 |0,_=>none
 |J+1,I=>if decide (I<(List.length j.aKq:Int))then(idx j.aKq I).bind λC=>(vW C).bind λU=>if !U then some false else if decide (C.Id>=j.aKn)then some false else if decide (I>0)then(idx j.aKq (i64.wrap (I-1))).bind λah=>if decide (ah.Id>=C.Id)then some false else(dZ j.aC C.aKl C.Top).bind λai=>if decide (ai<0)then some false else gD j J (i64.wrap (I+1))else(dZ j.aC C.aKl C.Top).bind λaj=>if decide (aj<0)then some false else gD j J (i64.wrap (I+1))else(bG j.Now 0 999999990000).bind λak=>if ak then(bG j.aKk 1 1000000).bind λal=>if al then(dE j.aC).bind λao=>if ao then(bG j.aKn 1 1000000000000).bind λaq=>if aq then(Am j.aKu).bind λar=>some ar else some false else some false else some false else some false
def nZ(C:M.aE):Nat->Int->Option Bool
 |0,_=>none
 |I+1,j=>if decide (j<3)then((idx C.aK0 j).bind λx9=>((Bp x9).bind λJ=>(if !J then(some false)else((xZ).bind λU=>((idx U j).bind λah=>(if !(x9.Name.toList==ah.toList)then(some false)else((idx C.aKr j).bind λai=>((tM ai).bind λaj=>(if !aj then(some false)else(nZ C I (i64.wrap (j+1))))))))))))else(gD C aJ 0)
def mO(j:M.aE):Option Bool:=
 if(j.aK0.length:Int) !=3 then some false else if(j.aKr.length:Int) !=3 then some false else if decide ((j.aKq.length:Int)>6)then some false else nZ j aJ 0
def rA(I:List M.vE)(J:Int)(j:M.vE):Nat->Int->Option Bool
 |0,_=>none
 |U+1,C=>if decide (C<J)then(idx I C).bind λx8=>if x8.Name.toList==j.Name.toList then if !x8.aLb then some false else if !x8.aLK then some false else if !j.aLK then some false else rA I J j U (i64.wrap (C+1))else rA I J j U (i64.wrap (C+1))else some true
def DE(j:List M.vE)(C:Int)(I:M.vE):Option Bool:=
 rA j C I aJ 0
def fV  :Nat->Int->List M.vE->Option M.aW
 |0,_,_=>none
 |J+1,C,j=>if decide (C<(List.length j:Int))then(idx j C).bind λI=>if !I.aLb then(DE j C I).bind λU=>if U then fV J (i64.wrap (C+1)) (List.set j C.toNat (⟨I.Name,I.bK,I.aLK,true⟩:M.vE))else fV J (i64.wrap (C+1)) j else fV J (i64.wrap (C+1)) j else some (⟨j⟩:M.aW)
def xO(j:M.aW):Option M.aW:=
 (Ax j).bind λx1=>fV aJ 0 x1.aKu
def fN(C:M.aW)(U:Int):Nat->Int->List M.vE->Option M.aW
 |0,_,_=>none
 |af+1,I,j=>if decide (I<(List.length C.aKu:Int))then(idx C.aKu I).bind λJ=>if J.bK !=U then(app 32 j ([J])).bind λai=>fN C U af (i64.wrap (I+1)) (j++[J])else fN C U af (i64.wrap (I+1)) j else(xO (⟨j⟩:M.aW)).bind λah=>some ah
def yC(j:M.aW)(C:Int):Option M.aW:=
 fN j C aJ 0 []
def kK(C:M.aKp)(U:Int):Nat->Int->List M.Eb->Option M.aKp
 |0,_,_=>none
 |af+1,I,j=>if decide (I<(List.length C.aLJ:Int))then(idx C.aLJ I).bind λJ=>if J.To !=U then(app 24 j ([J])).bind λah=>kK C U af (i64.wrap (I+1)) (j++[J])else kK C U af (i64.wrap (I+1)) j else some (⟨j⟩:M.aKp)
def Dj(j:M.aKp)(C:Int):Option M.aKp:=
 kK j C aJ 0 []
def yU(j:M.aE)(C:Int):Option (M.aE×Bool):=
 (dM j).bind λx1=>(zI j C).bind λx3=>(mO j).bind λx5=>if !x5 then some (x1,false)else if decide (x3<0)then some (x1,false)else(B6 x1.aKq x3).bind λx9=>(BM x1.aKq (i64.wrap (x3+1))).bind λU=>(app 144 (x1.aKq.take x3.toNat) (x1.aKq.drop (i64.wrap (x3+1)).toNat)).bind λah=>(yC j.aKu C).bind λI=>(Dj j.aKp C).bind λJ=>some (⟨x1.Now,x1.aK4,x1.aKk,x1.aC,(x1.aKq.take x3.toNat)++(x1.aKq.drop (i64.wrap (x3+1)).toNat),x1.aKn,I,J,x1.aK0,x1.aKr⟩,true)
def iQ(C:M.bN)(j:List ByteArray):Option (Int×Int×ByteArray):=
 (aG C (j.length)).bind λx5=>(idx j x5.2.2).bind λx7=>some (x5.1,x5.2.1,x7)
def C6(j:M.bN):Option (Int×Int×ByteArray):=
 (iQ j ([⟨#[98,97,110,107]⟩,⟨#[110,101,119,115]⟩,⟨#[115,104,111,112]⟩])).bind λx4=>some (x4.1,x4.2.1,x4.2.2)
def cF(j:M.bN)(C:Int):Option (Int×Int×Bool):=
 (aG j C).bind λx5=>some (x5.1,x5.2.1,x5.2.2==0)
def cE(j:M.bN):Option (Int×Int×ByteArray):=
 (iQ j ([⟨#[97]⟩,⟨#[98]⟩,⟨#[99]⟩,⟨#[100,111,110,101]⟩,⟨#[116,105,116,108,101]⟩])).bind λx4=>some (x4.1,x4.2.1,x4.2.2)
def D1(j:M.bN)(p1:Int):Option (Int×Int×M.aY):=
 (aG j 9).bind λx5=>(aG ⟨j.b,x5.1,x5.2.1⟩ 4).bind λx7=>if(i64.wrap (1+x5.2.2))==1 then(aG ⟨j.b,x7.1,x7.2.1⟩ 6).bind λC=>some (C.1,C.2.1,⟨i64.wrap (1+x5.2.2),x7.2.2,C.2.2,⟨#[]⟩⟩)else if(i64.wrap (1+x5.2.2))==2 then(aG ⟨j.b,x7.1,x7.2.1⟩ 4).bind λI=>some (I.1,I.2.1,⟨i64.wrap (1+x5.2.2),x7.2.2,I.2.2,⟨#[]⟩⟩)else if(i64.wrap (1+x5.2.2))==3 then(aG ⟨j.b,x7.1,x7.2.1⟩ (i64.wrap (p1+1))).bind λJ=>some (J.1,J.2.1,⟨i64.wrap (1+x5.2.2),x7.2.2,J.2.2,⟨#[]⟩⟩)else if(i64.wrap (1+x5.2.2))==4 then(aG ⟨j.b,x7.1,x7.2.1⟩ (i64.wrap (p1+1))).bind λU=>some (U.1,U.2.1,⟨i64.wrap (1+x5.2.2),0,U.2.2,⟨#[]⟩⟩)else if(i64.wrap (1+x5.2.2))==5 then(iQ ⟨j.b,x7.1,x7.2.1⟩ ([⟨#[105,110,100,101,120]⟩,⟨#[115,116,121,108,101]⟩,⟨#[100,97,116,97]⟩])).bind λai=>some (ai.1,ai.2.1,⟨i64.wrap (1+x5.2.2),x7.2.2,0,ai.2.2⟩)else if(i64.wrap (1+x5.2.2))==6 then(aG ⟨j.b,x7.1,x7.2.1⟩ 4).bind λaj=>(cE ⟨j.b,aj.1,aj.2.1⟩).bind λak=>some (ak.1,ak.2.1,⟨i64.wrap (1+x5.2.2),x7.2.2,aj.2.2,ak.2.2⟩)else if(i64.wrap (1+x5.2.2))==7 then(aG ⟨j.b,x7.1,x7.2.1⟩ 4).bind λal=>(cE ⟨j.b,al.1,al.2.1⟩).bind λao=>some (ao.1,ao.2.1,⟨i64.wrap (1+x5.2.2),x7.2.2,al.2.2,ao.2.2⟩)else if(i64.wrap (1+x5.2.2))==8 then(aG ⟨j.b,x7.1,x7.2.1⟩ 4).bind λaq=>(cE ⟨j.b,aq.1,aq.2.1⟩).bind λar=>some (ar.1,ar.2.1,⟨i64.wrap (1+x5.2.2),x7.2.2,aq.2.2,ar.2.2⟩)else if(i64.wrap (1+x5.2.2))==9 then some (x7.1,x7.2.1,⟨i64.wrap (1+x5.2.2),0,0,⟨#[]⟩⟩)else some (x7.1,x7.2.1,⟨i64.wrap (1+x5.2.2),x7.2.2,0,⟨#[]⟩⟩)
def nC(U:M.bN)(x4:(Int×Int×Int)):Nat->Int->List M.aY->Int->Int->Option (Int×Int×(List M.aY))
 |0,_,_,_,_=>none
 |ah+1,v5,C,I,J=>if decide (v5<x4.2.2)then(D1 (⟨U.b,I,J⟩:M.bN) x4.2.2).bind λj=>(app 40 C ([j.2.2])).bind λai=>nC U x4 ah (i64.wrap (v5+1)) (C++[j.2.2]) j.1 j.2.1 else some (I,J,C)
def uY(j:M.bN):Option (Int×Int×(List M.aY)):=
 (aG j 8).bind λx4=>nC j x4 aJ 0 [] x4.1 x4.2.1
def pV(C:ByteArray)(x1:(List ByteArray)):Nat->Int->Option Int
 |0,_=>none
 |I+1,j=>if decide (j<(List.length x1:Int))then(idx x1 j).bind λx9=>if x9.toList==C.toList then some j else pV C x1 I (i64.wrap (j+1))else some (-1)
def sS(j:ByteArray):Option Int:=
 (xZ).bind λx1=>pV j x1 aJ 0
def Bo(j:M.aE):Option Int:=
 some (i64.wrap ((i64.wrap (1000*j.aKk))+j.aKn))
def rF(j:Int):Option (M.aO×Bool):=
 (kR ⟨j,1,[]⟩).bind λx1=>if !x1 then some (⟨0,0,[]⟩,false)else some (⟨j,1,[]⟩,true)
def uP(j:ByteArray)(C:ByteArray)(J:Int):Option (M.aKe×Bool):=
 (rF J).bind λx1=>if !x1.2 then some (⟨⟨#[]⟩,⟨#[]⟩,⟨⟨#[]⟩,0,0,0⟩,⟨[]⟩,⟨⟨⟨#[]⟩,0,[],[]⟩,[],0⟩,⟨⟨⟨#[]⟩,[],0⟩,0,⟨⟨0,0,[]⟩,0,0⟩⟩,0,false⟩,false)else(pJ ⟨j,C,⟨j,0,0,0⟩,⟨[]⟩,⟨⟨⟨#[97,112,112]⟩,1,[⟨⟨#[110,111,116,101,115]⟩,[],0⟩],[]⟩,[],0⟩,⟨⟨⟨#[110,111,116,101,115]⟩,[],0⟩,0,⟨x1.1,0,0⟩⟩,0,false⟩).bind λI=>if !I then some (⟨⟨#[]⟩,⟨#[]⟩,⟨⟨#[]⟩,0,0,0⟩,⟨[]⟩,⟨⟨⟨#[]⟩,0,[],[]⟩,[],0⟩,⟨⟨⟨#[]⟩,[],0⟩,0,⟨⟨0,0,[]⟩,0,0⟩⟩,0,false⟩,false)else some (⟨j,C,⟨j,0,0,0⟩,⟨[]⟩,⟨⟨⟨#[97,112,112]⟩,1,[⟨⟨#[110,111,116,101,115]⟩,[],0⟩],[]⟩,[],0⟩,⟨⟨⟨#[110,111,116,101,115]⟩,[],0⟩,0,⟨x1.1,0,0⟩⟩,0,false⟩,true)
def nL(C:M.aC)(I:M.aKe)(x1:M.aC):Nat->Int->Option (M.aC×Bool)
 |0,_=>none
 |al+1,j=>if decide (j<(List.length C.aKf:Int))then(idx C.aKf j).bind λao=>(BU ao I.aKl I.Top).bind λaq=>if aq then nL C I x1 al (i64.wrap (j+1))else(B6 x1.aKf j).bind λbd=>(app 328 ([]:List M.aKe) (List.take j.toNat x1.aKf)).bind λbf=>(gL I).bind λU=>(app 328 (List.take j.toNat x1.aKf) ([U])).bind λbg=>(app 328 ((List.take j.toNat x1.aKf)++[U]) (List.drop j.toNat x1.aKf)).bind λbh=>(dE C).bind λar=>if !ar then(gM C).bind λav=>some (av,false)else(dE (⟨((List.take j.toNat x1.aKf)++[U])++(List.drop j.toNat x1.aKf)⟩:M.aC)).bind λaw=>if !aw then(gM C).bind λaf=>some (af,false)else some ((⟨((List.take j.toNat x1.aKf)++[U])++(List.drop j.toNat x1.aKf)⟩:M.aC),true)else(B6 x1.aKf j).bind λax=>(app 328 ([]:List M.aKe) (List.take j.toNat x1.aKf)).bind λay=>(gL I).bind λJ=>(app 328 (List.take j.toNat x1.aKf) ([J])).bind λaz=>(app 328 ((List.take j.toNat x1.aKf)++[J]) (List.drop j.toNat x1.aKf)).bind λba=>(dE C).bind λah=>if !ah then(gM C).bind λai=>some (ai,false)else(dE (⟨((List.take j.toNat x1.aKf)++[J])++(List.drop j.toNat x1.aKf)⟩:M.aC)).bind λaj=>if !aj then(gM C).bind λak=>some (ak,false)else some ((⟨((List.take j.toNat x1.aKf)++[J])++(List.drop j.toNat x1.aKf)⟩:M.aC),true)
def hU(j:M.aC)(C:M.aKe):Option (M.aC×Bool):=
 (gM j).bind λx1=>(dZ j C.aKl C.Top).bind λx3=>if decide (x3>=0)then(gL C).bind λx6=>(idx x1.aKf x3).bind λx8=>(dE j).bind λI=>if !I then(gM j).bind λJ=>some (J,false)else(dE ⟨x1.aKf.set x3.toNat x6⟩).bind λU=>if !U then(gM j).bind λah=>some (ah,false)else some (⟨x1.aKf.set x3.toNat x6⟩,true)else nL j C x1 aJ 0
def sC(j:M.aKd)(C:M.aKl)(I:Bool):Option Int:=
 if j.aLL !=0 then some j.aLL else if I then some C.aKb else some 0
def Ao(j:M.aY)(p1:Int):Option Bool:=
 (if j.aKx==5 then some true else(bG j.aKx 6 8).bind λx9=>some x9).bind λx1=>(if j.aKx==1 then some 1000 else if j.aKx==2 then some 3 else(if j.aKx==3 then some (j.aKx==3)else some (j.aKx==4)).bind λC=>if C then some p1 else(if j.aKx==6 then some (j.aKx==6)else if j.aKx==7 then some (j.aKx==7)else some (j.aKx==8)).bind λI=>if I then some 100 else some 0).bind λJ=>((bG j.aKx 1 9).bind λU=>if !U then some true else(bG j.R 0 3).bind λai=>if !ai then some true else(bG j.N 0 J).bind λaj=>some (!aj)).bind λak=>if ak then some false else(if j.aKx==4 then some (j.R !=0)else if j.aKx==9 then some (j.R !=0)else some false).bind λal=>if al then some false else(if x1 then(cU j.aK5).bind λao=>if ao then some true else some false else some (j.aK5.toList==(⟨#[]⟩:ByteArray).toList)).bind λaq=>some aq
def pF(j:List M.aY):Nat->Int->Option Bool
 |0,_=>none
 |I+1,C=>if decide (C<(List.length j:Int))then(idx j C).bind λx5=>(Ao x5 (List.length j:Int)).bind λJ=>if !J then some false else pF j I (i64.wrap (C+1))else some (decide ((List.length j:Int)<=16))
def Cr(j:List M.aY):Option Bool:=
 pF j aJ 0
def A4(j:List M.aY):Option M.aKh:=
 (Cr j).bind λx8=>if !x8 then some ⟨[],0,[0,0,0,0],0,true,false⟩else(zG j).bind λC=>some ⟨C,0,[0,0,0,0],0,false,false⟩
def mU(j:Int)(C:ByteArray)(I:ByteArray)(J:Int)(U:List M.aY):Option (M.bK×Bool):=
 (A4 U).bind λx1=>(vW ⟨j,C,I,J,[],x1⟩).bind λx3=>if !x3 then some (⟨0,⟨#[]⟩,⟨#[]⟩,0,[],⟨[],0,[],0,false,false⟩⟩,false)else some (⟨j,C,I,J,[],x1⟩,true)
def dD  :Option M.aKo:=
 some ⟨4,0,0,[],false⟩
def nE(C:M.aN)(I:Int):Nat->Int->Option Int
 |0,_=>none
 |J+1,j=>if decide (j<(List.length C.aKi:Int))then(idx C.aKi j).bind λx7=>if x7.aKb==I then some j else nE C I J (i64.wrap (j+1))else some (-1)
def zT(j:M.aN)(C:Int):Option Int:=
 nE j C aJ 0
def oJ(C:M.aKv)(I:ByteArray)(J:ByteArray):Nat->Int->Option Int
 |0,_=>none
 |U+1,j=>if decide (j<(List.length C.aKs:Int))then(idx C.aKs j).bind λx8=>if x8.aKl.toList==I.toList then if x8.aLQ.toList==J.toList then some j else oJ C I J U (i64.wrap (j+1))else oJ C I J U (i64.wrap (j+1))else some (-1)
def BQ(j:M.aKv)(C:ByteArray)(I:ByteArray):Option Int:=
 oJ j C I aJ 0
def AP(C:M.aN)(p1:Int)(p2:ByteArray)(p3:ByteArray):Option (M.aKo×Bool):=
 (zT C p1).bind λx1=>(if decide (x1<0)then((dD).bind λx4=>(some (x4,false)))else((idx C.aKi x1).bind λx6=>((BQ x6 p2 p3).bind λj=>(if decide (j<0)then((dD).bind λI=>(some (I,false)))else((idx x6.aKs j).bind λJ=>((vY J.aKo).bind λU=>(some (U,true))))))))
def zO(j:Int)(C:Int):Option Int:=
 if decide (C>j)then some C else some j
def vO(j:M.aKl)(C:Int):Option Bool:=
 (Bp j).bind λx1=>if x1 then(zO 1 (i64.wrap ((i64.wrap (j.aKb-2))+1))).bind λx4=>(bG C x4 j.aKb).bind λx6=>some x6 else some false
def rZ(j:M.aKl)(I:ByteArray):Nat->Int->Option Bool
 |0,_=>none
 |J+1,C=>if decide (C<(List.length j.aLG:Int))then(idx j.aLG C).bind λx7=>if x7.toList==I.toList then some true else rZ j I J (i64.wrap (C+1))else some false
def CW(j:M.aKl)(C:ByteArray):Option Bool:=
 rZ j C aJ 0
def kF(j:List Int):Nat->Int->List Int->Option (List Int)
 |0,_,_=>none
 |U+1,I,C=>if decide (I<(List.length j:Int))then(idx j I).bind λJ=>(app 8 C ([i64.wrap J])).bind λaf=>kF j U (i64.wrap (I+1)) (C++[i64.wrap J])else some C
def uL(j:List Int):Option (List Int):=
 kF j aJ 0 ([j.length])
def G7(C:Int)(j:Int):Option Int:=
 (bG j 1 1000000000000).bind λx1=>if !x1 then some 0 else if decide (j=0)then none else some (Int.tmod (i64.wrap ((Int.tmod C j)+j)) j)
def Ar(j:List Int):Nat->Int->Int->Option Int
 |0,_,_=>none
 |J+1,I,C=>if decide (C<(List.length j:Int))then(idx j C).bind λx6=>(G7 x6 2147483647).bind λU=>Ar j J (Int.tmod (i64.wrap ((i64.wrap ((i64.wrap (I*1000003))+U))+13)) 2147483647) (i64.wrap (C+1))else some I
def Eu(j:List Int):Option Int:=
 Ar j aJ 11 0
def zF(j:Int)(C:List Int):Option Int:=
 (app 8 ([j]) C).bind λx1=>(app 8 ([j]++C) ([j])).bind λx3=>(Eu (([j]++C)++[j])).bind λx5=>some x5
def lH(j:Int)(C:ByteArray):Option Int:=
 (uL (bF C)).bind λx1=>(zF j x1).bind λx3=>(zO 1 x3).bind λx5=>some x5
def zA(x5:Int):Nat->Int->List Int->Option (List Int)
 |0,_,_=>none
 |I+1,j,C=>if decide (j>=0)then if decide (0<=(i64.wrap (8*j)))then(app 1 C ([u8.wrap (i64.wrap (BitVec.ofInt i64.bits (Int.fdiv x5 (2^(min (i64.wrap (8*j)).toNat i64.bits)))&&&BitVec.ofInt i64.bits 255).toNat)])).bind λJ=>zA x5 I (i64.wrap (j-1)) (C++[u8.wrap (i64.wrap (BitVec.ofInt i64.bits (Int.fdiv x5 (2^(min (i64.wrap (8*j)).toNat i64.bits)))&&&BitVec.ofInt i64.bits 255).toNat)])else none else some C
def DS(j:M.aKl)(C:ByteArray)(I:Int):Option (List Int):=
 (lH 107 j.Name).bind λx1=>(lH 109 C).bind λx3=>(zF (i64.wrap (1+I)) ([103,x1,x3])).bind λx5=>zA x5 aJ 5 []
def BN(j:M.aKl)(I:ByteArray)(C:Int):Option M.aKo:=
 (Bp j).bind λx1=>(if !x1 then((dD).bind λx4=>(some x4))else((vO j C).bind λx6=>(if !x6 then(some ⟨1,404,j.aKb,[],false⟩)else((CW j I).bind λx9=>(if !x9 then(some ⟨1,404,j.aKb,[],false⟩)else((DS j I C).bind λJ=>(some ⟨1,200,C,J,j.aLK⟩)))))))
def lY(J:M.aN)(j:M.aKl)(C:Int)(I:ByteArray)(U:Bool):Option M.aKo:=
 (AP J C j.Name I).bind λx1=>(if x1.2 then(some x1.1)else(if U then((BN j I C).bind λx5=>(some x5))else((dD).bind λx7=>(some x7))))
def gC(j:M.aE)(C:M.bK)(p2:ByteArray):Option M.aKo:=
 (dZ j.aC C.aKl C.Top).bind λx1=>((sS C.aKl).bind λx3=>(if decide (x1<0)then((dD).bind λx6=>(some x6))else(if decide (x3<0)then((dD).bind λx9=>(some x9))else((idx j.aC.aKf x1).bind λI=>((idx j.aK0 x3).bind λJ=>((lY I.aKi J C.aKb p2 j.aK4).bind λU=>(some U)))))))
def kI(j:M.bK)(I:ByteArray)(C:M.aKo):Option (M.bK×Bool):=
 (mL j).bind λx1=>(app 24 x1.aT ([⟨I,C.aKb⟩])).bind λx3=>if C.aLV !=200 then(mL j).bind λJ=>some (J,false)else if C.aKb !=j.aKb then(mL j).bind λU=>some (U,false)else(vW j).bind λaf=>if !af then(mL j).bind λah=>some (ah,false)else(vW ⟨x1.Id,x1.aKl,x1.Top,x1.aKb,x1.aT++[⟨I,C.aKb⟩],x1.aKh⟩).bind λai=>if !ai then(mL j).bind λaj=>some (aj,false)else some (⟨x1.Id,x1.aKl,x1.Top,x1.aKb,x1.aT++[⟨I,C.aKb⟩],x1.aKh⟩,true)
def xR(j:M.aE)(J:ByteArray)(U:ByteArray)(p3:List M.aY):Option (M.aE×Int×Bool):=
 (dM j).bind λx1=>(sS J).bind λx3=>(mO j).bind λx5=>if !x5 then some (x1,0,false)else if decide (x3<0)then some (x1,0,false)else(sS U).bind λx9=>if decide (x9<0)then some (x1,0,false)else(Bo j).bind λbg=>(uP J U bg).bind λC=>(dZ j.aC J U).bind λbf=>if decide (bf>=0)then(idx j.aC.aKf bf).bind λbh=>(gL bh).bind λI=>(hU j.aC ⟨I.aKl,I.Top,I.aKd,I.aKi,I.bJ,I.aH,j.Now,I.aK9⟩).bind λaj=>(idx j.aK0 x3).bind λbj=>(sC I.aKd bj j.aK4).bind λbl=>(mU j.aKn J U bl p3).bind λak=>if !aj.2 then(dM j).bind λbm=>some (bm,0,false)else if !ak.2 then(dM j).bind λbn=>some (bn,0,false)else(gC ⟨x1.Now,x1.aK4,x1.aKk,aj.1,x1.aKq,x1.aKn,x1.aKu,x1.aKp,x1.aK0,x1.aKr⟩ ak.1 ⟨#[105,110,100,101,120]⟩).bind λbo=>(kI ak.1 ⟨#[105,110,100,101,120]⟩ bo).bind λal=>(app 144 x1.aKq ([al.1])).bind λbt=>if !al.2 then(dM j).bind λbq=>some (bq,0,false)else(mO ⟨x1.Now,x1.aK4,x1.aKk,aj.1,x1.aKq++[al.1],i64.wrap (j.aKn+1),x1.aKu,x1.aKp,x1.aK0,x1.aKr⟩).bind λao=>if !ao then(dM j).bind λaq=>some (aq,0,false)else some (⟨x1.Now,x1.aK4,x1.aKk,aj.1,x1.aKq++[al.1],i64.wrap (j.aKn+1),x1.aKu,x1.aKp,x1.aK0,x1.aKr⟩,ak.1.Id,true)else(hU j.aC ⟨C.1.aKl,C.1.Top,C.1.aKd,C.1.aKi,C.1.bJ,C.1.aH,j.Now,C.1.aK9⟩).bind λaa=>(idx j.aK0 x3).bind λar=>(sC C.1.aKd ar j.aK4).bind λav=>(mU j.aKn J U av p3).bind λae=>if !aa.2 then(dM j).bind λaw=>some (aw,0,false)else if !ae.2 then(dM j).bind λax=>some (ax,0,false)else(gC ⟨x1.Now,x1.aK4,x1.aKk,aa.1,x1.aKq,x1.aKn,x1.aKu,x1.aKp,x1.aK0,x1.aKr⟩ ae.1 ⟨#[105,110,100,101,120]⟩).bind λay=>(kI ae.1 ⟨#[105,110,100,101,120]⟩ ay).bind λaf=>(app 144 x1.aKq ([af.1])).bind λbr=>if !af.2 then(dM j).bind λaz=>some (az,0,false)else(mO ⟨x1.Now,x1.aK4,x1.aKk,aa.1,x1.aKq++[af.1],i64.wrap (j.aKn+1),x1.aKu,x1.aKp,x1.aK0,x1.aKr⟩).bind λba=>if !ba then(dM j).bind λbd=>some (bd,0,false)else some (⟨x1.Now,x1.aK4,x1.aKk,aa.1,x1.aKq++[af.1],i64.wrap (j.aKn+1),x1.aKu,x1.aKp,x1.aK0,x1.aKr⟩,ae.1.Id,true)
def gP(j:M.bN):Nat->Int->Int->Bool->Int->Int->Int->Int->List M.aKe->List M.bK->List M.vE->List M.Eb->List M.aKl->List M.aKt->Option (Int×Int×M.aE)
 |0,_,_,_,_,_,_,_,_,_,_,_,_,_=>none
 |bn+1,v4,av,aw,ax,ar,ak,al,ae,af,ah,ai,aa,aj=>if decide (v4>0)then(aG (⟨j.b,ak,al⟩:M.bN) 6).bind λC=>if C.2.2==0 then(aG (⟨j.b,C.1,C.2.1⟩:M.bN) (i64.wrap (ar+1))).bind λbo=>(yU (⟨av,aw,ax,(⟨ae⟩:M.aC),af,ar,(⟨ah⟩:M.aW),(⟨ai⟩:M.aKp),aa,aj⟩:M.aE) bo.2.2).bind λU=>gP j bn (i64.wrap (v4-1)) U.1.Now U.1.aK4 U.1.aKk U.1.aKn bo.1 bo.2.1 U.1.aC.aKf U.1.aKq U.1.aKu.aKu U.1.aKp.aLJ U.1.aK0 U.1.aKr else if C.2.2==1 then(aG (⟨j.b,C.1,C.2.1⟩:M.bN) 5).bind λbq=>gP j bn (i64.wrap (v4-1)) (i64.wrap (av+bq.2.2)) aw ax ar bq.1 bq.2.1 ae af ah ai aa aj else if C.2.2==2 then(aG (⟨j.b,C.1,C.2.1⟩:M.bN) 3).bind λbf=>(aG (⟨j.b,bf.1,bf.2.1⟩:M.bN) 3).bind λbg=>(idx aa bf.2.2).bind λbh=>gP j bn (i64.wrap (v4-1)) av aw ax ar bg.1 bg.2.1 ae af ah ai (List.set aa bf.2.2.toNat (⟨bh.Name,i64.wrap (1+bg.2.2),bh.aLG,bh.aLK⟩:M.aKl)) aj else(C6 (⟨j.b,C.1,C.2.1⟩:M.bN)).bind λaz=>(cF (⟨j.b,az.1,az.2.1⟩:M.bN) 3).bind λba=>if ba.2.2 then(C6 (⟨j.b,ba.1,ba.2.1⟩:M.bN)).bind λbj=>(uY (⟨j.b,bj.1,bj.2.1⟩:M.bN)).bind λbl=>(xR (⟨av,aw,ax,(⟨ae⟩:M.aC),af,ar,(⟨ah⟩:M.aW),(⟨ai⟩:M.aKp),aa,aj⟩:M.aE) az.2.2 bj.2.2 bl.2.2).bind λI=>gP j bn (i64.wrap (v4-1)) I.1.Now I.1.aK4 I.1.aKk I.1.aKn bl.1 bl.2.1 I.1.aC.aKf I.1.aKq I.1.aKu.aKu I.1.aKp.aLJ I.1.aK0 I.1.aKr else(uY (⟨j.b,ba.1,ba.2.1⟩:M.bN)).bind λbm=>(xR (⟨av,aw,ax,(⟨ae⟩:M.aC),af,ar,(⟨ah⟩:M.aW),(⟨ai⟩:M.aKp),aa,aj⟩:M.aE) az.2.2 az.2.2 bm.2.2).bind λJ=>gP j bn (i64.wrap (v4-1)) J.1.Now J.1.aK4 J.1.aKk J.1.aKn bm.1 bm.2.1 J.1.aC.aKf J.1.aKq J.1.aKu.aKu J.1.aKp.aLJ J.1.aK0 J.1.aKr else some (ak,al,(⟨av,aw,ax,(⟨ae⟩:M.aC),af,ar,(⟨ah⟩:M.aW),(⟨ai⟩:M.aKp),aa,aj⟩:M.aE))
def DG(C:M.bN):Option (Int×Int×M.aE):=
 (aG C 3).bind λx4=>(Cg (i64.wrap (1+x4.2.2))).bind λx6=>(aG ⟨C.b,x4.1,x4.2.1⟩ 5).bind λj=>gP C aJ j.2.2 x6.Now x6.aK4 x6.aKk x6.aKn j.1 j.2.1 x6.aC.aKf x6.aKq x6.aKu.aKu x6.aKp.aLJ x6.aK0 x6.aKr
def dS(j:Int)(C:Int):Option Int:=
 if decide (C<j)then some C else some j
def uW(j:Int):Option Int:=
 (dS 1000 j).bind λx1=>(zO (-1) x1).bind λx3=>some x3
def Ah(C:M.aKh)(j:M.aY):Option M.Ask:=
 if j.aKx==5 then some ⟨1,j.R,0,j.aK5,0⟩else if j.aKx==6 then some ⟨2,j.R,j.N,j.aK5,0⟩else if j.aKx==7 then(idx C.aLN j.R).bind λx4=>some ⟨3,0,j.N,j.aK5,x4⟩else if j.aKx==8 then(idx C.aLN j.R).bind λI=>some ⟨4,0,j.N,j.aK5,I⟩else some ⟨0,0,0,⟨#[]⟩,0⟩
def eK(x1:M.aKh):Nat->Int->Int->List Int->Option (M.aKh×M.Ask)
 |0,_,_,_=>none
 |U+1,J,I,C=>(bG J 0 (i64.wrap ((List.length x1.aLA:Int)-1))).bind λai=>if !ai then some ((⟨x1.aLA,J,C,I,true,x1.aLR⟩:M.aKh),(⟨0,0,0,(⟨#[]⟩:ByteArray),0⟩:M.Ask))else(idx x1.aLA J).bind λj=>(Ao j (List.length x1.aLA:Int)).bind λaj=>if !aj then some ((⟨x1.aLA,J,C,I,true,x1.aLR⟩:M.aKh),(⟨0,0,0,(⟨#[]⟩:ByteArray),0⟩:M.Ask))else if decide (I>=60)then some ((⟨x1.aLA,J,C,I,true,x1.aLR⟩:M.aKh),(⟨0,0,0,(⟨#[]⟩:ByteArray),0⟩:M.Ask))else if j.aKx==1 then(idx C j.R).bind λay=>eK x1 U (i64.wrap (J+1)) (i64.wrap (I+1)) (List.set C j.R.toNat j.N)else if j.aKx==2 then(idx C j.R).bind λak=>(uW ak).bind λal=>(idx C j.N).bind λao=>(uW ao).bind λaq=>(uW (i64.wrap (al+aq))).bind λar=>eK x1 U (i64.wrap (J+1)) (i64.wrap (I+1)) (List.set C j.R.toNat ar)else if j.aKx==3 then(idx C j.R).bind λav=>if av==0 then eK x1 U j.N (i64.wrap (I+1)) C else eK x1 U (i64.wrap (J+1)) (i64.wrap (I+1)) C else if j.aKx==4 then eK x1 U j.N (i64.wrap (I+1)) C else if j.aKx==9 then some ((⟨x1.aLA,i64.wrap (J+1),C,i64.wrap (I+1),true,x1.aLR⟩:M.aKh),(⟨0,0,0,(⟨#[]⟩:ByteArray),0⟩:M.Ask))else if j.aKx==5 then(Ah (⟨x1.aLA,i64.wrap (J+1),C,i64.wrap (I+1),x1.aLU,true⟩:M.aKh) j).bind λaw=>some ((⟨x1.aLA,i64.wrap (J+1),C,i64.wrap (I+1),x1.aLU,true⟩:M.aKh),aw)else(Ah (⟨x1.aLA,i64.wrap (J+1),C,i64.wrap (I+1),x1.aLU,j.aKx==6⟩:M.aKh) j).bind λax=>some ((⟨x1.aLA,i64.wrap (J+1),C,i64.wrap (I+1),x1.aLU,j.aKx==6⟩:M.aKh),ax)
def Bb(j:M.aKh):Option (M.aKh×M.Ask):=
 (Au j).bind λx1=>if j.aLU then some (x1,⟨0,0,0,⟨#[]⟩,0⟩)else if j.aLR then some (x1,⟨0,0,0,⟨#[]⟩,0⟩)else if(j.aLN.length:Int) !=4 then some (x1,⟨0,0,0,⟨#[]⟩,0⟩)else if decide (j.aLM<0)then some (x1,⟨0,0,0,⟨#[]⟩,0⟩)else eK x1 aJ x1.Pc x1.aLM x1.aLN
def pP(j:M.aKh)(C:Int)(I:Int):Option (M.aKh×Bool):=
 (Au j).bind λx1=>if !j.aLR then some (x1,false)else(bG C 0 (i64.wrap (j.aLN.length-1))).bind λx4=>if !x4 then some (x1,false)else(bG I (-1) 1000).bind λx7=>if !x7 then some (x1,false)else(idx x1.aLN C).bind λJ=>some (⟨x1.aLA,x1.Pc,x1.aLN.set C.toNat I,x1.aLM,x1.aLU,false⟩,true)
def eX(J:List Int)(C:Int):Nat->Int->Int->Option (Int×Int×Bool)
 |0,_,_=>none
 |U+1,I,j=>if decide (j<6)then if decide (C<0)then some (0,0,false)else if decide (C>=(i64.wrap ((List.length J:Int)-j)))then some (0,0,false)else(idx J (i64.wrap (C+j))).bind λx9=>if decide (0<=(i64.wrap (7*j)))then if decide ((i64.wrap x9)<128)then if(i64.wrap x9)==0 then if decide (j>0)then some (0,0,false)else if decide ((i64.wrap (BitVec.ofInt i64.bits I|||BitVec.ofInt i64.bits (i64.wrap ((i64.wrap (BitVec.ofInt i64.bits (i64.wrap x9)&&&BitVec.ofInt i64.bits 127).toNat)*2^(min (i64.wrap (7*j)).toNat i64.bits)))).toNat)>1000000000000)then some (0,0,false)else some (i64.wrap (BitVec.ofInt i64.bits I|||BitVec.ofInt i64.bits (i64.wrap ((i64.wrap (BitVec.ofInt i64.bits (i64.wrap x9)&&&BitVec.ofInt i64.bits 127).toNat)*2^(min (i64.wrap (7*j)).toNat i64.bits)))).toNat,i64.wrap ((i64.wrap (C+j))+1),true)else if decide ((i64.wrap (BitVec.ofInt i64.bits I|||BitVec.ofInt i64.bits (i64.wrap ((i64.wrap (BitVec.ofInt i64.bits (i64.wrap x9)&&&BitVec.ofInt i64.bits 127).toNat)*2^(min (i64.wrap (7*j)).toNat i64.bits)))).toNat)>1000000000000)then some (0,0,false)else some (i64.wrap (BitVec.ofInt i64.bits I|||BitVec.ofInt i64.bits (i64.wrap ((i64.wrap (BitVec.ofInt i64.bits (i64.wrap x9)&&&BitVec.ofInt i64.bits 127).toNat)*2^(min (i64.wrap (7*j)).toNat i64.bits)))).toNat,i64.wrap ((i64.wrap (C+j))+1),true)else eX J C U (i64.wrap (BitVec.ofInt i64.bits I|||BitVec.ofInt i64.bits (i64.wrap ((i64.wrap (BitVec.ofInt i64.bits (i64.wrap x9)&&&BitVec.ofInt i64.bits 127).toNat)*2^(min (i64.wrap (7*j)).toNat i64.bits)))).toNat) (i64.wrap (j+1))else none else some (0,0,false)
def gN(j:List Int)(C:Int):Option (Int×Int×Bool):=
 eX j C aJ 0 0
def eS(j:List Int)(C:Int)(I:Int):Option ((List Int)×Int×Bool):=
 (gN j C).bind λx1=>if !x1.2.2 then some ([],0,false)else if decide (x1.1>I)then some ([],0,false)else if decide (x1.1>(i64.wrap (j.length-x1.2.1)))then some ([],0,false)else(SY j x1.2.1 (i64.wrap (x1.2.1+x1.1))).bind λx6=>(app 1 [] (List.drop x1.2.1.toNat (j.take (i64.wrap (x1.2.1+x1.1)).toNat))).bind λx8=>some (List.drop x1.2.1.toNat (j.take (i64.wrap (x1.2.1+x1.1)).toNat),i64.wrap (x1.2.1+x1.1),true)
def AK(j:Int)(C:List Int):Option Int:=
 (uL C).bind λx1=>(app 8 ([101,j]) x1).bind λx3=>(Eu ([101,j]++x1)).bind λx5=>some x5
def xL(J:List Int):Nat->Int->List (List Int)->Option ((List (List Int))×Int)
 |0,_,_=>none
 |ah+1,C,j=>if decide (C<(List.length J:Int))then(eS J C 4000).bind λI=>if !I.2.2 then some (j,C)else(gN J I.2.1).bind λU=>if !U.2.2 then some (j,C)else(AK (List.length j:Int) I.1).bind λai=>if U.1 !=ai then some (j,C)else(app 24 j ([I.1])).bind λaj=>xL J ah U.2.1 (j++[I.1])else some (j,C)
def CX(j:List Int):Option ((List (List Int))×Int):=
 xL j aJ 0 []
def nD(j:List Int)(x2:Int):Nat->Int->Int->Option (M.bD×Bool)
 |0,_,_=>none
 |J+1,C,I=>if decide (I<7)then(idx j I).bind λU=>nD j x2 J (i64.wrap (BitVec.ofInt i64.bits (i64.wrap (C*2^(min (8:Int).toNat i64.bits)))|||BitVec.ofInt i64.bits (i64.wrap U)).toNat) (i64.wrap (I+1))else(BM j 7).bind λah=>(toStr (List.drop (7:Int).toNat j)).bind λai=>(gQ (⟨i64.wrap x2,i64.wrap (C-1000000000000),bL (List.drop (7:Int).toNat j)⟩:M.bD)).bind λaf=>if !af then some ((⟨0,0,(⟨#[]⟩:ByteArray)⟩:M.bD),false)else some ((⟨i64.wrap x2,i64.wrap (C-1000000000000),bL (List.drop (7:Int).toNat j)⟩:M.bD),true)
def yS(j:List Int):Option (M.bD×Bool):=
 if(j.length:Int)==0 then some (⟨0,0,⟨#[]⟩⟩,false)else(idx j 0).bind λx2=>if(i64.wrap x2) !=2 then if decide ((j.length:Int)<7)then some (⟨0,0,⟨#[]⟩⟩,false)else nD j x2 aJ 0 1 else(BM j 1).bind λI=>(toStr (j.drop (1:Int).toNat)).bind λJ=>(gQ ⟨i64.wrap x2,0,bL (j.drop (1:Int).toNat)⟩).bind λC=>if !C then some (⟨0,0,⟨#[]⟩⟩,false)else some (⟨i64.wrap x2,0,bL (j.drop (1:Int).toNat)⟩,true)
def uU(U:List Int)(x1:(Int×Int×Bool)):Nat->Int->Int->List M.aR->Option (M.aF×Int×Bool)
 |0,_,_,_=>none
 |ah+1,v8,C,I=>if decide (C<x1.1)then(eS U v8 8).bind λj=>if !j.2.2 then some ((⟨([]:List M.aR)⟩:M.aF),0,false)else(gN U j.2.1).bind λJ=>if !J.2.2 then some ((⟨([]:List M.aR)⟩:M.aF),0,false)else(toStr j.1).bind λaj=>(app 24 I ([(⟨bL j.1,J.1⟩:M.aR)])).bind λak=>uU U x1 ah J.2.1 (i64.wrap (C+1)) (I++[(⟨bL j.1,J.1⟩:M.aR)])else(cA (⟨I⟩:M.aF)).bind λai=>some ((⟨I⟩:M.aF),v8,ai)
def Fy(j:List Int)(C:Int):Option (M.aF×Int×Bool):=
 (gN j C).bind λx1=>if !x1.2.2 then some (⟨[]⟩,0,false)else if decide (x1.1>6)then some (⟨[]⟩,0,false)else uU j x1 aJ x1.2.1 0 []
def sN(j:List Int):Option (M.aF×Bool):=
 (Fy j 0).bind λx1=>if !x1.2.2 then some (⟨[]⟩,false)else if x1.2.1 !=(j.length)then some (⟨[]⟩,false)else some (x1.1,true)
def DC(j:List Int)(J:Int):Option (M.fA×Int×Bool):=
 (gN j J).bind λx1=>(eS j x1.2.1 100).bind λx3=>(eS j x3.2.1 100).bind λx5=>(eS j x5.2.1 200).bind λx7=>(eS j x7.2.1 100).bind λx9=>if !x1.2.2 then some (⟨0,⟨#[]⟩,⟨0,0,⟨#[]⟩⟩,⟨[]⟩,⟨#[]⟩⟩,0,false)else if !x3.2.2 then some (⟨0,⟨#[]⟩,⟨0,0,⟨#[]⟩⟩,⟨[]⟩,⟨#[]⟩⟩,0,false)else if !x5.2.2 then some (⟨0,⟨#[]⟩,⟨0,0,⟨#[]⟩⟩,⟨[]⟩,⟨#[]⟩⟩,0,false)else if !x7.2.2 then some (⟨0,⟨#[]⟩,⟨0,0,⟨#[]⟩⟩,⟨[]⟩,⟨#[]⟩⟩,0,false)else if !x9.2.2 then some (⟨0,⟨#[]⟩,⟨0,0,⟨#[]⟩⟩,⟨[]⟩,⟨#[]⟩⟩,0,false)else(toStr x3.1).bind λU=>(toStr x9.1).bind λah=>(yS x5.1).bind λC=>(sN x7.1).bind λI=>some (⟨x1.1,bL x3.1,C.1,I.1,bL x9.1⟩,x9.2.1,true)
def EA(j:M.fA):Option Bool:=
 (bG j.aKx 1 6).bind λx1=>if x1 then(cU j.aD).bind λx4=>if x4 then if j.aKx==5 then(cA j.aF).bind λx8=>if x8 then if j.aKx==6 then(cU j.Field).bind λC=>if C then some true else if j.aKx !=6 then some (j.Field.toList==(⟨#[]⟩:ByteArray).toList)else some false else if j.aKx !=6 then some (j.Field.toList==(⟨#[]⟩:ByteArray).toList)else some false else some false else(gQ j.Key).bind λI=>if I then(cA j.aF).bind λJ=>if J then if j.aKx==6 then(cU j.Field).bind λU=>if U then some true else if j.aKx !=6 then some (j.Field.toList==(⟨#[]⟩:ByteArray).toList)else some false else if j.aKx !=6 then some (j.Field.toList==(⟨#[]⟩:ByteArray).toList)else some false else some false else some false else some false else some false
def sD(C:List M.fA):Nat->Int->List Int->Option (List Int)
 |0,_,_=>none
 |U+1,I,J=>if decide (I<(List.length C:Int))then(idx C I).bind λj=>(EA j).bind λah=>if !ah then some ([]:List Int)else(cK J j.aKx).bind λai=>(cJ ai (bF j.aD)).bind λaj=>(mT j.Key).bind λak=>(cJ aj ak).bind λal=>(hJ j.aF).bind λao=>(cJ al ao).bind λaq=>(cJ aq (bF j.Field)).bind λar=>sD C U (i64.wrap (I+1)) ar else if decide ((List.length C:Int)>6)then some ([]:List Int)else some J
def yT(j:List M.fA):Option (List Int):=
 (cK [] (j.length)).bind λx1=>sD j aJ 0 x1
def AV(j:List Int)(C:List Int):Option Bool:=
 (toStr j).bind λx1=>(toStr C).bind λx3=>some ((bL j).toList==(bL C).toList)
def nJ(I:List Int)(x1:(Int×Int×Bool)):Nat->Int->Int->List M.fA->Option ((List M.fA)×Bool)
 |0,_,_,_=>none
 |U+1,v5,J,j=>if decide (J<x1.1)then(DC I v5).bind λC=>if !C.2.2 then some (([]:List M.fA),false)else(app 96 j ([C.1])).bind λaj=>nJ I x1 U C.2.1 (i64.wrap (J+1)) (j++[C.1])else(yT j).bind λah=>(AV ah I).bind λai=>if !ai then some (([]:List M.fA),false)else some (j,true)
def yR(j:List Int):Option ((List M.fA)×Bool):=
 (gN j 0).bind λx1=>if !x1.2.2 then some ([],false)else if decide (x1.1>6)then some ([],false)else nJ j x1 aJ x1.2.1 0 []
def pO(I:M.aD)(j:M.bD):Nat->Int->Option Int
 |0,_=>none
 |J+1,C=>if decide (C<(List.length I.aKg:Int))then(idx I.aKg C).bind λx8=>if(x8.Key.aKx==j.aKx)&&((x8.Key.N==j.N)&&(x8.Key.aK5.toList==j.aK5.toList))then some C else pO I j J (i64.wrap (C+1))else some (-1)
def kH(j:M.aD)(C:M.bD):Option Int:=
 pO j C aJ 0
def sM(p0:M.aD)(I:M.bD)(p2:M.aF)(C:M.aD):Nat->Int->Option (M.aD×Bool)
 |0,_=>none
 |aj+1,j=>if decide (j<(List.length p0.aKg:Int))then(idx p0.aKg j).bind λak=>(bV ak.Key I).bind λal=>if decide (al<0)then sM p0 I p2 C aj (i64.wrap (j+1))else(B6 C.aKg j).bind λaw=>(app 56 ([]:List M.aKy) (List.take j.toNat C.aKg)).bind λax=>(cR p2).bind λU=>(app 56 (List.take j.toNat C.aKg) ([(⟨I,U⟩:M.aKy)])).bind λay=>(app 56 ((List.take j.toNat C.aKg)++[(⟨I,U⟩:M.aKy)]) (List.drop j.toNat C.aKg)).bind λaz=>if I.aKx==1 then(bG I.N (i64.wrap (p0.aK7+1)) 1000000).bind λah=>if ah then some ((⟨C.Name,((List.take j.toNat C.aKg)++[(⟨I,U⟩:M.aKy)])++(List.drop j.toNat C.aKg),I.N⟩:M.aD),true)else some ((⟨C.Name,((List.take j.toNat C.aKg)++[(⟨I,U⟩:M.aKy)])++(List.drop j.toNat C.aKg),C.aK7⟩:M.aD),true)else some ((⟨C.Name,((List.take j.toNat C.aKg)++[(⟨I,U⟩:M.aKy)])++(List.drop j.toNat C.aKg),C.aK7⟩:M.aD),true)else(B6 C.aKg j).bind λao=>(app 56 ([]:List M.aKy) (List.take j.toNat C.aKg)).bind λaq=>(cR p2).bind λJ=>(app 56 (List.take j.toNat C.aKg) ([(⟨I,J⟩:M.aKy)])).bind λar=>(app 56 ((List.take j.toNat C.aKg)++[(⟨I,J⟩:M.aKy)]) (List.drop j.toNat C.aKg)).bind λav=>if I.aKx==1 then(bG I.N (i64.wrap (p0.aK7+1)) 1000000).bind λai=>if ai then some ((⟨C.Name,((List.take j.toNat C.aKg)++[(⟨I,J⟩:M.aKy)])++(List.drop j.toNat C.aKg),I.N⟩:M.aD),true)else some ((⟨C.Name,((List.take j.toNat C.aKg)++[(⟨I,J⟩:M.aKy)])++(List.drop j.toNat C.aKg),C.aK7⟩:M.aD),true)else some ((⟨C.Name,((List.take j.toNat C.aKg)++[(⟨I,J⟩:M.aKy)])++(List.drop j.toNat C.aKg),C.aK7⟩:M.aD),true)
def fD(j:M.aD)(J:M.bD)(U:M.aF):Option (M.aD×Bool):=
 (oP j).bind λx1=>if !x1 then(cP j).bind λx4=>some (x4,false)else(gQ J).bind λx6=>if !x6 then(cP j).bind λx9=>some (x9,false)else(cA U).bind λaf=>if !af then(cP j).bind λah=>some (ah,false)else(cP j).bind λC=>(kH j J).bind λI=>if decide (I>=0)then(cR U).bind λai=>(idx C.aKg I).bind λaj=>some (⟨C.Name,C.aKg.set I.toNat ⟨aj.Key,ai⟩,C.aK7⟩,true)else if decide ((j.aKg.length:Int)>=16)then some (C,false)else sM j J U C aJ 0
def BV(j:M.aD)(C:M.bD)(I:M.aF):Option (M.aD×Bool):=
 (kH j C).bind λx1=>if decide (x1>=0)then(cP j).bind λx4=>some (x4,false)else(fD j C I).bind λx6=>some (x6.1,x6.2)
def BH(C:M.bD)(j:M.fY):Option Bool:=
 (gQ C).bind λx1=>if !x1 then some false else if j.aLY then(gQ j.Low).bind λx5=>if !x5 then some false else if j.aLS then(gQ j.aLW).bind λx9=>if !x9 then some false else if !j.aLY then if !j.aLS then some true else(bV C j.aLW).bind λI=>some (decide (I<=0))else(bV j.Low C).bind λJ=>if decide (J<=0)then if !j.aLS then some true else(bV C j.aLW).bind λU=>some (decide (U<=0))else some false else if !j.aLY then if !j.aLS then some true else(bV C j.aLW).bind λah=>some (decide (ah<=0))else(bV j.Low C).bind λai=>if decide (ai<=0)then if !j.aLS then some true else(bV C j.aLW).bind λaj=>some (decide (aj<=0))else some false else if j.aLS then(gQ j.aLW).bind λak=>if !ak then some false else if !j.aLY then if !j.aLS then some true else(bV C j.aLW).bind λal=>some (decide (al<=0))else(bV j.Low C).bind λao=>if decide (ao<=0)then if !j.aLS then some true else(bV C j.aLW).bind λaq=>some (decide (aq<=0))else some false else if !j.aLY then if !j.aLS then some true else(bV C j.aLW).bind λar=>some (decide (ar<=0))else(bV j.Low C).bind λav=>if decide (av<=0)then if !j.aLS then some true else(bV C j.aLW).bind λaw=>some (decide (aw<=0))else some false
def kL(j:M.aD)(J:M.fY):Nat->Int->List M.aKy->Option (M.aD×Int)
 |0,_,_=>none
 |U+1,I,C=>if decide (I<(List.length j.aKg:Int))then(idx j.aKg I).bind λaf=>(BH af.Key J).bind λai=>if !ai then(Bm af).bind λah=>(app 56 C ([ah])).bind λaj=>kL j J U (i64.wrap (I+1)) (C++[ah])else kL j J U (i64.wrap (I+1)) C else some ((⟨j.Name,C,j.aK7⟩:M.aD),i64.wrap ((List.length j.aKg:Int)-(List.length C:Int)))
def uM(j:M.aD)(C:M.fY):Option (M.aD×Int):=
 (oP j).bind λx1=>if !x1 then(cP j).bind λx4=>some (x4,0)else kL j C aJ 0 []
def oR(j:M.aF)(I:ByteArray)(J:Int)(x1:M.aF):Nat->Int->Option (M.aF×Bool)
 |0,_=>none
 |af+1,C=>if decide (C<(List.length j.aKj:Int))then(idx j.aKj C).bind λU=>if Op.bytesLess U.Name.toList I.toList then oR j I J x1 af (i64.wrap (C+1))else if U.Name.toList==I.toList then(idx x1.aKj C).bind λae=>(cA j).bind λah=>if !ah then(cR j).bind λai=>some (ai,false)else(cA (⟨List.set x1.aKj C.toNat (⟨ae.Name,J⟩:M.aR)⟩:M.aF)).bind λaj=>if !aj then(cR j).bind λak=>some (ak,false)else some ((⟨List.set x1.aKj C.toNat (⟨ae.Name,J⟩:M.aR)⟩:M.aF),true)else(B6 j.aKj C).bind λaz=>(app 24 ([]:List M.aR) (List.take C.toNat j.aKj)).bind λba=>(app 24 (List.take C.toNat j.aKj) ([(⟨I,J⟩:M.aR)])).bind λbd=>(BM j.aKj C).bind λbf=>(app 24 ((List.take C.toNat j.aKj)++[(⟨I,J⟩:M.aR)]) (List.drop C.toNat j.aKj)).bind λbg=>(cA j).bind λal=>if !al then(cR j).bind λao=>some (ao,false)else(cA (⟨((List.take C.toNat j.aKj)++[(⟨I,J⟩:M.aR)])++(List.drop C.toNat j.aKj)⟩:M.aF)).bind λaq=>if !aq then(cR j).bind λar=>some (ar,false)else some ((⟨((List.take C.toNat j.aKj)++[(⟨I,J⟩:M.aR)])++(List.drop C.toNat j.aKj)⟩:M.aF),true)else(B6 j.aKj C).bind λbh=>(app 24 ([]:List M.aR) (List.take C.toNat j.aKj)).bind λbj=>(app 24 (List.take C.toNat j.aKj) ([(⟨I,J⟩:M.aR)])).bind λbl=>(BM j.aKj C).bind λbm=>(app 24 ((List.take C.toNat j.aKj)++[(⟨I,J⟩:M.aR)]) (List.drop C.toNat j.aKj)).bind λbn=>(cA j).bind λav=>if !av then(cR j).bind λaw=>some (aw,false)else(cA (⟨((List.take C.toNat j.aKj)++[(⟨I,J⟩:M.aR)])++(List.drop C.toNat j.aKj)⟩:M.aF)).bind λax=>if !ax then(cR j).bind λay=>some (ay,false)else some ((⟨((List.take C.toNat j.aKj)++[(⟨I,J⟩:M.aR)])++(List.drop C.toNat j.aKj)⟩:M.aF),true)
def iC(j:M.aF)(C:ByteArray)(I:Int):Option (M.aF×Bool):=
 (cR j).bind λx1=>oR j C I x1 aJ 0
def EU(j:M.aD)(p1:M.bD)(C:ByteArray):Option (M.aD×Int×Bool):=
 (kH j p1).bind λx1=>if decide (x1>=0)then(idx j.aKg x1).bind λx4=>(kM x4.aF C).bind λx9=>(iC x4.aF C (i64.wrap (x9.1+1))).bind λah=>(fD j p1 ah.1).bind λI=>if ah.2 then some (I.1,i64.wrap (x9.1+1),I.2)else some (I.1,i64.wrap (x9.1+1),false)else(kM ⟨[]⟩ C).bind λJ=>(iC ⟨[]⟩ C (i64.wrap (J.1+1))).bind λai=>(fD j p1 ai.1).bind λU=>if ai.2 then some (U.1,i64.wrap (J.1+1),U.2)else some (U.1,i64.wrap (J.1+1),false)
def C3(C:M.aD)(j:M.fA):Option (M.aD×Int×Bool):=
 if j.aKx==1 then(fD C j.Key j.aF).bind λx2=>some (x2.1,1,x2.2)else if j.aKx==2 then(BV C j.Key j.aF).bind λx5=>some (x5.1,1,x5.2)else if j.aKx==3 then(uM C ⟨true,true,j.Key,j.Key⟩).bind λx8=>some (x8.1,x8.2,true)else if j.aKx==4 then(kH C j.Key).bind λJ=>if decide (J<0)then(cP C).bind λah=>some (ah,-1,true)else(cP C).bind λai=>(idx C.aKg J).bind λaj=>some (ai,aj.aF.aKj.length,true)else if j.aKx==5 then(uM C ⟨false,false,⟨0,0,⟨#[]⟩⟩,⟨0,0,⟨#[]⟩⟩⟩).bind λU=>some (U.1,U.2,true)else(EU C j.Key j.Field).bind λI=>some (I.1,I.2.1,I.2.2)
def Du(j:M.aKc)(I:M.fA):Option (M.aKc×Int×Bool):=
 (fS j).bind λx1=>(mS j I.aD).bind λx3=>(cX j).bind λx5=>if !x5 then some (x1,0,false)else(EA I).bind λx8=>if !x8 then some (x1,0,false)else if decide (x3<0)then some (x1,0,false)else(idx j.aKm x3).bind λJ=>(C3 J I).bind λC=>(idx x1.aKm x3).bind λaj=>if !C.2.2 then(fS j).bind λU=>some (U,0,false)else(cX ⟨x1.Name,x1.aKb,x1.aKm.set x3.toNat C.1,x1.aKz⟩).bind λah=>if !ah then(fS j).bind λai=>some (ai,0,false)else some (⟨x1.Name,x1.aKb,x1.aKm.set x3.toNat C.1,x1.aKz⟩,C.2.1,true)
def yW(p0:M.aKc)(I:List M.fA):Nat->Int->ByteArray->Int->List Int->List M.aD->List M.aV->Option (M.aKc×(List Int)×Bool)
 |0,_,_,_,_,_,_=>none
 |ak+1,J,ah,ai,C,U,ae=>if decide (J<(List.length I:Int))then(idx I J).bind λal=>(Du (⟨ah,ai,U,ae⟩:M.aKc) al).bind λj=>if !j.2.2 then(fS p0).bind λao=>some (ao,([]:List Int),false)else(app 8 C ([j.2.1])).bind λaq=>yW p0 I ak (i64.wrap (J+1)) j.1.Name j.1.aKb (C++[j.2.1]) j.1.aKm j.1.aKz else some ((⟨ah,ai,U,ae⟩:M.aKc),C,true)
def Bu(j:M.aKc)(C:List M.fA):Option (M.aKc×(List Int)×Bool):=
 (fS j).bind λx1=>(cX j).bind λI=>if !I then some (x1,[],false)else if decide ((C.length:Int)>6)then some (x1,[],false)else yW j C aJ 0 x1.Name x1.aKb [] x1.aKm x1.aKz
def uE(x3:((List (List Int))×Int)):Nat->Int->ByteArray->Int->List M.aD->List M.aV->Option (M.aKc×Int)
 |0,_,_,_,_,_=>none
 |ak+1,C,U,ah,I,J=>if decide (C<(List.length x3.1:Int))then(idx x3.1 C).bind λal=>(yR al).bind λaj=>if !aj.2 then some ((⟨U,ah,I,J⟩:M.aKc),C)else(Bu (⟨U,ah,I,J⟩:M.aKc) aj.1).bind λj=>uE x3 ak (i64.wrap (C+1)) j.1.Name j.1.aKb j.1.aKm j.1.aKz else some ((⟨U,ah,I,J⟩:M.aKc),(List.length x3.1:Int))
def AR(j:M.bJ):Option (M.aKc×Int):=
 (fS j.aK1).bind λx1=>(CX j.Log).bind λx3=>uE x3 aJ 0 x1.Name x1.aKb x1.aKm x1.aKz
def Bn(j:Int):Option M.bD:=
 some ⟨1,j,⟨#[]⟩⟩
def zL(U:M.aKe)(p1:Int):Option (M.aF×Bool):=
 (AR U.bJ).bind λx1=>(mS x1.1 ⟨#[110,111,116,101,115]⟩).bind λx3=>if decide (x3<0)then some (⟨[]⟩,false)else(idx x1.1.aKm x3).bind λx6=>(Bn p1).bind λC=>(kH x6 C).bind λj=>if decide (j<0)then some (⟨[]⟩,true)else(idx x6.aKg j).bind λI=>(cR I.aF).bind λJ=>some (J,true)
def mI(C:M.aE)(I:M.bK)(U:Int)(p3:ByteArray):Option Int:=
 (dZ C.aC I.aKl I.Top).bind λx1=>if decide (x1<0)then some (-1)else(idx C.aC.aKf x1).bind λx4=>(zL x4 U).bind λx9=>(kM x9.1 p3).bind λj=>if !j.2 then some (-1)else(dS 1000 j.1).bind λJ=>some J
def zE(j:List Int)(I:Int)(J:List Int):Option ((List Int)×Bool):=
 (app 1 [] j).bind λx1=>(cJ j J).bind λx8=>(AK I J).bind λU=>(cK x8 U).bind λC=>if decide (I<0)then some (j,false)else if decide ((C.length:Int)>4000)then some (j,false)else some (C,true)
def nR(j:M.bJ)(I:List M.fA):Option (M.bJ×Bool):=
 (Aq j).bind λx1=>(AR j).bind λx3=>(Bu x3.1 I).bind λx5=>(yT I).bind λx7=>if !x5.2.2 then some (x1,false)else if(x7.length:Int)==0 then some (x1,false)else if x3.2 !=j.aLF then some (x1,false)else(zE j.Log j.aLF x7).bind λC=>if !C.2 then some (x1,false)else some (⟨x1.aK1,C.1,i64.wrap (j.aLF+1)⟩,true)
def rG(j:M.aKe)(C:M.aKe):Option (M.aKe×Bool):=
 (pJ j).bind λx1=>if !x1 then(gL j).bind λx4=>some (x4,false)else(pJ C).bind λx6=>if !x6 then(gL j).bind λx9=>some (x9,false)else some (C,true)
def Aj(j:M.aKe)(C:M.bJ):Option (M.aKe×Bool):=
 (gL j).bind λx1=>(Aq C).bind λx3=>(rG j ⟨x1.aKl,x1.Top,x1.aKd,x1.aKi,x3,x1.aH,x1.aLC,x1.aK9⟩).bind λx5=>if x5.2 then some (⟨x1.aKl,x1.Top,x1.aKd,x1.aKi,x3,x1.aH,x1.aLC,x1.aK9⟩,true)else some (x5.1,false)
def sW(j:M.aE)(C:M.aKe)(I:Bool):Option (M.aE×Bool):=
 (dM j).bind λx1=>(hU j.aC C).bind λx3=>if !I then some (x1,false)else if !x3.2 then some (x1,false)else some (⟨x1.Now,x1.aK4,x1.aKk,x3.1,x1.aKq,x1.aKn,x1.aKu,x1.aKp,x1.aK0,x1.aKr⟩,true)
def hY(j:M.aE)(p1:M.bK)(p2:Int)(p3:ByteArray)(p4:Int):Option (M.aE×Bool):=
 (dZ j.aC p1.aKl p1.Top).bind λx1=>if decide (x1<0)then(dM j).bind λx4=>some (x4,false)else(idx j.aC.aKf x1).bind λx6=>(zL x6 p2).bind λI=>(iC I.1 p3 p4).bind λJ=>(Bn p2).bind λao=>(nR x6.bJ ([⟨1,⟨#[110,111,116,101,115]⟩,ao,J.1,⟨#[]⟩⟩])).bind λU=>(Aj x6 U.1).bind λC=>if I.2 then if J.2 then if U.2 then(sW j C.1 C.2).bind λai=>some (ai.1,ai.2)else(sW j C.1 false).bind λaj=>some (aj.1,aj.2)else(sW j C.1 false).bind λak=>some (ak.1,ak.2)else(sW j C.1 false).bind λal=>some (al.1,al.2)
def kN(j:M.aO)(C:M.bD)(I:ByteArray)(J:Int):Option (M.aO×Bool):=
 (vZ j).bind λx1=>(kR j).bind λx3=>if !x3 then some (x1,false)else(app 72 x1.aKw ([⟨j.aKk,j.aLE,C,I,J⟩])).bind λx6=>(kR ⟨x1.aKk,i64.wrap (j.aLE+1),x1.aKw++[⟨j.aKk,j.aLE,C,I,J⟩]⟩).bind λU=>if !U then(vZ j).bind λae=>some (ae,false)else some (⟨x1.aKk,i64.wrap (j.aLE+1),x1.aKw++[⟨j.aKk,j.aLE,C,I,J⟩]⟩,true)
def mZ(C:M.aD)(j:M.cH):Option (M.aD×Bool):=
 (kH C j.Key).bind λx1=>if decide (x1>=0)then(idx C.aKg x1).bind λx4=>(iC x4.aF j.Field j.N).bind λx9=>if !x9.2 then(cP C).bind λah=>some (ah,false)else(fD C j.Key x9.1).bind λI=>some (I.1,I.2)else(iC ⟨[]⟩ j.Field j.N).bind λJ=>if !J.2 then(cP C).bind λai=>some (ai,false)else(fD C j.Key J.1).bind λU=>some (U.1,U.2)
def lZ(C:List M.cH):Nat->Int->ByteArray->Int->List M.aKy->Option M.aD
 |0,_,_,_,_=>none
 |ai+1,I,U,af,J=>if decide (I<(List.length C:Int))then(idx C I).bind λaj=>(mZ (⟨U,J,af⟩:M.aD) aj).bind λj=>if j.2 then lZ C ai (i64.wrap (I+1)) j.1.Name j.1.aK7 j.1.aKg else lZ C ai (i64.wrap (I+1)) U af J else some (⟨U,J,af⟩:M.aD)
def A0(j:M.aD)(C:List M.cH):Option M.aD:=
 (cP j).bind λx1=>lZ C aJ 0 x1.Name x1.aK7 x1.aKg
def CH(j:M.aH):Option M.aD:=
 (A0 j.aK1 j.aK3.aO.aKw).bind λx1=>some x1
def lJ(j:M.aH)(C:M.bD)(I:ByteArray)(J:Int):Option (M.aH×Bool):=
 (xB j).bind λx1=>(kN j.aK3.aO C I J).bind λx3=>(CH j).bind λx5=>(mZ x5 ⟨0,0,C,I,J⟩).bind λx7=>(rD j).bind λx9=>if !x9 then some (x1,false)else if !x3.2 then some (x1,false)else if !x7.2 then some (x1,false)else some (⟨x1.aK1,x1.aLT,⟨x3.1,x1.aK3.aLI,x1.aK3.aK8⟩⟩,true)
def tJ(j:M.aKe)(C:M.aH):Option (M.aKe×Bool):=
 (gL j).bind λx1=>(xB C).bind λx3=>(rG j ⟨x1.aKl,x1.Top,x1.aKd,x1.aKi,x1.bJ,x3,x1.aLC,x1.aK9⟩).bind λx5=>if x5.2 then some (⟨x1.aKl,x1.Top,x1.aKd,x1.aKi,x1.bJ,x3,x1.aLC,x1.aK9⟩,true)else some (x5.1,false)
def AF(j:M.aE)(p1:M.bK)(p2:Int)(p3:ByteArray)(p4:Int):Option (M.aE×Bool):=
 (dZ j.aC p1.aKl p1.Top).bind λx1=>if decide (x1<0)then(dM j).bind λx4=>some (x4,false)else(idx j.aC.aKf x1).bind λx6=>(Bn p2).bind λai=>(lJ x6.aH ai p3 p4).bind λI=>(tJ x6 I.1).bind λC=>if I.2 then(sW j C.1 C.2).bind λJ=>some (J.1,J.2)else(sW j C.1 false).bind λU=>some (U.1,U.2)
def AH(U:M.aE)(p1:Int):Option (M.aE×Int):=
 (dM U).bind λx1=>(zI U p1).bind λx3=>(mO U).bind λx5=>if !x5 then some (x1,-1)else if decide (x3<0)then some (x1,-1)else(idx U.aKq x3).bind λx9=>(Bb x9.aKh).bind λC=>(mL x9).bind λj=>if C.2.aKx==1 then(gC U ⟨j.Id,j.aKl,j.Top,j.aKb,j.aT,C.1⟩ C.2.aK5).bind λak=>(kI ⟨j.Id,j.aKl,j.Top,j.aKb,j.aT,C.1⟩ C.2.aK5 ak).bind λai=>(pP ai.1.aKh C.2.R ak.aLV).bind λal=>(idx x1.aKq x3).bind λay=>some (⟨x1.Now,x1.aK4,x1.aKk,x1.aC,x1.aKq.set x3.toNat ⟨ai.1.Id,ai.1.aKl,ai.1.Top,ai.1.aKb,ai.1.aT,al.1⟩,x1.aKn,x1.aKu,x1.aKp,x1.aK0,x1.aKr⟩,C.2.aKx)else if C.2.aKx==2 then(mI U ⟨j.Id,j.aKl,j.Top,j.aKb,j.aT,C.1⟩ C.2.N C.2.aK5).bind λao=>(pP C.1 C.2.R ao).bind λaq=>(idx x1.aKq x3).bind λaz=>some (⟨x1.Now,x1.aK4,x1.aKk,x1.aC,x1.aKq.set x3.toNat ⟨j.Id,j.aKl,j.Top,j.aKb,j.aT,aq.1⟩,x1.aKn,x1.aKu,x1.aKp,x1.aK0,x1.aKr⟩,C.2.aKx)else if C.2.aKx==3 then(zO 0 C.2.Value).bind λar=>(hY U ⟨j.Id,j.aKl,j.Top,j.aKb,j.aT,C.1⟩ C.2.N C.2.aK5 ar).bind λJ=>(idx J.1.aKq x3).bind λav=>some (⟨J.1.Now,J.1.aK4,J.1.aKk,J.1.aC,List.set J.1.aKq x3.toNat ⟨j.Id,j.aKl,j.Top,j.aKb,j.aT,C.1⟩,J.1.aKn,J.1.aKu,J.1.aKp,J.1.aK0,J.1.aKr⟩,C.2.aKx)else if C.2.aKx==4 then(zO 0 C.2.Value).bind λaj=>(AF U ⟨j.Id,j.aKl,j.Top,j.aKb,j.aT,C.1⟩ C.2.N C.2.aK5 aj).bind λI=>(idx I.1.aKq x3).bind λaw=>some (⟨I.1.Now,I.1.aK4,I.1.aKk,I.1.aC,List.set I.1.aKq x3.toNat ⟨j.Id,j.aKl,j.Top,j.aKb,j.aT,C.1⟩,I.1.aKn,I.1.aKu,I.1.aKp,I.1.aK0,I.1.aKr⟩,C.2.aKx)else(idx x1.aKq x3).bind λax=>some (⟨x1.Now,x1.aK4,x1.aKk,x1.aC,x1.aKq.set x3.toNat ⟨j.Id,j.aKl,j.Top,j.aKb,j.aT,C.1⟩,x1.aKn,x1.aKu,x1.aKp,x1.aK0,x1.aKr⟩,C.2.aKx)
def uI(p0:M.bN):Nat->Int->Int->Bool->Int->Int->Int->Int->List M.aKe->List M.bK->List M.vE->List M.Eb->List M.aKl->List M.aKt->Option (Int×Int×M.aE)
 |0,_,_,_,_,_,_,_,_,_,_,_,_,_=>none
 |ay+1,v4,aq,ar,av,aw,I,J,U,ah,ai,aj,ak,al=>if decide (v4>0)then(aG (⟨p0.b,I,J⟩:M.bN) 3).bind λC=>(AH (⟨aq,ar,av,(⟨U⟩:M.aC),ah,aw,(⟨ai⟩:M.aW),(⟨aj⟩:M.aKp),ak,al⟩:M.aE) (i64.wrap (1+C.2.2))).bind λj=>uI p0 ay (i64.wrap (v4-1)) j.1.Now j.1.aK4 j.1.aKk j.1.aKn C.1 C.2.1 j.1.aC.aKf j.1.aKq j.1.aKu.aKu j.1.aKp.aLJ j.1.aK0 j.1.aKr else some (I,J,(⟨aq,ar,av,(⟨U⟩:M.aC),ah,aw,(⟨ai⟩:M.aW),(⟨aj⟩:M.aKp),ak,al⟩:M.aE))
def Cp(C:M.bN):Option (Int×Int×M.aE):=
 (DG C).bind λx4=>(aG ⟨C.b,x4.1,x4.2.1⟩ 6).bind λj=>uI C aJ j.2.2 x4.2.2.Now x4.2.2.aK4 x4.2.2.aKk x4.2.2.aKn j.1 j.2.1 x4.2.2.aC.aKf x4.2.2.aKq x4.2.2.aKu.aKu x4.2.2.aKp.aLJ x4.2.2.aK0 x4.2.2.aKr
def cD(C:M.bN)(j:List Int):Option (Int×Int×Int):=
 (aG C (j.length)).bind λx5=>(idx j x5.2.2).bind λx7=>some (x5.1,x5.2.1,x7)
def sX(j:M.bN):Option (Int×Int×ByteArray):=
 (iQ j ([⟨#[98,97,110,107]⟩,⟨#[115,104,111,112]⟩,⟨#[110,101,119,115]⟩])).bind λx4=>some (x4.1,x4.2.1,x4.2.2)
def fE(j:M.bN):Option (Int×Int×M.bD):=
 (aG j 6).bind λx4=>some (x4.1,x4.2.1,⟨1,x4.2.2,⟨#[]⟩⟩)
def tZ(I:M.bN):Nat->Int->Int->Int->List M.aR->Option (Int×Int×M.aF)
 |0,_,_,_,_=>none
 |aj+1,v4,J,U,af=>if decide (v4>0)then(cE (⟨I.b,J,U⟩:M.bN)).bind λj=>(aG (⟨I.b,j.1,j.2.1⟩:M.bN) 5).bind λC=>(iC (⟨af⟩:M.aF) j.2.2 C.2.2).bind λak=>tZ I aj (i64.wrap (v4-1)) C.1 C.2.1 ak.1.aKj else some (J,U,(⟨af⟩:M.aF))
def pC(j:M.bN):Option (Int×Int×M.aF):=
 (aG j 4).bind λx4=>tZ j aJ x4.2.2 x4.1 x4.2.1 []
def nP(I:M.aN)(C:Int)(x1:M.aN):Nat->Int->Option (M.aN×Bool)
 |0,_=>none
 |ai+1,j=>if decide (j<(List.length I.aKi:Int))then(idx I.aKi j).bind λaj=>if decide (aj.aKb<C)then nP I C x1 ai (i64.wrap (j+1))else(B6 x1.aKi j).bind λar=>(app 32 ([]:List M.aKv) (List.take j.toNat x1.aKi)).bind λav=>(app 32 (List.take j.toNat x1.aKi) ([(⟨C,([]:List M.aK2)⟩:M.aKv)])).bind λaw=>(app 32 ((List.take j.toNat x1.aKi)++[(⟨C,([]:List M.aK2)⟩:M.aKv)]) (List.drop j.toNat x1.aKi)).bind λax=>(dC I).bind λak=>if !ak then(dY I).bind λal=>some (al,false)else(dC (⟨((List.take j.toNat x1.aKi)++[(⟨C,([]:List M.aK2)⟩:M.aKv)])++(List.drop j.toNat x1.aKi)⟩:M.aN)).bind λao=>if !ao then(dY I).bind λaq=>some (aq,false)else some ((⟨((List.take j.toNat x1.aKi)++[(⟨C,([]:List M.aK2)⟩:M.aKv)])++(List.drop j.toNat x1.aKi)⟩:M.aN),true)else(B6 x1.aKi j).bind λay=>(app 32 ([]:List M.aKv) (List.take j.toNat x1.aKi)).bind λaz=>(app 32 (List.take j.toNat x1.aKi) ([(⟨C,([]:List M.aK2)⟩:M.aKv)])).bind λba=>(app 32 ((List.take j.toNat x1.aKi)++[(⟨C,([]:List M.aK2)⟩:M.aKv)]) (List.drop j.toNat x1.aKi)).bind λbd=>(dC I).bind λJ=>if !J then(dY I).bind λU=>some (U,false)else(dC (⟨((List.take j.toNat x1.aKi)++[(⟨C,([]:List M.aK2)⟩:M.aKv)])++(List.drop j.toNat x1.aKi)⟩:M.aN)).bind λaf=>if !af then(dY I).bind λah=>some (ah,false)else some ((⟨((List.take j.toNat x1.aKi)++[(⟨C,([]:List M.aK2)⟩:M.aKv)])++(List.drop j.toNat x1.aKi)⟩:M.aN),true)
def rJ(j:M.aN)(C:Int):Option (M.aN×Bool):=
 (dY j).bind λx1=>nP j C x1 aJ 0
def kJ(C:M.bN)(j:(M.aKe×Bool))(bh:ByteArray)(bj:Int)(ba:Int)(aw:List M.aD)(ax:List M.aV)(ay:List Int):Nat->Int->ByteArray->Int->Int->Int->Int->Int->Int->Int->Int->List M.aKy->List M.cH->Option (Int×Int×M.aKe)
 |0,_,_,_,_,_,_,_,_,_,_,_,_=>none
 |bw+1,bd,ai,aj,ak,al,ao,aq,ar,aa,ae,af,ah=>if decide (bd>0)then(fE (⟨C.b,aa,ae⟩:M.bN)).bind λbl=>(cE (⟨C.b,bl.1,bl.2.1⟩:M.bN)).bind λbm=>(aG (⟨C.b,bm.1,bm.2.1⟩:M.bN) 6).bind λbn=>(lJ (⟨(⟨ai,af,aj⟩:M.aD),ak,(⟨(⟨al,ao,ah⟩:M.aO),aq,ar⟩:M.aK3)⟩:M.aH) bl.2.2 bm.2.2 bn.2.2).bind λI=>kJ C j bh bj ba aw ax ay bw (i64.wrap (bd-1)) I.1.aK1.Name I.1.aK1.aK7 I.1.aLT I.1.aK3.aO.aKk I.1.aK3.aO.aLE I.1.aK3.aLI I.1.aK3.aK8 bn.1 bn.2.1 I.1.aK1.aKg I.1.aK3.aO.aKw else(cF (⟨C.b,aa,ae⟩:M.bN) 2).bind λJ=>if J.2.2 then(aG (⟨C.b,J.1,J.2.1⟩:M.bN) 3).bind λU=>(rJ j.1.aKi (i64.wrap (1+U.2.2))).bind λbu=>(aG (⟨C.b,U.1,U.2.1⟩:M.bN) 50).bind λbo=>(cF (⟨C.b,bo.1,bo.2.1⟩:M.bN) 4).bind λbq=>some (bq.1,bq.2.1,(⟨j.1.aKl,j.1.Top,(⟨j.1.aKd.aKl,j.1.aKd.aLB,j.1.aKd.aLH,i64.wrap (1+U.2.2)⟩:M.aKd),bu.1,(⟨(⟨bh,bj,aw,ax⟩:M.aKc),ay,ba⟩:M.bJ),(⟨(⟨ai,af,aj⟩:M.aD),ak,(⟨(⟨al,ao,ah⟩:M.aO),aq,ar⟩:M.aK3)⟩:M.aH),bo.2.2,bq.2.2⟩:M.aKe))else(aG (⟨C.b,J.1,J.2.1⟩:M.bN) 50).bind λbr=>(cF (⟨C.b,br.1,br.2.1⟩:M.bN) 4).bind λbt=>some (bt.1,bt.2.1,(⟨j.1.aKl,j.1.Top,j.1.aKd,j.1.aKi,(⟨(⟨bh,bj,aw,ax⟩:M.aKc),ay,ba⟩:M.bJ),(⟨(⟨ai,af,aj⟩:M.aD),ak,(⟨(⟨al,ao,ah⟩:M.aO),aq,ar⟩:M.aK3)⟩:M.aH),br.2.2,bt.2.2⟩:M.aKe))
def kO(I:M.bN)(j:(M.aKe×Bool)):Nat->Int->ByteArray->Int->Int->Int->Int->List M.aD->List M.aV->List Int->Option (Int×Int×M.aKe)
 |0,_,_,_,_,_,_,_,_,_=>none
 |ax+1,v7,aq,ar,ak,aa,ae,ah,ai,aj=>if decide (v7>0)then(fE (⟨I.b,aa,ae⟩:M.bN)).bind λU=>(pC (⟨I.b,U.1,U.2.1⟩:M.bN)).bind λaw=>(nR (⟨(⟨aq,ar,ah,ai⟩:M.aKc),aj,ak⟩:M.bJ) ([(⟨1,(⟨#[110,111,116,101,115]⟩:ByteArray),U.2.2,aw.2.2,(⟨#[]⟩:ByteArray)⟩:M.fA)])).bind λC=>kO I j ax (i64.wrap (v7-1)) C.1.aK1.Name C.1.aK1.aKb C.1.aLF aw.1 aw.2.1 C.1.aK1.aKm C.1.aK1.aKz C.1.Log else(aG (⟨I.b,aa,ae⟩:M.bN) 3).bind λJ=>kJ I j aq ar ak ah ai aj aJ J.2.2 j.1.aH.aK1.Name j.1.aH.aK1.aK7 j.1.aH.aLT j.1.aH.aK3.aO.aKk j.1.aH.aK3.aO.aLE j.1.aH.aK3.aLI j.1.aH.aK3.aK8 J.1 J.2.1 j.1.aH.aK1.aKg j.1.aH.aK3.aO.aKw
def BK(C:M.bN):Option (Int×Int×M.aKe):=
 (sX C).bind λx4=>((cF ⟨C.b,x4.1,x4.2.1⟩ 3).bind λI=>if I.2.2 then(sX ⟨C.b,I.1,I.2.1⟩).bind λJ=>some (J.2.2,J.1,J.2.1)else some (x4.2.2,I.1,I.2.1)).bind λU=>(aG ⟨C.b,U.2.1,U.2.2⟩ 3).bind λai=>(uP x4.2.2 U.1 (i64.wrap (1+ai.2.2))).bind λj=>(aG ⟨C.b,ai.1,ai.2.1⟩ 4).bind λaj=>kO C j aJ aj.2.2 j.1.bJ.aK1.Name j.1.bJ.aK1.aKb j.1.bJ.aLF aj.1 aj.2.1 j.1.bJ.aK1.aKm j.1.bJ.aK1.aKz j.1.bJ.Log
def BW(j:M.bN):Option (Int×Int×ByteArray):=
 (iQ j ([⟨#[105,110,100,101,120]⟩,⟨#[115,116,121,108,101]⟩,⟨#[99,111,100,101]⟩,⟨#[100,97,116,97]⟩])).bind λx4=>some (x4.1,x4.2.1,x4.2.2)
def sR(U:M.bN)(p1:Int):Nat->Int->List Int->Int->Int->Option (Int×Int×(List Int))
 |0,_,_,_,_=>none
 |ah+1,v6,C,I,J=>if decide (v6<p1)then(vX (⟨U.b,I,J⟩:M.bN)).bind λj=>(app 1 C ([u8.wrap j.2.2])).bind λai=>sR U p1 ah (i64.wrap (v6+1)) (C++[u8.wrap j.2.2]) j.1 j.2.1 else some (I,J,C)
def C7(j:M.bN)(C:Int):Option (Int×Int×(List Int)):=
 sR j C aJ 0 [] j.i j.h
def Ag(C:M.bN):Option (Int×Int×M.aKo):=
 (aG C 3).bind λx4=>(aG ⟨C.b,x4.1,x4.2.1⟩ 4).bind λx6=>(aG ⟨C.b,x6.1,x6.2.1⟩ 6).bind λx8=>(C7 ⟨C.b,x8.1,x8.2.1⟩ x8.2.2).bind λJ=>(cF ⟨C.b,J.1,J.2.1⟩ 2).bind λI=>(aG ⟨C.b,I.1,I.2.1⟩ 14).bind λj=>if j.2.2==0 then(cD ⟨C.b,j.1,j.2.1⟩ ([0,4,5])).bind λU=>some (U.1,U.2.1,⟨U.2.2,200,i64.wrap (1+x6.2.2),J.2.2,I.2.2⟩)else if j.2.2==1 then(cD ⟨C.b,j.1,j.2.1⟩ ([-1,0,404,999,1000])).bind λai=>some (ai.1,ai.2.1,⟨i64.wrap (1+x4.2.2),ai.2.2,i64.wrap (1+x6.2.2),J.2.2,I.2.2⟩)else if j.2.2==2 then(cD ⟨C.b,j.1,j.2.1⟩ ([60,61])).bind λaj=>(C7 ⟨C.b,aj.1,aj.2.1⟩ aj.2.2).bind λak=>some (ak.1,ak.2.1,⟨i64.wrap (1+x4.2.2),200,i64.wrap (1+x6.2.2),ak.2.2,I.2.2⟩)else some (j.1,j.2.1,⟨i64.wrap (1+x4.2.2),200,i64.wrap (1+x6.2.2),J.2.2,I.2.2⟩)
def pU(j:M.aN)(p1:Int)(C:ByteArray)(I:ByteArray)(p4:M.aKo):Option (M.aN×Bool):=
 (dY j).bind λx1=>(zT j p1).bind λx3=>if decide (x3<0)then some (x1,false)else(vY p4).bind λx6=>(idx x1.aKi x3).bind λx8=>(BQ x8 C I).bind λJ=>if decide (J>=0)then(idx x8.aKs J).bind λaq=>(dC j).bind λU=>if !U then(dY j).bind λaf=>some (af,false)else(dC ⟨x1.aKi.set x3.toNat ⟨x8.aKb,x8.aKs.set J.toNat ⟨C,I,x6⟩⟩⟩).bind λah=>if !ah then(dY j).bind λai=>some (ai,false)else some (⟨x1.aKi.set x3.toNat ⟨x8.aKb,x8.aKs.set J.toNat ⟨C,I,x6⟩⟩⟩,true)else(app 88 x8.aKs ([⟨C,I,x6⟩])).bind λar=>(dC j).bind λaj=>if !aj then(dY j).bind λak=>some (ak,false)else(dC ⟨x1.aKi.set x3.toNat ⟨x8.aKb,x8.aKs++[⟨C,I,x6⟩]⟩⟩).bind λal=>if !al then(dY j).bind λao=>some (ao,false)else some (⟨x1.aKi.set x3.toNat ⟨x8.aKb,x8.aKs++[⟨C,I,x6⟩]⟩⟩,true)
def uZ(j:M.bN):Nat->Int->Int->Int->List M.aKv->Option (Int×Int×M.aN)
 |0,_,_,_,_=>none
 |ao+1,ah,aa,ae,af=>if decide (ah>0)then(aG (⟨j.b,aa,ae⟩:M.bN) 4).bind λC=>(sX (⟨j.b,C.1,C.2.1⟩:M.bN)).bind λI=>(BW (⟨j.b,I.1,I.2.1⟩:M.bN)).bind λJ=>(Ag (⟨j.b,J.1,J.2.1⟩:M.bN)).bind λU=>(pU (⟨af⟩:M.aN) (i64.wrap (1+C.2.2)) I.2.2 J.2.2 U.2.2).bind λaq=>uZ j ao (i64.wrap (ah-1)) U.1 U.2.1 aq.1.aKi else some (aa,ae,(⟨af⟩:M.aN))
def yX(j:M.bN):Nat->Int->Int->Int->List M.aKv->Option (Int×Int×M.aN)
 |0,_,_,_,_=>none
 |aj+1,v4,J,U,af=>if decide (v4>0)then(aG (⟨j.b,J,U⟩:M.bN) 4).bind λC=>(rJ (⟨af⟩:M.aN) (i64.wrap (1+C.2.2))).bind λak=>yX j aj (i64.wrap (v4-1)) C.1 C.2.1 ak.1.aKi else(aG (⟨j.b,J,U⟩:M.bN) 5).bind λI=>uZ j aJ I.2.2 I.1 I.2.1 af
def Fv(j:M.bN):Option (Int×Int×M.aN):=
 (aG j 3).bind λx4=>yX j aJ x4.2.2 x4.1 x4.2.1 []
def uS(j:(Int×Int×Int)):Nat->Int->List M.aKv->Option (Int×Int×M.aN)
 |0,_,_=>none
 |J+1,C,I=>if decide (C<=4)then(rJ (⟨I⟩:M.aN) C).bind λU=>uS j J (i64.wrap (C+1)) U.1.aKi else some (j.1,j.2.1,(⟨I⟩:M.aN))
def Fz(C:M.bN):Option (Int×Int×M.aN):=
 (Fv C).bind λx4=>(aG ⟨C.b,x4.1,x4.2.1⟩ 12).bind λj=>if j.2.2==0 then(cD ⟨C.b,j.1,j.2.1⟩ ([0,1,9,1000000000001])).bind λI=>(app 32 x4.2.2.aKi ([⟨I.2.2,[]⟩])).bind λaj=>some (I.1,I.2.1,⟨x4.2.2.aKi++[⟨I.2.2,[]⟩]⟩)else if j.2.2==1 then if decide ((List.length x4.2.2.aKi:Int)>0)then(idx x4.2.2.aKi 0).bind λai=>(iQ ⟨C.b,j.1,j.2.1⟩ ([⟨#[105,110,100,101,120]⟩,⟨#[]⟩,⟨#[122,122]⟩])).bind λJ=>(Ag ⟨C.b,J.1,J.2.1⟩).bind λU=>(app 88 ai.aKs ([⟨⟨#[98,97,110,107]⟩,J.2.2,U.2.2⟩])).bind λak=>some (U.1,U.2.1,⟨List.set x4.2.2.aKi (0:Int).toNat ⟨ai.aKb,ai.aKs++[⟨⟨#[98,97,110,107]⟩,J.2.2,U.2.2⟩]⟩⟩)else some (j.1,j.2.1,x4.2.2)else if j.2.2==2 then uS j aJ 1 x4.2.2.aKi else some (j.1,j.2.1,x4.2.2)
def Ce(j:M.bN):Option (Int×Int×Int):=
 (aG j 9).bind λx4=>(cD ⟨j.b,x4.1,x4.2.1⟩ ([0,1,2,-1,255,256,-1000000000000,1000000000000,x4.2.2])).bind λx6=>some (x6.1,x6.2.1,x6.2.2)
def E0(C:M.bN):Option (Int×Int×M.bD):=
 (iQ C ([⟨#[]⟩,⟨#[97]⟩,⟨#[97,98]⟩,⟨#[98]⟩,⟨#[122,57]⟩,⟨#[97,98,99,100,101,102,103,104,105,106,107,108]⟩])).bind λx4=>(aG ⟨C.b,x4.1,x4.2.1⟩ 3).bind λj=>if j.2.2==0 then some (j.1,j.2.1,⟨2,0,x4.2.2⟩)else if j.2.2==1 then(Ce ⟨C.b,j.1,j.2.1⟩).bind λI=>some (I.1,I.2.1,⟨3,I.2.2,x4.2.2⟩)else(Ce ⟨C.b,j.1,j.2.1⟩).bind λJ=>some (J.1,J.2.1,⟨1,J.2.2,⟨#[]⟩⟩)
def xG(j:M.bN):Nat->Int->ByteArray->Int->Int->Int->List M.aKy->Option (Int×Int×M.aD)
 |0,_,_,_,_,_,_=>none
 |av+1,v6,J,U,aa,ae,I=>if decide (v6>0)then(fE (⟨j.b,aa,ae⟩:M.bN)).bind λak=>(pC (⟨j.b,ak.1,ak.2.1⟩:M.bN)).bind λal=>(fD (⟨J,I,U⟩:M.aD) ak.2.2 al.2.2).bind λao=>xG j av (i64.wrap (v6-1)) ao.1.Name ao.1.aK7 al.1 al.2.1 ao.1.aKg else(cF (⟨j.b,aa,ae⟩:M.bN) 8).bind λC=>if C.2.2 then(E0 (⟨j.b,C.1,C.2.1⟩:M.bN)).bind λaq=>(pC (⟨j.b,aq.1,aq.2.1⟩:M.bN)).bind λar=>(fD (⟨J,I,U⟩:M.aD) aq.2.2 ar.2.2).bind λaw=>some (ar.1,ar.2.1,aw.1)else some (C.1,C.2.1,(⟨J,I,U⟩:M.aD))
def xA(j:M.bN)(C:ByteArray):Option (Int×Int×M.aD):=
 (cD j ([0,2,4,6])).bind λx5=>xG j aJ x5.2.2 C 0 x5.1 x5.2.1 []
def rR(C:M.aKc)(I:M.tC):Nat->Int->Option Int
 |0,_=>none
 |J+1,j=>if decide (j<(List.length C.aKz:Int))then(idx C.aKz j).bind λx8=>if x8.aD.toList==I.aD.toList then if x8.Field.toList==I.Field.toList then some j else rR C I J (i64.wrap (j+1))else rR C I J (i64.wrap (j+1))else some (-1)
def ET(j:M.aKc)(C:M.tC):Option Int:=
 rR j C aJ 0
def BB(j:M.aKc)(p1:ByteArray)(J:List M.aD):Nat->Int->List M.aV->Option M.aKc
 |0,_,_=>none
 |ah+1,I,C=>if decide (I<(List.length j.aKz:Int))then(idx j.aKz I).bind λU=>if !(U.aD.toList==p1.toList)then(app 32 C ([U])).bind λai=>BB j p1 J ah (i64.wrap (I+1)) (C++[U])else BB j p1 J ah (i64.wrap (I+1)) C else some (⟨j.Name,j.aKb,J,C⟩:M.aKc)
def BO(j:M.aKc)(I:ByteArray):Nat->Int->List M.aD->Option M.aKc
 |0,_,_=>none
 |U+1,J,C=>if decide (J<(List.length j.aKm:Int))then(idx j.aKm J).bind λaf=>if !(af.Name.toList==I.toList)then(cP af).bind λah=>(app 48 C ([ah])).bind λai=>BO j I U (i64.wrap (J+1)) (C++[ah])else BO j I U (i64.wrap (J+1)) C else BB j I C aJ 0 ([]:List M.aV)
def HV(j:M.aKc)(C:ByteArray):Option M.aKc:=
 BO j C aJ 0 []
def rN(I:M.aKc)(C:M.tC)(x1:M.aKc):Nat->Int->Option (M.aKc×Bool)
 |0,_=>none
 |ai+1,j=>(if decide (j<(List.length I.aKm:Int))then(idx I.aKm j).bind λaj=>some (Op.bytesLess aj.Name.toList C.aD.toList)else some false).bind λak=>if ak then rN I C x1 ai (i64.wrap (j+1))else(B6 x1.aKm j).bind λal=>(app 48 ([]:List M.aD) (List.take j.toNat x1.aKm)).bind λao=>(app 48 (List.take j.toNat x1.aKm) ([(⟨C.aD,([]:List M.aKy),0⟩:M.aD)])).bind λaq=>(app 48 ((List.take j.toNat x1.aKm)++[(⟨C.aD,([]:List M.aKy),0⟩:M.aD)]) (List.drop j.toNat x1.aKm)).bind λar=>((cX I).bind λJ=>if !J then some true else(cX (⟨x1.Name,x1.aKb,((List.take j.toNat x1.aKm)++[(⟨C.aD,([]:List M.aKy),0⟩:M.aD)])++(List.drop j.toNat x1.aKm),x1.aKz⟩:M.aKc)).bind λU=>some (!U)).bind λaf=>if af then(fS I).bind λah=>some (ah,false)else some ((⟨x1.Name,x1.aKb,((List.take j.toNat x1.aKm)++[(⟨C.aD,([]:List M.aKy),0⟩:M.aD)])++(List.drop j.toNat x1.aKm),x1.aKz⟩:M.aKc),true)
def nN(C:M.aKc)(j:M.tC):Option (M.aKc×Bool):=
 (fS C).bind λx1=>(mS C j.aD).bind λx3=>(ET C j).bind λx5=>(if j.aKx==1 then some (decide (x3<0))else some false).bind λx7=>if x7 then rN C j x1 aJ 0 else(if j.aKx==2 then some (decide (x3>=0))else some false).bind λJ=>if J then(HV C j.aD).bind λI=>((cX C).bind λU=>if !U then some true else(cX I).bind λah=>some (!ah)).bind λai=>if ai then(fS C).bind λaj=>some (aj,false)else some (I,true)else(if j.aKx==3 then if decide (x3>=0)then some (decide (x5<0))else some false else some false).bind λak=>if ak then(app 32 x1.aKz ([⟨j.aD,j.Field⟩])).bind λba=>((cX C).bind λal=>if !al then some true else(cX ⟨x1.Name,x1.aKb,x1.aKm,x1.aKz++[⟨j.aD,j.Field⟩]⟩).bind λao=>some (!ao)).bind λaq=>if aq then(fS C).bind λar=>some (ar,false)else some (⟨x1.Name,x1.aKb,x1.aKm,x1.aKz++[⟨j.aD,j.Field⟩]⟩,true)else(if j.aKx==4 then some (decide (x5>=0))else some false).bind λav=>if av then(B6 x1.aKz x5).bind λbd=>(BM x1.aKz (i64.wrap (x5+1))).bind λbf=>(app 32 (x1.aKz.take x5.toNat) (x1.aKz.drop (i64.wrap (x5+1)).toNat)).bind λbg=>((cX C).bind λaw=>if !aw then some true else(cX ⟨x1.Name,x1.aKb,x1.aKm,(x1.aKz.take x5.toNat)++(x1.aKz.drop (i64.wrap (x5+1)).toNat)⟩).bind λax=>some (!ax)).bind λay=>if ay then(fS C).bind λaz=>some (az,false)else some (⟨x1.Name,x1.aKb,x1.aKm,(x1.aKz.take x5.toNat)++(x1.aKz.drop (i64.wrap (x5+1)).toNat)⟩,true)else some (x1,false)
def FG(j:M.bN):Option (Int×Int×M.aKc):=
 (xA j ⟨#[110,111,116,101,115]⟩).bind λx4=>(xA ⟨j.b,x4.1,x4.2.1⟩ ⟨#[116,97,103,115]⟩).bind λx6=>(aEa 48 ([x4.2.2,x6.2.2])).bind λx8=>(cF ⟨j.b,x6.1,x6.2.1⟩ 2).bind λC=>if C.2.2 then(xA ⟨j.b,C.1,C.2.1⟩ ⟨#[108,105,115,116,115]⟩).bind λI=>(app 48 ([I.2.2]) ([x4.2.2,x6.2.2])).bind λao=>(cF ⟨j.b,I.1,I.2.1⟩ 3).bind λJ=>if J.2.2 then(cE ⟨j.b,J.1,J.2.1⟩).bind λai=>(nN ⟨⟨#[97,112,112]⟩,1,[I.2.2]++[x4.2.2,x6.2.2],[]⟩ ⟨3,⟨#[110,111,116,101,115]⟩,ai.2.2⟩).bind λak=>some (ai.1,ai.2.1,ak.1)else some (J.1,J.2.1,⟨⟨#[97,112,112]⟩,1,[I.2.2]++[x4.2.2,x6.2.2],[]⟩)else(cF ⟨j.b,C.1,C.2.1⟩ 3).bind λU=>if U.2.2 then(cE ⟨j.b,U.1,U.2.1⟩).bind λaj=>(nN ⟨⟨#[97,112,112]⟩,1,[x4.2.2,x6.2.2],[]⟩ ⟨3,⟨#[110,111,116,101,115]⟩,aj.2.2⟩).bind λal=>some (aj.1,aj.2.1,al.1)else some (U.1,U.2.1,⟨⟨#[97,112,112]⟩,1,[x4.2.2,x6.2.2],[]⟩)
def HM(j:M.bN):Option (Int×Int×M.fA):=
 (aG j 6).bind λx4=>(iQ ⟨j.b,x4.1,x4.2.1⟩ ([⟨#[110,111,116,101,115]⟩,⟨#[116,97,103,115]⟩,⟨#[110,111,116,101,115]⟩,⟨#[108,105,115,116,115]⟩])).bind λx6=>(fE ⟨j.b,x6.1,x6.2.1⟩).bind λx8=>if(i64.wrap (1+x4.2.2))==1 then(pC ⟨j.b,x8.1,x8.2.1⟩).bind λI=>some (I.1,I.2.1,⟨i64.wrap (1+x4.2.2),x6.2.2,x8.2.2,I.2.2,⟨#[]⟩⟩)else if(i64.wrap (1+x4.2.2))==2 then(pC ⟨j.b,x8.1,x8.2.1⟩).bind λJ=>some (J.1,J.2.1,⟨i64.wrap (1+x4.2.2),x6.2.2,x8.2.2,J.2.2,⟨#[]⟩⟩)else if(i64.wrap (1+x4.2.2))==6 then(cE ⟨j.b,x8.1,x8.2.1⟩).bind λU=>some (U.1,U.2.1,⟨i64.wrap (1+x4.2.2),x6.2.2,x8.2.2,⟨[]⟩,U.2.2⟩)else if(i64.wrap (1+x4.2.2))==5 then(cF ⟨j.b,x8.1,x8.2.1⟩ 2).bind λC=>if C.2.2 then(fE ⟨j.b,C.1,C.2.1⟩).bind λai=>some (ai.1,ai.2.1,⟨1,x6.2.2,ai.2.2,⟨[]⟩,⟨#[]⟩⟩)else some (C.1,C.2.1,⟨i64.wrap (1+x4.2.2),x6.2.2,⟨0,0,⟨#[]⟩⟩,⟨[]⟩,⟨#[]⟩⟩)else some (x8.1,x8.2.1,⟨i64.wrap (1+x4.2.2),x6.2.2,x8.2.2,⟨[]⟩,⟨#[]⟩⟩)
def yF(U:M.bN):Nat->Int->List M.fA->Int->Int->Option (Int×Int×(List M.fA))
 |0,_,_,_,_=>none
 |ah+1,v6,C,I,J=>if decide (v6>0)then(HM (⟨U.b,I,J⟩:M.bN)).bind λj=>(app 96 C ([j.2.2])).bind λai=>yF U ah (i64.wrap (v6-1)) (C++[j.2.2]) j.1 j.2.1 else some (I,J,C)
def E3(C:M.bN)(I:Int):Option (Int×Int×(List M.fA)):=
 (aG C (i64.wrap (I+1))).bind λj=>yF C aJ j.2.2 [] j.1 j.2.1
def xP(p0:M.bN):Nat->Int->ByteArray->Int->Int->Int->Int->List M.aD->List M.aV->List Int->Option (Int×Int×M.bJ)
 |0,_,_,_,_,_,_,_,_,_=>none
 |ar+1,v4,ak,al,ao,I,J,U,ah,ai=>if decide (v4>0)then(E3 (⟨p0.b,I,J⟩:M.bN) 3).bind λC=>(nR (⟨(⟨ak,al,U,ah⟩:M.aKc),ai,ao⟩:M.bJ) C.2.2).bind λj=>xP p0 ar (i64.wrap (v4-1)) j.1.aK1.Name j.1.aK1.aKb j.1.aLF C.1 C.2.1 j.1.aK1.aKm j.1.aK1.aKz j.1.Log else some (I,J,(⟨(⟨ak,al,U,ah⟩:M.aKc),ai,ao⟩:M.bJ))
def C2(C:M.bN):Option (Int×Int×M.bJ):=
 (FG C).bind λx4=>(aG ⟨C.b,x4.1,x4.2.1⟩ 5).bind λj=>xP C aJ j.2.2 x4.2.2.Name x4.2.2.aKb 0 j.1 j.2.1 x4.2.2.aKm x4.2.2.aKz []
def D6(I:M.bN)(C:List Int):Option (Int×Int×(List Int)):=
 (app 1 [] C).bind λx5=>(aG I 6).bind λj=>if j.2.2==0 then if decide ((C.length:Int)>0)then(aG ⟨I.b,j.1,j.2.1⟩ (C.length)).bind λJ=>(aG ⟨I.b,J.1,J.2.1⟩ 256).bind λai=>(idx C J.2.2).bind λaj=>some (ai.1,ai.2.1,C.set J.2.2.toNat (u8.wrap ai.2.2))else some (j.1,j.2.1,C)else if j.2.2==1 then(aG ⟨I.b,j.1,j.2.1⟩ (i64.wrap (C.length+1))).bind λU=>(B6 C U.2.2).bind λak=>some (U.1,U.2.1,C.take U.2.2.toNat)else if j.2.2==2 then(cD ⟨I.b,j.1,j.2.1⟩ ([0,1,128,255])).bind λah=>(app 1 C ([u8.wrap ah.2.2])).bind λal=>some (ah.1,ah.2.1,C++[u8.wrap ah.2.2])else some (j.1,j.2.1,C)
def FH(I:M.bN):Option (Int×Int×M.bJ):=
 (C2 I).bind λx4=>(aG ⟨I.b,x4.1,x4.2.1⟩ 10).bind λj=>if j.2.2==0 then some (j.1,j.2.1,⟨x4.2.2.aK1,x4.2.2.Log,i64.wrap (x4.2.2.aLF+1)⟩)else if j.2.2==1 then(D6 ⟨I.b,j.1,j.2.1⟩ x4.2.2.Log).bind λC=>some (C.1,C.2.1,⟨x4.2.2.aK1,C.2.2,x4.2.2.aLF⟩)else if j.2.2==2 then(zE x4.2.2.Log x4.2.2.aLF ([1,2])).bind λJ=>some (j.1,j.2.1,⟨x4.2.2.aK1,J.1,i64.wrap (x4.2.2.aLF+1)⟩)else some (j.1,j.2.1,x4.2.2)
def xI(j:M.aKt)(I:Int):Nat->Int->Option Int
 |0,_=>none
 |J+1,C=>if decide (C<(List.length j.aQ:Int))then(idx j.aQ C).bind λx7=>if x7.aKk==I then some x7.Seq else xI j I J (i64.wrap (C+1))else some 0
def At(j:M.aKt)(C:Int):Option Int:=
 xI j C aJ 0
def xK(j:List M.aQ)(I:Int)(J:Int):Nat->Int->Option (List M.aQ)
 |0,_=>none
 |ae+1,C=>if decide (C<(List.length j:Int))then(idx j C).bind λU=>if decide (U.aKk<I)then xK j I J ae (i64.wrap (C+1))else if U.aKk==I then some (List.set j C.toNat (⟨U.aKk,J⟩:M.aQ))else(B6 j C).bind λaf=>(app 16 ([]:List M.aQ) (List.take C.toNat j)).bind λah=>(app 16 (List.take C.toNat j) ([(⟨I,J⟩:M.aQ)])).bind λai=>(BM j C).bind λaj=>(app 16 ((List.take C.toNat j)++[(⟨I,J⟩:M.aQ)]) (List.drop C.toNat j)).bind λak=>some (((List.take C.toNat j)++[(⟨I,J⟩:M.aQ)])++(List.drop C.toNat j))else(B6 j C).bind λal=>(app 16 ([]:List M.aQ) (List.take C.toNat j)).bind λao=>(app 16 (List.take C.toNat j) ([(⟨I,J⟩:M.aQ)])).bind λaq=>(BM j C).bind λar=>(app 16 ((List.take C.toNat j)++[(⟨I,J⟩:M.aQ)]) (List.drop C.toNat j)).bind λav=>some (((List.take C.toNat j)++[(⟨I,J⟩:M.aQ)])++(List.drop C.toNat j))
def C0(j:List M.aQ)(C:Int)(I:Int):Option (List M.aQ):=
 (app 16 [] j).bind λx1=>xK j C I aJ 0
def dP(C:M.aKt)(j:M.cH):Option (M.aKt×Int):=
 (iJ C).bind λx1=>(tM C).bind λx3=>if !x3 then some (x1,4)else(lV j).bind λx6=>if !x6 then some (x1,4)else(C0 C.aQ j.aKk j.Seq).bind λx9=>(At C j.aKk).bind λI=>if decide ((x9.length:Int)>60)then some (x1,4)else if decide (j.Seq<=I)then some (x1,2)else if decide (j.Seq>(i64.wrap (I+1)))then some (x1,3)else(mZ C.aD j).bind λJ=>if J.2 then(app 72 x1.aK6 ([j])).bind λU=>some (⟨J.1,x9,x1.aK6++[j]⟩,1)else(app 72 x1.aK6 ([j])).bind λah=>some (⟨x1.aD,x9,x1.aK6++[j]⟩,1)
def sL(C:M.bN):Nat->Int->ByteArray->Int->Int->Int->List M.aKy->List M.aQ->List M.cH->Option (Int×Int×M.aKt)
 |0,_,_,_,_,_,_,_,_=>none
 |aw+1,v4,aj,ak,aa,ae,J,U,ai=>if decide (v4>0)then(aG (⟨C.b,aa,ae⟩:M.bN) 3).bind λI=>(At (⟨(⟨aj,J,ak⟩:M.aD),U,ai⟩:M.aKt) (i64.wrap (1+I.2.2))).bind λax=>(fE (⟨C.b,I.1,I.2.1⟩:M.bN)).bind λaq=>(cE (⟨C.b,aq.1,aq.2.1⟩:M.bN)).bind λar=>(aG (⟨C.b,ar.1,ar.2.1⟩:M.bN) 6).bind λav=>(dP (⟨(⟨aj,J,ak⟩:M.aD),U,ai⟩:M.aKt) (⟨i64.wrap (1+I.2.2),i64.wrap (ax+1),aq.2.2,ar.2.2,av.2.2⟩:M.cH)).bind λj=>sL C aw (i64.wrap (v4-1)) j.1.aD.Name j.1.aD.aK7 av.1 av.2.1 j.1.aD.aKg j.1.aQ j.1.aK6 else some (aa,ae,(⟨(⟨aj,J,ak⟩:M.aD),U,ai⟩:M.aKt))
def BE(C:M.bN):Option (Int×Int×M.aKt):=
 (xA C ⟨#[110,111,116,101,115]⟩).bind λx4=>(aG ⟨C.b,x4.1,x4.2.1⟩ 6).bind λj=>sL C aJ j.2.2 x4.2.2.Name x4.2.2.aK7 j.1 j.2.1 x4.2.2.aKg [] []
def AQ(j:M.aKt)(C:Int):Option (M.aH×Bool):=
 (rF C).bind λx1=>(cP j.aD).bind λx3=>if !x1.2 then some (⟨⟨⟨#[]⟩,[],0⟩,0,⟨⟨0,0,[]⟩,0,0⟩⟩,false)else(tM j).bind λx6=>if !x6 then some (⟨⟨⟨#[]⟩,[],0⟩,0,⟨⟨0,0,[]⟩,0,0⟩⟩,false)else(rD ⟨x3,j.aK6.length,⟨x1.1,0,0⟩⟩).bind λx9=>if !x9 then some (⟨⟨⟨#[]⟩,[],0⟩,0,⟨⟨0,0,[]⟩,0,0⟩⟩,false)else some (⟨x3,j.aK6.length,⟨x1.1,0,0⟩⟩,true)
def CF(j:M.aO):Option (M.cH×Bool):=
 if(j.aKw.length:Int)==0 then some (⟨0,0,⟨0,0,⟨#[]⟩⟩,⟨#[]⟩,0⟩,false)else(idx j.aKw 0).bind λx2=>some (x2,true)
def rQ(C:M.aO)(I:Int)(x1:M.aO):Nat->Int->Option (M.aO×Int)
 |0,_=>none
 |J+1,j=>if decide (j<(List.length C.aKw:Int))then(idx C.aKw j).bind λU=>if decide (U.Seq<=I)then rQ C I x1 J (i64.wrap (j+1))else(BM C.aKw j).bind λaf=>(app 72 ([]:List M.cH) (List.drop j.toNat C.aKw)).bind λah=>some ((⟨x1.aKk,x1.aLE,List.drop j.toNat C.aKw⟩:M.aO),j)else(BM C.aKw j).bind λai=>(app 72 ([]:List M.cH) (List.drop j.toNat C.aKw)).bind λaj=>some ((⟨x1.aKk,x1.aLE,List.drop j.toNat C.aKw⟩:M.aO),j)
def dQ(j:M.aO)(C:Int):Option (M.aO×Int):=
 (vZ j).bind λx1=>(kR j).bind λx3=>if !x3 then some (x1,0)else rQ j C x1 aJ 0
def sJ(C:Int):Nat->Int->Int->Option Int
 |0,_,_=>none
 |J+1,j,I=>if decide (I<C)then if decide (j<64)then sJ C J (i64.wrap (2*j)) (i64.wrap (I+1))else some j else some j
def lA(j:Int):Option Int:=
 sJ j aJ 1 0
def Cn(j:M.aK3)(p1:M.aKt)(C:Int)(p3:Int):Option (M.aK3×M.aKt×Int):=
 (As j).bind λx1=>(CF j.aO).bind λx3=>if !x3.2 then(iJ p1).bind λx6=>some (x1,x6,0)else(kR j.aO).bind λx8=>if !x8 then(iJ p1).bind λbo=>some (x1,bo,0)else if decide (C<j.aK8)then(iJ p1).bind λbq=>some (x1,bq,0)else(bG C 0 1000000000000).bind λbr=>if !br then(iJ p1).bind λbt=>some (x1,bt,0)else(iJ p1).bind λao=>if p3==0 then(dP ao x3.1).bind λI=>if p3==3 then(dP I.1 x3.1).bind λah=>if ah.2==1 then(dQ j.aO x3.1.Seq).bind λbu=>some (⟨bu.1,0,0⟩,ah.1,1)else if ah.2==2 then(dQ j.aO x3.1.Seq).bind λbw=>some (⟨bw.1,0,0⟩,ah.1,1)else(dS 59 j.aLI).bind λbx=>(dS 60 (i64.wrap (bx+1))).bind λbl=>(lA bl).bind λbz=>some (⟨x1.aO,bl,i64.wrap (C+bz)⟩,ah.1,2)else if I.2==1 then(dQ j.aO x3.1.Seq).bind λca=>some (⟨ca.1,0,0⟩,I.1,1)else if I.2==2 then(dQ j.aO x3.1.Seq).bind λcc=>some (⟨cc.1,0,0⟩,I.1,1)else(dS 59 j.aLI).bind λcd=>(dS 60 (i64.wrap (cd+1))).bind λbm=>(lA bm).bind λcg=>some (⟨x1.aO,bm,i64.wrap (C+cg)⟩,I.1,2)else if p3==2 then(dP ao x3.1).bind λbn=>if p3==3 then(dP bn.1 x3.1).bind λJ=>if J.2==1 then(dQ j.aO x3.1.Seq).bind λaq=>some (⟨aq.1,0,0⟩,J.1,1)else if J.2==2 then(dQ j.aO x3.1.Seq).bind λar=>some (⟨ar.1,0,0⟩,J.1,1)else(dS 59 j.aLI).bind λav=>(dS 60 (i64.wrap (av+1))).bind λai=>(lA ai).bind λaw=>some (⟨x1.aO,ai,i64.wrap (C+aw)⟩,J.1,2)else(dS 59 j.aLI).bind λax=>(dS 60 (i64.wrap (ax+1))).bind λaj=>(lA aj).bind λay=>some (⟨x1.aO,aj,i64.wrap (C+ay)⟩,bn.1,2)else if p3==3 then(dP ao x3.1).bind λaz=>(dP az.1 x3.1).bind λU=>if U.2==1 then(dQ j.aO x3.1.Seq).bind λba=>some (⟨ba.1,0,0⟩,U.1,1)else if U.2==2 then(dQ j.aO x3.1.Seq).bind λbd=>some (⟨bd.1,0,0⟩,U.1,1)else(dS 59 j.aLI).bind λbf=>(dS 60 (i64.wrap (bf+1))).bind λak=>(lA ak).bind λbg=>some (⟨x1.aO,ak,i64.wrap (C+bg)⟩,U.1,2)else(dS 59 j.aLI).bind λbh=>(dS 60 (i64.wrap (bh+1))).bind λal=>(lA al).bind λbj=>some (⟨x1.aO,al,i64.wrap (C+bj)⟩,ao,2)
def An(j:M.aH)(C:M.aKt):Option (M.aH×Int):=
 (xB j).bind λx1=>(rD j).bind λx3=>if !x3 then some (x1,0)else(tM C).bind λx6=>if !x6 then some (x1,0)else if decide (j.aLT>C.aK6.length)then some (x1,0)else(BM C.aK6 j.aLT).bind λah=>(A0 j.aK1 (C.aK6.drop j.aLT.toNat)).bind λI=>(At C j.aK3.aO.aKk).bind λJ=>(dQ j.aK3.aO J).bind λU=>some (⟨I,C.aK6.length,⟨U.1,x1.aK3.aLI,x1.aK3.aK8⟩⟩,i64.wrap (C.aK6.length-j.aLT))
def gH(j:M.bN):Nat->Int->ByteArray->Int->Int->Int->Int->Int->Int->Int->Int->ByteArray->Int->List M.aKy->List M.cH->List M.aKy->List M.aQ->List M.cH->Option (Int×Int×M.aH×M.aKt)
 |0,_,_,_,_,_,_,_,_,_,_,_,_,_,_,_,_,_=>none
 |bw+1,v7,ay,az,ba,bd,bf,bg,aw,aj,ak,ar,av,ah,ai,aa,ae,af=>if decide (v7>0)then(aG (⟨j.b,aj,ak⟩:M.bN) 5).bind λC=>if C.2.2==0 then(fE (⟨j.b,C.1,C.2.1⟩:M.bN)).bind λbx=>(cE (⟨j.b,bx.1,bx.2.1⟩:M.bN)).bind λbz=>(aG (⟨j.b,bz.1,bz.2.1⟩:M.bN) 6).bind λca=>(lJ (⟨(⟨ay,ah,az⟩:M.aD),ba,(⟨(⟨bd,bf,ai⟩:M.aO),bg,aw⟩:M.aK3)⟩:M.aH) bx.2.2 bz.2.2 ca.2.2).bind λbj=>gH j bw (i64.wrap (v7-1)) bj.1.aK1.Name bj.1.aK1.aK7 bj.1.aLT bj.1.aK3.aO.aKk bj.1.aK3.aO.aLE bj.1.aK3.aLI bj.1.aK3.aK8 ca.1 ca.2.1 ar av bj.1.aK1.aKg bj.1.aK3.aO.aKw aa ae af else if C.2.2==1 then(fE (⟨j.b,C.1,C.2.1⟩:M.bN)).bind λbm=>(cE (⟨j.b,bm.1,bm.2.1⟩:M.bN)).bind λbn=>(aG (⟨j.b,bn.1,bn.2.1⟩:M.bN) 6).bind λbo=>(lJ (⟨(⟨ay,ah,az⟩:M.aD),ba,(⟨(⟨bd,bf,ai⟩:M.aO),bg,aw⟩:M.aK3)⟩:M.aH) bm.2.2 bn.2.2 bo.2.2).bind λJ=>gH j bw (i64.wrap (v7-1)) J.1.aK1.Name J.1.aK1.aK7 J.1.aLT J.1.aK3.aO.aKk J.1.aK3.aO.aLE J.1.aK3.aLI J.1.aK3.aK8 bo.1 bo.2.1 ar av J.1.aK1.aKg J.1.aK3.aO.aKw aa ae af else if C.2.2==2 then(aG (⟨j.b,C.1,C.2.1⟩:M.bN) 4).bind λbq=>(Cn (⟨(⟨bd,bf,ai⟩:M.aO),bg,aw⟩:M.aK3) (⟨(⟨ar,aa,av⟩:M.aD),ae,af⟩:M.aKt) aw bq.2.2).bind λI=>gH j bw (i64.wrap (v7-1)) ay az ba I.1.aO.aKk I.1.aO.aLE I.1.aLI I.1.aK8 bq.1 bq.2.1 I.2.1.aD.Name I.2.1.aD.aK7 ah I.1.aO.aKw I.2.1.aD.aKg I.2.1.aQ I.2.1.aK6 else if C.2.2==3 then(aG (⟨j.b,C.1,C.2.1⟩:M.bN) 3).bind λbl=>(At (⟨(⟨ar,aa,av⟩:M.aD),ae,af⟩:M.aKt) (i64.wrap (1+bl.2.2))).bind λcc=>(fE (⟨j.b,bl.1,bl.2.1⟩:M.bN)).bind λbr=>(cE (⟨j.b,br.1,br.2.1⟩:M.bN)).bind λbt=>(aG (⟨j.b,bt.1,bt.2.1⟩:M.bN) 6).bind λbu=>(dP (⟨(⟨ar,aa,av⟩:M.aD),ae,af⟩:M.aKt) (⟨i64.wrap (1+bl.2.2),i64.wrap (cc+1),br.2.2,bt.2.2,bu.2.2⟩:M.cH)).bind λbh=>gH j bw (i64.wrap (v7-1)) ay az ba bd bf bg aw bu.1 bu.2.1 bh.1.aD.Name bh.1.aD.aK7 ah ai bh.1.aD.aKg bh.1.aQ bh.1.aK6 else(An (⟨(⟨ay,ah,az⟩:M.aD),ba,(⟨(⟨bd,bf,ai⟩:M.aO),bg,aw⟩:M.aK3)⟩:M.aH) (⟨(⟨ar,aa,av⟩:M.aD),ae,af⟩:M.aKt)).bind λU=>gH j bw (i64.wrap (v7-1)) U.1.aK1.Name U.1.aK1.aK7 U.1.aLT U.1.aK3.aO.aKk U.1.aK3.aO.aLE U.1.aK3.aLI U.1.aK3.aK8 C.1 C.2.1 ar av U.1.aK1.aKg U.1.aK3.aO.aKw aa ae af else some (aj,ak,(⟨(⟨ay,ah,az⟩:M.aD),ba,(⟨(⟨bd,bf,ai⟩:M.aO),bg,aw⟩:M.aK3)⟩:M.aH),(⟨(⟨ar,aa,av⟩:M.aD),ae,af⟩:M.aKt))
def Df(I:M.bN):Option (Int×Int×M.aH×M.aKt):=
 (BE I).bind λx4=>(AQ x4.2.2 4).bind λj=>(aG ⟨I.b,x4.1,x4.2.1⟩ 6).bind λC=>gH I aJ C.2.2 j.1.aK1.Name j.1.aK1.aK7 j.1.aLT j.1.aK3.aO.aKk j.1.aK3.aO.aLE j.1.aK3.aLI j.1.aK3.aK8 C.1 C.2.1 x4.2.2.aD.Name x4.2.2.aD.aK7 j.1.aK1.aKg j.1.aK3.aO.aKw x4.2.2.aD.aKg x4.2.2.aQ x4.2.2.aK6
def Dx(C:M.bN):Option (Int×Int×M.bD):=
 (E0 C).bind λx4=>(aG ⟨C.b,x4.1,x4.2.1⟩ 10).bind λj=>if j.2.2==0 then(aG ⟨C.b,j.1,j.2.1⟩ 5).bind λI=>some (I.1,I.2.1,⟨I.2.2,x4.2.2.N,x4.2.2.aK5⟩)else if j.2.2==1 then(cD ⟨C.b,j.1,j.2.1⟩ ([-1000000000001,1000000000001,5])).bind λJ=>some (J.1,J.2.1,⟨x4.2.2.aKx,J.2.2,x4.2.2.aK5⟩)else if j.2.2==2 then(iQ ⟨C.b,j.1,j.2.1⟩ ([⟨#[65]⟩,⟨#[97,32,98]⟩,⟨#[97,98,99,100,101,102,103,104,105,106,107,108,109]⟩,⟨#[120,39]⟩])).bind λU=>some (U.1,U.2.1,⟨x4.2.2.aKx,x4.2.2.N,U.2.2⟩)else some (j.1,j.2.1,x4.2.2)
def xQ(j:(Int×Int×Int)):Nat->Int->List M.aR->Option (Int×Int×M.aF)
 |0,_,_=>none
 |J+1,C,I=>if decide (C<((6:Nat):Int))then(idx ([(⟨#[100]⟩:ByteArray),(⟨#[101]⟩:ByteArray),(⟨#[102]⟩:ByteArray),(⟨#[103]⟩:ByteArray),(⟨#[104]⟩:ByteArray),(⟨#[105]⟩:ByteArray)]) C).bind λU=>(iC (⟨I⟩:M.aF) U 1).bind λaj=>xQ j J (i64.wrap (C+1)) aj.1.aKj else some (j.1,j.2.1,(⟨I⟩:M.aF))
def GH(J:M.bN):Option (Int×Int×M.aF):=
 (pC J).bind λx4=>(aG ⟨J.b,x4.1,x4.2.1⟩ 12).bind λj=>if j.2.2==0 then(iQ ⟨J.b,j.1,j.2.1⟩ ([⟨#[]⟩,⟨#[65]⟩,⟨#[122,122,122,122,122,122,122,122,122]⟩,⟨#[122]⟩,⟨#[97]⟩])).bind λC=>(cD ⟨J.b,C.1,C.2.1⟩ ([0,-1,1000000000,1000000001])).bind λI=>(app 24 x4.2.2.aKj ([⟨C.2.2,I.2.2⟩])).bind λU=>some (I.1,I.2.1,⟨x4.2.2.aKj++[⟨C.2.2,I.2.2⟩]⟩)else if j.2.2==1 then xQ j aJ 0 x4.2.2.aKj else some (j.1,j.2.1,x4.2.2)
def Cb(j:M.aD)(C:M.aF):Option (M.aD×M.bD×Bool):=
 if decide (j.aK7>=1000000)then(cP j).bind λx2=>some (x2,⟨0,0,⟨#[]⟩⟩,false)else(BV j ⟨1,i64.wrap (j.aK7+1),⟨#[]⟩⟩ C).bind λx4=>if !x4.2 then(cP j).bind λx7=>some (x7,⟨0,0,⟨#[]⟩⟩,false)else some (x4.1,⟨1,i64.wrap (j.aK7+1),⟨#[]⟩⟩,true)
def A9(C:(Int×Int×Int)):Nat->ByteArray->Int->List M.aKy->Option (Int×Int×M.aD)
 |0,_,_,_=>none
 |aj+1,I,J,j=>if decide ((List.length j:Int)<16)then(oP (⟨I,j,J⟩:M.aD)).bind λak=>if ak then(Cb (⟨I,j,J⟩:M.aD) (⟨([]:List M.aR)⟩:M.aF)).bind λU=>A9 C aj U.1.Name U.1.aK7 U.1.aKg else some (C.1,C.2.1,(⟨I,j,J⟩:M.aD))else some (C.1,C.2.1,(⟨I,j,J⟩:M.aD))
def EX(C:M.bN):Option (Int×Int×M.aD):=
 (xA C ⟨#[110,111,116,101,115]⟩).bind λx4=>(aG ⟨C.b,x4.1,x4.2.1⟩ 12).bind λj=>if j.2.2==0 then(iQ ⟨C.b,j.1,j.2.1⟩ ([⟨#[]⟩,⟨#[81]⟩,⟨#[97,98,99,100,101,102,103,104,105]⟩])).bind λU=>some (U.1,U.2.1,⟨U.2.2,x4.2.2.aKg,x4.2.2.aK7⟩)else if j.2.2==1 then(cD ⟨C.b,j.1,j.2.1⟩ ([-1,999999,1000000,1000001])).bind λai=>some (ai.1,ai.2.1,⟨x4.2.2.Name,x4.2.2.aKg,ai.2.2⟩)else if j.2.2==2 then(Dx ⟨C.b,j.1,j.2.1⟩).bind λI=>(GH ⟨C.b,I.1,I.2.1⟩).bind λJ=>(app 56 x4.2.2.aKg ([⟨I.2.2,J.2.2⟩])).bind λaj=>some (J.1,J.2.1,⟨x4.2.2.Name,x4.2.2.aKg++[⟨I.2.2,J.2.2⟩],x4.2.2.aK7⟩)else if j.2.2==3 then A9 j aJ x4.2.2.Name x4.2.2.aK7 x4.2.2.aKg else some (j.1,j.2.1,x4.2.2)
def rY(j:M.bN):Nat->Int->Int->Int->Int->Int->List M.cH->Option (Int×Int×M.aO)
 |0,_,_,_,_,_,_=>none
 |av+1,v7,J,U,aa,ae,I=>if decide (v7>0)then(fE (⟨j.b,aa,ae⟩:M.bN)).bind λak=>(cE (⟨j.b,ak.1,ak.2.1⟩:M.bN)).bind λal=>(aG (⟨j.b,al.1,al.2.1⟩:M.bN) 6).bind λao=>(kN (⟨J,U,I⟩:M.aO) ak.2.2 al.2.2 ao.2.2).bind λaq=>rY j av (i64.wrap (v7-1)) aq.1.aKk aq.1.aLE ao.1 ao.2.1 aq.1.aKw else(cF (⟨j.b,aa,ae⟩:M.bN) 3).bind λC=>if C.2.2 then(aG (⟨j.b,C.1,C.2.1⟩:M.bN) 4).bind λar=>(dQ (⟨J,U,I⟩:M.aO) ar.2.2).bind λaw=>some (ar.1,ar.2.1,aw.1)else some (C.1,C.2.1,(⟨J,U,I⟩:M.aO))
def Dm(j:M.bN)(C:Int):Option (Int×Int×M.aO):=
 (rF C).bind λx5=>(cD j ([0,2,4,6])).bind λx7=>rY j aJ x7.2.2 x5.1.aKk x5.1.aLE x7.1 x7.2.1 x5.1.aKw
def zP(p0:M.bN):Nat->Int->Int->Int->Int->List M.cH->Option (Int×Int×M.aO)
 |0,_,_,_,_,_=>none
 |al+1,C,I,J,U,j=>if decide ((List.length j:Int)<20)then(kR (⟨C,I,j⟩:M.aO)).bind λao=>if ao then(fE (⟨p0.b,J,U⟩:M.bN)).bind λaj=>(kN (⟨C,I,j⟩:M.aO) aj.2.2 (⟨#[97]⟩:ByteArray) 1).bind λak=>zP p0 al ak.1.aKk ak.1.aLE aj.1 aj.2.1 ak.1.aKw else some (J,U,(⟨C,I,j⟩:M.aO))else some (J,U,(⟨C,I,j⟩:M.aO))
def Fu(C:M.bN):Option (Int×Int×M.aO):=
 (aG C 3).bind λx4=>(Dm ⟨C.b,x4.1,x4.2.1⟩ (i64.wrap (1+x4.2.2))).bind λx6=>(aG ⟨C.b,x6.1,x6.2.1⟩ 12).bind λj=>if j.2.2==0 then(cD ⟨C.b,j.1,j.2.1⟩ ([0,9,1000001])).bind λU=>some (U.1,U.2.1,⟨U.2.2,x6.2.2.aLE,x6.2.2.aKw⟩)else if j.2.2==1 then(cD ⟨C.b,j.1,j.2.1⟩ ([0,3,1000000,1000001])).bind λai=>some (ai.1,ai.2.1,⟨x6.2.2.aKk,ai.2.2,x6.2.2.aKw⟩)else if j.2.2==2 then(Dx ⟨C.b,j.1,j.2.1⟩).bind λI=>(cD ⟨C.b,I.1,I.2.1⟩ ([0,-1])).bind λJ=>(app 72 x6.2.2.aKw ([⟨x6.2.2.aKk,x6.2.2.aLE,I.2.2,⟨#[97]⟩,J.2.2⟩])).bind λaj=>some (J.1,J.2.1,⟨x6.2.2.aKk,x6.2.2.aLE,x6.2.2.aKw++[⟨x6.2.2.aKk,x6.2.2.aLE,I.2.2,⟨#[97]⟩,J.2.2⟩]⟩)else if j.2.2==3 then zP C aJ x6.2.2.aKk x6.2.2.aLE j.1 j.2.1 x6.2.2.aKw else some (j.1,j.2.1,x6.2.2)
def FE(C:M.bN):Option (Int×Int×M.aH):=
 (Df C).bind λx4=>(aG ⟨C.b,x4.1,x4.2.1⟩ 12).bind λj=>if j.2.2==0 then(EX ⟨C.b,j.1,j.2.1⟩).bind λI=>some (I.1,I.2.1,⟨I.2.2,x4.2.2.1.aLT,x4.2.2.1.aK3⟩)else if j.2.2==1 then(cD ⟨C.b,j.1,j.2.1⟩ ([-1,9,1000000000001])).bind λJ=>some (J.1,J.2.1,⟨x4.2.2.1.aK1,J.2.2,x4.2.2.1.aK3⟩)else if j.2.2==2 then(Fu ⟨C.b,j.1,j.2.1⟩).bind λU=>some (U.1,U.2.1,⟨x4.2.2.1.aK1,x4.2.2.1.aLT,⟨U.2.2,x4.2.2.1.aK3.aLI,x4.2.2.1.aK3.aK8⟩⟩)else some (j.1,j.2.1,x4.2.2.1)
set_option maxRecDepth 40000 in
def rH(x4:(Int×Int×M.aKe))(C:(Int×Int×Int)):Nat->List Int->Option (Int×Int×M.aKe)
 |0,_=>none
 |I+1,j=>if decide ((List.length j:Int)<2600)then(app 1 j ([0])).bind λJ=>rH x4 C I (j++[0])else some (C.1,C.2.1,(⟨x4.2.2.aKl,x4.2.2.Top,x4.2.2.aKd,x4.2.2.aKi,(⟨x4.2.2.bJ.aK1,j,x4.2.2.bJ.aLF⟩:M.bJ),x4.2.2.aH,x4.2.2.aLC,x4.2.2.aK9⟩:M.aKe))
set_option maxRecDepth 40000 in
theorem UC:type_of%@rH.eq_2:=@rH.eq_2
def FK(C:M.bN):Option (Int×Int×M.aKe):=
 (BK C).bind λx4=>(aG ⟨C.b,x4.1,x4.2.1⟩ 14).bind λj=>if j.2.2==0 then(iQ ⟨C.b,j.1,j.2.1⟩ ([⟨#[]⟩,⟨#[122,122,122]⟩])).bind λI=>some (I.1,I.2.1,⟨I.2.2,x4.2.2.Top,x4.2.2.aKd,x4.2.2.aKi,x4.2.2.bJ,x4.2.2.aH,x4.2.2.aLC,x4.2.2.aK9⟩)else if j.2.2==1 then(Fz ⟨C.b,j.1,j.2.1⟩).bind λJ=>some (J.1,J.2.1,⟨x4.2.2.aKl,x4.2.2.Top,x4.2.2.aKd,J.2.2,x4.2.2.bJ,x4.2.2.aH,x4.2.2.aLC,x4.2.2.aK9⟩)else if j.2.2==2 then(FH ⟨C.b,j.1,j.2.1⟩).bind λU=>some (U.1,U.2.1,⟨x4.2.2.aKl,x4.2.2.Top,x4.2.2.aKd,x4.2.2.aKi,U.2.2,x4.2.2.aH,x4.2.2.aLC,x4.2.2.aK9⟩)else if j.2.2==3 then(FE ⟨C.b,j.1,j.2.1⟩).bind λai=>some (ai.1,ai.2.1,⟨x4.2.2.aKl,x4.2.2.Top,x4.2.2.aKd,x4.2.2.aKi,x4.2.2.bJ,ai.2.2,x4.2.2.aLC,x4.2.2.aK9⟩)else if j.2.2==4 then(cD ⟨C.b,j.1,j.2.1⟩ ([-1,1000000000001])).bind λaj=>some (aj.1,aj.2.1,⟨x4.2.2.aKl,x4.2.2.Top,x4.2.2.aKd,x4.2.2.aKi,x4.2.2.bJ,x4.2.2.aH,aj.2.2,x4.2.2.aK9⟩)else if j.2.2==5 then rH x4 j aJ x4.2.2.bJ.Log else some (j.1,j.2.1,x4.2.2)
def pQ(J:M.bN):Nat->Int->Int->Int->List M.aKe->Option (Int×Int×M.aC)
 |0,_,_,_,_=>none
 |ak+1,v4,aa,ae,C=>if decide (v4>0)then(BK (⟨J.b,aa,ae⟩:M.bN)).bind λU=>(hU (⟨C⟩:M.aC) U.2.2).bind λal=>pQ J ak (i64.wrap (v4-1)) U.1 U.2.1 al.1.aKf else(cF (⟨J.b,aa,ae⟩:M.bN) 12).bind λj=>if j.2.2 then(FK (⟨J.b,j.1,j.2.1⟩:M.bN)).bind λI=>(app 328 C ([I.2.2])).bind λao=>some (I.1,I.2.1,(⟨C++[I.2.2]⟩:M.aC))else some (j.1,j.2.1,(⟨C⟩:M.aC))
def A6(j:M.bN):Option (Int×Int×M.aC):=
 (aG j 4).bind λx4=>pQ j aJ x4.2.2 x4.1 x4.2.1 []
def sK(p0:M.bN):Nat->Int->Int->ByteArray->ByteArray->Int->Int->Int->Bool->Bool->Int->Int->List M.aT->List M.aY->List Int->Option (Int×Int×M.bK)
 |0,_,_,_,_,_,_,_,_,_,_,_,_,_,_=>none
 |az+1,v7,ao,aq,ar,C,av,aw,ax,ak,J,U,af,ah,ai=>if decide (v7>0)then(BW (⟨p0.b,J,U⟩:M.bN)).bind λI=>(kI (⟨ao,aq,ar,C,af,(⟨ah,av,ai,aw,ax,ak⟩:M.aKh)⟩:M.bK) I.2.2 (⟨0,200,C,([]:List Int),false⟩:M.aKo)).bind λj=>sK p0 az (i64.wrap (v7-1)) j.1.Id j.1.aKl j.1.Top j.1.aKb j.1.aKh.Pc j.1.aKh.aLM j.1.aKh.aLU j.1.aKh.aLR I.1 I.2.1 j.1.aT j.1.aKh.aLA j.1.aKh.aLN else some (J,U,(⟨ao,aq,ar,C,af,(⟨ah,av,ai,aw,ax,ak⟩:M.aKh)⟩:M.bK))
def Az(C:M.bN):Option (Int×Int×M.bK):=
 (sX C).bind λx4=>((cF ⟨C.b,x4.1,x4.2.1⟩ 3).bind λI=>if I.2.2 then(sX ⟨C.b,I.1,I.2.1⟩).bind λJ=>some (J.2.2,J.1,J.2.1)else some (x4.2.2,I.1,I.2.1)).bind λU=>(aG ⟨C.b,U.2.1,U.2.2⟩ 9).bind λai=>(aG ⟨C.b,ai.1,ai.2.1⟩ 3).bind λaj=>(uY ⟨C.b,aj.1,aj.2.1⟩).bind λak=>(mU (i64.wrap (1+ai.2.2)) x4.2.2 U.1 (i64.wrap (1+aj.2.2)) ak.2.2).bind λj=>(aG ⟨C.b,ak.1,ak.2.1⟩ 3).bind λal=>sK C aJ al.2.2 j.1.Id j.1.aKl j.1.Top j.1.aKb j.1.aKh.Pc j.1.aKh.aLM j.1.aKh.aLU j.1.aKh.aLR al.1 al.2.1 j.1.aT j.1.aKh.aLA j.1.aKh.aLN
def yZ(x4:(Int×Int×M.bK))(C:(Int×Int×Int)):Nat->List M.aT->Option (Int×Int×M.bK)
 |0,_=>none
 |I+1,j=>if decide ((List.length j:Int)<8)then(app 24 j ([(⟨(⟨#[105,110,100,101,120]⟩:ByteArray),x4.2.2.aKb⟩:M.aT)])).bind λJ=>yZ x4 C I (j++[(⟨(⟨#[105,110,100,101,120]⟩:ByteArray),x4.2.2.aKb⟩:M.aT)])else some (C.1,C.2.1,(⟨x4.2.2.Id,x4.2.2.aKl,x4.2.2.Top,x4.2.2.aKb,j,x4.2.2.aKh⟩:M.bK))
def DL(C:M.bN):Option (Int×Int×M.bK):=
 (Az C).bind λx4=>(aG ⟨C.b,x4.1,x4.2.1⟩ 12).bind λj=>if j.2.2==0 then(cD ⟨C.b,j.1,j.2.1⟩ ([0,1000000000000,1000000000001])).bind λU=>some (U.1,U.2.1,⟨U.2.2,x4.2.2.aKl,x4.2.2.Top,x4.2.2.aKb,x4.2.2.aT,x4.2.2.aKh⟩)else if j.2.2==1 then(iQ ⟨C.b,j.1,j.2.1⟩ ([⟨#[105,110,100,101,120]⟩,⟨#[]⟩])).bind λI=>(aG ⟨C.b,I.1,I.2.1⟩ 2).bind λJ=>(app 24 x4.2.2.aT ([⟨I.2.2,i64.wrap (x4.2.2.aKb+J.2.2)⟩])).bind λaj=>some (J.1,J.2.1,⟨x4.2.2.Id,x4.2.2.aKl,x4.2.2.Top,x4.2.2.aKb,x4.2.2.aT++[⟨I.2.2,i64.wrap (x4.2.2.aKb+J.2.2)⟩],x4.2.2.aKh⟩)else if j.2.2==2 then(cD ⟨C.b,j.1,j.2.1⟩ ([0,1000000000001])).bind λai=>some (ai.1,ai.2.1,⟨x4.2.2.Id,x4.2.2.aKl,x4.2.2.Top,ai.2.2,x4.2.2.aT,x4.2.2.aKh⟩)else if j.2.2==3 then yZ x4 j aJ x4.2.2.aT else some (j.1,j.2.1,x4.2.2)
def DI(C:M.bN):Option (Int×Int×M.cH):=
 (aG C 3).bind λx4=>(aG ⟨C.b,x4.1,x4.2.1⟩ 4).bind λx6=>(fE ⟨C.b,x6.1,x6.2.1⟩).bind λx8=>(cE ⟨C.b,x8.1,x8.2.1⟩).bind λI=>(aG ⟨C.b,I.1,I.2.1⟩ 6).bind λJ=>(aG ⟨C.b,J.1,J.2.1⟩ 12).bind λj=>if j.2.2==0 then(cD ⟨C.b,j.1,j.2.1⟩ ([0,1000000,1000001])).bind λU=>some (U.1,U.2.1,⟨U.2.2,i64.wrap (1+x6.2.2),x8.2.2,I.2.2,J.2.2⟩)else if j.2.2==1 then(cD ⟨C.b,j.1,j.2.1⟩ ([0,1000000,1000001])).bind λai=>some (ai.1,ai.2.1,⟨i64.wrap (1+x4.2.2),ai.2.2,x8.2.2,I.2.2,J.2.2⟩)else if j.2.2==2 then(Dx ⟨C.b,j.1,j.2.1⟩).bind λaj=>some (aj.1,aj.2.1,⟨i64.wrap (1+x4.2.2),i64.wrap (1+x6.2.2),aj.2.2,I.2.2,J.2.2⟩)else if j.2.2==3 then some (j.1,j.2.1,⟨i64.wrap (1+x4.2.2),i64.wrap (1+x6.2.2),x8.2.2,⟨#[]⟩,J.2.2⟩)else if j.2.2==4 then(cD ⟨C.b,j.1,j.2.1⟩ ([-1,1000000000,1000000001])).bind λak=>some (ak.1,ak.2.1,⟨i64.wrap (1+x4.2.2),i64.wrap (1+x6.2.2),x8.2.2,I.2.2,ak.2.2⟩)else some (j.1,j.2.1,⟨i64.wrap (1+x4.2.2),i64.wrap (1+x6.2.2),x8.2.2,I.2.2,J.2.2⟩)
def zU(x4:(Int×Int×M.aKt))(I:(Int×Int×Int)):Nat->Int->List M.aQ->Option (Int×Int×M.aKt)
 |0,_,_=>none
 |J+1,j,C=>if decide (j<64)then(app 16 C ([(⟨j,0⟩:M.aQ)])).bind λU=>zU x4 I J (i64.wrap (j+1)) (C++[(⟨j,0⟩:M.aQ)])else some (I.1,I.2.1,(⟨x4.2.2.aD,C,x4.2.2.aK6⟩:M.aKt))
def D5(C:M.bN):Option (Int×Int×M.aKt):=
 (BE C).bind λx4=>(aG ⟨C.b,x4.1,x4.2.1⟩ 12).bind λj=>if j.2.2==0 then(EX ⟨C.b,j.1,j.2.1⟩).bind λai=>some (ai.1,ai.2.1,⟨ai.2.2,x4.2.2.aQ,x4.2.2.aK6⟩)else if j.2.2==1 then(cD ⟨C.b,j.1,j.2.1⟩ ([0,2,9,1000001])).bind λI=>(cD ⟨C.b,I.1,I.2.1⟩ ([0,-1])).bind λJ=>(app 16 x4.2.2.aQ ([⟨I.2.2,J.2.2⟩])).bind λaj=>some (J.1,J.2.1,⟨x4.2.2.aD,x4.2.2.aQ++[⟨I.2.2,J.2.2⟩],x4.2.2.aK6⟩)else if j.2.2==2 then(DI ⟨C.b,j.1,j.2.1⟩).bind λU=>(app 72 x4.2.2.aK6 ([U.2.2])).bind λak=>some (U.1,U.2.1,⟨x4.2.2.aD,x4.2.2.aQ,x4.2.2.aK6++[U.2.2]⟩)else if j.2.2==3 then zU x4 j aJ 4 []else some (j.1,j.2.1,x4.2.2)
def D7(I:M.bN):Option (Int×Int×M.aE):=
 (Cp I).bind λx4=>(cF (⟨I.b,x4.1,x4.2.1⟩:M.bN) 4).bind λC=>(aG (⟨I.b,C.1,C.2.1⟩:M.bN) 24).bind λj=>if j.2.2==0 then(cD (⟨I.b,j.1,j.2.1⟩:M.bN) ([-1,999999990000,999999990001])).bind λU=>some (U.1,U.2.1,(⟨U.2.2,!C.2.2,x4.2.2.aKk,x4.2.2.aC,x4.2.2.aKq,x4.2.2.aKn,x4.2.2.aKu,x4.2.2.aKp,x4.2.2.aK0,x4.2.2.aKr⟩:M.aE))else if j.2.2==1 then some (j.1,j.2.1,(⟨x4.2.2.Now,!C.2.2,0,x4.2.2.aC,x4.2.2.aKq,x4.2.2.aKn,x4.2.2.aKu,x4.2.2.aKp,x4.2.2.aK0,x4.2.2.aKr⟩:M.aE))else if j.2.2==2 then(B6 x4.2.2.aK0 2).bind λak=>some (j.1,j.2.1,(⟨x4.2.2.Now,!C.2.2,x4.2.2.aKk,x4.2.2.aC,x4.2.2.aKq,x4.2.2.aKn,x4.2.2.aKu,x4.2.2.aKp,List.take (2:Int).toNat x4.2.2.aK0,x4.2.2.aKr⟩:M.aE))else if j.2.2==3 then(A6 (⟨I.b,j.1,j.2.1⟩:M.bN)).bind λai=>some (ai.1,ai.2.1,(⟨x4.2.2.Now,!C.2.2,x4.2.2.aKk,ai.2.2,x4.2.2.aKq,x4.2.2.aKn,x4.2.2.aKu,x4.2.2.aKp,x4.2.2.aK0,x4.2.2.aKr⟩:M.aE))else if j.2.2==4 then(DL (⟨I.b,j.1,j.2.1⟩:M.bN)).bind λJ=>(app 144 x4.2.2.aKq ([J.2.2])).bind λal=>some (J.1,J.2.1,(⟨x4.2.2.Now,!C.2.2,x4.2.2.aKk,x4.2.2.aC,x4.2.2.aKq++[J.2.2],x4.2.2.aKn,x4.2.2.aKu,x4.2.2.aKp,x4.2.2.aK0,x4.2.2.aKr⟩:M.aE))else if j.2.2==5 then some (j.1,j.2.1,(⟨x4.2.2.Now,!C.2.2,x4.2.2.aKk,x4.2.2.aC,x4.2.2.aKq,0,x4.2.2.aKu,x4.2.2.aKp,x4.2.2.aK0,x4.2.2.aKr⟩:M.aE))else if j.2.2==6 then(D5 (⟨I.b,j.1,j.2.1⟩:M.bN)).bind λaj=>(idx x4.2.2.aKr 0).bind λao=>some (aj.1,aj.2.1,(⟨x4.2.2.Now,!C.2.2,x4.2.2.aKk,x4.2.2.aC,x4.2.2.aKq,x4.2.2.aKn,x4.2.2.aKu,x4.2.2.aKp,x4.2.2.aK0,List.set x4.2.2.aKr (0:Int).toNat aj.2.2⟩:M.aE))else some (j.1,j.2.1,(⟨x4.2.2.Now,!C.2.2,x4.2.2.aKk,x4.2.2.aC,x4.2.2.aKq,x4.2.2.aKn,x4.2.2.aKu,x4.2.2.aKp,x4.2.2.aK0,x4.2.2.aKr⟩:M.aE))
def xY(p0:List Int):Option (M.aE×M.bK×Int×ByteArray):=
 (EV p0).bind λx1=>(D7 x1).bind λj=>if decide ((List.length j.2.2.aKq:Int)>0)then(cF (⟨x1.b,j.1,j.2.1⟩:M.bN) 5).bind λaq=>if !aq.2.2 then(aG (⟨x1.b,aq.1,aq.2.1⟩:M.bN) (List.length j.2.2.aKq:Int)).bind λar=>(idx j.2.2.aKq ar.2.2).bind λav=>(aG (⟨x1.b,ar.1,ar.2.1⟩:M.bN) 4).bind λC=>(cF (⟨x1.b,C.1,C.2.1⟩:M.bN) 2).bind λU=>if U.2.2 then(hY j.2.2 av C.2.2 (⟨#[97]⟩:ByteArray) (i64.wrap (2*C.2.2))).bind λaw=>(cE (⟨x1.b,U.1,U.2.1⟩:M.bN)).bind λax=>some (aw.1,av,C.2.2,ax.2.2)else(cE (⟨x1.b,U.1,U.2.1⟩:M.bN)).bind λay=>some (j.2.2,av,C.2.2,ay.2.2)else(Az (⟨x1.b,aq.1,aq.2.1⟩:M.bN)).bind λaj=>(aG (⟨x1.b,aj.1,aj.2.1⟩:M.bN) 4).bind λI=>(cF (⟨x1.b,I.1,I.2.1⟩:M.bN) 2).bind λak=>if ak.2.2 then(hY j.2.2 aj.2.2 I.2.2 (⟨#[97]⟩:ByteArray) (i64.wrap (2*I.2.2))).bind λaz=>(cE (⟨x1.b,ak.1,ak.2.1⟩:M.bN)).bind λba=>some (az.1,aj.2.2,I.2.2,ba.2.2)else(cE (⟨x1.b,ak.1,ak.2.1⟩:M.bN)).bind λbd=>some (j.2.2,aj.2.2,I.2.2,bd.2.2)else(Az (⟨x1.b,j.1,j.2.1⟩:M.bN)).bind λal=>(aG (⟨x1.b,al.1,al.2.1⟩:M.bN) 4).bind λJ=>(cF (⟨x1.b,J.1,J.2.1⟩:M.bN) 2).bind λao=>if ao.2.2 then(hY j.2.2 al.2.2 J.2.2 (⟨#[97]⟩:ByteArray) (i64.wrap (2*J.2.2))).bind λbf=>(cE (⟨x1.b,ao.1,ao.2.1⟩:M.bN)).bind λbg=>some (bf.1,al.2.2,J.2.2,bg.2.2)else(cE (⟨x1.b,ao.1,ao.2.1⟩:M.bN)).bind λbh=>some (j.2.2,al.2.2,J.2.2,bh.2.2)
def AB(j:List Int):Option (M.aE×M.bK×Int×ByteArray×Int):=
 (xY j).bind λx1=>(EV j).bind λx3=>(cD x3 ([0,5,-1,1000000000,1000000001])).bind λC=>some (x1.1,x1.2.1,x1.2.2.1,x1.2.2.2,C.2.2)
def eA(j:List Int):Option (List Int):=
 (app 1 [] j).bind λx1=>some j
def nK(j:M.aKo):Option M.aKo:=
 (eA j.aLZ).bind λx1=>some ⟨j.aLX,j.aLV,j.aKb,x1,j.aLc⟩
def iS(J:M.aKv)(U:Int->List M.aK2->Option M.aN):Nat->Int->List M.aK2->Option M.aN
 |0,_,_=>none
 |ak+1,C,I=>if decide (C<(List.length J.aKs:Int))then(idx J.aKs C).bind λj=>(nK j.aKo).bind λaj=>(app 88 I ([(⟨j.aKl,j.aLQ,aj⟩:M.aK2)])).bind λal=>iS J U ak (i64.wrap (C+1)) (I++[(⟨j.aKl,j.aLQ,aj⟩:M.aK2)])else U C I
def fO(J:M.aN):Nat->Int->List M.aKv->Option M.aN
 |0,_,_=>none
 |aj+1,C,j=>if decide (C<(List.length J.aKi:Int))then(idx J.aKi C).bind λI=>iS I (λ(ai:Int) (U:List M.aK2)=>(app 32 j ([(⟨I.aKb,U⟩:M.aKv)])).bind λak=>fO J aj (i64.wrap (C+1)) (j++[(⟨I.aKb,U⟩:M.aKv)])) aJ 0 ([]:List M.aK2)else some (⟨j⟩:M.aN)
def yB(j:M.aN):Option M.aN:=
 fO j aJ 0 []
def bW(j:M.aF):Option M.aF:=
 (app 24 [] j.aKj).bind λx1=>some j
def A5(j:M.aKy):Option M.aKy:=
 (bW j.aF).bind λx1=>some ⟨j.Key,x1⟩
def nF(j:M.aD):Nat->Int->List M.aKy->Option M.aD
 |0,_,_=>none
 |U+1,I,C=>if decide (I<(List.length j.aKg:Int))then(idx j.aKg I).bind λai=>(A5 ai).bind λJ=>(app 56 C ([J])).bind λaj=>nF j U (i64.wrap (I+1)) (C++[J])else some (⟨j.Name,C,j.aK7⟩:M.aD)
def bH(j:M.aD):Option M.aD:=
 nF j aJ 0 []
def iV(j:M.aKc):Nat->Int->List M.aD->Option M.aKc
 |0,_,_=>none
 |U+1,I,C=>if decide (I<(List.length j.aKm:Int))then(idx j.aKm I).bind λai=>(bH ai).bind λJ=>(app 48 C ([J])).bind λaj=>iV j U (i64.wrap (I+1)) (C++[J])else some (⟨j.Name,j.aKb,C,j.aKz⟩:M.aKc)
def eC(j:M.aKc):Option M.aKc:=
 (app 32 [] j.aKz).bind λx1=>iV j aJ 0 []
def AM(j:M.bJ):Option M.bJ:=
 (eC j.aK1).bind λx1=>(eA j.Log).bind λx3=>some ⟨x1,x3,j.aLF⟩
def oI(j:M.aO):Option M.aO:=
 (app 72 [] j.aKw).bind λx1=>some j
def Cq(j:M.aK3):Option M.aK3:=
 (oI j.aO).bind λx1=>some ⟨x1,j.aLI,j.aK8⟩
def uF(j:M.aH):Option M.aH:=
 (bH j.aK1).bind λx1=>(Cq j.aK3).bind λx3=>some ⟨x1,j.aLT,x3⟩
def eR(j:M.aKe):Option M.aKe:=
 (yB j.aKi).bind λx1=>(AM j.bJ).bind λx3=>(uF j.aH).bind λx5=>some ⟨j.aKl,j.Top,j.aKd,x1,x3,x5,j.aLC,j.aK9⟩
def kE(I:M.aC):Nat->Int->List M.aKe->Option M.aC
 |0,_,_=>none
 |U+1,j,C=>if decide (j<(List.length I.aKf:Int))then(idx I.aKf j).bind λah=>(eR ah).bind λJ=>(app 328 C ([J])).bind λai=>kE I U (i64.wrap (j+1)) (C++[J])else some (⟨C⟩:M.aC)
def dB(j:M.aC):Option M.aC:=
 kE j aJ 0 []
def pI(j:M.aKh):Option M.aKh:=
 (app 40 [] j.aLA).bind λx1=>(app 8 [] j.aLN).bind λC=>some j
def kY(j:M.bK):Option M.bK:=
 (app 24 [] j.aT).bind λx1=>(pI j.aKh).bind λx9=>some ⟨j.Id,j.aKl,j.Top,j.aKb,j.aT,x9⟩
def nM(j:List M.bK):Nat->Int->List M.bK->Option (List M.bK)
 |0,_,_=>none
 |U+1,I,C=>if decide (I<(List.length j:Int))then(idx j I).bind λaf=>(kY af).bind λJ=>(app 144 C ([J])).bind λah=>nM j U (i64.wrap (I+1)) (C++[J])else some C
def Bv(j:List M.bK):Option (List M.bK):=
 nM j aJ 0 []
def Bx(j:M.aW):Option M.aW:=
 (app 32 [] j.aKu).bind λx1=>some j
def Ai(j:M.aKp):Option M.aKp:=
 (app 24 [] j.aLJ).bind λx1=>some j
def Co(j:M.aKl):Option M.aKl:=
 (app 16 [] j.aLG).bind λx1=>some j
def AX(j:M.aKt):Option M.aKt:=
 (bH j.aD).bind λx1=>(app 16 [] j.aQ).bind λx3=>(app 72 [] j.aK6).bind λx5=>some ⟨x1,j.aQ,j.aK6⟩
def gZ(j:M.aE)(x1:M.aC)(x3:(List M.bK))(x5:M.aW)(x7:M.aKp)(J:List M.aKl):Nat->Int->List M.aKt->Option M.aE
 |0,_,_=>none
 |ai+1,I,C=>if decide (I<(List.length j.aKr:Int))then(idx j.aKr I).bind λaj=>(AX aj).bind λU=>(app 96 C ([U])).bind λak=>gZ j x1 x3 x5 x7 J ai (i64.wrap (I+1)) (C++[U])else some (⟨j.Now,j.aK4,j.aKk,x1,x3,j.aKn,x5,x7,J,C⟩:M.aE)
def kS(j:M.aE)(x1:M.aC)(x3:(List M.bK))(x5:M.aW)(x7:M.aKp):Nat->Int->List M.aKl->Option M.aE
 |0,_,_=>none
 |U+1,I,C=>if decide (I<(List.length j.aK0:Int))then(idx j.aK0 I).bind λai=>(Co ai).bind λJ=>(app 56 C ([J])).bind λaj=>kS j x1 x3 x5 x7 U (i64.wrap (I+1)) (C++[J])else gZ j x1 x3 x5 x7 C aJ 0 ([]:List M.aKt)
def uV(j:M.aE):Option M.aE:=
 (dB j.aC).bind λx1=>(Bv j.aKq).bind λx3=>(Bx j.aKu).bind λx5=>(Ai j.aKp).bind λx7=>kS j x1 x3 x5 x7 aJ 0 []
def xV(j:M.aKe)(C:ByteArray)(c1:ByteArray):Option Bool:=
 if j.aKl.toList==C.toList then some (j.Top.toList==c1.toList)else some false
def dU(C:List M.aKe)(I:M.aKe->Option Bool):Nat->Int->Option Int
 |0,_=>none
 |J+1,j=>if decide (j<(List.length C:Int))then(idx C j).bind λx7=>(I x7).bind λU=>if U then some j else dU C I J (i64.wrap (j+1))else some (-1)
def mG(j:List M.aKe)(C:M.aKe->Option Bool):Option Int:=
 dU j C aJ 0
def nU(j:M.aC)(C:ByteArray)(I:ByteArray):Option Int:=
 (mG j.aKf (λJ=>xV J C I)).bind λx1=>some x1
def mJ(j:M.aE)(C:ByteArray)(I:ByteArray):Option (M.aKe×Bool):=
 (nU j.aC C I).bind λx1=>if decide (x1<0)then some (⟨⟨#[]⟩,⟨#[]⟩,⟨⟨#[]⟩,0,0,0⟩,⟨[]⟩,⟨⟨⟨#[]⟩,0,[],[]⟩,[],0⟩,⟨⟨⟨#[]⟩,[],0⟩,0,⟨⟨0,0,[]⟩,0,0⟩⟩,0,false⟩,false)else(idx j.aC.aKf x1).bind λx4=>some (x4,true)
def kW(U:List Int)(I:Int):Nat->Int->Int->Option (Int×Int×Bool)
 |0,_,_=>none
 |ae+1,J,j=>if decide (j<6)then if decide ((i64.wrap (I+j))<(List.length U:Int))then(idx U (i64.wrap (I+j))).bind λC=>if decide (0<=(i64.wrap (7*j)))then if decide ((i64.wrap C)<128)then if decide (j>0)then if(i64.wrap C)==0 then some (0,0,false)else if decide ((i64.wrap (J+(i64.wrap ((Int.tmod (i64.wrap C) 128)*2^(min (i64.wrap (7*j)).toNat i64.bits)))))>1000000000000)then some (0,0,false)else some (i64.wrap (J+(i64.wrap ((Int.tmod (i64.wrap C) 128)*2^(min (i64.wrap (7*j)).toNat i64.bits)))),i64.wrap ((i64.wrap (I+j))+1),true)else if decide ((i64.wrap (J+(i64.wrap ((Int.tmod (i64.wrap C) 128)*2^(min (i64.wrap (7*j)).toNat i64.bits)))))>1000000000000)then some (0,0,false)else some (i64.wrap (J+(i64.wrap ((Int.tmod (i64.wrap C) 128)*2^(min (i64.wrap (7*j)).toNat i64.bits)))),i64.wrap ((i64.wrap (I+j))+1),true)else kW U I ae (i64.wrap (J+(i64.wrap ((Int.tmod (i64.wrap C) 128)*2^(min (i64.wrap (7*j)).toNat i64.bits))))) (i64.wrap (j+1))else none else some (0,0,false)else some (0,0,false)
def gO(C:List Int)(j:Int):Option (Int×Int×Bool):=
 if decide (j<0)then some (0,0,false)else if decide (j>=(C.length))then some (0,0,false)else kW C j aJ 0 0
def eQ(j:List Int)(C:Int)(I:Int):Option ((List Int)×Int×Bool):=
 (gO j C).bind λx1=>if !x1.2.2 then some ([],0,false)else if decide (x1.1>I)then some ([],0,false)else if decide (x1.1>(i64.wrap (j.length-x1.2.1)))then some ([],0,false)else(SY j x1.2.1 (i64.wrap (x1.2.1+x1.1))).bind λx6=>(eA (List.drop x1.2.1.toNat (j.take (i64.wrap (x1.2.1+x1.1)).toNat))).bind λx8=>some (x8,i64.wrap (x1.2.1+x1.1),true)
def kP(C:List Int):Nat->Int->List Int->Option (List Int)
 |0,_,_=>none
 |U+1,j,I=>if decide (j<(List.length C:Int))then(idx C j).bind λJ=>(app 8 I ([i64.wrap J])).bind λaf=>kP C U (i64.wrap (j+1)) (I++[i64.wrap J])else some I
def uG(j:List Int):Option (List Int):=
 kP j aJ 0 ([j.length])
def bA(j:Int)(C:Int)(I:Int):Option Bool:=
 if decide (C<=j)then some (decide (j<=I))else some false
def Hz(C:Int)(j:Int):Option Int:=
 (bA j 1 1000000000000).bind λx1=>if !x1 then some 0 else if decide (j=0)then none else if decide ((Int.tmod C j)<0)then some (i64.wrap ((Int.tmod C j)+j))else some (Int.tmod C j)
def Av(j:List Int):Nat->Int->Int->Option Int
 |0,_,_=>none
 |J+1,I,C=>if decide (C<(List.length j:Int))then(idx j C).bind λx7=>(Hz x7 2147483647).bind λU=>Av j J (Int.tmod (i64.wrap ((i64.wrap ((i64.wrap (I*1000003))+U))+13)) 2147483647) (i64.wrap (C+1))else some I
def EB(j:List Int):Option Int:=
 Av j aJ 11 0
def A7(j:Int)(C:List Int):Option Int:=
 (uG C).bind λx1=>(app 8 ([101,j]) x1).bind λx3=>(EB ([101,j]++x1)).bind λx5=>some x5
def xF(U:List Int):Nat->Int->List (List Int)->Option ((List (List Int))×Int)
 |0,_,_=>none
 |ah+1,I,j=>(eQ U I 4000).bind λC=>if !C.2.2 then some (j,I)else(gO U C.2.1).bind λJ=>if !J.2.2 then some (j,I)else(A7 (List.length j:Int) C.1).bind λai=>if J.1 !=ai then some (j,I)else(app 24 j ([C.1])).bind λaj=>xF U ah J.2.1 (j++[C.1])
def EM(j:List Int):Option ((List (List Int))×Int):=
 xF j aJ 0 []
def gX(j:ByteArray):Nat->Int->Option Bool
 |0,_=>none
 |I+1,C=>if decide (C<(j.size:Int))then(aBH j C).bind λx5=>if decide ((x5.toNat:Int)>=97)then if decide ((x5.toNat:Int)<=122)then gX j I (i64.wrap (C+1))else if decide ((x5.toNat:Int)>=48)then if !(decide ((x5.toNat:Int)<=57))then some false else gX j I (i64.wrap (C+1))else some false else if decide ((x5.toNat:Int)>=48)then if !(decide ((x5.toNat:Int)<=57))then some false else gX j I (i64.wrap (C+1))else some false else some (decide ((j.size:Int)<=12))
def Bw(j:ByteArray):Option Bool:=
 gX j aJ 0
def kG(j:M.bD):Option Bool:=
 (bA j.aKx 1 3).bind λx1=>if !x1 then some false else(bA j.N (-1000000000000) 1000000000000).bind λx4=>if !x4 then some false else(Bw j.aK5).bind λx7=>if !x7 then some false else if j.aKx==2 then if !(j.N !=0)then if j.aKx==1 then some (!(!(j.aK5.toList==(⟨#[]⟩:ByteArray).toList)))else some true else some false else if j.aKx==1 then some (!(!(j.aK5.toList==(⟨#[]⟩:ByteArray).toList)))else some true
def cQ(j:M.bD):Nat->Int->List Int->Option (List Int)
 |0,_,_=>none
 |J+1,C,I=>if decide (C>=0)then if decide (0<=(i64.wrap (8*C)))then(app 1 I ([u8.wrap (Int.fdiv (i64.wrap (j.N+1000000000000)) (2^(min (i64.wrap (8*C)).toNat i64.bits)))])).bind λU=>cQ j J (i64.wrap (C-1)) (I++[u8.wrap (Int.fdiv (i64.wrap (j.N+1000000000000)) (2^(min (i64.wrap (8*C)).toNat i64.bits)))])else none else(app 1 I (bF j.aK5)).bind λah=>some (I++bF j.aK5)
def lB(j:M.bD):Option (List Int):=
 (kG j).bind λx1=>if !x1 then some []else if j.aKx !=2 then cQ j aJ 5 ([u8.wrap j.aKx])else(app 1 ([u8.wrap j.aKx]) (bF j.aK5)).bind λC=>some ([u8.wrap j.aKx]++bF j.aK5)
def mD(C:List Int)(I:List Int):Nat->Int->Option Bool
 |0,_=>none
 |J+1,j=>if decide (j<(List.length C:Int))then(idx C j).bind λx8=>(idx I j).bind λU=>if x8 !=U then some false else mD C I J (i64.wrap (j+1))else some true
def yE(j:List Int)(C:List Int):Option Bool:=
 if j.length !=(C.length:Int)then some false else mD j C aJ 0
def iH(j:List Int)(C:List Int):Option Bool:=
 (yE j C).bind λx1=>some x1
def nG(j:List Int)(x2:Int):Nat->Int->Int->Option (M.bD×Bool)
 |0,_,_=>none
 |I+1,C,v30=>if(decide (v30<(List.length (List.take (6:Int).toNat (List.drop (1:Int).toNat j)):Int)))=true then(idx (List.take (6:Int).toNat (List.drop (1:Int).toNat j)) v30).bind λJ=>nG j x2 I (i64.wrap ((i64.wrap (C*2^(min (8:Int).toNat i64.bits)))+(i64.wrap J))) (i64.wrap (v30+1))else(BM (List.drop (1:Int).toNat j) 6).bind λai=>(toStr (List.drop (6:Int).toNat (List.drop (1:Int).toNat j))).bind λaj=>(lB (⟨i64.wrap x2,i64.wrap (C-1000000000000),bL (List.drop (6:Int).toNat (List.drop (1:Int).toNat j))⟩:M.bD)).bind λU=>(iH U j).bind λah=>if !ah then some ((⟨0,0,(⟨#[]⟩:ByteArray)⟩:M.bD),false)else some ((⟨i64.wrap x2,i64.wrap (C-1000000000000),bL (List.drop (6:Int).toNat (List.drop (1:Int).toNat j))⟩:M.bD),true)
def zQ(j:List Int):Option (M.bD×Bool):=
 if(j.length:Int)==0 then some (⟨0,0,⟨#[]⟩⟩,false)else(idx j 0).bind λx2=>(BM j 1).bind λx7=>if(i64.wrap x2) !=2 then if(decide ((List.length (j.drop (1:Int).toNat):Int)<6))=true then some (⟨0,0,⟨#[]⟩⟩,false)else(B6 (j.drop (1:Int).toNat) 6).bind λJ=>nG j x2 aJ 0 0 else(toStr (j.drop (1:Int).toNat)).bind λU=>(lB ⟨i64.wrap x2,0,bL (j.drop (1:Int).toNat)⟩).bind λC=>(iH C j).bind λI=>if !I then some (⟨0,0,⟨#[]⟩⟩,false)else some (⟨i64.wrap x2,0,bL (j.drop (1:Int).toNat)⟩,true)
def mY(j:ByteArray)(J:Int)(C:Bool):Nat->Int->Option Bool
 |0,_=>none
 |U+1,I=>if decide (I<(j.size:Int))then(aBH j I).bind λx7=>if decide ((x7.toNat:Int)>=97)then if decide ((x7.toNat:Int)<=122)then mY j J C U (i64.wrap (I+1))else if C then if !((x7.toNat:Int)==47)then some false else mY j J C U (i64.wrap (I+1))else some false else if C then if !((x7.toNat:Int)==47)then some false else mY j J C U (i64.wrap (I+1))else some false else(bA (j.size:Int) 1 J).bind λae=>some ae
def Ct(j:ByteArray)(C:Int)(I:Bool):Option Bool:=
 mY j C I aJ 0
def cG(j:ByteArray):Option Bool:=
 (Ct j 8 false).bind λx1=>some x1
def mC(j:M.aF):Nat->Int->Option Bool
 |0,_=>none
 |I+1,C=>if decide (C<(List.length j.aKj:Int))then(idx j.aKj C).bind λx8=>(cG x8.Name).bind λU=>if !U then some false else(bA x8.N 0 1000000000).bind λah=>if !ah then some false else if decide (C>0)then(idx j.aKj (i64.wrap (C-1))).bind λJ=>if Op.bytesLess x8.Name.toList J.Name.toList||x8.Name.toList==J.Name.toList then some false else mC j I (i64.wrap (C+1))else mC j I (i64.wrap (C+1))else some (decide ((List.length j.aKj:Int)<=6))
def dA(j:M.aF):Option Bool:=
 mC j aJ 0
def dH  :Nat->Int->List Int->Option (List Int)
 |0,_,_=>none
 |I+1,j,C=>if decide (j>=128)then(app 1 C ([u8.wrap (i64.wrap ((Int.tmod j 128)+128))])).bind λJ=>dH I (i64.wrap (Int.tdiv j 128)) (C++[u8.wrap (i64.wrap ((Int.tmod j 128)+128))])else(app 1 C ([u8.wrap j])).bind λU=>some (C++[u8.wrap j])
def cW(C:List Int)(j:Int):Option (List Int):=
 (eA C).bind λx1=>(bA j 0 1000000000000).bind λx3=>if !x3 then some x1 else dH aJ j x1
def kA(C:List Int)(j:List Int):Option (List Int):=
 (cW C (j.length)).bind λx1=>(app 1 x1 j).bind λx3=>some (x1++j)
def dN(C:M.aF):Nat->Int->List Int->Option (List Int)
 |0,_,_=>none
 |U+1,j,I=>if decide (j<(List.length C.aKj:Int))then(idx C.aKj j).bind λJ=>(kA I (bF J.Name)).bind λai=>(cW ai J.N).bind λaj=>dN C U (i64.wrap (j+1)) aj else some I
def gY(j:M.aF):Option (List Int):=
 (dA j).bind λx1=>if !x1 then some []else(cW [] (j.aKj.length)).bind λx4=>dN j aJ 0 x4
def iW(J:List Int)(x1:(Int×Int×Bool)):Nat->Int->Int->List M.aR->Option (M.aF×Bool)
 |0,_,_,_=>none
 |ah+1,v5,U,C=>if decide (U<x1.1)then(eQ J v5 8).bind λj=>(gO J j.2.1).bind λI=>if !j.2.2 then some ((⟨([]:List M.aR)⟩:M.aF),false)else if !I.2.2 then some ((⟨([]:List M.aR)⟩:M.aF),false)else(toStr j.1).bind λak=>(app 24 C ([(⟨bL j.1,I.1⟩:M.aR)])).bind λal=>iW J x1 ah I.2.1 (i64.wrap (U+1)) (C++[(⟨bL j.1,I.1⟩:M.aR)])else(gY (⟨C⟩:M.aF)).bind λai=>(iH ai J).bind λaj=>if !aj then some ((⟨([]:List M.aR)⟩:M.aF),false)else some ((⟨C⟩:M.aF),true)
def sB(j:List Int):Option (M.aF×Bool):=
 (gO j 0).bind λx1=>if !x1.2.2 then some (⟨[]⟩,false)else if decide (x1.1>6)then some (⟨[]⟩,false)else iW j x1 aJ x1.2.1 0 []
def Ek(j:M.fA):Option Bool:=
 (bA j.aKx 1 6).bind λx1=>if !x1 then some false else(cG j.aD).bind λx4=>if !x4 then some false else if j.aKx !=5 then(kG j.Key).bind λx8=>if !x8 then some false else(dA j.aF).bind λC=>if !C then some false else if j.aKx==6 then(cG j.Field).bind λI=>some I else some (j.Field.toList==(⟨#[]⟩:ByteArray).toList)else(dA j.aF).bind λJ=>if !J then some false else if j.aKx==6 then(cG j.Field).bind λU=>some U else some (j.Field.toList==(⟨#[]⟩:ByteArray).toList)
def zJ(j:List M.fA):Nat->Int->Option Bool
 |0,_=>none
 |I+1,C=>if decide (C<(List.length j:Int))then(idx j C).bind λx7=>(Ek x7).bind λJ=>if !J then some false else zJ j I (i64.wrap (C+1))else some (decide ((List.length j:Int)<=6))
def DH(j:List M.fA):Option Bool:=
 zJ j aJ 0
def kU(C:M.fA)(J:(List Int))(U:(List Int))(aj:Int->List Int->Option (List Int)):Nat->Int->List Int->Option (List Int)
 |0,_,_=>none
 |ak+1,j,I=>if decide (j<((4:Nat):Int))then(idx ([bF C.aD,J,U,bF C.Field]) j).bind λal=>(kA I al).bind λao=>kU C J U aj ak (i64.wrap (j+1)) ao else aj j I
def fF(I:List M.fA):Nat->Int->List Int->Option (List Int)
 |0,_,_=>none
 |aj+1,C,J=>if decide (C<(List.length I:Int))then(idx I C).bind λj=>(cW J j.aKx).bind λak=>(lB j.Key).bind λal=>(gY j.aF).bind λao=>kU j al ao (λ(ai:Int) (U:List Int)=>fF I aj (i64.wrap (C+1)) U) aJ 0 ak else some J
def zS(j:List M.fA):Option (List Int):=
 (DH j).bind λx1=>if !x1 then some []else(cW [] (j.length)).bind λx4=>fF j aJ 0 x4
def hH(j:List Int)(x1:(Int×Int×Bool)):Nat->Int->Int->List M.fA->Option ((List M.fA)×Bool)
 |0,_,_,_=>none
 |ar+1,v5,v8,J=>if decide (v8<x1.1)then(gO j v5).bind λU=>if U.2.2 then(eQ j U.2.1 (List.length j:Int)).bind λC=>if C.2.2 then(eQ j C.2.1 (List.length j:Int)).bind λak=>if ak.2.2 then(eQ j ak.2.1 (List.length j:Int)).bind λal=>if al.2.2 then(eQ j al.2.1 (List.length j:Int)).bind λI=>if !I.2.2 then some (([]:List M.fA),false)else(toStr C.1).bind λav=>(zQ ak.1).bind λaf=>(sB al.1).bind λah=>(toStr I.1).bind λaw=>(app 96 J ([(⟨U.1,bL C.1,af.1,ah.1,bL I.1⟩:M.fA)])).bind λax=>hH j x1 ar I.2.1 (i64.wrap (v8+1)) (J++[(⟨U.1,bL C.1,af.1,ah.1,bL I.1⟩:M.fA)])else some (([]:List M.fA),false)else some (([]:List M.fA),false)else some (([]:List M.fA),false)else some (([]:List M.fA),false)else(zS J).bind λao=>(iH ao j).bind λaq=>if !aq then some (([]:List M.fA),false)else some (J,true)
def zH(j:List Int):Option ((List M.fA)×Bool):=
 (gO j 0).bind λx1=>if !x1.2.2 then some ([],false)else if decide (x1.1>6)then some ([],false)else hH j x1 aJ x1.2.1 0 []
def zY(j:Int)(C:Int):Option Int:=
 if decide (j<C)then some (-1)else if decide (j>C)then some 1 else some 0
def rK(j:ByteArray)(C:ByteArray):Option Int:=some (Lib.compareBytes j.data.toList C.data.toList)
def Cw(j:ByteArray)(C:ByteArray):Option Int:=
 (rK j C).bind λx1=>some x1
def eT(j:M.bD)(C:M.bD):Option Int:=
 (kG j).bind λx1=>if !x1 then some 0 else(kG C).bind λx4=>if !x4 then some 0 else(zY j.aKx C.aKx).bind λx7=>if x7 !=0 then some x7 else(zY j.N C.N).bind λI=>if I !=0 then some I else(Cw j.aK5 C.aK5).bind λJ=>some J
def lO(j:M.aD):Nat->Int->Option Bool
 |0,_=>none
 |I+1,C=>if decide (C<(List.length j.aKg:Int))then(idx j.aKg C).bind λx8=>(kG x8.Key).bind λJ=>if !J then some false else(dA x8.aF).bind λU=>if !U then some false else if decide (C>0)then(idx j.aKg (i64.wrap (C-1))).bind λah=>(eT ah.Key x8.Key).bind λai=>if decide (ai>=0)then some false else lO j I (i64.wrap (C+1))else lO j I (i64.wrap (C+1))else(cG j.Name).bind λaj=>if aj then if decide ((List.length j.aKg:Int)<=16)then(bA j.aK7 0 1000000).bind λak=>some ak else some false else some false
def cC(j:M.aD):Option Bool:=
 lO j aJ 0
def Aa(C:M.aD)(j:ByteArray):Option Bool:=
 some (C.Name.toList==j.toList)
def eD(C:List M.aD)(I:M.aD->Option Bool):Nat->Int->Option Int
 |0,_=>none
 |J+1,j=>if decide (j<(List.length C:Int))then(idx C j).bind λx7=>(I x7).bind λU=>if U then some j else eD C I J (i64.wrap (j+1))else some (-1)
def oA(j:List M.aD)(C:M.aD->Option Bool):Option Int:=
 eD j C aJ 0
def rC(j:M.aKc)(C:ByteArray):Option Int:=
 (oA j.aKm (λI=>Aa I C)).bind λx1=>some x1
def eO(C:List M.aV)(I:M.aV):Nat->Int->Option Int
 |0,_=>none
 |J+1,j=>if decide (j<(List.length C:Int))then(idx C j).bind λx8=>if(I.aD.toList==x8.aD.toList)&&(I.Field.toList==x8.Field.toList)then some j else eO C I J (i64.wrap (j+1))else some (-1)
def pB(j:List M.aV)(C:M.aV):Option Int:=
 eO j C aJ 0
def lR(j:List M.aV)(C:M.aV):Option Bool:=
 (pB j C).bind λx1=>some (decide (x1>=0))
def yO(C:M.aR)(j:ByteArray):Option Bool:=
 some (C.Name.toList==j.toList)
def eB(C:List M.aR)(I:M.aR->Option Bool):Nat->Int->Option Int
 |0,_=>none
 |J+1,j=>if decide (j<(List.length C:Int))then(idx C j).bind λx7=>(I x7).bind λU=>if U then some j else eB C I J (i64.wrap (j+1))else some (-1)
def oG(j:List M.aR)(C:M.aR->Option Bool):Option Int:=
 eB j C aJ 0
def B1(j:M.aF)(C:ByteArray):Option Int:=
 (oG j.aKj (λI=>yO I C)).bind λx1=>some x1
def iA(j:M.aF)(C:ByteArray):Option (Int×Bool):=
 (B1 j C).bind λx1=>if decide (x1<0)then some (0,false)else(idx j.aKj x1).bind λx4=>some (x4.N,true)
def Ab(j:M.aKy)(C:M.aKy)(I:ByteArray):Option Bool:=
 (iA j.aF I).bind λx1=>(iA C.aF I).bind λx3=>if decide (x1.1<x3.1)then some true else if x1.1==x3.1 then(eT j.Key C.Key).bind λx7=>some (decide (x7<0))else some false
def sI(U:ByteArray)(I:List M.aKy)(J:M.aKy)(C:Int->Option (List M.aKy)):Nat->Int->Option (List M.aKy)
 |0,_=>none
 |ai+1,j=>if decide (j>0)then(idx I (i64.wrap (j-1))).bind λaj=>(Ab J aj U).bind λak=>if ak then sI U I J C ai (i64.wrap (j-1))else C j else C j
def nT(I:M.aD)(J:ByteArray):Nat->Int->List M.aKy->Option (List M.aKy)
 |0,_,_=>none
 |ai+1,C,j=>if decide (C<(List.length I.aKg:Int))then(idx I.aKg C).bind λah=>(iA ah.aF J).bind λak=>if !ak.2 then nT I J ai (i64.wrap (C+1)) j else sI J j ah (λ(U:Int)=>(A5 ah).bind λaj=>(LW 56 j U ([aj])).bind λal=>nT I J ai (i64.wrap (C+1)) (List.take U.toNat j++([aj]++List.drop U.toNat j))) aJ (List.length j:Int)else some j
def CZ(j:M.aD)(C:ByteArray):Option (List M.aKy):=
 nT j C aJ 0 []
def gR(C:ByteArray)(x1:(List M.aKy)):Nat->Int->Option (M.bD×M.bD×Bool)
 |0,_=>none
 |U+1,j=>if decide (j<(List.length x1:Int))then(idx x1 (i64.wrap (j-1))).bind λI=>(iA I.aF C).bind λah=>(idx x1 j).bind λJ=>(iA J.aF C).bind λai=>if ah.1==ai.1 then some (I.Key,J.Key,true)else gR C x1 U (i64.wrap (j+1))else some ((⟨0,0,(⟨#[]⟩:ByteArray)⟩:M.bD),(⟨0,0,(⟨#[]⟩:ByteArray)⟩:M.bD),false)
def mB(C:M.aD)(j:ByteArray):Option (M.bD×M.bD×Bool):=
 (CZ C j).bind λx1=>gR j x1 aJ 1
def iP(j:M.aKc):Nat->Int->Option Bool
 |0,_=>none
 |U+1,C=>if decide (C<(List.length j.aKz:Int))then(idx j.aKz C).bind λI=>(rC j I.aD).bind λJ=>if decide (J<0)then some false else(cG I.Field).bind λai=>if !ai then some false else(B6 j.aKz C).bind λao=>(lR (List.take C.toNat j.aKz) I).bind λaj=>if aj then some false else(idx j.aKm J).bind λak=>(mB ak I.Field).bind λal=>if al.2.2 then some false else iP j U (i64.wrap (C+1))else some true
def iO(C:M.aKc):Nat->Int->Option Bool
 |0,_=>none
 |J+1,j=>if decide (j<(List.length C.aKm:Int))then(idx C.aKm j).bind λI=>(cC I).bind λai=>if !ai then some false else if decide (j>0)then(idx C.aKm (i64.wrap (j-1))).bind λU=>if Op.bytesLess I.Name.toList U.Name.toList||I.Name.toList==U.Name.toList then some false else iO C J (i64.wrap (j+1))else iO C J (i64.wrap (j+1))else iP C aJ 0
def nS(j:M.aKc):Option Bool:=
 (cG j.Name).bind λx1=>if !x1 then some false else(bA j.aKb 0 1000).bind λx4=>if !x4 then some false else if decide ((j.aKm.length:Int)>4)then some false else if decide ((j.aKz.length:Int)>4)then some false else iO j aJ 0
def Ba(C:M.aKy)(j:M.bD):Option Bool:=
 some ((C.Key.aKx==j.aKx)&&((C.Key.N==j.N)&&(C.Key.aK5.toList==j.aK5.toList)))
def eP(C:List M.aKy)(I:M.aKy->Option Bool):Nat->Int->Option Int
 |0,_=>none
 |J+1,j=>if decide (j<(List.length C:Int))then(idx C j).bind λx7=>(I x7).bind λU=>if U then some j else eP C I J (i64.wrap (j+1))else some (-1)
def lL(j:List M.aKy)(C:M.aKy->Option Bool):Option Int:=
 eP j C aJ 0
def mH(j:M.aD)(C:M.bD):Option Int:=
 (lL j.aKg (λI=>Ba I C)).bind λx1=>some x1
def sA(p0:M.aD)(I:M.bD)(p2:M.aF)(C:M.aD):Nat->Int->Option (M.aD×Bool)
 |0,_=>none
 |av+1,j=>if decide (j<(List.length C.aKg:Int))then(idx C.aKg j).bind λaw=>(eT aw.Key I).bind λax=>if decide (ax<0)then sA p0 I p2 C av (i64.wrap (j+1))else(bW p2).bind λJ=>(LW 56 C.aKg j ([(⟨I,J⟩:M.aKy)])).bind λbl=>if I.aKx==1 then if decide (I.N>C.aK7)then if decide (I.N<=1000000)then(cC (⟨C.Name,List.take j.toNat C.aKg++([(⟨I,J⟩:M.aKy)]++List.drop j.toNat C.aKg),I.N⟩:M.aD)).bind λay=>if !ay then(bH p0).bind λaz=>some (az,false)else some ((⟨C.Name,List.take j.toNat C.aKg++([(⟨I,J⟩:M.aKy)]++List.drop j.toNat C.aKg),I.N⟩:M.aD),true)else(cC (⟨C.Name,List.take j.toNat C.aKg++([(⟨I,J⟩:M.aKy)]++List.drop j.toNat C.aKg),C.aK7⟩:M.aD)).bind λba=>if !ba then(bH p0).bind λbd=>some (bd,false)else some ((⟨C.Name,List.take j.toNat C.aKg++([(⟨I,J⟩:M.aKy)]++List.drop j.toNat C.aKg),C.aK7⟩:M.aD),true)else(cC (⟨C.Name,List.take j.toNat C.aKg++([(⟨I,J⟩:M.aKy)]++List.drop j.toNat C.aKg),C.aK7⟩:M.aD)).bind λbf=>if !bf then(bH p0).bind λbg=>some (bg,false)else some ((⟨C.Name,List.take j.toNat C.aKg++([(⟨I,J⟩:M.aKy)]++List.drop j.toNat C.aKg),C.aK7⟩:M.aD),true)else(cC (⟨C.Name,List.take j.toNat C.aKg++([(⟨I,J⟩:M.aKy)]++List.drop j.toNat C.aKg),C.aK7⟩:M.aD)).bind λbh=>if !bh then(bH p0).bind λbj=>some (bj,false)else some ((⟨C.Name,List.take j.toNat C.aKg++([(⟨I,J⟩:M.aKy)]++List.drop j.toNat C.aKg),C.aK7⟩:M.aD),true)else(bW p2).bind λU=>(LW 56 C.aKg j ([(⟨I,U⟩:M.aKy)])).bind λbm=>if I.aKx==1 then if decide (I.N>C.aK7)then if decide (I.N<=1000000)then(cC (⟨C.Name,List.take j.toNat C.aKg++([(⟨I,U⟩:M.aKy)]++List.drop j.toNat C.aKg),I.N⟩:M.aD)).bind λah=>if !ah then(bH p0).bind λai=>some (ai,false)else some ((⟨C.Name,List.take j.toNat C.aKg++([(⟨I,U⟩:M.aKy)]++List.drop j.toNat C.aKg),I.N⟩:M.aD),true)else(cC (⟨C.Name,List.take j.toNat C.aKg++([(⟨I,U⟩:M.aKy)]++List.drop j.toNat C.aKg),C.aK7⟩:M.aD)).bind λaj=>if !aj then(bH p0).bind λak=>some (ak,false)else some ((⟨C.Name,List.take j.toNat C.aKg++([(⟨I,U⟩:M.aKy)]++List.drop j.toNat C.aKg),C.aK7⟩:M.aD),true)else(cC (⟨C.Name,List.take j.toNat C.aKg++([(⟨I,U⟩:M.aKy)]++List.drop j.toNat C.aKg),C.aK7⟩:M.aD)).bind λal=>if !al then(bH p0).bind λao=>some (ao,false)else some ((⟨C.Name,List.take j.toNat C.aKg++([(⟨I,U⟩:M.aKy)]++List.drop j.toNat C.aKg),C.aK7⟩:M.aD),true)else(cC (⟨C.Name,List.take j.toNat C.aKg++([(⟨I,U⟩:M.aKy)]++List.drop j.toNat C.aKg),C.aK7⟩:M.aD)).bind λaq=>if !aq then(bH p0).bind λar=>some (ar,false)else some ((⟨C.Name,List.take j.toNat C.aKg++([(⟨I,U⟩:M.aKy)]++List.drop j.toNat C.aKg),C.aK7⟩:M.aD),true)
def lD(C:M.aD)(J:M.bD)(p2:M.aF):Option (M.aD×Bool):=
 (cC C).bind λx1=>if !x1 then(bH C).bind λx4=>some (x4,false)else(kG J).bind λx6=>if !x6 then(bH C).bind λx9=>some (x9,false)else(bH C).bind λj=>(mH C J).bind λI=>if decide (I>=0)then(bW p2).bind λU=>(idx j.aKg I).bind λah=>(cC ⟨j.Name,j.aKg.set I.toNat ⟨ah.Key,U⟩,j.aK7⟩).bind λai=>if !ai then(bH C).bind λaj=>some (aj,false)else some (⟨j.Name,j.aKg.set I.toNat ⟨ah.Key,U⟩,j.aK7⟩,true)else sA C J p2 j aJ 0
def C8(j:M.aD)(C:M.bD)(I:M.aF):Option (M.aD×Bool):=
 (mH j C).bind λx1=>if decide (x1>=0)then(bH j).bind λx4=>some (x4,false)else(lD j C I).bind λx6=>some (x6.1,x6.2)
def Bz(C:M.bD)(j:M.fY):Option Bool:=
 (kG C).bind λx1=>if !x1 then some false else if j.aLY then(kG j.Low).bind λx5=>if !x5 then some false else if j.aLS then(kG j.aLW).bind λx9=>if !x9 then some false else(eT C j.Low).bind λI=>if !(decide (I<0))then(eT C j.aLW).bind λJ=>some (!(decide (J>0)))else some false else(eT C j.Low).bind λU=>if !(decide (U<0))then some true else some false else if j.aLS then(kG j.aLW).bind λah=>if !ah then some false else(eT C j.aLW).bind λai=>some (!(decide (ai>0)))else some true
def lS(C:M.aKy)(j:M.fY):Option Bool:=
 (Bz C.Key j).bind λx1=>some x1
def eY(J:M.aD)(U:M.fY)(x1:M.aD):Nat->Int->Int->List M.aKy->Option (M.aD×Int)
 |0,_,_,_=>none
 |aa+1,C,I,j=>if decide (I<(List.length j:Int))then(idx j I).bind λae=>(lS ae U).bind λaf=>if !af then(idx j C).bind λah=>eY J U x1 aa (i64.wrap (C+1)) (i64.wrap (I+1)) (List.set j C.toNat ae)else eY J U x1 aa C (i64.wrap (I+1)) j else(BM j C).bind λai=>some ((⟨x1.Name,List.take C.toNat j,x1.aK7⟩:M.aD),i64.wrap ((List.length J.aKg:Int)-(List.length (List.take C.toNat j):Int)))
def tT(j:M.aD)(I:M.fY):Option (M.aD×Int):=
 (bH j).bind λx1=>(cC j).bind λx3=>if !x3 then some (x1,0)else(lL x1.aKg (λJ=>lS J I)).bind λC=>if C==(-1)then some (x1,i64.wrap (j.aKg.length-(x1.aKg.length)))else eY j I x1 aJ C (i64.wrap (C+1)) x1.aKg
def pE(I:M.aF)(C:ByteArray)(J:Int)(x1:M.aF):Nat->Int->Option (M.aF×Bool)
 |0,_=>none
 |U+1,j=>if decide (j<(List.length x1.aKj:Int))then(idx x1.aKj j).bind λae=>if Op.bytesLess ae.Name.toList C.toList then pE I C J x1 U (i64.wrap (j+1))else(LW 24 x1.aKj j ([(⟨C,J⟩:M.aR)])).bind λar=>(dA I).bind λaf=>if !af then(bW I).bind λah=>some (ah,false)else(dA (⟨List.take j.toNat x1.aKj++([(⟨C,J⟩:M.aR)]++List.drop j.toNat x1.aKj)⟩:M.aF)).bind λai=>if !ai then(bW I).bind λaj=>some (aj,false)else some ((⟨List.take j.toNat x1.aKj++([(⟨C,J⟩:M.aR)]++List.drop j.toNat x1.aKj)⟩:M.aF),true)else(LW 24 x1.aKj j ([(⟨C,J⟩:M.aR)])).bind λav=>(dA I).bind λak=>if !ak then(bW I).bind λal=>some (al,false)else(dA (⟨List.take j.toNat x1.aKj++([(⟨C,J⟩:M.aR)]++List.drop j.toNat x1.aKj)⟩:M.aF)).bind λao=>if !ao then(bW I).bind λaq=>some (aq,false)else some ((⟨List.take j.toNat x1.aKj++([(⟨C,J⟩:M.aR)]++List.drop j.toNat x1.aKj)⟩:M.aF),true)
def oT(j:M.aF)(I:ByteArray)(C:Int):Option (M.aF×Bool):=
 (bW j).bind λx1=>(B1 j I).bind λx3=>if decide (x3>=0)then(idx x1.aKj x3).bind λx6=>(dA j).bind λJ=>if !J then(bW j).bind λU=>some (U,false)else(dA ⟨x1.aKj.set x3.toNat ⟨x6.Name,C⟩⟩).bind λaf=>if !af then(bW j).bind λah=>some (ah,false)else some (⟨x1.aKj.set x3.toNat ⟨x6.Name,C⟩⟩,true)else pE j I C x1 aJ 0
def Gd(C:M.aD)(j:M.fA):Option (M.aD×Int×Bool):=
 (mH C j.Key).bind λx1=>if j.aKx==1 then(lD C j.Key j.aF).bind λx4=>some (x4.1,1,x4.2)else if j.aKx==2 then(C8 C j.Key j.aF).bind λx7=>some (x7.1,1,x7.2)else if j.aKx==3 then(tT C ⟨true,true,j.Key,j.Key⟩).bind λI=>some (I.1,I.2,true)else if j.aKx==5 then(tT C ⟨false,false,⟨0,0,⟨#[]⟩⟩,⟨0,0,⟨#[]⟩⟩⟩).bind λJ=>some (J.1,J.2,true)else if j.aKx==4 then if decide (x1<0)then some (C,-1,true)else(idx C.aKg x1).bind λaq=>some (C,aq.aF.aKj.length,true)else if decide (x1>=0)then(idx C.aKg x1).bind λU=>(iA U.aF j.Field).bind λah=>(oT U.aF j.Field (i64.wrap (ah.1+1))).bind λai=>if !ai.2 then some (C,0,false)else(lD C j.Key ai.1).bind λaj=>some (aj.1,i64.wrap (ah.1+1),aj.2)else(iA ⟨[]⟩ j.Field).bind λak=>(oT ⟨[]⟩ j.Field (i64.wrap (ak.1+1))).bind λal=>if !al.2 then some (C,0,false)else(lD C j.Key al.1).bind λao=>some (ao.1,i64.wrap (ak.1+1),ao.2)
def Dv(j:M.aKc)(I:M.fA):Option (M.aKc×Int×Bool):=
 (eC j).bind λx1=>(rC j I.aD).bind λx3=>(nS j).bind λx5=>if !x5 then some (x1,0,false)else(Ek I).bind λx8=>if !x8 then some (x1,0,false)else if decide (x3<0)then some (x1,0,false)else(idx x1.aKm x3).bind λJ=>(Gd J I).bind λC=>if !C.2.2 then(eC j).bind λU=>some (U,0,false)else(nS ⟨x1.Name,x1.aKb,x1.aKm.set x3.toNat C.1,x1.aKz⟩).bind λah=>if !ah then(eC j).bind λai=>some (ai,0,false)else some (⟨x1.Name,x1.aKb,x1.aKm.set x3.toNat C.1,x1.aKz⟩,C.2.1,true)
def uN(p0:M.aKc)(J:List M.fA):Nat->Int->ByteArray->Int->List Int->List M.aD->List M.aV->Option (M.aKc×(List Int)×Bool)
 |0,_,_,_,_,_,_=>none
 |al+1,C,U,af,I,ah,ai=>if decide (C<(List.length J:Int))then(idx J C).bind λao=>(Dv (⟨U,af,ah,ai⟩:M.aKc) ao).bind λj=>if !j.2.2 then(eC p0).bind λaq=>some (aq,([]:List Int),false)else(app 8 I ([j.2.1])).bind λar=>uN p0 J al (i64.wrap (C+1)) j.1.Name j.1.aKb (I++[j.2.1]) j.1.aKm j.1.aKz else some ((⟨U,af,ah,ai⟩:M.aKc),I,true)
def Bg(j:M.aKc)(C:List M.fA):Option (M.aKc×(List Int)×Bool):=
 (eC j).bind λx1=>(nS j).bind λI=>if !I then some (x1,[],false)else if decide ((C.length:Int)>6)then some (x1,[],false)else uN j C aJ 0 x1.Name x1.aKb [] x1.aKm x1.aKz
def pD(x3:((List (List Int))×Int)):Nat->Int->ByteArray->Int->List M.aD->List M.aV->Option (M.aKc×Int)
 |0,_,_,_,_,_=>none
 |al+1,j,I,J,U,ah=>if decide (j<(List.length x3.1:Int))then(idx x3.1 j).bind λao=>(zH ao).bind λak=>if !ak.2 then some ((⟨I,J,U,ah⟩:M.aKc),j)else(Bg (⟨I,J,U,ah⟩:M.aKc) ak.1).bind λC=>pD x3 al (i64.wrap (j+1)) C.1.Name C.1.aKb C.1.aKm C.1.aKz else some ((⟨I,J,U,ah⟩:M.aKc),(List.length x3.1:Int))
def xU(j:M.bJ):Option (M.aKc×Int):=
 (eC j.aK1).bind λx1=>(EM j.Log).bind λx3=>pD x3 aJ 0 x1.Name x1.aKb x1.aKm x1.aKz
def rE(j:Int):Option M.bD:=
 some ⟨1,j,⟨#[]⟩⟩
def CC(C:M.aKc)(J:Int):Option (M.aF×Bool×Bool):=
 (rC C ⟨#[110,111,116,101,115]⟩).bind λx1=>if decide (x1<0)then some (⟨[]⟩,false,false)else(idx C.aKm x1).bind λx4=>(rE J).bind λx9=>(mH x4 x9).bind λj=>if decide (j<0)then some (⟨[]⟩,false,true)else(idx x4.aKg j).bind λI=>some (I.aF,true,true)
def BG(j:List Int)(C:Int)(I:List Int):Option ((List Int)×Bool):=
 (kA j I).bind λx1=>(A7 C I).bind λx3=>(cW x1 x3).bind λx5=>if decide (C<0)then(eA j).bind λx8=>some (x8,false)else if decide ((x5.length:Int)>4000)then(eA j).bind λJ=>some (J,false)else some (x5,true)
def AZ(j:M.bJ)(C:List M.fA):Option (M.bJ×Bool):=
 (AM j).bind λx1=>(xU j).bind λx3=>(Bg x3.1 C).bind λx5=>(zS C).bind λx7=>(BG j.Log j.aLF x7).bind λx9=>if !x5.2.2 then some (x1,false)else if(x7.length:Int)==0 then some (x1,false)else if !x9.2 then some (x1,false)else if j.aLF !=x3.2 then some (x1,false)else some (⟨x1.aK1,x9.1,i64.wrap (x1.aLF+1)⟩,true)
def eG(C:M.aKd):Nat->Int->Int->Option Bool
 |0,_,_=>none
 |U+1,I,J=>if decide (J<((3:Nat):Int))then(idx ([C.aLL,C.aLH,C.aLB]) J).bind λj=>(bA j 0 1000000000000).bind λah=>if !ah then some false else if j !=0 then if decide (j<=I)then some false else eG C U (if j>I then j else I) (i64.wrap (J+1))else eG C U (if j>I then j else I) (i64.wrap (J+1))else(cG C.aKl).bind λai=>some ai
def Al(j:M.aKd):Option Bool:=
 eG j aJ 0 0
def yY(j:M.aK2)(C:ByteArray)(c1:ByteArray):Option Bool:=
 if j.aKl.toList==C.toList then some (j.aLQ.toList==c1.toList)else some false
def dV(C:List M.aK2)(I:M.aK2->Option Bool):Nat->Int->Option Int
 |0,_=>none
 |J+1,j=>if decide (j<(List.length C:Int))then(idx C j).bind λx7=>(I x7).bind λU=>if U then some j else dV C I J (i64.wrap (j+1))else some (-1)
def mP(j:List M.aK2)(C:M.aK2->Option Bool):Option Int:=
 dV j C aJ 0
def sV(j:M.aKv)(C:ByteArray)(I:ByteArray):Option Int:=
 (mP j.aKs (λJ=>yY J C I)).bind λx1=>some x1
def xC(j:M.aKo):Option Bool:=
 (bA j.aLX 1 4).bind λx1=>if x1 then(bA j.aLV 0 999).bind λx4=>if x4 then(bA j.aKb 0 1000000000000).bind λx7=>if x7 then some (decide ((j.aLZ.length:Int)<=60))else some false else some false else some false
def gB(x8:M.aKv)(I:Int->Option Bool):Nat->Int->Option Bool
 |0,_=>none
 |J+1,j=>if decide (j<(List.length x8.aKs:Int))then(idx x8.aKs j).bind λC=>(cG C.aKl).bind λU=>if !U then some false else(cG C.aLQ).bind λaj=>if !aj then some false else(sV x8 C.aKl C.aLQ).bind λak=>if ak !=j then some false else(xC C.aKo).bind λal=>if !al then some false else gB x8 I J (i64.wrap (j+1))else I j
def fQ(x8:M.aKv)(I:Int->Option Bool):Nat->Int->Option Bool
 |0,_=>none
 |J+1,j=>if decide (j<(List.length x8.aKs:Int))then(idx x8.aKs j).bind λC=>(cG C.aKl).bind λU=>if !U then some false else(cG C.aLQ).bind λaj=>if !aj then some false else(sV x8 C.aKl C.aLQ).bind λak=>if ak !=j then some false else(xC C.aKo).bind λal=>if !al then some false else fQ x8 I J (i64.wrap (j+1))else I j
def gA(C:M.aN):Nat->Int->Option Bool
 |0,_=>none
 |I+1,j=>if decide (j<(List.length C.aKi:Int))then(idx C.aKi j).bind λx8=>(bA x8.aKb 1 1000000000000).bind λJ=>if !J then some false else if decide (j>0)then(idx C.aKi (i64.wrap (j-1))).bind λU=>if decide (x8.aKb<=U.aKb)then some false else if decide ((List.length x8.aKs:Int)>12)then some false else gB x8 (λ(aa:Int)=>gA C I (i64.wrap (j+1))) aJ 0 else if decide ((List.length x8.aKs:Int)>12)then some false else fQ x8 (λ(ae:Int)=>gA C I (i64.wrap (j+1))) aJ 0 else some (decide ((List.length C.aKi:Int)<=4))
def AG(j:M.aN):Option Bool:=
 gA j aJ 0
def pR(j:M.cH):Option Bool:=
 (bA j.aKk 1 1000000).bind λx1=>if x1 then(bA j.Seq 1 1000000).bind λx4=>if x4 then(kG j.Key).bind λx7=>if x7 then(cG j.Field).bind λC=>if C then(bA j.N 0 1000000000).bind λI=>some I else some false else some false else some false else some false
def pA(j:M.aO):Nat->Int->Option Bool
 |0,_=>none
 |I+1,C=>if decide (C<(List.length j.aKw:Int))then(idx j.aKw C).bind λx9=>(pR x9).bind λJ=>if !J then some false else if x9.aKk !=j.aKk then some false else if x9.Seq !=(i64.wrap ((i64.wrap (j.aLE-(List.length j.aKw:Int)))+C))then some false else pA j I (i64.wrap (C+1))else(bA j.aKk 1 1000000).bind λU=>if U then(bA j.aLE 1 1000000).bind λai=>if ai then some (decide ((List.length j.aKw:Int)<=20))else some false else some false
def yA(j:M.aO):Option Bool:=
 pA j aJ 0
def zN(j:M.aH):Option Bool:=
 (cC j.aK1).bind λx1=>if x1 then if j.aK1.Name.toList==(⟨#[110,111,116,101,115]⟩:ByteArray).toList then(bA j.aLT 0 1000000000000).bind λx5=>if x5 then(yA j.aK3.aO).bind λx8=>some x8 else some false else some false else some false
def CG(j:M.aKo)(C:Bool):Option Int:=
 if C then some 76 else some (i64.wrap (16+(j.aLZ.length)))
def lT(x7:M.aKv)(I:Int->Int->Option Int):Nat->Int->Int->Option Int
 |0,_,_=>none
 |U+1,C,j=>if decide (j<(List.length x7.aKs:Int))then(idx x7.aKs j).bind λJ=>(CG J.aKo (J.aKo.aLX==3)).bind λaj=>lT x7 I U (i64.wrap (C+aj)) (i64.wrap (j+1))else I C j
def fZ(C:M.aN):Nat->Int->Int->Option Int
 |0,_,_=>none
 |U+1,I,j=>if decide (j<(List.length C.aKi:Int))then(idx C.aKi j).bind λx7=>lT x7 (λ(J:Int) (ae:Int)=>fZ C U J (i64.wrap (j+1))) aJ I 0 else some I
def CB(j:M.aN):Option Int:=
 fZ j aJ 0 0
def nA(j:M.aD):Nat->Int->Int->Option Int
 |0,_,_=>none
 |J+1,I,C=>if decide (C<(List.length j.aKg:Int))then(idx j.aKg C).bind λx7=>(lB x7.Key).bind λU=>(gY x7.aF).bind λaf=>nA j J (i64.wrap (I+(i64.wrap ((List.length U:Int)+(List.length af:Int))))) (i64.wrap (C+1))else some I
def BC(j:M.aD):Option Int:=
 nA j aJ 0 0
def iU(j:M.aKc):Nat->Int->Int->Option Int
 |0,_,_=>none
 |J+1,I,C=>if decide (C<(List.length j.aKm:Int))then(idx j.aKm C).bind λx7=>(BC x7).bind λU=>iU j J (i64.wrap (I+U)) (i64.wrap (C+1))else some I
def Bk(j:M.aKc):Option Int:=
 iU j aJ 0 0
def DO(j:M.bJ):Option Int:=
 (Bk j.aK1).bind λx1=>some (i64.wrap (x1+(j.Log.length)))
def CY(j:M.aKe):Option Int:=
 (CB j.aKi).bind λx1=>(DO j.bJ).bind λx3=>(BC j.aH.aK1).bind λx5=>some (i64.wrap ((i64.wrap ((i64.wrap (x1+x3))+x5))+(i64.wrap (40*(j.aH.aK3.aO.aKw.length)))))
def tG(j:M.aKe):Option Bool:=
 (cG j.aKl).bind λx1=>if x1 then(cG j.Top).bind λx4=>if x4 then(Al j.aKd).bind λx7=>if x7 then if j.aKd.aKl.toList==j.aKl.toList then(AG j.aKi).bind λC=>if C then(nS j.bJ.aK1).bind λI=>if I then(zN j.aH).bind λJ=>if J then(bA j.aLC 0 1000000000000).bind λU=>if U then(CY j).bind λai=>some (decide (ai<=2500))else some false else some false else some false else some false else some false else some false else some false else some false
def pX(j:M.aKe)(C:M.aKe):Option (M.aKe×Bool):=
 (tG j).bind λx1=>if !x1 then(eR j).bind λx4=>some (x4,false)else(tG C).bind λx6=>if !x6 then(eR j).bind λx9=>some (x9,false)else(eR C).bind λI=>some (I,true)
def zZ(j:M.aKe)(C:M.bJ):Option (M.aKe×Bool):=
 (pX j ⟨j.aKl,j.Top,j.aKd,j.aKi,C,j.aH,j.aLC,j.aK9⟩).bind λx1=>some (x1.1,x1.2)
def sQ(j:M.aKe)(C:M.aKe):Option Bool:=
 if Op.bytesLess j.aKl.toList C.aKl.toList then some true else if j.aKl.toList==C.aKl.toList then some (Op.bytesLess j.Top.toList C.Top.toList)else some false
def kQ(j:M.aC):Nat->Int->Option Bool
 |0,_=>none
 |I+1,C=>if decide (C<(List.length j.aKf:Int))then(idx j.aKf C).bind λx8=>(tG x8).bind λJ=>if !J then some false else if decide (C>0)then(idx j.aKf (i64.wrap (C-1))).bind λU=>(sQ U x8).bind λah=>if !ah then some false else kQ j I (i64.wrap (C+1))else kQ j I (i64.wrap (C+1))else some (decide ((List.length j.aKf:Int)<=9))
def dF(j:M.aC):Option Bool:=
 kQ j aJ 0
def nI(C:M.aC)(I:M.aKe)(x1:M.aC):Nat->Int->Option (M.aC×Bool)
 |0,_=>none
 |af+1,j=>if decide (j<(List.length x1.aKf:Int))then(idx x1.aKf j).bind λah=>(sQ ah I).bind λai=>if ai then nI C I x1 af (i64.wrap (j+1))else(eR I).bind λJ=>(LW 328 x1.aKf j ([J])).bind λax=>(dF C).bind λaj=>if !aj then(dB C).bind λak=>some (ak,false)else(dF (⟨List.take j.toNat x1.aKf++([J]++List.drop j.toNat x1.aKf)⟩:M.aC)).bind λal=>if !al then(dB C).bind λao=>some (ao,false)else some ((⟨List.take j.toNat x1.aKf++([J]++List.drop j.toNat x1.aKf)⟩:M.aC),true)else(eR I).bind λU=>(LW 328 x1.aKf j ([U])).bind λay=>(dF C).bind λaq=>if !aq then(dB C).bind λar=>some (ar,false)else(dF (⟨List.take j.toNat x1.aKf++([U]++List.drop j.toNat x1.aKf)⟩:M.aC)).bind λav=>if !av then(dB C).bind λaw=>some (aw,false)else some ((⟨List.take j.toNat x1.aKf++([U]++List.drop j.toNat x1.aKf)⟩:M.aC),true)
def yV(j:M.aC)(C:M.aKe):Option (M.aC×Bool):=
 (dB j).bind λx1=>(nU j C.aKl C.Top).bind λx3=>if decide (x3>=0)then(eR C).bind λx6=>(idx x1.aKf x3).bind λx8=>(dF j).bind λI=>if !I then(dB j).bind λJ=>some (J,false)else(dF ⟨x1.aKf.set x3.toNat x6⟩).bind λU=>if !U then(dB j).bind λah=>some (ah,false)else some (⟨x1.aKf.set x3.toNat x6⟩,true)else nI j C x1 aJ 0
def yQ(j:M.aE)(p1:M.bK)(p2:Int)(p3:ByteArray)(p4:Int):Option (M.aE×Bool):=
 (uV j).bind λx1=>(mJ j p1.aKl p1.Top).bind λx3=>if !x3.2 then some (x1,false)else(xU x3.1.bJ).bind λx6=>(CC x6.1 p2).bind λx8=>(oT x8.1 p3 p4).bind λC=>if !x8.2.2 then some (x1,false)else if !C.2 then some (x1,false)else(rE p2).bind λai=>(AZ x3.1.bJ ([⟨1,⟨#[110,111,116,101,115]⟩,ai,C.1,⟨#[]⟩⟩])).bind λI=>(zZ x3.1 I.1).bind λJ=>(yV j.aC J.1).bind λU=>if !I.2 then some (x1,false)else if !J.2 then some (x1,false)else if !U.2 then some (x1,false)else some (⟨x1.Now,x1.aK4,x1.aKk,U.1,x1.aKq,x1.aKn,x1.aKu,x1.aKp,x1.aK0,x1.aKr⟩,true)
def fH(C:List M.aKe)(I:List M.aKe)(J:M.aKe->M.aKe->Option Bool):Nat->Int->Option Bool
 |0,_=>none
 |U+1,j=>if decide (j<(List.length C:Int))then(idx C j).bind λx9=>(idx I j).bind λaf=>(J x9 af).bind λah=>if !ah then some false else fH C I J U (i64.wrap (j+1))else some true
def mM(j:List M.aKe)(C:List M.aKe)(I:M.aKe->M.aKe->Option Bool):Option Bool:=
 if j.length !=(C.length:Int)then some false else fH j C I aJ 0
def gI(C:List M.aKv)(I:List M.aKv)(J:M.aKv->M.aKv->Option Bool):Nat->Int->Option Bool
 |0,_=>none
 |U+1,j=>if decide (j<(List.length C:Int))then(idx C j).bind λx9=>(idx I j).bind λaf=>(J x9 af).bind λah=>if !ah then some false else gI C I J U (i64.wrap (j+1))else some true
def nX(j:List M.aKv)(C:List M.aKv)(I:M.aKv->M.aKv->Option Bool):Option Bool:=
 if j.length !=(C.length:Int)then some false else gI j C I aJ 0
def fI(C:List M.aK2)(I:List M.aK2)(J:M.aK2->M.aK2->Option Bool):Nat->Int->Option Bool
 |0,_=>none
 |U+1,j=>if decide (j<(List.length C:Int))then(idx C j).bind λx9=>(idx I j).bind λaf=>(J x9 af).bind λah=>if !ah then some false else fI C I J U (i64.wrap (j+1))else some true
def mK(j:List M.aK2)(C:List M.aK2)(I:M.aK2->M.aK2->Option Bool):Option Bool:=
 if j.length !=(C.length:Int)then some false else fI j C I aJ 0
def tL(j:M.aKo)(C:M.aKo):Option Bool:=
 if j.aLX==C.aLX then if j.aLV==C.aLV then if j.aKb==C.aKb then(iH j.aLZ C.aLZ).bind λx4=>if x4 then some (j.aLc==C.aLc)else some false else some false else some false else some false
def tW(j:M.aK2)(C:M.aK2):Option Bool:=
 if j.aKl.toList==C.aKl.toList then if j.aLQ.toList==C.aLQ.toList then(tL j.aKo C.aKo).bind λx3=>some x3 else some false else some false
def uK(j:M.aKv)(C:M.aKv):Option Bool:=
 if j.aKb==C.aKb then(mK j.aKs C.aKs (λI J=>tW I J)).bind λx2=>some x2 else some false
def sY(j:M.aN)(C:M.aN):Option Bool:=
 (nX j.aKi C.aKi (λI J=>uK I J)).bind λx1=>some x1
def gG(C:List M.aD)(I:List M.aD)(J:M.aD->M.aD->Option Bool):Nat->Int->Option Bool
 |0,_=>none
 |U+1,j=>if decide (j<(List.length C:Int))then(idx C j).bind λx9=>(idx I j).bind λaf=>(J x9 af).bind λah=>if !ah then some false else gG C I J U (i64.wrap (j+1))else some true
def oL(j:List M.aD)(C:List M.aD)(I:M.aD->M.aD->Option Bool):Option Bool:=
 if j.length !=(C.length:Int)then some false else gG j C I aJ 0
def gU(C:List M.aKy)(I:List M.aKy)(J:M.aKy->M.aKy->Option Bool):Nat->Int->Option Bool
 |0,_=>none
 |U+1,j=>if decide (j<(List.length C:Int))then(idx C j).bind λx9=>(idx I j).bind λaf=>(J x9 af).bind λah=>if !ah then some false else gU C I J U (i64.wrap (j+1))else some true
def oV(j:List M.aKy)(C:List M.aKy)(I:M.aKy->M.aKy->Option Bool):Option Bool:=
 if j.length !=(C.length:Int)then some false else gU j C I aJ 0
def lP(C:List M.aR)(J:List M.aR):Nat->Int->Option Bool
 |0,_=>none
 |U+1,j=>if decide (j<(List.length C:Int))then(idx C j).bind λx8=>(idx J j).bind λI=>if !((x8.Name.toList==I.Name.toList)&&(x8.N==I.N))then some false else lP C J U (i64.wrap (j+1))else some true
def vN(j:List M.aR)(C:List M.aR):Option Bool:=
 if j.length !=(C.length:Int)then some false else lP j C aJ 0
def xX(j:M.aF)(C:M.aF):Option Bool:=
 (vN j.aKj C.aKj).bind λx1=>some x1
def xJ(j:M.aKy)(C:M.aKy):Option Bool:=
 if(j.Key.aKx==C.Key.aKx)&&((j.Key.N==C.Key.N)&&(j.Key.aK5.toList==C.Key.aK5.toList))then(xX j.aF C.aF).bind λx2=>some x2 else some false
def iY(j:M.aD)(C:M.aD):Option Bool:=
 if j.Name.toList==C.Name.toList then if j.aK7==C.aK7 then(oV j.aKg C.aKg (λI J=>xJ I J)).bind λx3=>some x3 else some false else some false
def gT(C:List M.aV)(J:List M.aV):Nat->Int->Option Bool
 |0,_=>none
 |U+1,j=>if decide (j<(List.length C:Int))then(idx C j).bind λx8=>(idx J j).bind λI=>if !((x8.aD.toList==I.aD.toList)&&(x8.Field.toList==I.Field.toList))then some false else gT C J U (i64.wrap (j+1))else some true
def pH(j:List M.aV)(C:List M.aV):Option Bool:=
 if j.length !=(C.length:Int)then some false else gT j C aJ 0
def tH(j:M.aKc)(C:M.aKc):Option Bool:=
 if j.Name.toList==C.Name.toList then if j.aKb==C.aKb then(oL j.aKm C.aKm (λI J=>iY I J)).bind λx3=>if x3 then(pH j.aKz C.aKz).bind λx6=>some x6 else some false else some false else some false
def AO(j:M.bJ)(C:M.bJ):Option Bool:=
 (tH j.aK1 C.aK1).bind λx1=>if x1 then(iH j.Log C.Log).bind λx4=>if x4 then some (j.aLF==C.aLF)else some false else some false
def lG(I:List M.cH)(J:List M.cH):Nat->Int->Option Bool
 |0,_=>none
 |U+1,C=>if decide (C<(List.length I:Int))then(idx I C).bind λx8=>(idx J C).bind λj=>if !((x8.aKk==j.aKk)&&((x8.Seq==j.Seq)&&((x8.Key.aKx==j.Key.aKx)&&((x8.Key.N==j.Key.N)&&((x8.Key.aK5.toList==j.Key.aK5.toList)&&((x8.Field.toList==j.Field.toList)&&(x8.N==j.N)))))))then some false else lG I J U (i64.wrap (C+1))else some true
def pW(j:List M.cH)(C:List M.cH):Option Bool:=
 if j.length !=(C.length:Int)then some false else lG j C aJ 0
def vQ(j:M.aO)(C:M.aO):Option Bool:=
 if j.aKk==C.aKk then if j.aLE==C.aLE then(pW j.aKw C.aKw).bind λx3=>some x3 else some false else some false
def A8(j:M.aK3)(C:M.aK3):Option Bool:=
 (vQ j.aO C.aO).bind λx1=>if x1 then if j.aLI==C.aLI then some (j.aK8==C.aK8)else some false else some false
def vG(j:M.aH)(C:M.aH):Option Bool:=
 (iY j.aK1 C.aK1).bind λx1=>if x1 then if j.aLT==C.aLT then(A8 j.aK3 C.aK3).bind λx5=>some x5 else some false else some false
def sE(j:M.aKe)(C:M.aKe):Option Bool:=
 if j.aKl.toList==C.aKl.toList then if j.Top.toList==C.Top.toList then if(j.aKd.aKl.toList==C.aKd.aKl.toList)&&((j.aKd.aLB==C.aKd.aLB)&&((j.aKd.aLH==C.aKd.aLH)&&(j.aKd.aLL==C.aKd.aLL)))then(sY j.aKi C.aKi).bind λx4=>if x4 then(AO j.bJ C.bJ).bind λx7=>if x7 then(vG j.aH C.aH).bind λI=>if I then if j.aLC==C.aLC then some (j.aK9==C.aK9)else some false else some false else some false else some false else some false else some false else some false
def vM(j:M.aC)(C:M.aC):Option Bool:=
 (mM j.aKf C.aKf (λI J=>sE I J)).bind λx1=>some x1
def gW(C:List M.bK)(I:List M.bK)(J:M.bK->M.bK->Option Bool):Nat->Int->Option Bool
 |0,_=>none
 |U+1,j=>if decide (j<(List.length C:Int))then(idx C j).bind λx9=>(idx I j).bind λaf=>(J x9 af).bind λah=>if !ah then some false else gW C I J U (i64.wrap (j+1))else some true
def oU(j:List M.bK)(C:List M.bK)(I:M.bK->M.bK->Option Bool):Option Bool:=
 if j.length !=(C.length:Int)then some false else gW j C I aJ 0
def kD(C:List M.aT)(J:List M.aT):Nat->Int->Option Bool
 |0,_=>none
 |U+1,j=>if decide (j<(List.length C:Int))then(idx C j).bind λx8=>(idx J j).bind λI=>if !((x8.aLQ.toList==I.aLQ.toList)&&(x8.aKb==I.aKb))then some false else kD C J U (i64.wrap (j+1))else some true
def tA(j:List M.aT)(C:List M.aT):Option Bool:=
 if j.length !=(C.length:Int)then some false else kD j C aJ 0
def lK(I:List M.aY)(J:List M.aY):Nat->Int->Option Bool
 |0,_=>none
 |U+1,j=>if decide (j<(List.length I:Int))then(idx I j).bind λx8=>(idx J j).bind λC=>if !((x8.aKx==C.aKx)&&((x8.R==C.R)&&((x8.N==C.N)&&(x8.aK5.toList==C.aK5.toList))))then some false else lK I J U (i64.wrap (j+1))else some true
def vJ(j:List M.aY)(C:List M.aY):Option Bool:=
 if j.length !=(C.length:Int)then some false else lK j C aJ 0
def oC(C:List Int)(I:List Int):Nat->Int->Option Bool
 |0,_=>none
 |J+1,j=>if decide (j<(List.length C:Int))then(idx C j).bind λx8=>(idx I j).bind λU=>if x8 !=U then some false else oC C I J (i64.wrap (j+1))else some true
def Ad(j:List Int)(C:List Int):Option Bool:=
 if j.length !=(C.length:Int)then some false else oC j C aJ 0
def vF(j:M.aKh)(C:M.aKh):Option Bool:=
 (vJ j.aLA C.aLA).bind λx1=>if x1 then if j.Pc==C.Pc then(Ad j.aLN C.aLN).bind λx5=>if x5 then if j.aLM==C.aLM then if j.aLU==C.aLU then some (j.aLR==C.aLR)else some false else some false else some false else some false else some false
def iB(j:M.bK)(C:M.bK):Option Bool:=
 if j.Id==C.Id then if j.aKl.toList==C.aKl.toList then if j.Top.toList==C.Top.toList then if j.aKb==C.aKb then(tA j.aT C.aT).bind λx5=>if x5 then(vF j.aKh C.aKh).bind λx8=>some x8 else some false else some false else some false else some false else some false
def mF(I:List M.vE)(J:List M.vE):Nat->Int->Option Bool
 |0,_=>none
 |U+1,j=>if decide (j<(List.length I:Int))then(idx I j).bind λx8=>(idx J j).bind λC=>if !((x8.Name.toList==C.Name.toList)&&((x8.bK==C.bK)&&((x8.aLK==C.aLK)&&(x8.aLb==C.aLb))))then some false else mF I J U (i64.wrap (j+1))else some true
def yD(j:List M.vE)(C:List M.vE):Option Bool:=
 if j.length !=(C.length:Int)then some false else mF j C aJ 0
def mE(I:List M.Eb)(J:List M.Eb):Nat->Int->Option Bool
 |0,_=>none
 |U+1,j=>if decide (j<(List.length I:Int))then(idx I j).bind λx8=>(idx J j).bind λC=>if !((x8.To==C.To)&&((x8.aLf==C.aLf)&&(x8.N==C.N)))then some false else mE I J U (i64.wrap (j+1))else some true
def yG(j:List M.Eb)(C:List M.Eb):Option Bool:=
 if j.length !=(C.length:Int)then some false else mE j C aJ 0
def gV(C:List M.aKl)(I:List M.aKl)(J:M.aKl->M.aKl->Option Bool):Nat->Int->Option Bool
 |0,_=>none
 |U+1,j=>if decide (j<(List.length C:Int))then(idx C j).bind λx9=>(idx I j).bind λaf=>(J x9 af).bind λah=>if !ah then some false else gV C I J U (i64.wrap (j+1))else some true
def pG(j:List M.aKl)(C:List M.aKl)(I:M.aKl->M.aKl->Option Bool):Option Bool:=
 if j.length !=(C.length:Int)then some false else gV j C I aJ 0
def kC(C:List ByteArray)(I:List ByteArray):Nat->Int->Option Bool
 |0,_=>none
 |J+1,j=>if decide (j<(List.length C:Int))then(idx C j).bind λx8=>(idx I j).bind λU=>if !(x8.toList==U.toList)then some false else kC C I J (i64.wrap (j+1))else some true
def tD(j:List ByteArray)(C:List ByteArray):Option Bool:=
 if j.length !=(C.length:Int)then some false else kC j C aJ 0
def rX(j:M.aKl)(C:M.aKl):Option Bool:=
 if j.Name.toList==C.Name.toList then if j.aKb==C.aKb then(tD j.aLG C.aLG).bind λx3=>if x3 then some (j.aLK==C.aLK)else some false else some false else some false
def fG(C:List M.aKt)(I:List M.aKt)(J:M.aKt->M.aKt->Option Bool):Nat->Int->Option Bool
 |0,_=>none
 |U+1,j=>if decide (j<(List.length C:Int))then(idx C j).bind λx9=>(idx I j).bind λaf=>(J x9 af).bind λah=>if !ah then some false else fG C I J U (i64.wrap (j+1))else some true
def mN(j:List M.aKt)(C:List M.aKt)(I:M.aKt->M.aKt->Option Bool):Option Bool:=
 if j.length !=(C.length:Int)then some false else fG j C I aJ 0
def iF(C:List M.aQ)(J:List M.aQ):Nat->Int->Option Bool
 |0,_=>none
 |U+1,j=>if decide (j<(List.length C:Int))then(idx C j).bind λx8=>(idx J j).bind λI=>if !((x8.aKk==I.aKk)&&(x8.Seq==I.Seq))then some false else iF C J U (i64.wrap (j+1))else some true
def rM(j:List M.aQ)(C:List M.aQ):Option Bool:=
 if j.length !=(C.length:Int)then some false else iF j C aJ 0
def sO(j:M.aKt)(C:M.aKt):Option Bool:=
 (iY j.aD C.aD).bind λx1=>if x1 then(rM j.aQ C.aQ).bind λx4=>if x4 then(pW j.aK6 C.aK6).bind λx7=>some x7 else some false else some false
def uD(j:M.aE)(C:M.aE):Option Bool:=
 if j.Now==C.Now then if j.aK4==C.aK4 then if j.aKk==C.aKk then(vM j.aC C.aC).bind λx4=>if x4 then(oU j.aKq C.aKq (λI J=>iB I J)).bind λx7=>if x7 then if j.aKn==C.aKn then(yD j.aKu.aKu C.aKu.aKu).bind λU=>if U then(yG j.aKp.aLJ C.aKp.aLJ).bind λae=>if ae then(pG j.aK0 C.aK0 (λI J=>rX I J)).bind λaf=>if af then(mN j.aKr C.aKr (λI J=>sO I J)).bind λah=>some ah else some false else some false else some false else some false else some false else some false else some false else some false else some false
def BJ(j:List Int):Option (List Int):=
 (CX j).bind λx1=>(B6 j x1.2).bind λx3=>(app 1 ([]:List Int) (List.take x1.2.toNat j)).bind λx5=>some (List.take x1.2.toNat j)
def rU(C:List Int)(I:List Int):Nat->Int->Option Bool
 |0,_=>none
 |J+1,j=>if decide (j<(List.length C:Int))then(idx C j).bind λx7=>(idx I j).bind λU=>if x7 !=U then some false else rU C I J (i64.wrap (j+1))else some true
def BA(j:List Int)(C:List Int):Option Bool:=
 if(List.length j:Int) !=(List.length C:Int)then some false else rU j C aJ 0
def kT(C:M.aE)(j:M.bK)(I:Int)(J:ByteArray):Option Int:=
 (mJ C j.aKl j.Top).bind λx1=>if !x1.2 then some (-1)else(xU x1.1.bJ).bind λx4=>(CC x4.1 I).bind λx6=>(iA x6.1 J).bind λx8=>if !x8.2 then some (-1)else some (if 1000<x8.1 then 1000 else x8.1)
def Db(I:List Int):Option Bool:=
 (JM I).bind λx1=>if x1 then some true else(AB I).bind λx4=>(yQ x4.1 x4.2.1 x4.2.2.1 x4.2.2.2.1 x4.2.2.2.2).bind λx6=>(hY x4.1 x4.2.1 x4.2.2.1 x4.2.2.2.1 x4.2.2.2.2).bind λx8=>(if !(x6.2==x8.2)then some true else(uD x6.1 x8.1).bind λai=>if !ai then some true else if !x6.2 then(uD x6.1 x4.1).bind λaj=>some (!aj)else some false).bind λak=>if ak then some false else(dZ x4.1.aC x4.2.1.aKl x4.2.1.Top).bind λj=>(if decide (j<0)then some true else(idx x4.1.aC.aKf j).bind λC=>(BJ C.bJ.Log).bind λal=>(BA al C.bJ.Log).bind λao=>some ao).bind λaq=>(if x6.2 then if aq then(kT x6.1 x4.2.1 x4.2.2.1 x4.2.2.2.1).bind λar=>(dS 1000 x4.2.2.2.2).bind λav=>some (ar !=av)else some false else some false).bind λaw=>if aw then some false else(if x4.2.1.Top.toList==(⟨#[110,101,119,115]⟩:ByteArray).toList then some true else(kT x6.1 (⟨x4.2.1.Id,x4.2.1.aKl,(⟨#[110,101,119,115]⟩:ByteArray),x4.2.1.aKb,x4.2.1.aT,x4.2.1.aKh⟩:M.bK) x4.2.2.1 x4.2.2.2.1).bind λJ=>(mI x4.1 (⟨x4.2.1.Id,x4.2.1.aKl,(⟨#[110,101,119,115]⟩:ByteArray),x4.2.1.aKb,x4.2.1.aT,x4.2.1.aKh⟩:M.bK) x4.2.2.1 x4.2.2.2.1).bind λU=>some (J==U)).bind λax=>some ax
