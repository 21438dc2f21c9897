/-
  Helper text. No conditions.
-/
import Derived.Test.YtjlnkcoeghonfaaGreatRunningPagesShT
set_option linter.all false
namespace Go.Proofs.YtjlnkcoeghonfaaGreat.gen
open Go Go.Sh
open Go.IntKind (i64)
structure M.bI where
 b:List Int
 i:Int
 h:Int
def M.bI.en(x:M.bI):List D:=[.sl (x.b.map enB),.int .i64 x.i,.int .i64 x.h]
structure M.aLU where
 aLa:ByteArray
 aL0:Int
 aL6:Int
 aMA:Int
def M.aLU.en(x:M.aLU):List D:=[.str x.aLa,.int .i64 x.aL0,.int .i64 x.aL6,.int .i64 x.aMA]
theorem M.aLU.en.fl(l:List M.aLU):(l.map M.aLU.en).all (λy=>y.all D.flat)=true:=I9 (λ_=>rfl) l
structure M.aLb where
 aMM:Int
 aMD:Int
 aLT:Int
 aMN:List Int
 aMP:Bool
def M.aLb.en(x:M.aLb):List D:=[.int .i64 x.aMM,.int .i64 x.aMD,.int .i64 x.aLT,.sl (x.aMN.map enB),.bool x.aMP]
structure M.aLr where
 aLa:ByteArray
 aMF:ByteArray
 aLb:M.aLb
def M.aLr.en(x:M.aLr):List D:=[.str x.aLa,.str x.aMF,.int .i64 x.aLb.aMM,.int .i64 x.aLb.aMD,.int .i64 x.aLb.aLT,.sl (x.aLb.aMN.map enB),.bool x.aLb.aMP]
structure M.aLi where
 aLT:Int
 aLg:List M.aLr
def M.aLi.en(x:M.aLi):List D:=[.int .i64 x.aLT,.sl (x.aLg.map M.aLr.en)]
structure M.aJ where
 aLW:List M.aLi
def M.aJ.en(x:M.aJ):List D:=[.sl (x.aLW.map M.aLi.en)]
structure M.bD where
 aLn:Int
 N:Int
 aLu:ByteArray
def M.bD.en(x:M.bD):List D:=[.int .i64 x.aLn,.int .i64 x.N,.str x.aLu]
theorem M.bD.en.fl(l:List M.bD):(l.map M.bD.en).all (λy=>y.all D.flat)=true:=I9 (λ_=>rfl) l
structure M.aR where
 Name:ByteArray
 N:Int
def M.aR.en(x:M.aR):List D:=[.str x.Name,.int .i64 x.N]
theorem M.aR.en.fl(l:List M.aR):(l.map M.aR.en).all (λy=>y.all D.flat)=true:=I9 (λ_=>rfl) l
structure M.aF where
 aLY:List M.aR
def M.aF.en(x:M.aF):List D:=[.sl (x.aLY.map M.aR.en)]
structure M.aLo where
 Key:M.bD
 aF:M.aF
def M.aLo.en(x:M.aLo):List D:=[.int .i64 x.Key.aLn,.int .i64 x.Key.N,.str x.Key.aLu,.sl (x.aF.aLY.map M.aR.en)]
structure M.aE where
 Name:ByteArray
 aLV:List M.aLo
 aLx:Int
def M.aE.en(x:M.aE):List D:=[.str x.Name,.sl (x.aLV.map M.aLo.en),.int .i64 x.aLx]
structure M.aU where
 aE:ByteArray
 Field:ByteArray
def M.aU.en(x:M.aU):List D:=[.str x.aE,.str x.Field]
theorem M.aU.en.fl(l:List M.aU):(l.map M.aU.en).all (λy=>y.all D.flat)=true:=I9 (λ_=>rfl) l
structure M.aLS where
 Name:ByteArray
 aLT:Int
 aLc:List M.aE
 aLm:List M.aU
def M.aLS.en(x:M.aLS):List D:=[.str x.Name,.int .i64 x.aLT,.sl (x.aLc.map M.aE.en),.sl (x.aLm.map M.aU.en)]
structure M.bP where
 aLq:M.aLS
 Log:List Int
 aL5:Int
def M.bP.en(x:M.bP):List D:=[.str x.aLq.Name,.int .i64 x.aLq.aLT,.sl (x.aLq.aLc.map M.aE.en),.sl (x.aLq.aLm.map M.aU.en),.sl (x.Log.map enB),.int .i64 x.aL5]
structure M.bR where
 aLZ:Int
 Seq:Int
 Key:M.bD
 Field:ByteArray
 N:Int
def M.bR.en(x:M.bR):List D:=[.int .i64 x.aLZ,.int .i64 x.Seq,.int .i64 x.Key.aLn,.int .i64 x.Key.N,.str x.Key.aLu,.str x.Field,.int .i64 x.N]
theorem M.bR.en.fl(l:List M.bR):(l.map M.bR.en).all (λy=>y.all D.flat)=true:=I9 (λ_=>rfl) l
structure M.aN where
 aLZ:Int
 aL2:Int
 aLl:List M.bR
def M.aN.en(x:M.aN):List D:=[.int .i64 x.aLZ,.int .i64 x.aL2,.sl (x.aLl.map M.bR.en)]
structure M.aLs where
 aN:M.aN
 aL7:Int
 aLw:Int
def M.aLs.en(x:M.aLs):List D:=[.int .i64 x.aN.aLZ,.int .i64 x.aN.aL2,.sl (x.aN.aLl.map M.bR.en),.int .i64 x.aL7,.int .i64 x.aLw]
structure M.aG where
 aLq:M.aE
 aMG:Int
 aLs:M.aLs
def M.aG.en(x:M.aG):List D:=[.str x.aLq.Name,.sl (x.aLq.aLV.map M.aLo.en),.int .i64 x.aLq.aLx,.int .i64 x.aMG,.int .i64 x.aLs.aN.aLZ,.int .i64 x.aLs.aN.aL2,.sl (x.aLs.aN.aLl.map M.bR.en),.int .i64 x.aLs.aL7,.int .i64 x.aLs.aLw]
structure M.Bucket where
 aLa:ByteArray
 Top:ByteArray
 aLU:M.aLU
 aLW:M.aJ
 bP:M.bP
 aG:M.aG
 aL1:Int
 aLy:Bool
def M.Bucket.en(x:M.Bucket):List D:=[.str x.aLa,.str x.Top,.str x.aLU.aLa,.int .i64 x.aLU.aL0,.int .i64 x.aLU.aL6,.int .i64 x.aLU.aMA,.sl (x.aLW.aLW.map M.aLi.en),.str x.bP.aLq.Name,.int .i64 x.bP.aLq.aLT,.sl (x.bP.aLq.aLc.map M.aE.en),.sl (x.bP.aLq.aLm.map M.aU.en),.sl (x.bP.Log.map enB),.int .i64 x.bP.aL5,.str x.aG.aLq.Name,.sl (x.aG.aLq.aLV.map M.aLo.en),.int .i64 x.aG.aLq.aLx,.int .i64 x.aG.aMG,.int .i64 x.aG.aLs.aN.aLZ,.int .i64 x.aG.aLs.aN.aL2,.sl (x.aG.aLs.aN.aLl.map M.bR.en),.int .i64 x.aG.aLs.aL7,.int .i64 x.aG.aLs.aLw,.int .i64 x.aL1,.bool x.aLy]
structure M.aC where
 Buckets:List M.Bucket
def M.aC.en(x:M.aC):List D:=[.sl (x.Buckets.map M.Bucket.en)]
structure M.aW where
 aMF:ByteArray
 aLT:Int
def M.aW.en(x:M.aW):List D:=[.str x.aMF,.int .i64 x.aLT]
theorem M.aW.en.fl(l:List M.aW):(l.map M.aW.en).all (λy=>y.all D.flat)=true:=I9 (λ_=>rfl) l
structure M.aZ where
 aLn:Int
 R:Int
 N:Int
 aLu:ByteArray
def M.aZ.en(x:M.aZ):List D:=[.int .i64 x.aLn,.int .i64 x.R,.int .i64 x.N,.str x.aLu]
theorem M.aZ.en.fl(l:List M.aZ):(l.map M.aZ.en).all (λy=>y.all D.flat)=true:=I9 (λ_=>rfl) l
structure M.aLX where
 aLz:List M.aZ
 Pc:Int
 aMC:List Int
 aME:Int
 aMJ:Bool
 aMI:Bool
def M.aLX.en(x:M.aLX):List D:=[.sl (x.aLz.map M.aZ.en),.int .i64 x.Pc,.sl (x.aMC.map enI),.int .i64 x.aME,.bool x.aMJ,.bool x.aMI]
structure M.bO where
 Id:Int
 aLa:ByteArray
 Top:ByteArray
 aLT:Int
 aW:List M.aW
 aLX:M.aLX
def M.bO.en(x:M.bO):List D:=[.int .i64 x.Id,.str x.aLa,.str x.Top,.int .i64 x.aLT,.sl (x.aW.map M.aW.en),.sl (x.aLX.aLz.map M.aZ.en),.int .i64 x.aLX.Pc,.sl (x.aLX.aMC.map enI),.int .i64 x.aLX.aME,.bool x.aLX.aMJ,.bool x.aLX.aMI]
structure M.uY where
 Name:ByteArray
 bO:Int
 aL9:Bool
 aMS:Bool
def M.uY.en(x:M.uY):List D:=[.str x.Name,.int .i64 x.bO,.bool x.aL9,.bool x.aMS]
theorem M.uY.en.fl(l:List M.uY):(l.map M.uY.en).all (λy=>y.all D.flat)=true:=I9 (λ_=>rfl) l
structure M.aT where
 aLk:List M.uY
def M.aT.en(x:M.aT):List D:=[.sl (x.aLk.map M.uY.en)]
structure M.Fy where
 To:Int
 aMU:Int
 N:Int
def M.Fy.en(x:M.Fy):List D:=[.int .i64 x.To,.int .i64 x.aMU,.int .i64 x.N]
theorem M.Fy.en.fl(l:List M.Fy):(l.map M.Fy.en).all (λy=>y.all D.flat)=true:=I9 (λ_=>rfl) l
structure M.aLe where
 aL8:List M.Fy
def M.aLe.en(x:M.aLe):List D:=[.sl (x.aL8.map M.Fy.en)]
structure M.aLa where
 Name:ByteArray
 aLT:Int
 aL4:List ByteArray
 aL9:Bool
def M.aLa.en(x:M.aLa):List D:=[.str x.Name,.int .i64 x.aLT,.sl (x.aL4.map enS),.bool x.aL9]
structure M.aQ where
 aLZ:Int
 Seq:Int
def M.aQ.en(x:M.aQ):List D:=[.int .i64 x.aLZ,.int .i64 x.Seq]
theorem M.aQ.en.fl(l:List M.aQ):(l.map M.aQ.en).all (λy=>y.all D.flat)=true:=I9 (λ_=>rfl) l
structure M.aLj where
 aE:M.aE
 aQ:List M.aQ
 aLv:List M.bR
def M.aLj.en(x:M.aLj):List D:=[.str x.aE.Name,.sl (x.aE.aLV.map M.aLo.en),.int .i64 x.aE.aLx,.sl (x.aQ.map M.aQ.en),.sl (x.aLv.map M.bR.en)]
structure M.aD where
 Now:Int
 aLt:Bool
 aLZ:Int
 aC:M.aC
 aLf:List M.bO
 aLd:Int
 aLk:M.aT
 aLe:M.aLe
 aLp:List M.aLa
 aLh:List M.aLj
def M.aD.en(x:M.aD):List D:=[.int .i64 x.Now,.bool x.aLt,.int .i64 x.aLZ,.sl (x.aC.Buckets.map M.Bucket.en),.sl (x.aLf.map M.bO.en),.int .i64 x.aLd,.sl (x.aLk.aLk.map M.uY.en),.sl (x.aLe.aL8.map M.Fy.en),.sl (x.aLp.map M.aLa.en),.sl (x.aLh.map M.aLj.en)]
structure M.Ask where
 aLn:Int
 R:Int
 N:Int
 aLu:ByteArray
 Value:Int
def M.Ask.en(x:M.Ask):List D:=[.int .i64 x.aLn,.int .i64 x.R,.int .i64 x.N,.str x.aLu,.int .i64 x.Value]
theorem M.Ask.en.fl(l:List M.Ask):(l.map M.Ask.en).all (λy=>y.all D.flat)=true:=I9 (λ_=>rfl) l
structure M.gN where
 aLn:Int
 aE:ByteArray
 Key:M.bD
 aF:M.aF
 Field:ByteArray
def M.gN.en(x:M.gN):List D:=[.int .i64 x.aLn,.str x.aE,.int .i64 x.Key.aLn,.int .i64 x.Key.N,.str x.Key.aLu,.sl (x.aF.aLY.map M.aR.en),.str x.Field]
structure M.gE where
 aMO:Bool
 aMH:Bool
 Low:M.bD
 aMK:M.bD
def M.gE.en(x:M.gE):List D:=[.bool x.aMO,.bool x.aMH,.int .i64 x.Low.aLn,.int .i64 x.Low.N,.str x.Low.aLu,.int .i64 x.aMK.aLn,.int .i64 x.aMK.N,.str x.aMK.aLu]
theorem M.gE.en.fl(l:List M.gE):(l.map M.gE.en).all (λy=>y.all D.flat)=true:=I9 (λ_=>rfl) l
structure M.pR where
 aLn:Int
 aE:ByteArray
 Field:ByteArray
def M.pR.en(x:M.pR):List D:=[.int .i64 x.aLn,.str x.aE,.str x.Field]
theorem M.pR.en.fl(l:List M.pR):(l.map M.pR.en).all (λy=>y.all D.flat)=true:=I9 (λ_=>rfl) l
def J1(j:List Int):Option Bool:=
 some (decide ((j.length:Int)>1048576))
set_option maxRecDepth 40000 in
def rC(j:List Int):Nat->Int->Int->Option M.bI
 |0,_,_=>none
 |J+1,I,C=>if decide (C<(List.length j:Int))then if decide (C<4000)then(idx j C).bind λx7=>rC j J (i64.wrap (BitVec.ofInt (IntKind.i64.bits) (i64.wrap ((i64.wrap ((i64.wrap (I*137))+(i64.wrap x7)))+11))&&&BitVec.ofInt (IntKind.i64.bits) 1073741823).toNat) (i64.wrap (C+1))else some (⟨j,0,I⟩:M.bI)else some (⟨j,0,I⟩:M.bI)
set_option maxRecDepth 40000 in
theorem VA:type_of%@rC.eq_2:=@rC.eq_2
def G4(j:List Int):Option M.bI:=
 rC j aH (i64.wrap (193017+(j.length))) 0
def yB(j:M.bI):Option (Int×Int×Int):=
 if decide (j.i<(j.b.length))then(idx j.b j.i).bind λx5=>some (i64.wrap (j.i+1),i64.wrap ((i64.wrap (j.h*6364136223846793005))+1442695040888963407),i64.wrap (BitVec.ofInt (IntKind.i64.bits) (i64.wrap ((i64.wrap (BitVec.ofInt (IntKind.i64.bits) (i64.wrap (BitVec.ofInt (IntKind.i64.bits) (Int.fdiv (i64.wrap ((i64.wrap (j.h*6364136223846793005))+1442695040888963407)) (2^(min (33:Int).toNat IntKind.i64.bits))) ^^^ BitVec.ofInt (IntKind.i64.bits) (Int.fdiv (i64.wrap ((i64.wrap (j.h*6364136223846793005))+1442695040888963407)) (2^(min (47:Int).toNat IntKind.i64.bits)))).toNat)&&&BitVec.ofInt (IntKind.i64.bits) 255).toNat)+(i64.wrap x5)))&&&BitVec.ofInt (IntKind.i64.bits) 255).toNat)else some (j.i,i64.wrap ((i64.wrap (j.h*6364136223846793005))+1442695040888963407),i64.wrap (BitVec.ofInt (IntKind.i64.bits) (i64.wrap (BitVec.ofInt (IntKind.i64.bits) (Int.fdiv (i64.wrap ((i64.wrap (j.h*6364136223846793005))+1442695040888963407)) (2^(min (33:Int).toNat IntKind.i64.bits))) ^^^ BitVec.ofInt (IntKind.i64.bits) (Int.fdiv (i64.wrap ((i64.wrap (j.h*6364136223846793005))+1442695040888963407)) (2^(min (47:Int).toNat IntKind.i64.bits)))).toNat)&&&BitVec.ofInt (IntKind.i64.bits) 255).toNat)
def aK(j:M.bI)(C:Int):Option (Int×Int×Int):=
 if decide (C<=0)then some (j.i,j.h,0)else if decide (C<=256)then(yB j).bind λx7=>if decide (C=0)then none else some (x7.1,x7.2.1,Int.tmod x7.2.2 C)else(yB j).bind λI=>(yB ⟨j.b,I.1,I.2.1⟩).bind λJ=>(yB ⟨j.b,J.1,J.2.1⟩).bind λU=>if decide (C=0)then none else some (U.1,U.2.1,Int.tmod (i64.wrap ((i64.wrap ((i64.wrap (I.2.2*65536))+(i64.wrap (J.2.2*256))))+U.2.2)) C)
def bG(j:Int)(C:Int)(I:Int):Option Bool:=
 if decide (j>=C)then some (decide (j<=I))else some false
def zG  :Option (List ByteArray):=
 some ([⟨#[98,97,110,107]⟩,⟨#[110,101,119,115]⟩,⟨#[115,104,111,112]⟩])
def CH(U:Int)(x4:(List ByteArray)):Nat->Int->List M.aLa->List M.aLj->Option M.aD
 |0,_,_,_=>none
 |ah+1,J,C,I=>if decide (J<(List.length x4:Int))then(idx x4 J).bind λj=>(app 56 C ([(⟨j,1,[(⟨#[99,111,100,101]⟩:ByteArray),(⟨#[100,97,116,97]⟩:ByteArray),(⟨#[105,110,100,101,120]⟩:ByteArray),(⟨#[115,116,121,108,101]⟩:ByteArray)],j.toList==(⟨#[110,101,119,115]⟩:ByteArray).toList⟩:M.aLa)])).bind λai=>(app 96 I ([(⟨(⟨(⟨#[110,111,116,101,115]⟩:ByteArray),([]:List M.aLo),0⟩:M.aE),([]:List M.aQ),([]:List M.bR)⟩:M.aLj)])).bind λaj=>CH U x4 ah (i64.wrap (J+1)) (C++[(⟨j,1,[(⟨#[99,111,100,101]⟩:ByteArray),(⟨#[100,97,116,97]⟩:ByteArray),(⟨#[105,110,100,101,120]⟩:ByteArray),(⟨#[115,116,121,108,101]⟩:ByteArray)],j.toList==(⟨#[110,101,119,115]⟩:ByteArray).toList⟩:M.aLa)]) (I++[(⟨(⟨(⟨#[110,111,116,101,115]⟩:ByteArray),([]:List M.aLo),0⟩:M.aE),([]:List M.aQ),([]:List M.bR)⟩:M.aLj)])else some (⟨0,true,U,(⟨([]:List M.Bucket)⟩:M.aC),([]:List M.bO),1,(⟨([]:List M.uY)⟩:M.aT),(⟨([]:List M.Fy)⟩:M.aLe),C,I⟩:M.aD)
def CS(j:Int):Option M.aD:=
 (bG j 1 1000000).bind λx1=>(if !x1 then(some ⟨0,false,0,⟨[]⟩,[],0,⟨[]⟩,⟨[]⟩,[],[]⟩)else((zG).bind λx4=>(CH j x4 aH 0 [] [])))
def yD(j:M.aLb):Option M.aLb:=
 (app 1 [] j.aMN).bind λx1=>some j
def pN(C:M.aLi):Nat->Int->List M.aLr->Option M.aLi
 |0,_,_=>none
 |ah+1,J,I=>if decide (J<(List.length C.aLg:Int))then(idx C.aLg J).bind λj=>(yD j.aLb).bind λU=>(app 88 I ([(⟨j.aLa,j.aMF,U⟩:M.aLr)])).bind λai=>pN C ah (i64.wrap (J+1)) (I++[(⟨j.aLa,j.aMF,U⟩:M.aLr)])else some (⟨C.aLT,I⟩:M.aLi)
def CY(j:M.aLi):Option M.aLi:=
 pN j aH 0 []
def tZ(C:M.aJ):Nat->Int->List M.aLi->Option M.aJ
 |0,_,_=>none
 |U+1,I,j=>if decide (I<(List.length C.aLW:Int))then(idx C.aLW I).bind λah=>(CY ah).bind λJ=>(app 32 j ([J])).bind λai=>tZ C U (i64.wrap (I+1)) (j++[J])else some (⟨j⟩:M.aJ)
def eC(j:M.aJ):Option M.aJ:=
 tZ j aH 0 []
def cO(j:M.aF):Option M.aF:=
 (app 24 [] j.aLY).bind λx1=>some j
def B3(j:M.aLo):Option M.aLo:=
 (cO j.aF).bind λx1=>some ⟨j.Key,x1⟩
def xI(j:M.aE):Nat->Int->List M.aLo->Option M.aE
 |0,_,_=>none
 |U+1,I,C=>if decide (I<(List.length j.aLV:Int))then(idx j.aLV I).bind λah=>(B3 ah).bind λJ=>(app 56 C ([J])).bind λai=>xI j U (i64.wrap (I+1)) (C++[J])else some (⟨j.Name,C,j.aLx⟩:M.aE)
def cM(j:M.aE):Option M.aE:=
 xI j aH 0 []
def xJ(j:M.aLS):Nat->Int->List M.aE->Option M.aLS
 |0,_,_=>none
 |U+1,I,C=>if decide (I<(List.length j.aLc:Int))then(idx j.aLc I).bind λah=>(cM ah).bind λJ=>(app 48 C ([J])).bind λai=>xJ j U (i64.wrap (I+1)) (C++[J])else some (⟨j.Name,j.aLT,C,j.aLm⟩:M.aLS)
def fY(j:M.aLS):Option M.aLS:=
 (app 32 [] j.aLm).bind λx1=>xJ j aH 0 []
def Bb(j:M.bP):Option M.bP:=
 (fY j.aLq).bind λx1=>(app 1 [] j.Log).bind λx3=>some ⟨x1,j.Log,j.aL5⟩
def yE(j:M.aN):Option M.aN:=
 (app 72 [] j.aLl).bind λx1=>some j
def Bd(j:M.aLs):Option M.aLs:=
 (yE j.aN).bind λx1=>some ⟨x1,j.aL7,j.aLw⟩
def yG(j:M.aG):Option M.aG:=
 (cM j.aLq).bind λx1=>(Bd j.aLs).bind λx3=>some ⟨x1,j.aMG,x3⟩
def gU(j:M.Bucket):Option M.Bucket:=
 (eC j.aLW).bind λx1=>(Bb j.bP).bind λx3=>(yG j.aG).bind λx5=>some ⟨j.aLa,j.Top,j.aLU,x1,x3,x5,j.aL1,j.aLy⟩
def sR(C:M.aC):Nat->Int->List M.Bucket->Option M.aC
 |0,_,_=>none
 |U+1,I,j=>if decide (I<(List.length C.Buckets:Int))then(idx C.Buckets I).bind λah=>(gU ah).bind λJ=>(app 328 j ([J])).bind λai=>sR C U (i64.wrap (I+1)) (j++[J])else some (⟨j⟩:M.aC)
def gV(j:M.aC):Option M.aC:=
 sR j aH 0 []
def Aq(j:List M.aZ):Option (List M.aZ):=
 (app 40 [] j).bind λx1=>some j
def Bf(j:M.aLX):Option M.aLX:=
 (Aq j.aLz).bind λx1=>(app 8 [] j.aMC).bind λx3=>some ⟨x1,j.Pc,j.aMC,j.aME,j.aMJ,j.aMI⟩
def mZ(j:M.bO):Option M.bO:=
 (app 24 [] j.aW).bind λx1=>(Bf j.aLX).bind λC=>some ⟨j.Id,j.aLa,j.Top,j.aLT,j.aW,C⟩
def Bj(j:M.aT):Option M.aT:=
 (app 32 [] j.aLk).bind λx1=>some j
def CB(j:M.aLe):Option M.aLe:=
 (app 24 [] j.aL8).bind λx1=>some j
def DQ(j:M.aLa):Option M.aLa:=
 (app 16 [] j.aL4).bind λx1=>some j
def iY(j:M.aLj):Option M.aLj:=
 (cM j.aE).bind λx1=>(app 16 [] j.aQ).bind λx3=>(app 72 [] j.aLv).bind λx5=>some ⟨x1,j.aQ,j.aLv⟩
def lV(j:M.aD)(x1:M.aC)(U:List M.bO)(ai:M.aT)(aj:M.aLe)(ak:List M.aLa):Nat->Int->List M.aLj->Option M.aD
 |0,_,_=>none
 |al+1,I,C=>if decide (I<(List.length j.aLh:Int))then(idx j.aLh I).bind λaf=>(iY af).bind λJ=>(app 96 C ([J])).bind λao=>lV j x1 U ai aj ak al (i64.wrap (I+1)) (C++[J])else some (⟨j.Now,j.aLt,j.aLZ,x1,U,j.aLd,ai,aj,ak,C⟩:M.aD)
def lZ(j:M.aD)(x1:M.aC)(J:List M.bO)(U:M.aT)(ah:M.aLe):Nat->Int->List M.aLa->Option M.aD
 |0,_,_=>none
 |aj+1,I,C=>if decide (I<(List.length j.aLp:Int))then(idx j.aLp I).bind λak=>(DQ ak).bind λai=>(app 56 C ([ai])).bind λal=>lZ j x1 J U ah aj (i64.wrap (I+1)) (C++[ai])else lV j x1 J U ah C aH 0 ([]:List M.aLj)
def oV(j:M.aD)(x1:M.aC):Nat->Int->List M.bO->Option M.aD
 |0,_,_=>none
 |U+1,I,C=>if decide (I<(List.length j.aLf:Int))then(idx j.aLf I).bind λah=>(mZ ah).bind λJ=>(app 144 C ([J])).bind λak=>oV j x1 U (i64.wrap (I+1)) (C++[J])else(Bj j.aLk).bind λai=>(CB j.aLe).bind λaj=>lZ j x1 C ai aj aH 0 ([]:List M.aLa)
def dJ(j:M.aD):Option M.aD:=
 (gV j.aC).bind λx1=>oV j x1 aH 0 []
def sS(C:List M.bO)(I:Int):Nat->Int->Option Int
 |0,_=>none
 |J+1,j=>if decide (j<(List.length C:Int))then(idx C j).bind λx6=>if x6.Id==I then some j else sS C I J (i64.wrap (j+1))else some (-1)
def DW(j:List M.bO)(C:Int):Option Int:=
 sS j C aH 0
def rZ(j:M.aD)(C:Int):Option Int:=
 (DW j.aLf C).bind λx1=>some x1
def sB(j:ByteArray):Nat->Int->Option Bool
 |0,_=>none
 |I+1,C=>if decide (C<(j.size:Int))then(aA0 j C).bind λx5=>if decide ((x5.toNat:Int)<97)then some false else if decide ((x5.toNat:Int)>122)then some false else sB j I (i64.wrap (C+1))else(bG (j.size:Int) 1 8).bind λJ=>some J
def cP(j:ByteArray):Option Bool:=
 sB j aH 0
def nK(j:M.aLa):Nat->Int->Option Bool
 |0,_=>none
 |I+1,C=>if decide (C<(List.length j.aL4:Int))then(idx j.aL4 C).bind λx6=>(cP x6).bind λJ=>if !J then some false else if decide (C>0)then(idx j.aL4 (i64.wrap (C-1))).bind λU=>if !(Op.bytesLess U.toList x6.toList)then some false else nK j I (i64.wrap (C+1))else nK j I (i64.wrap (C+1))else(cP j.Name).bind λah=>if ah then(bG j.aLT 1 1000000000000).bind λai=>if ai then(bG (List.length j.aL4:Int) 1 6).bind λaj=>some aj else some false else some false
def B6(j:M.aLa):Option Bool:=
 nK j aH 0
def lM(j:ByteArray):Nat->Int->Option Bool
 |0,_=>none
 |I+1,C=>if decide (C<(j.size:Int))then(aA0 j C).bind λx5=>if decide ((x5.toNat:Int)<97)then if decide ((x5.toNat:Int)<48)then some false else if decide ((x5.toNat:Int)>57)then some false else lM j I (i64.wrap (C+1))else if decide ((x5.toNat:Int)>122)then if decide ((x5.toNat:Int)<48)then some false else if decide ((x5.toNat:Int)>57)then some false else lM j I (i64.wrap (C+1))else lM j I (i64.wrap (C+1))else some (decide ((j.size:Int)<=12))
def Dc(j:ByteArray):Option Bool:=
 lM j aH 0
def gZ(j:M.bD):Option Bool:=
 (bG j.aLn 1 3).bind λx1=>if x1 then(bG j.N (-1000000000000) 1000000000000).bind λx4=>if x4 then if j.aLn !=2 then(Dc j.aLu).bind λx8=>if x8 then if j.aLn !=1 then some true else some (j.aLu.toList==(⟨#[]⟩:ByteArray).toList)else some false else if j.N==0 then(Dc j.aLu).bind λC=>if C then if j.aLn !=1 then some true else some (j.aLu.toList==(⟨#[]⟩:ByteArray).toList)else some false else some false else some false else some false
def mJ(j:M.bR):Option Bool:=
 (bG j.aLZ 1 1000000).bind λx1=>if x1 then(bG j.Seq 1 1000000).bind λx4=>if x4 then(gZ j.Key).bind λx7=>if x7 then(cP j.Field).bind λC=>if C then(bG j.N 0 1000000000).bind λI=>some I else some false else some false else some false else some false
def kK(j:M.aF):Nat->Int->Option Bool
 |0,_=>none
 |I+1,C=>if decide (C<(List.length j.aLY:Int))then(idx j.aLY C).bind λx6=>(cP x6.Name).bind λJ=>if !J then some false else(bG x6.N 0 1000000000).bind λU=>if !U then some false else if decide (C>0)then(idx j.aLY (i64.wrap (C-1))).bind λah=>if !(Op.bytesLess ah.Name.toList x6.Name.toList)then some false else kK j I (i64.wrap (C+1))else kK j I (i64.wrap (C+1))else some (decide ((List.length j.aLY:Int)<=6))
def cA(j:M.aF):Option Bool:=
 kK j aH 0
def Df(j:Bool)(C:Bool):Option Int:=
 if j then some (-1)else if C then some 1 else some 0
def bW(j:M.bD)(C:M.bD):Option Int:=
 (gZ j).bind λx1=>if !x1 then some 0 else(gZ C).bind λx4=>if !x4 then some 0 else if j.aLn !=C.aLn then(Df (decide (j.aLn<C.aLn)) true).bind λx8=>some x8 else if j.N !=C.N then(Df (decide (j.N<C.N)) true).bind λI=>some I else(Df (Op.bytesLess j.aLu.toList C.aLu.toList) (!(Op.bytesLess j.aLu.toList C.aLu.toList||j.aLu.toList==C.aLu.toList))).bind λJ=>some J
def mA(j:M.aE):Nat->Int->Option Bool
 |0,_=>none
 |I+1,C=>if decide (C<(List.length j.aLV:Int))then(idx j.aLV C).bind λx6=>(gZ x6.Key).bind λJ=>if !J then some false else(cA x6.aF).bind λU=>if !U then some false else if decide (C>0)then(idx j.aLV (i64.wrap (C-1))).bind λah=>(bW ah.Key x6.Key).bind λai=>if decide (ai>=0)then some false else mA j I (i64.wrap (C+1))else mA j I (i64.wrap (C+1))else(cP j.Name).bind λaj=>if aj then if decide ((List.length j.aLV:Int)<=16)then(bG j.aLx 0 1000000).bind λak=>some ak else some false else some false
def pH(j:M.aE):Option Bool:=
 mA j aH 0
def mK(j:M.aLj):Nat->Int->Option Bool
 |0,_=>none
 |I+1,C=>if decide (C<(List.length j.aLv:Int))then(idx j.aLv C).bind λJ=>(mJ J).bind λU=>if !U then some false else mK j I (i64.wrap (C+1))else(pH j.aE).bind λah=>if ah then if j.aE.Name.toList==(⟨#[110,111,116,101,115]⟩:ByteArray).toList then some (decide ((List.length j.aQ:Int)<=60))else some false else some false
def kL(j:M.aLj):Nat->Int->Option Bool
 |0,_=>none
 |I+1,C=>if decide (C<(List.length j.aQ:Int))then(idx j.aQ C).bind λx6=>(bG x6.aLZ 1 1000000).bind λJ=>if !J then some false else(bG x6.Seq 0 1000000).bind λU=>if !U then some false else if decide (C>0)then(idx j.aQ (i64.wrap (C-1))).bind λah=>if decide (ah.aLZ>=x6.aLZ)then some false else kL j I (i64.wrap (C+1))else kL j I (i64.wrap (C+1))else mK j aH 0
def uS(j:M.aLj):Option Bool:=
 kL j aH 0
def xC(j:M.bO):Nat->Int->Option Bool
 |0,_=>none
 |I+1,C=>if decide (C<(List.length j.aW:Int))then(idx j.aW C).bind λx6=>(cP x6.aMF).bind λJ=>if !J then some false else if x6.aLT !=j.aLT then some false else xC j I (i64.wrap (C+1))else(bG j.Id 1 1000000000000).bind λU=>if U then(cP j.aLa).bind λah=>if ah then(cP j.Top).bind λai=>if ai then(bG j.aLT 1 1000000000000).bind λaj=>if aj then some (decide ((List.length j.aW:Int)<=8))else some false else some false else some false else some false
def yA(j:M.bO):Option Bool:=
 xC j aH 0
def kC(C:M.aC)(I:ByteArray)(J:ByteArray):Nat->Int->Option Int
 |0,_=>none
 |U+1,j=>if decide (j<(List.length C.Buckets:Int))then(idx C.Buckets j).bind λx8=>if x8.aLa.toList==I.toList then if x8.Top.toList==J.toList then some j else kC C I J U (i64.wrap (j+1))else kC C I J U (i64.wrap (j+1))else some (-1)
def fB(j:M.aC)(C:ByteArray)(I:ByteArray):Option Int:=
 kC j C I aH 0
def cV(j:M.aLU):Nat->Int->Int->Option Bool
 |0,_,_=>none
 |J+1,U,I=>if decide (I<((3:Nat):Int))then(idx ([j.aMA,j.aL6,j.aL0]) I).bind λC=>(bG C 0 1000000000000).bind λaf=>if !af then some false else if C !=0 then if decide (C<=U)then some false else cV j J C (i64.wrap (I+1))else cV j J U (i64.wrap (I+1))else(cP j.aLa).bind λah=>some ah
def pB(j:M.aLU):Option Bool:=
 cV j aH 0 0
def BK(j:M.aLb):Option Bool:=
 (bG j.aMM 1 4).bind λx1=>if x1 then(bG j.aMD 0 999).bind λx4=>if x4 then(bG j.aLT 0 1000000000000).bind λx7=>if x7 then some (decide ((j.aMN.length:Int)<=60))else some false else some false else some false
def kA(I:List M.aLr)(J:Int)(x5:M.aLr)(C:Int->Option Bool):Nat->Int->Option Bool
 |0,_=>none
 |U+1,j=>if decide (j<J)then(idx I j).bind λah=>if ah.aLa.toList==x5.aLa.toList then if ah.aMF.toList==x5.aMF.toList then some false else kA I J x5 C U (i64.wrap (j+1))else kA I J x5 C U (i64.wrap (j+1))else C j
def fZ(j:List M.aLr):Nat->Int->Option Bool
 |0,_=>none
 |I+1,C=>if decide (C<(List.length j:Int))then(idx j C).bind λx5=>(cP x5.aLa).bind λJ=>if !J then some false else(cP x5.aMF).bind λU=>if !U then some false else(BK x5.aLb).bind λai=>if !ai then some false else kA j C x5 (λ(aa:Int)=>fZ j I (i64.wrap (C+1))) aH 0 else some (decide ((List.length j:Int)<=12))
def yI(j:List M.aLr):Option Bool:=
 fZ j aH 0
def fX(j:M.aJ):Nat->Int->Option Bool
 |0,_=>none
 |I+1,C=>if decide (C<(List.length j.aLW:Int))then(idx j.aLW C).bind λx6=>(bG x6.aLT 1 1000000000000).bind λJ=>if !J then some false else if decide (C>0)then(idx j.aLW (i64.wrap (C-1))).bind λU=>if decide (U.aLT>=x6.aLT)then some false else(yI x6.aLg).bind λah=>if !ah then some false else fX j I (i64.wrap (C+1))else(yI x6.aLg).bind λai=>if !ai then some false else fX j I (i64.wrap (C+1))else some (decide ((List.length j.aLW:Int)<=4))
def dA(j:M.aJ):Option Bool:=
 fX j aH 0
def oE(C:M.aLS)(I:ByteArray):Nat->Int->Option Int
 |0,_=>none
 |J+1,j=>if decide (j<(List.length C.aLc:Int))then(idx C.aLc j).bind λx7=>if x7.Name.toList==I.toList then some j else oE C I J (i64.wrap (j+1))else some (-1)
def nF(j:M.aLS)(C:ByteArray):Option Int:=
 oE j C aH 0
def vH(j:M.aF)(I:ByteArray):Nat->Int->Option (Int×Bool)
 |0,_=>none
 |J+1,C=>if decide (C<(List.length j.aLY:Int))then(idx j.aLY C).bind λx7=>if x7.Name.toList==I.toList then some (x7.N,true)else vH j I J (i64.wrap (C+1))else some (0,false)
def lC(j:M.aF)(C:ByteArray):Option (Int×Bool):=
 vH j C aH 0
def EU(j:M.aLo)(C:M.aLo)(I:ByteArray):Option Bool:=
 (lC j.aF I).bind λx1=>(lC C.aF I).bind λx3=>if decide (x1.1<x3.1)then some true else if x1.1==x3.1 then(bW j.Key C.Key).bind λx7=>some (decide (x7<0))else some false
def sO(U:ByteArray)(I:List M.aLo)(J:M.aLo)(C:Int->Option (List M.aLo)):Nat->Int->Option (List M.aLo)
 |0,_=>none
 |ai+1,j=>if decide (j>0)then(idx I (i64.wrap (j-1))).bind λaj=>(EU J aj U).bind λak=>if ak then sO U I J C ai (i64.wrap (j-1))else C j else C j
def oO(I:M.aE)(J:ByteArray):Nat->Int->List M.aLo->Option (List M.aLo)
 |0,_,_=>none
 |ai+1,U,j=>if decide (U<(List.length I.aLV:Int))then(idx I.aLV U).bind λaf=>(lC af.aF J).bind λaj=>if !aj.2 then oO I J ai (i64.wrap (U+1)) j else sO J j af (λ(C:Int)=>(CK j C).bind λal=>(app 56 ([]:List M.aLo) (List.take C.toNat j)).bind λao=>(B3 af).bind λah=>(app 56 (List.take C.toNat j) ([ah])).bind λaq=>(app 56 ((List.take C.toNat j)++[ah]) (List.drop C.toNat j)).bind λak=>oO I J ai (i64.wrap (U+1)) (((List.take C.toNat j)++[ah])++(List.drop C.toNat j))) aH (List.length j:Int)else some j
def DO(j:M.aE)(C:ByteArray):Option (List M.aLo):=
 oO j C aH 0 []
def oZ(C:ByteArray)(x1:(List M.aLo)):Nat->Int->Option (M.bD×M.bD×Bool)
 |0,_=>none
 |U+1,j=>if decide (j<(List.length x1:Int))then(idx x1 (i64.wrap (j-1))).bind λI=>(lC I.aF C).bind λah=>(idx x1 j).bind λJ=>(lC J.aF C).bind λai=>if ah.1==ai.1 then some (I.Key,J.Key,true)else oZ C x1 U (i64.wrap (j+1))else some ((⟨0,0,(⟨#[]⟩:ByteArray)⟩:M.bD),(⟨0,0,(⟨#[]⟩:ByteArray)⟩:M.bD),false)
def AK(C:M.aE)(j:ByteArray):Option (M.bD×M.bD×Bool):=
 (DO C j).bind λx1=>oZ j x1 aH 1
def iZ(U:M.aLS)(v4:Int)(C:M.aU)(I:Int->Option Bool):Nat->Int->Option Bool
 |0,_=>none
 |ai+1,j=>if decide (j<v4)then(idx U.aLm j).bind λJ=>if(J.aE.toList==C.aE.toList)&&(J.Field.toList==C.Field.toList)then some false else iZ U v4 C I ai (i64.wrap (j+1))else I j
def gD(j:M.aLS):Nat->Int->Option Bool
 |0,_=>none
 |U+1,I=>if decide (I<(List.length j.aLm:Int))then(idx j.aLm I).bind λC=>(nF j C.aE).bind λJ=>if decide (J<0)then some false else(cP C.Field).bind λai=>if !ai then some false else(idx j.aLc J).bind λaj=>(AK aj C.Field).bind λak=>if ak.2.2 then some false else iZ j I C (λ(af:Int)=>gD j U (i64.wrap (I+1))) aH 0 else(cP j.Name).bind λal=>if al then(bG j.aLT 0 1000).bind λao=>if ao then if decide ((List.length j.aLc:Int)<=4)then some (decide ((List.length j.aLm:Int)<=4))else some false else some false else some false
def gC(j:M.aLS):Nat->Int->Option Bool
 |0,_=>none
 |I+1,C=>if decide (C<(List.length j.aLc:Int))then(idx j.aLc C).bind λx6=>(pH x6).bind λJ=>if !J then some false else if decide (C>0)then(idx j.aLc (i64.wrap (C-1))).bind λU=>if !(Op.bytesLess U.Name.toList x6.Name.toList)then some false else gC j I (i64.wrap (C+1))else gC j I (i64.wrap (C+1))else gD j aH 0
def cR(j:M.aLS):Option Bool:=
 gC j aH 0
def pO(j:M.aN):Nat->Int->Option Bool
 |0,_=>none
 |J+1,C=>if decide (C<(List.length j.aLl:Int))then(idx j.aLl C).bind λI=>(mJ I).bind λU=>if !U then some false else if I.aLZ !=j.aLZ then some false else if I.Seq !=(i64.wrap ((i64.wrap (j.aL2-(List.length j.aLl:Int)))+C))then some false else pO j J (i64.wrap (C+1))else some true
def lF(j:M.aN):Option Bool:=
 (bG j.aLZ 1 1000000).bind λx1=>if !x1 then some false else(bG j.aL2 1 1000000).bind λx4=>if !x4 then some false else if decide ((j.aLl.length:Int)>20)then some false else pO j aH 0
def rU(j:M.aG):Option Bool:=
 (pH j.aLq).bind λx1=>if x1 then if j.aLq.Name.toList==(⟨#[110,111,116,101,115]⟩:ByteArray).toList then(bG j.aMG 0 1000000000000).bind λx5=>if x5 then(lF j.aLs.aN).bind λx8=>some x8 else some false else some false else some false
def BE(j:M.aLb)(C:Bool):Option Int:=
 if C then some 76 else some (i64.wrap (16+(j.aMN.length)))
def mI(p0:M.aJ)(v4:Int)(U:Int->Int->Option Int):Nat->Int->Int->Option Int
 |0,_,_=>none
 |ai+1,C,j=>(idx p0.aLW v4).bind λI=>if decide (j<(List.length I.aLg:Int))then(idx I.aLg j).bind λJ=>(BE J.aLb (J.aLb.aMM==3)).bind λaj=>mI p0 v4 U ai (i64.wrap (C+aj)) (i64.wrap (j+1))else U C j
def fV(j:M.aJ):Nat->Int->Int->Option Int
 |0,_,_=>none
 |U+1,I,C=>if decide (C<(List.length j.aLW:Int))then mI j C (λ(J:Int) (ae:Int)=>fV j U J (i64.wrap (C+1))) aH I 0 else some I
def Bt(j:M.aJ):Option Int:=
 fV j aH 0 0
def bU(j:M.bD):Nat->Int->List Int->Option (List Int)
 |0,_,_=>none
 |J+1,I,C=>if decide (I>=0)then if j.aLn !=2 then if decide (0<=(i64.wrap (8*I)))then(app 1 C ([IntKind.u8.wrap (i64.wrap (BitVec.ofInt (IntKind.i64.bits) (Int.fdiv (i64.wrap (j.N+1000000000000)) (2^(min (i64.wrap (8*I)).toNat IntKind.i64.bits)))&&&BitVec.ofInt (IntKind.i64.bits) 255).toNat)])).bind λU=>bU j J (i64.wrap (I-1)) (C++[IntKind.u8.wrap (i64.wrap (BitVec.ofInt (IntKind.i64.bits) (Int.fdiv (i64.wrap (j.N+1000000000000)) (2^(min (i64.wrap (8*I)).toNat IntKind.i64.bits)))&&&BitVec.ofInt (IntKind.i64.bits) 255).toNat)])else none else(app 1 C (bJ j.aLu)).bind λah=>some (C++(bJ j.aLu))else(app 1 C (bJ j.aLu)).bind λai=>some (C++(bJ j.aLu))
def nG(j:M.bD):Option (List Int):=
 (gZ j).bind λx1=>if !x1 then some []else bU j aH 5 ([IntKind.u8.wrap j.aLn])
def dI  :Nat->Int->List Int->Option (List Int)
 |0,_,_=>none
 |I+1,j,C=>if decide (j>127)then(app 1 C ([IntKind.u8.wrap (i64.wrap (BitVec.ofInt (IntKind.i64.bits) (i64.wrap (BitVec.ofInt (IntKind.i64.bits) j&&&BitVec.ofInt (IntKind.i64.bits) 127).toNat)|||BitVec.ofInt (IntKind.i64.bits) 128).toNat)])).bind λJ=>dI I (Int.fdiv j (2^(min (7:Int).toNat IntKind.i64.bits))) (C++[IntKind.u8.wrap (i64.wrap (BitVec.ofInt (IntKind.i64.bits) (i64.wrap (BitVec.ofInt (IntKind.i64.bits) j&&&BitVec.ofInt (IntKind.i64.bits) 127).toNat)|||BitVec.ofInt (IntKind.i64.bits) 128).toNat)])else(app 1 C ([IntKind.u8.wrap j])).bind λU=>some (C++[IntKind.u8.wrap j])
def cG(j:List Int)(C:Int):Option (List Int):=
 (app 1 [] j).bind λx1=>(bG C 0 1000000000000).bind λx7=>if !x7 then some j else dI aH C j
def cF(C:List Int)(j:List Int):Option (List Int):=
 (cG C (j.length)).bind λx1=>(app 1 x1 j).bind λx3=>some (x1++j)
def dP(j:M.aF):Nat->Int->List Int->Option (List Int)
 |0,_,_=>none
 |U+1,C,I=>if decide (C<(List.length j.aLY:Int))then(idx j.aLY C).bind λJ=>(cF I (bJ J.Name)).bind λah=>(cG ah J.N).bind λai=>dP j U (i64.wrap (C+1)) ai else some I
def iL(j:M.aF):Option (List Int):=
 (cA j).bind λx1=>if !x1 then some []else(cG [] (j.aLY.length)).bind λx4=>dP j aH 0 x4
def nU(j:M.aE):Nat->Int->Int->Option Int
 |0,_,_=>none
 |J+1,I,C=>if decide (C<(List.length j.aLV:Int))then(idx j.aLV C).bind λx7=>(nG x7.Key).bind λU=>(iL x7.aF).bind λaf=>nU j J (i64.wrap ((i64.wrap (I+(List.length U:Int)))+(List.length af:Int))) (i64.wrap (C+1))else some I
def Au(j:M.aE):Option Int:=
 nU j aH 0 0
def kI(j:M.aLS):Nat->Int->Int->Option Int
 |0,_,_=>none
 |J+1,I,C=>if decide (C<(List.length j.aLc:Int))then(idx j.aLc C).bind λx7=>(Au x7).bind λU=>kI j J (i64.wrap (I+U)) (i64.wrap (C+1))else some I
def zO(j:M.aLS):Option Int:=
 kI j aH 0 0
def EK(j:M.bP):Option Int:=
 (zO j.aLq).bind λx1=>some (i64.wrap (x1+(j.Log.length)))
def DZ(j:M.Bucket):Option Int:=
 (Bt j.aLW).bind λx1=>(EK j.bP).bind λx3=>(Au j.aG.aLq).bind λx5=>some (i64.wrap ((i64.wrap ((i64.wrap (x1+x3))+x5))+(i64.wrap (40*(j.aG.aLs.aN.aLl.length)))))
def rA(j:M.Bucket):Option Bool:=
 (cP j.aLa).bind λx1=>if x1 then(cP j.Top).bind λx4=>if x4 then(pB j.aLU).bind λx7=>if x7 then if j.aLU.aLa.toList==j.aLa.toList then(dA j.aLW).bind λC=>if C then(cR j.bP.aLq).bind λI=>if I then(rU j.aG).bind λJ=>if J then(bG j.aL1 0 1000000000000).bind λU=>if U then(DZ j).bind λai=>some (decide (ai<=2500))else some false else some false else some false else some false else some false else some false else some false else some false
def Cx(j:M.Bucket)(C:ByteArray)(I:ByteArray):Option Bool:=
 if Op.bytesLess j.aLa.toList C.toList then some true else if j.aLa.toList==C.toList then some (Op.bytesLess j.Top.toList I.toList)else some false
def iM(j:M.aC):Nat->Int->Option Bool
 |0,_=>none
 |I+1,C=>if decide (C<(List.length j.Buckets:Int))then(idx j.Buckets C).bind λx6=>(rA x6).bind λJ=>if !J then some false else if decide (C>0)then(idx j.Buckets (i64.wrap (C-1))).bind λU=>(Cx U x6.aLa x6.Top).bind λah=>if !ah then some false else iM j I (i64.wrap (C+1))else iM j I (i64.wrap (C+1))else some (decide ((List.length j.Buckets:Int)<=9))
def dD(j:M.aC):Option Bool:=
 iM j aH 0
def eQ(j:ByteArray):Nat->Int->Option Bool
 |0,_=>none
 |I+1,C=>if decide (C<(j.size:Int))then(aA0 j C).bind λx5=>if decide ((x5.toNat:Int)<97)then if(x5.toNat:Int) !=47 then some false else eQ j I (i64.wrap (C+1))else if decide ((x5.toNat:Int)>122)then if(x5.toNat:Int) !=47 then some false else eQ j I (i64.wrap (C+1))else eQ j I (i64.wrap (C+1))else(bG (j.size:Int) 1 30).bind λJ=>some J
def Bl(j:ByteArray):Option Bool:=
 eQ j aH 0
def dK(I:M.aT)(J:Int)(x6:M.uY)(C:Int->Option Bool):Nat->Int->Option Bool
 |0,_=>none
 |U+1,j=>if decide (j<J)then(idx I.aLk j).bind λah=>if x6.aMS then if ah.Name.toList==x6.Name.toList then if !ah.aMS then some false else if !x6.aL9 then some false else if !ah.aL9 then some false else dK I J x6 C U (i64.wrap (j+1))else dK I J x6 C U (i64.wrap (j+1))else dK I J x6 C U (i64.wrap (j+1))else C j
def hJ(j:M.aT):Nat->Int->Option Bool
 |0,_=>none
 |I+1,C=>if decide (C<(List.length j.aLk:Int))then(idx j.aLk C).bind λx6=>(Bl x6.Name).bind λJ=>if !J then some false else(bG x6.bO 1 1000000000000).bind λU=>if !U then some false else dK j C x6 (λ(aa:Int)=>hJ j I (i64.wrap (C+1))) aH 0 else some (decide ((List.length j.aLk:Int)<=12))
def A7(j:M.aT):Option Bool:=
 hJ j aH 0
def gL(j:M.aD):Nat->Int->Option Bool
 |0,_=>none
 |J+1,I=>if decide (I<(List.length j.aLf:Int))then(idx j.aLf I).bind λC=>(yA C).bind λU=>if !U then some false else if decide (C.Id>=j.aLd)then some false else if decide (I>0)then(idx j.aLf (i64.wrap (I-1))).bind λah=>if decide (ah.Id>=C.Id)then some false else(fB j.aC C.aLa C.Top).bind λai=>if decide (ai<0)then some false else gL j J (i64.wrap (I+1))else(fB j.aC C.aLa C.Top).bind λaj=>if decide (aj<0)then some false else gL j J (i64.wrap (I+1))else(bG j.Now 0 999999990000).bind λak=>if ak then(bG j.aLZ 1 1000000).bind λal=>if al then(dD j.aC).bind λao=>if ao then(bG j.aLd 1 1000000000000).bind λaq=>if aq then(A7 j.aLk).bind λar=>some ar else some false else some false else some false else some false
def oR(C:M.aD):Nat->Int->Option Bool
 |0,_=>none
 |I+1,j=>if decide (j<3)then((idx C.aLp j).bind λx9=>((B6 x9).bind λJ=>(if !J then(some false)else((zG).bind λU=>((idx U j).bind λah=>(if !(x9.Name.toList==ah.toList)then(some false)else((idx C.aLh j).bind λai=>((uS ai).bind λaj=>(if !aj then(some false)else(oR C I (i64.wrap (j+1))))))))))))else(gL C aH 0)
def lL(j:M.aD):Option Bool:=
 if(j.aLp.length:Int) !=3 then some false else if(j.aLh.length:Int) !=3 then some false else if decide ((j.aLf.length:Int)>6)then some false else oR j aH 0
def rR(I:List M.uY)(J:Int)(j:M.uY):Nat->Int->Option Bool
 |0,_=>none
 |U+1,C=>if decide (C<J)then(idx I C).bind λx8=>if x8.Name.toList==j.Name.toList then if !x8.aMS then some false else if !x8.aL9 then some false else if !j.aL9 then some false else rR I J j U (i64.wrap (C+1))else rR I J j U (i64.wrap (C+1))else some true
def Eo(j:List M.uY)(C:Int)(I:M.uY):Option Bool:=
 rR j C I aH 0
def gA  :Nat->Int->List M.uY->Option M.aT
 |0,_,_=>none
 |J+1,C,j=>if decide (C<(List.length j:Int))then(idx j C).bind λI=>if !I.aMS then(Eo j C I).bind λU=>if U then gA J (i64.wrap (C+1)) (List.set j C.toNat (⟨I.Name,I.bO,I.aL9,true⟩:M.uY))else gA J (i64.wrap (C+1)) j else gA J (i64.wrap (C+1)) j else some (⟨j⟩:M.aT)
def yU(j:M.aT):Option M.aT:=
 (Bj j).bind λx1=>gA aH 0 x1.aLk
def fT(C:M.aT)(U:Int):Nat->Int->List M.uY->Option M.aT
 |0,_,_=>none
 |af+1,I,j=>if decide (I<(List.length C.aLk:Int))then(idx C.aLk I).bind λJ=>if J.bO !=U then(app 32 j ([J])).bind λai=>fT C U af (i64.wrap (I+1)) (j++[J])else fT C U af (i64.wrap (I+1)) j else(yU (⟨j⟩:M.aT)).bind λah=>some ah
def zL(j:M.aT)(C:Int):Option M.aT:=
 fT j C aH 0 []
def lA(C:M.aLe)(U:Int):Nat->Int->List M.Fy->Option M.aLe
 |0,_,_=>none
 |af+1,I,j=>if decide (I<(List.length C.aL8:Int))then(idx C.aL8 I).bind λJ=>if J.To !=U then(app 24 j ([J])).bind λah=>lA C U af (i64.wrap (I+1)) (j++[J])else lA C U af (i64.wrap (I+1)) j else some (⟨j⟩:M.aLe)
def Cm(j:M.aLe)(C:Int):Option M.aLe:=
 lA j C aH 0 []
def Af(j:M.aD)(C:Int):Option (M.aD×Bool):=
 (dJ j).bind λx1=>(rZ j C).bind λx3=>(lL j).bind λx5=>if !x5 then some (x1,false)else if decide (x3<0)then some (x1,false)else(CK x1.aLf x3).bind λx9=>(Cn x1.aLf (i64.wrap (x3+1))).bind λU=>(app 144 (x1.aLf.take x3.toNat) (x1.aLf.drop (i64.wrap (x3+1)).toNat)).bind λah=>(zL j.aLk C).bind λI=>(Cm j.aLe C).bind λJ=>some (⟨x1.Now,x1.aLt,x1.aLZ,x1.aC,(x1.aLf.take x3.toNat)++(x1.aLf.drop (i64.wrap (x3+1)).toNat),x1.aLd,I,J,x1.aLp,x1.aLh⟩,true)
def kD(C:M.bI)(j:List ByteArray):Option (Int×Int×ByteArray):=
 (aK C (j.length)).bind λx5=>(idx j x5.2.2).bind λx7=>some (x5.1,x5.2.1,x7)
def CA(j:M.bI):Option (Int×Int×ByteArray):=
 (kD j ([⟨#[98,97,110,107]⟩,⟨#[110,101,119,115]⟩,⟨#[115,104,111,112]⟩])).bind λx4=>some (x4.1,x4.2.1,x4.2.2)
def dF(j:M.bI)(C:Int):Option (Int×Int×Bool):=
 (aK j C).bind λx5=>some (x5.1,x5.2.1,x5.2.2==0)
def eK(j:M.bI):Option (Int×Int×ByteArray):=
 (kD j ([⟨#[97]⟩,⟨#[98]⟩,⟨#[99]⟩,⟨#[100,111,110,101]⟩,⟨#[116,105,116,108,101]⟩])).bind λx4=>some (x4.1,x4.2.1,x4.2.2)
def C8(j:M.bI)(p1:Int):Option (Int×Int×M.aZ):=
 (aK j 9).bind λx5=>(aK ⟨j.b,x5.1,x5.2.1⟩ 4).bind λx7=>if(i64.wrap (1+x5.2.2))==1 then(aK ⟨j.b,x7.1,x7.2.1⟩ 6).bind λC=>some (C.1,C.2.1,⟨i64.wrap (1+x5.2.2),x7.2.2,C.2.2,⟨#[]⟩⟩)else if(i64.wrap (1+x5.2.2))==2 then(aK ⟨j.b,x7.1,x7.2.1⟩ 4).bind λI=>some (I.1,I.2.1,⟨i64.wrap (1+x5.2.2),x7.2.2,I.2.2,⟨#[]⟩⟩)else if(i64.wrap (1+x5.2.2))==3 then(aK ⟨j.b,x7.1,x7.2.1⟩ (i64.wrap (p1+1))).bind λJ=>some (J.1,J.2.1,⟨i64.wrap (1+x5.2.2),x7.2.2,J.2.2,⟨#[]⟩⟩)else if(i64.wrap (1+x5.2.2))==4 then(aK ⟨j.b,x7.1,x7.2.1⟩ (i64.wrap (p1+1))).bind λU=>some (U.1,U.2.1,⟨i64.wrap (1+x5.2.2),0,U.2.2,⟨#[]⟩⟩)else if(i64.wrap (1+x5.2.2))==5 then(kD ⟨j.b,x7.1,x7.2.1⟩ ([⟨#[105,110,100,101,120]⟩,⟨#[115,116,121,108,101]⟩,⟨#[100,97,116,97]⟩])).bind λai=>some (ai.1,ai.2.1,⟨i64.wrap (1+x5.2.2),x7.2.2,0,ai.2.2⟩)else if(i64.wrap (1+x5.2.2))==6 then(aK ⟨j.b,x7.1,x7.2.1⟩ 4).bind λaj=>(eK ⟨j.b,aj.1,aj.2.1⟩).bind λak=>some (ak.1,ak.2.1,⟨i64.wrap (1+x5.2.2),x7.2.2,aj.2.2,ak.2.2⟩)else if(i64.wrap (1+x5.2.2))==7 then(aK ⟨j.b,x7.1,x7.2.1⟩ 4).bind λal=>(eK ⟨j.b,al.1,al.2.1⟩).bind λao=>some (ao.1,ao.2.1,⟨i64.wrap (1+x5.2.2),x7.2.2,al.2.2,ao.2.2⟩)else if(i64.wrap (1+x5.2.2))==8 then(aK ⟨j.b,x7.1,x7.2.1⟩ 4).bind λaq=>(eK ⟨j.b,aq.1,aq.2.1⟩).bind λar=>some (ar.1,ar.2.1,⟨i64.wrap (1+x5.2.2),x7.2.2,aq.2.2,ar.2.2⟩)else if(i64.wrap (1+x5.2.2))==9 then some (x7.1,x7.2.1,⟨i64.wrap (1+x5.2.2),0,0,⟨#[]⟩⟩)else some (x7.1,x7.2.1,⟨i64.wrap (1+x5.2.2),x7.2.2,0,⟨#[]⟩⟩)
def nO(U:M.bI)(x4:(Int×Int×Int)):Nat->Int->List M.aZ->Int->Int->Option (Int×Int×(List M.aZ))
 |0,_,_,_,_=>none
 |ah+1,v5,C,I,J=>if decide (v5<x4.2.2)then(C8 (⟨U.b,I,J⟩:M.bI) x4.2.2).bind λj=>(app 40 C ([j.2.2])).bind λai=>nO U x4 ah (i64.wrap (v5+1)) (C++[j.2.2]) j.1 j.2.1 else some (I,J,C)
def xG(j:M.bI):Option (Int×Int×(List M.aZ)):=
 (aK j 8).bind λx4=>nO j x4 aH 0 [] x4.1 x4.2.1
def rN(C:ByteArray)(x1:(List ByteArray)):Nat->Int->Option Int
 |0,_=>none
 |I+1,j=>if decide (j<(List.length x1:Int))then(idx x1 j).bind λx9=>if x9.toList==C.toList then some j else rN C x1 I (i64.wrap (j+1))else some (-1)
def tW(j:ByteArray):Option Int:=
 (zG).bind λx1=>rN j x1 aH 0
def B5(j:M.aD):Option Int:=
 some (i64.wrap ((i64.wrap (1000*j.aLZ))+j.aLd))
def rX(j:Int):Option (M.aN×Bool):=
 (lF ⟨j,1,[]⟩).bind λx1=>if !x1 then some (⟨0,0,[]⟩,false)else some (⟨j,1,[]⟩,true)
def xB(j:ByteArray)(C:ByteArray)(J:Int):Option (M.Bucket×Bool):=
 (rX J).bind λx1=>if !x1.2 then some (⟨⟨#[]⟩,⟨#[]⟩,⟨⟨#[]⟩,0,0,0⟩,⟨[]⟩,⟨⟨⟨#[]⟩,0,[],[]⟩,[],0⟩,⟨⟨⟨#[]⟩,[],0⟩,0,⟨⟨0,0,[]⟩,0,0⟩⟩,0,false⟩,false)else(rA ⟨j,C,⟨j,0,0,0⟩,⟨[]⟩,⟨⟨⟨#[97,112,112]⟩,1,[⟨⟨#[110,111,116,101,115]⟩,[],0⟩],[]⟩,[],0⟩,⟨⟨⟨#[110,111,116,101,115]⟩,[],0⟩,0,⟨x1.1,0,0⟩⟩,0,false⟩).bind λI=>if !I then some (⟨⟨#[]⟩,⟨#[]⟩,⟨⟨#[]⟩,0,0,0⟩,⟨[]⟩,⟨⟨⟨#[]⟩,0,[],[]⟩,[],0⟩,⟨⟨⟨#[]⟩,[],0⟩,0,⟨⟨0,0,[]⟩,0,0⟩⟩,0,false⟩,false)else some (⟨j,C,⟨j,0,0,0⟩,⟨[]⟩,⟨⟨⟨#[97,112,112]⟩,1,[⟨⟨#[110,111,116,101,115]⟩,[],0⟩],[]⟩,[],0⟩,⟨⟨⟨#[110,111,116,101,115]⟩,[],0⟩,0,⟨x1.1,0,0⟩⟩,0,false⟩,true)
def nY(C:M.aC)(I:M.Bucket)(x1:M.aC):Nat->Int->Option (M.aC×Bool)
 |0,_=>none
 |al+1,j=>if decide (j<(List.length C.Buckets:Int))then(idx C.Buckets j).bind λao=>(Cx ao I.aLa I.Top).bind λaq=>if aq then nY C I x1 al (i64.wrap (j+1))else(CK x1.Buckets j).bind λbd=>(app 328 ([]:List M.Bucket) (List.take j.toNat x1.Buckets)).bind λbf=>(gU I).bind λU=>(app 328 (List.take j.toNat x1.Buckets) ([U])).bind λbg=>(app 328 ((List.take j.toNat x1.Buckets)++[U]) (List.drop j.toNat x1.Buckets)).bind λbh=>(dD C).bind λar=>if !ar then(gV C).bind λav=>some (av,false)else(dD (⟨((List.take j.toNat x1.Buckets)++[U])++(List.drop j.toNat x1.Buckets)⟩:M.aC)).bind λaw=>if !aw then(gV C).bind λaf=>some (af,false)else some ((⟨((List.take j.toNat x1.Buckets)++[U])++(List.drop j.toNat x1.Buckets)⟩:M.aC),true)else(CK x1.Buckets j).bind λax=>(app 328 ([]:List M.Bucket) (List.take j.toNat x1.Buckets)).bind λay=>(gU I).bind λJ=>(app 328 (List.take j.toNat x1.Buckets) ([J])).bind λaz=>(app 328 ((List.take j.toNat x1.Buckets)++[J]) (List.drop j.toNat x1.Buckets)).bind λba=>(dD C).bind λah=>if !ah then(gV C).bind λai=>some (ai,false)else(dD (⟨((List.take j.toNat x1.Buckets)++[J])++(List.drop j.toNat x1.Buckets)⟩:M.aC)).bind λaj=>if !aj then(gV C).bind λak=>some (ak,false)else some ((⟨((List.take j.toNat x1.Buckets)++[J])++(List.drop j.toNat x1.Buckets)⟩:M.aC),true)
def iN(j:M.aC)(C:M.Bucket):Option (M.aC×Bool):=
 (gV j).bind λx1=>(fB j C.aLa C.Top).bind λx3=>if decide (x3>=0)then(gU C).bind λx6=>(idx x1.Buckets x3).bind λx8=>(dD j).bind λI=>if !I then(gV j).bind λJ=>some (J,false)else(dD ⟨x1.Buckets.set x3.toNat x6⟩).bind λU=>if !U then(gV j).bind λah=>some (ah,false)else some (⟨x1.Buckets.set x3.toNat x6⟩,true)else nY j C x1 aH 0
def sZ(j:M.aLU)(C:M.aLa)(I:Bool):Option Int:=
 if j.aMA !=0 then some j.aMA else if I then some C.aLT else some 0
def A9(j:M.aZ)(p1:Int):Option Bool:=
 (if j.aLn==5 then some true else(bG j.aLn 6 8).bind λx9=>some x9).bind λx1=>(if j.aLn==1 then some 1000 else if j.aLn==2 then some 3 else(if j.aLn==3 then some (j.aLn==3)else some (j.aLn==4)).bind λC=>if C then some p1 else(if j.aLn==6 then some (j.aLn==6)else if j.aLn==7 then some (j.aLn==7)else some (j.aLn==8)).bind λI=>if I then some 100 else some 0).bind λJ=>((bG j.aLn 1 9).bind λU=>if !U then some true else(bG j.R 0 3).bind λai=>if !ai then some true else(bG j.N 0 J).bind λaj=>some (!aj)).bind λak=>if ak then some false else(if j.aLn==4 then some (j.R !=0)else if j.aLn==9 then some (j.R !=0)else some false).bind λal=>if al then some false else(if x1 then(cP j.aLu).bind λao=>if ao then some true else some false else some (j.aLu.toList==(⟨#[]⟩:ByteArray).toList)).bind λaq=>some aq
def pW(j:List M.aZ):Nat->Int->Option Bool
 |0,_=>none
 |I+1,C=>if decide (C<(List.length j:Int))then(idx j C).bind λx5=>(A9 x5 (List.length j:Int)).bind λJ=>if !J then some false else pW j I (i64.wrap (C+1))else some (decide ((List.length j:Int)<=16))
def C9(j:List M.aZ):Option Bool:=
 pW j aH 0
def BM(j:List M.aZ):Option M.aLX:=
 (C9 j).bind λx8=>if !x8 then some ⟨[],0,[0,0,0,0],0,true,false⟩else(Aq j).bind λC=>some ⟨C,0,[0,0,0,0],0,false,false⟩
def nI(j:Int)(C:ByteArray)(I:ByteArray)(J:Int)(U:List M.aZ):Option (M.bO×Bool):=
 (BM U).bind λx1=>(yA ⟨j,C,I,J,[],x1⟩).bind λx3=>if !x3 then some (⟨0,⟨#[]⟩,⟨#[]⟩,0,[],⟨[],0,[],0,false,false⟩⟩,false)else some (⟨j,C,I,J,[],x1⟩,true)
def dB  :Option M.aLb:=
 some ⟨4,0,0,[],false⟩
def nQ(C:M.aJ)(I:Int):Nat->Int->Option Int
 |0,_=>none
 |J+1,j=>if decide (j<(List.length C.aLW:Int))then(idx C.aLW j).bind λx7=>if x7.aLT==I then some j else nQ C I J (i64.wrap (j+1))else some (-1)
def AG(j:M.aJ)(C:Int):Option Int:=
 nQ j C aH 0
def pD(C:M.aLi)(I:ByteArray)(J:ByteArray):Nat->Int->Option Int
 |0,_=>none
 |U+1,j=>if decide (j<(List.length C.aLg:Int))then(idx C.aLg j).bind λx8=>if x8.aLa.toList==I.toList then if x8.aMF.toList==J.toList then some j else pD C I J U (i64.wrap (j+1))else pD C I J U (i64.wrap (j+1))else some (-1)
def Cu(j:M.aLi)(C:ByteArray)(I:ByteArray):Option Int:=
 pD j C I aH 0
def BB(C:M.aJ)(p1:Int)(p2:ByteArray)(p3:ByteArray):Option (M.aLb×Bool):=
 (AG C p1).bind λx1=>(if decide (x1<0)then((dB).bind λx4=>(some (x4,false)))else((idx C.aLW x1).bind λx6=>((Cu x6 p2 p3).bind λj=>(if decide (j<0)then((dB).bind λI=>(some (I,false)))else((idx x6.aLg j).bind λJ=>((yD J.aLb).bind λU=>(some (U,true))))))))
def AA(j:Int)(C:Int):Option Int:=
 if decide (C>j)then some C else some j
def xT(j:M.aLa)(C:Int):Option Bool:=
 (B6 j).bind λx1=>if x1 then(AA 1 (i64.wrap ((i64.wrap (j.aLT-2))+1))).bind λx4=>(bG C x4 j.aLT).bind λx6=>some x6 else some false
def sW(j:M.aLa)(I:ByteArray):Nat->Int->Option Bool
 |0,_=>none
 |J+1,C=>if decide (C<(List.length j.aL4:Int))then(idx j.aL4 C).bind λx7=>if x7.toList==I.toList then some true else sW j I J (i64.wrap (C+1))else some false
def DE(j:M.aLa)(C:ByteArray):Option Bool:=
 sW j C aH 0
def kW(j:List Int):Nat->Int->List Int->Option (List Int)
 |0,_,_=>none
 |U+1,I,C=>if decide (I<(List.length j:Int))then(idx j I).bind λJ=>(app 8 C ([i64.wrap J])).bind λaf=>kW j U (i64.wrap (I+1)) (C++[i64.wrap J])else some C
def vX(j:List Int):Option (List Int):=
 kW j aH 0 ([j.length])
def Hy(C:Int)(j:Int):Option Int:=
 (bG j 1 1000000000000).bind λx1=>if !x1 then some 0 else if decide (j=0)then none else some (Int.tmod (i64.wrap ((Int.tmod C j)+j)) j)
def Bc(j:List Int):Nat->Int->Int->Option Int
 |0,_,_=>none
 |J+1,I,C=>if decide (C<(List.length j:Int))then(idx j C).bind λx6=>(Hy x6 2147483647).bind λU=>Bc j J (Int.tmod (i64.wrap ((i64.wrap ((i64.wrap (I*1000003))+U))+13)) 2147483647) (i64.wrap (C+1))else some I
def E8(j:List Int):Option Int:=
 Bc j aH 11 0
def Ap(j:Int)(C:List Int):Option Int:=
 (app 8 ([j]) C).bind λx1=>(app 8 ([j]++C) ([j])).bind λx3=>(E8 (([j]++C)++[j])).bind λx5=>some x5
def lT(j:Int)(C:ByteArray):Option Int:=
 (vX (bJ C)).bind λx1=>(Ap j x1).bind λx3=>(AA 1 x3).bind λx5=>some x5
def Al(x5:Int):Nat->Int->List Int->Option (List Int)
 |0,_,_=>none
 |I+1,j,C=>if decide (j>=0)then if decide (0<=(i64.wrap (8*j)))then(app 1 C ([IntKind.u8.wrap (i64.wrap (BitVec.ofInt (IntKind.i64.bits) (Int.fdiv x5 (2^(min (i64.wrap (8*j)).toNat IntKind.i64.bits)))&&&BitVec.ofInt (IntKind.i64.bits) 255).toNat)])).bind λJ=>Al x5 I (i64.wrap (j-1)) (C++[IntKind.u8.wrap (i64.wrap (BitVec.ofInt (IntKind.i64.bits) (Int.fdiv x5 (2^(min (i64.wrap (8*j)).toNat IntKind.i64.bits)))&&&BitVec.ofInt (IntKind.i64.bits) 255).toNat)])else none else some C
def Ez(j:M.aLa)(C:ByteArray)(I:Int):Option (List Int):=
 (lT 107 j.Name).bind λx1=>(lT 109 C).bind λx3=>(Ap (i64.wrap (1+I)) ([103,x1,x3])).bind λx5=>Al x5 aH 5 []
def Cp(j:M.aLa)(I:ByteArray)(C:Int):Option M.aLb:=
 (B6 j).bind λx1=>(if !x1 then((dB).bind λx4=>(some x4))else((xT j C).bind λx6=>(if !x6 then(some ⟨1,404,j.aLT,[],false⟩)else((DE j I).bind λx9=>(if !x9 then(some ⟨1,404,j.aLT,[],false⟩)else((Ez j I C).bind λJ=>(some ⟨1,200,C,J,j.aL9⟩)))))))
def mL(J:M.aJ)(j:M.aLa)(C:Int)(I:ByteArray)(U:Bool):Option M.aLb:=
 (BB J C j.Name I).bind λx1=>(if x1.2 then(some x1.1)else(if U then((Cp j I C).bind λx5=>(some x5))else((dB).bind λx7=>(some x7))))
def gJ(j:M.aD)(C:M.bO)(p2:ByteArray):Option M.aLb:=
 (fB j.aC C.aLa C.Top).bind λx1=>((tW C.aLa).bind λx3=>(if decide (x1<0)then((dB).bind λx6=>(some x6))else(if decide (x3<0)then((dB).bind λx9=>(some x9))else((idx j.aC.Buckets x1).bind λI=>((idx j.aLp x3).bind λJ=>((mL I.aLW J C.aLT p2 j.aLt).bind λU=>(some U)))))))
def kZ(j:M.bO)(I:ByteArray)(C:M.aLb):Option (M.bO×Bool):=
 (mZ j).bind λx1=>(app 24 x1.aW ([⟨I,C.aLT⟩])).bind λx3=>if C.aMD !=200 then(mZ j).bind λJ=>some (J,false)else if C.aLT !=j.aLT then(mZ j).bind λU=>some (U,false)else(yA j).bind λaf=>if !af then(mZ j).bind λah=>some (ah,false)else(yA ⟨x1.Id,x1.aLa,x1.Top,x1.aLT,x1.aW++[⟨I,C.aLT⟩],x1.aLX⟩).bind λai=>if !ai then(mZ j).bind λaj=>some (aj,false)else some (⟨x1.Id,x1.aLa,x1.Top,x1.aLT,x1.aW++[⟨I,C.aLT⟩],x1.aLX⟩,true)
def yW(j:M.aD)(J:ByteArray)(U:ByteArray)(p3:List M.aZ):Option (M.aD×Int×Bool):=
 (dJ j).bind λx1=>(tW J).bind λx3=>(lL j).bind λx5=>if !x5 then some (x1,0,false)else if decide (x3<0)then some (x1,0,false)else(tW U).bind λx9=>if decide (x9<0)then some (x1,0,false)else(B5 j).bind λbg=>(xB J U bg).bind λC=>(fB j.aC J U).bind λbf=>if decide (bf>=0)then(idx j.aC.Buckets bf).bind λbh=>(gU bh).bind λI=>(iN j.aC ⟨I.aLa,I.Top,I.aLU,I.aLW,I.bP,I.aG,j.Now,I.aLy⟩).bind λaj=>(idx j.aLp x3).bind λbj=>(sZ I.aLU bj j.aLt).bind λbl=>(nI j.aLd J U bl p3).bind λak=>if !aj.2 then(dJ j).bind λbm=>some (bm,0,false)else if !ak.2 then(dJ j).bind λbn=>some (bn,0,false)else(gJ ⟨x1.Now,x1.aLt,x1.aLZ,aj.1,x1.aLf,x1.aLd,x1.aLk,x1.aLe,x1.aLp,x1.aLh⟩ ak.1 ⟨#[105,110,100,101,120]⟩).bind λbo=>(kZ ak.1 ⟨#[105,110,100,101,120]⟩ bo).bind λal=>(app 144 x1.aLf ([al.1])).bind λbt=>if !al.2 then(dJ j).bind λbq=>some (bq,0,false)else(lL ⟨x1.Now,x1.aLt,x1.aLZ,aj.1,x1.aLf++[al.1],i64.wrap (j.aLd+1),x1.aLk,x1.aLe,x1.aLp,x1.aLh⟩).bind λao=>if !ao then(dJ j).bind λaq=>some (aq,0,false)else some (⟨x1.Now,x1.aLt,x1.aLZ,aj.1,x1.aLf++[al.1],i64.wrap (j.aLd+1),x1.aLk,x1.aLe,x1.aLp,x1.aLh⟩,ak.1.Id,true)else(iN j.aC ⟨C.1.aLa,C.1.Top,C.1.aLU,C.1.aLW,C.1.bP,C.1.aG,j.Now,C.1.aLy⟩).bind λaa=>(idx j.aLp x3).bind λar=>(sZ C.1.aLU ar j.aLt).bind λav=>(nI j.aLd J U av p3).bind λae=>if !aa.2 then(dJ j).bind λaw=>some (aw,0,false)else if !ae.2 then(dJ j).bind λax=>some (ax,0,false)else(gJ ⟨x1.Now,x1.aLt,x1.aLZ,aa.1,x1.aLf,x1.aLd,x1.aLk,x1.aLe,x1.aLp,x1.aLh⟩ ae.1 ⟨#[105,110,100,101,120]⟩).bind λay=>(kZ ae.1 ⟨#[105,110,100,101,120]⟩ ay).bind λaf=>(app 144 x1.aLf ([af.1])).bind λbr=>if !af.2 then(dJ j).bind λaz=>some (az,0,false)else(lL ⟨x1.Now,x1.aLt,x1.aLZ,aa.1,x1.aLf++[af.1],i64.wrap (j.aLd+1),x1.aLk,x1.aLe,x1.aLp,x1.aLh⟩).bind λba=>if !ba then(dJ j).bind λbd=>some (bd,0,false)else some (⟨x1.Now,x1.aLt,x1.aLZ,aa.1,x1.aLf++[af.1],i64.wrap (j.aLd+1),x1.aLk,x1.aLe,x1.aLp,x1.aLh⟩,ae.1.Id,true)
def gY(j:M.bI):Nat->Int->Int->Bool->Int->Int->Int->Int->List M.Bucket->List M.bO->List M.uY->List M.Fy->List M.aLa->List M.aLj->Option (Int×Int×M.aD)
 |0,_,_,_,_,_,_,_,_,_,_,_,_,_=>none
 |bn+1,v4,av,aw,ax,ar,ak,al,ae,af,ah,ai,aa,aj=>if decide (v4>0)then(aK (⟨j.b,ak,al⟩:M.bI) 6).bind λC=>if C.2.2==0 then(aK (⟨j.b,C.1,C.2.1⟩:M.bI) (i64.wrap (ar+1))).bind λbo=>(Af (⟨av,aw,ax,(⟨ae⟩:M.aC),af,ar,(⟨ah⟩:M.aT),(⟨ai⟩:M.aLe),aa,aj⟩:M.aD) bo.2.2).bind λU=>gY j bn (i64.wrap (v4-1)) U.1.Now U.1.aLt U.1.aLZ U.1.aLd bo.1 bo.2.1 U.1.aC.Buckets U.1.aLf U.1.aLk.aLk U.1.aLe.aL8 U.1.aLp U.1.aLh else if C.2.2==1 then(aK (⟨j.b,C.1,C.2.1⟩:M.bI) 5).bind λbq=>gY j bn (i64.wrap (v4-1)) (i64.wrap (av+bq.2.2)) aw ax ar bq.1 bq.2.1 ae af ah ai aa aj else if C.2.2==2 then(aK (⟨j.b,C.1,C.2.1⟩:M.bI) 3).bind λbf=>(aK (⟨j.b,bf.1,bf.2.1⟩:M.bI) 3).bind λbg=>(idx aa bf.2.2).bind λbh=>gY j bn (i64.wrap (v4-1)) av aw ax ar bg.1 bg.2.1 ae af ah ai (List.set aa bf.2.2.toNat (⟨bh.Name,i64.wrap (1+bg.2.2),bh.aL4,bh.aL9⟩:M.aLa)) aj else(CA (⟨j.b,C.1,C.2.1⟩:M.bI)).bind λaz=>(dF (⟨j.b,az.1,az.2.1⟩:M.bI) 3).bind λba=>if ba.2.2 then(CA (⟨j.b,ba.1,ba.2.1⟩:M.bI)).bind λbj=>(xG (⟨j.b,bj.1,bj.2.1⟩:M.bI)).bind λbl=>(yW (⟨av,aw,ax,(⟨ae⟩:M.aC),af,ar,(⟨ah⟩:M.aT),(⟨ai⟩:M.aLe),aa,aj⟩:M.aD) az.2.2 bj.2.2 bl.2.2).bind λI=>gY j bn (i64.wrap (v4-1)) I.1.Now I.1.aLt I.1.aLZ I.1.aLd bl.1 bl.2.1 I.1.aC.Buckets I.1.aLf I.1.aLk.aLk I.1.aLe.aL8 I.1.aLp I.1.aLh else(xG (⟨j.b,ba.1,ba.2.1⟩:M.bI)).bind λbm=>(yW (⟨av,aw,ax,(⟨ae⟩:M.aC),af,ar,(⟨ah⟩:M.aT),(⟨ai⟩:M.aLe),aa,aj⟩:M.aD) az.2.2 az.2.2 bm.2.2).bind λJ=>gY j bn (i64.wrap (v4-1)) J.1.Now J.1.aLt J.1.aLZ J.1.aLd bm.1 bm.2.1 J.1.aC.Buckets J.1.aLf J.1.aLk.aLk J.1.aLe.aL8 J.1.aLp J.1.aLh else some (ak,al,(⟨av,aw,ax,(⟨ae⟩:M.aC),af,ar,(⟨ah⟩:M.aT),(⟨ai⟩:M.aLe),aa,aj⟩:M.aD))
def CO(C:M.bI):Option (Int×Int×M.aD):=
 (aK C 3).bind λx4=>(CS (i64.wrap (1+x4.2.2))).bind λx6=>(aK ⟨C.b,x4.1,x4.2.1⟩ 5).bind λj=>gY C aH j.2.2 x6.Now x6.aLt x6.aLZ x6.aLd j.1 j.2.1 x6.aC.Buckets x6.aLf x6.aLk.aLk x6.aLe.aL8 x6.aLp x6.aLh
def fN(j:Int)(C:Int):Option Int:=
 if decide (C<j)then some C else some j
def xF(j:Int):Option Int:=
 (fN 1000 j).bind λx1=>(AA (-1) x1).bind λx3=>some x3
def AX(C:M.aLX)(j:M.aZ):Option M.Ask:=
 if j.aLn==5 then some ⟨1,j.R,0,j.aLu,0⟩else if j.aLn==6 then some ⟨2,j.R,j.N,j.aLu,0⟩else if j.aLn==7 then(idx C.aMC j.R).bind λx4=>some ⟨3,0,j.N,j.aLu,x4⟩else if j.aLn==8 then(idx C.aMC j.R).bind λI=>some ⟨4,0,j.N,j.aLu,I⟩else some ⟨0,0,0,⟨#[]⟩,0⟩
def eR(x1:M.aLX):Nat->Int->Int->List Int->Option (M.aLX×M.Ask)
 |0,_,_,_=>none
 |U+1,J,I,C=>(bG J 0 (i64.wrap ((List.length x1.aLz:Int)-1))).bind λai=>if !ai then some ((⟨x1.aLz,J,C,I,true,x1.aMI⟩:M.aLX),(⟨0,0,0,(⟨#[]⟩:ByteArray),0⟩:M.Ask))else(idx x1.aLz J).bind λj=>(A9 j (List.length x1.aLz:Int)).bind λaj=>if !aj then some ((⟨x1.aLz,J,C,I,true,x1.aMI⟩:M.aLX),(⟨0,0,0,(⟨#[]⟩:ByteArray),0⟩:M.Ask))else if decide (I>=60)then some ((⟨x1.aLz,J,C,I,true,x1.aMI⟩:M.aLX),(⟨0,0,0,(⟨#[]⟩:ByteArray),0⟩:M.Ask))else if j.aLn==1 then(idx C j.R).bind λay=>eR x1 U (i64.wrap (J+1)) (i64.wrap (I+1)) (List.set C j.R.toNat j.N)else if j.aLn==2 then(idx C j.R).bind λak=>(xF ak).bind λal=>(idx C j.N).bind λao=>(xF ao).bind λaq=>(xF (i64.wrap (al+aq))).bind λar=>eR x1 U (i64.wrap (J+1)) (i64.wrap (I+1)) (List.set C j.R.toNat ar)else if j.aLn==3 then(idx C j.R).bind λav=>if av==0 then eR x1 U j.N (i64.wrap (I+1)) C else eR x1 U (i64.wrap (J+1)) (i64.wrap (I+1)) C else if j.aLn==4 then eR x1 U j.N (i64.wrap (I+1)) C else if j.aLn==9 then some ((⟨x1.aLz,i64.wrap (J+1),C,i64.wrap (I+1),true,x1.aMI⟩:M.aLX),(⟨0,0,0,(⟨#[]⟩:ByteArray),0⟩:M.Ask))else if j.aLn==5 then(AX (⟨x1.aLz,i64.wrap (J+1),C,i64.wrap (I+1),x1.aMJ,true⟩:M.aLX) j).bind λaw=>some ((⟨x1.aLz,i64.wrap (J+1),C,i64.wrap (I+1),x1.aMJ,true⟩:M.aLX),aw)else(AX (⟨x1.aLz,i64.wrap (J+1),C,i64.wrap (I+1),x1.aMJ,j.aLn==6⟩:M.aLX) j).bind λax=>some ((⟨x1.aLz,i64.wrap (J+1),C,i64.wrap (I+1),x1.aMJ,j.aLn==6⟩:M.aLX),ax)
def BV(j:M.aLX):Option (M.aLX×M.Ask):=
 (Bf j).bind λx1=>if j.aMJ then some (x1,⟨0,0,0,⟨#[]⟩,0⟩)else if j.aMI then some (x1,⟨0,0,0,⟨#[]⟩,0⟩)else if(j.aMC.length:Int) !=4 then some (x1,⟨0,0,0,⟨#[]⟩,0⟩)else if decide (j.aME<0)then some (x1,⟨0,0,0,⟨#[]⟩,0⟩)else eR x1 aH x1.Pc x1.aME x1.aMC
def rH(j:M.aLX)(C:Int)(I:Int):Option (M.aLX×Bool):=
 (Bf j).bind λx1=>if !j.aMI then some (x1,false)else(bG C 0 (i64.wrap (j.aMC.length-1))).bind λx4=>if !x4 then some (x1,false)else(bG I (-1) 1000).bind λx7=>if !x7 then some (x1,false)else(idx x1.aMC C).bind λJ=>some (⟨x1.aLz,x1.Pc,x1.aMC.set C.toNat I,x1.aME,x1.aMJ,false⟩,true)
def fD(J:List Int)(C:Int):Nat->Int->Int->Option (Int×Int×Bool)
 |0,_,_=>none
 |U+1,I,j=>if decide (j<6)then if decide (C<0)then some (0,0,false)else if decide (C>=(i64.wrap ((List.length J:Int)-j)))then some (0,0,false)else(idx J (i64.wrap (C+j))).bind λx9=>if decide (0<=(i64.wrap (7*j)))then if decide ((i64.wrap x9)<128)then if(i64.wrap x9)==0 then if decide (j>0)then some (0,0,false)else if decide ((i64.wrap (BitVec.ofInt (IntKind.i64.bits) I|||BitVec.ofInt (IntKind.i64.bits) (i64.wrap ((i64.wrap (BitVec.ofInt (IntKind.i64.bits) (i64.wrap x9)&&&BitVec.ofInt (IntKind.i64.bits) 127).toNat)*2^(min (i64.wrap (7*j)).toNat IntKind.i64.bits)))).toNat)>1000000000000)then some (0,0,false)else some (i64.wrap (BitVec.ofInt (IntKind.i64.bits) I|||BitVec.ofInt (IntKind.i64.bits) (i64.wrap ((i64.wrap (BitVec.ofInt (IntKind.i64.bits) (i64.wrap x9)&&&BitVec.ofInt (IntKind.i64.bits) 127).toNat)*2^(min (i64.wrap (7*j)).toNat IntKind.i64.bits)))).toNat,i64.wrap ((i64.wrap (C+j))+1),true)else if decide ((i64.wrap (BitVec.ofInt (IntKind.i64.bits) I|||BitVec.ofInt (IntKind.i64.bits) (i64.wrap ((i64.wrap (BitVec.ofInt (IntKind.i64.bits) (i64.wrap x9)&&&BitVec.ofInt (IntKind.i64.bits) 127).toNat)*2^(min (i64.wrap (7*j)).toNat IntKind.i64.bits)))).toNat)>1000000000000)then some (0,0,false)else some (i64.wrap (BitVec.ofInt (IntKind.i64.bits) I|||BitVec.ofInt (IntKind.i64.bits) (i64.wrap ((i64.wrap (BitVec.ofInt (IntKind.i64.bits) (i64.wrap x9)&&&BitVec.ofInt (IntKind.i64.bits) 127).toNat)*2^(min (i64.wrap (7*j)).toNat IntKind.i64.bits)))).toNat,i64.wrap ((i64.wrap (C+j))+1),true)else fD J C U (i64.wrap (BitVec.ofInt (IntKind.i64.bits) I|||BitVec.ofInt (IntKind.i64.bits) (i64.wrap ((i64.wrap (BitVec.ofInt (IntKind.i64.bits) (i64.wrap x9)&&&BitVec.ofInt (IntKind.i64.bits) 127).toNat)*2^(min (i64.wrap (7*j)).toNat IntKind.i64.bits)))).toNat) (i64.wrap (j+1))else none else some (0,0,false)
def gW(j:List Int)(C:Int):Option (Int×Int×Bool):=
 fD j C aH 0 0
def fA(j:List Int)(C:Int)(I:Int):Option ((List Int)×Int×Bool):=
 (gW j C).bind λx1=>if !x1.2.2 then some ([],0,false)else if decide (x1.1>I)then some ([],0,false)else if decide (x1.1>(i64.wrap (j.length-x1.2.1)))then some ([],0,false)else(SU j x1.2.1 (i64.wrap (x1.2.1+x1.1))).bind λx6=>(app 1 [] (List.drop x1.2.1.toNat (j.take (i64.wrap (x1.2.1+x1.1)).toNat))).bind λx8=>some (List.drop x1.2.1.toNat (j.take (i64.wrap (x1.2.1+x1.1)).toNat),i64.wrap (x1.2.1+x1.1),true)
def Bs(j:Int)(C:List Int):Option Int:=
 (vX C).bind λx1=>(app 8 ([101,j]) x1).bind λx3=>(E8 ([101,j]++x1)).bind λx5=>some x5
def yQ(J:List Int):Nat->Int->List (List Int)->Option ((List (List Int))×Int)
 |0,_,_=>none
 |ah+1,C,j=>if decide (C<(List.length J:Int))then(fA J C 4000).bind λI=>if !I.2.2 then some (j,C)else(gW J I.2.1).bind λU=>if !U.2.2 then some (j,C)else(Bs (List.length j:Int) I.1).bind λai=>if U.1 !=ai then some (j,C)else(app 24 j ([I.1])).bind λaj=>yQ J ah U.2.1 (j++[I.1])else some (j,C)
def Ft(j:List Int):Option ((List (List Int))×Int):=
 yQ j aH 0 []
def nP(j:List Int)(x2:Int):Nat->Int->Int->Option (M.bD×Bool)
 |0,_,_=>none
 |J+1,C,I=>if decide (I<7)then(idx j I).bind λU=>nP j x2 J (i64.wrap (BitVec.ofInt (IntKind.i64.bits) (i64.wrap (C*2^(min (8:Int).toNat IntKind.i64.bits)))|||BitVec.ofInt (IntKind.i64.bits) (i64.wrap U)).toNat) (i64.wrap (I+1))else(Cn j 7).bind λah=>(toStr (List.drop (7:Int).toNat j)).bind λai=>(gZ (⟨i64.wrap x2,i64.wrap (C-1000000000000),bS (List.drop (7:Int).toNat j)⟩:M.bD)).bind λaf=>if !af then some ((⟨0,0,(⟨#[]⟩:ByteArray)⟩:M.bD),false)else some ((⟨i64.wrap x2,i64.wrap (C-1000000000000),bS (List.drop (7:Int).toNat j)⟩:M.bD),true)
def Ac(j:List Int):Option (M.bD×Bool):=
 if(j.length:Int)==0 then some (⟨0,0,⟨#[]⟩⟩,false)else(idx j 0).bind λx2=>if(i64.wrap x2) !=2 then if decide ((j.length:Int)<7)then some (⟨0,0,⟨#[]⟩⟩,false)else nP j x2 aH 0 1 else(Cn j 1).bind λI=>(toStr (j.drop (1:Int).toNat)).bind λJ=>(gZ ⟨i64.wrap x2,0,bS (j.drop (1:Int).toNat)⟩).bind λC=>if !C then some (⟨0,0,⟨#[]⟩⟩,false)else some (⟨i64.wrap x2,0,bS (j.drop (1:Int).toNat)⟩,true)
def xE(U:List Int)(x1:(Int×Int×Bool)):Nat->Int->Int->List M.aR->Option (M.aF×Int×Bool)
 |0,_,_,_=>none
 |ah+1,v8,C,I=>if decide (C<x1.1)then(fA U v8 8).bind λj=>if !j.2.2 then some ((⟨([]:List M.aR)⟩:M.aF),0,false)else(gW U j.2.1).bind λJ=>if !J.2.2 then some ((⟨([]:List M.aR)⟩:M.aF),0,false)else(toStr j.1).bind λaj=>(app 24 I ([(⟨bS j.1,J.1⟩:M.aR)])).bind λak=>xE U x1 ah J.2.1 (i64.wrap (C+1)) (I++[(⟨bS j.1,J.1⟩:M.aR)])else(cA (⟨I⟩:M.aF)).bind λai=>some ((⟨I⟩:M.aF),v8,ai)
def Gb(j:List Int)(C:Int):Option (M.aF×Int×Bool):=
 (gW j C).bind λx1=>if !x1.2.2 then some (⟨[]⟩,0,false)else if decide (x1.1>6)then some (⟨[]⟩,0,false)else xE j x1 aH x1.2.1 0 []
def tP(j:List Int):Option (M.aF×Bool):=
 (Gb j 0).bind λx1=>if !x1.2.2 then some (⟨[]⟩,false)else if x1.2.1 !=(j.length)then some (⟨[]⟩,false)else some (x1.1,true)
def El(j:List Int)(J:Int):Option (M.gN×Int×Bool):=
 (gW j J).bind λx1=>(fA j x1.2.1 100).bind λx3=>(fA j x3.2.1 100).bind λx5=>(fA j x5.2.1 200).bind λx7=>(fA j x7.2.1 100).bind λx9=>if !x1.2.2 then some (⟨0,⟨#[]⟩,⟨0,0,⟨#[]⟩⟩,⟨[]⟩,⟨#[]⟩⟩,0,false)else if !x3.2.2 then some (⟨0,⟨#[]⟩,⟨0,0,⟨#[]⟩⟩,⟨[]⟩,⟨#[]⟩⟩,0,false)else if !x5.2.2 then some (⟨0,⟨#[]⟩,⟨0,0,⟨#[]⟩⟩,⟨[]⟩,⟨#[]⟩⟩,0,false)else if !x7.2.2 then some (⟨0,⟨#[]⟩,⟨0,0,⟨#[]⟩⟩,⟨[]⟩,⟨#[]⟩⟩,0,false)else if !x9.2.2 then some (⟨0,⟨#[]⟩,⟨0,0,⟨#[]⟩⟩,⟨[]⟩,⟨#[]⟩⟩,0,false)else(toStr x3.1).bind λU=>(toStr x9.1).bind λah=>(Ac x5.1).bind λC=>(tP x7.1).bind λI=>some (⟨x1.1,bS x3.1,C.1,I.1,bS x9.1⟩,x9.2.1,true)
def Fg(j:M.gN):Option Bool:=
 (bG j.aLn 1 6).bind λx1=>if x1 then(cP j.aE).bind λx4=>if x4 then if j.aLn==5 then(cA j.aF).bind λx8=>if x8 then if j.aLn==6 then(cP j.Field).bind λC=>if C then some true else if j.aLn !=6 then some (j.Field.toList==(⟨#[]⟩:ByteArray).toList)else some false else if j.aLn !=6 then some (j.Field.toList==(⟨#[]⟩:ByteArray).toList)else some false else some false else(gZ j.Key).bind λI=>if I then(cA j.aF).bind λJ=>if J then if j.aLn==6 then(cP j.Field).bind λU=>if U then some true else if j.aLn !=6 then some (j.Field.toList==(⟨#[]⟩:ByteArray).toList)else some false else if j.aLn !=6 then some (j.Field.toList==(⟨#[]⟩:ByteArray).toList)else some false else some false else some false else some false else some false
def tC(C:List M.gN):Nat->Int->List Int->Option (List Int)
 |0,_,_=>none
 |U+1,I,J=>if decide (I<(List.length C:Int))then(idx C I).bind λj=>(Fg j).bind λah=>if !ah then some ([]:List Int)else(cG J j.aLn).bind λai=>(cF ai (bJ j.aE)).bind λaj=>(nG j.Key).bind λak=>(cF aj ak).bind λal=>(iL j.aF).bind λao=>(cF al ao).bind λaq=>(cF aq (bJ j.Field)).bind λar=>tC C U (i64.wrap (I+1)) ar else if decide ((List.length C:Int)>6)then some ([]:List Int)else some J
def Ae(j:List M.gN):Option (List Int):=
 (cG [] (j.length)).bind λx1=>tC j aH 0 x1
def tB(j:List Int)(C:List Int):Option Bool:=
 (toStr j).bind λx1=>(toStr C).bind λx3=>some ((bS j).toList==(bS C).toList)
def nW(I:List Int)(x1:(Int×Int×Bool)):Nat->Int->Int->List M.gN->Option ((List M.gN)×Bool)
 |0,_,_,_=>none
 |U+1,v5,J,j=>if decide (J<x1.1)then(El I v5).bind λC=>if !C.2.2 then some (([]:List M.gN),false)else(app 96 j ([C.1])).bind λaj=>nW I x1 U C.2.1 (i64.wrap (J+1)) (j++[C.1])else(Ae j).bind λah=>(tB ah I).bind λai=>if !ai then some (([]:List M.gN),false)else some (j,true)
def Ab(j:List Int):Option ((List M.gN)×Bool):=
 (gW j 0).bind λx1=>if !x1.2.2 then some ([],false)else if decide (x1.1>6)then some ([],false)else nW j x1 aH x1.2.1 0 []
def rG(I:M.aE)(j:M.bD):Nat->Int->Option Int
 |0,_=>none
 |J+1,C=>if decide (C<(List.length I.aLV:Int))then(idx I.aLV C).bind λx8=>if(x8.Key.aLn==j.aLn)&&((x8.Key.N==j.N)&&(x8.Key.aLu.toList==j.aLu.toList))then some C else rG I j J (i64.wrap (C+1))else some (-1)
def kY(j:M.aE)(C:M.bD):Option Int:=
 rG j C aH 0
def tO(p0:M.aE)(I:M.bD)(p2:M.aF)(C:M.aE):Nat->Int->Option (M.aE×Bool)
 |0,_=>none
 |aj+1,j=>if decide (j<(List.length p0.aLV:Int))then(idx p0.aLV j).bind λak=>(bW ak.Key I).bind λal=>if decide (al<0)then tO p0 I p2 C aj (i64.wrap (j+1))else(CK C.aLV j).bind λaw=>(app 56 ([]:List M.aLo) (List.take j.toNat C.aLV)).bind λax=>(cO p2).bind λU=>(app 56 (List.take j.toNat C.aLV) ([(⟨I,U⟩:M.aLo)])).bind λay=>(app 56 ((List.take j.toNat C.aLV)++[(⟨I,U⟩:M.aLo)]) (List.drop j.toNat C.aLV)).bind λaz=>if I.aLn==1 then(bG I.N (i64.wrap (p0.aLx+1)) 1000000).bind λah=>if ah then some ((⟨C.Name,((List.take j.toNat C.aLV)++[(⟨I,U⟩:M.aLo)])++(List.drop j.toNat C.aLV),I.N⟩:M.aE),true)else some ((⟨C.Name,((List.take j.toNat C.aLV)++[(⟨I,U⟩:M.aLo)])++(List.drop j.toNat C.aLV),C.aLx⟩:M.aE),true)else some ((⟨C.Name,((List.take j.toNat C.aLV)++[(⟨I,U⟩:M.aLo)])++(List.drop j.toNat C.aLV),C.aLx⟩:M.aE),true)else(CK C.aLV j).bind λao=>(app 56 ([]:List M.aLo) (List.take j.toNat C.aLV)).bind λaq=>(cO p2).bind λJ=>(app 56 (List.take j.toNat C.aLV) ([(⟨I,J⟩:M.aLo)])).bind λar=>(app 56 ((List.take j.toNat C.aLV)++[(⟨I,J⟩:M.aLo)]) (List.drop j.toNat C.aLV)).bind λav=>if I.aLn==1 then(bG I.N (i64.wrap (p0.aLx+1)) 1000000).bind λai=>if ai then some ((⟨C.Name,((List.take j.toNat C.aLV)++[(⟨I,J⟩:M.aLo)])++(List.drop j.toNat C.aLV),I.N⟩:M.aE),true)else some ((⟨C.Name,((List.take j.toNat C.aLV)++[(⟨I,J⟩:M.aLo)])++(List.drop j.toNat C.aLV),C.aLx⟩:M.aE),true)else some ((⟨C.Name,((List.take j.toNat C.aLV)++[(⟨I,J⟩:M.aLo)])++(List.drop j.toNat C.aLV),C.aLx⟩:M.aE),true)
def fG(j:M.aE)(J:M.bD)(U:M.aF):Option (M.aE×Bool):=
 (pH j).bind λx1=>if !x1 then(cM j).bind λx4=>some (x4,false)else(gZ J).bind λx6=>if !x6 then(cM j).bind λx9=>some (x9,false)else(cA U).bind λaf=>if !af then(cM j).bind λah=>some (ah,false)else(cM j).bind λC=>(kY j J).bind λI=>if decide (I>=0)then(cO U).bind λai=>(idx C.aLV I).bind λaj=>some (⟨C.Name,C.aLV.set I.toNat ⟨aj.Key,ai⟩,C.aLx⟩,true)else if decide ((j.aLV.length:Int)>=16)then some (C,false)else tO j J U C aH 0
def Cy(j:M.aE)(C:M.bD)(I:M.aF):Option (M.aE×Bool):=
 (kY j C).bind λx1=>if decide (x1>=0)then(cM j).bind λx4=>some (x4,false)else(fG j C I).bind λx6=>some (x6.1,x6.2)
def Cl(C:M.bD)(j:M.gE):Option Bool:=
 (gZ C).bind λx1=>if !x1 then some false else if j.aMO then(gZ j.Low).bind λx5=>if !x5 then some false else if j.aMH then(gZ j.aMK).bind λx9=>if !x9 then some false else if !j.aMO then if !j.aMH then some true else(bW C j.aMK).bind λI=>some (decide (I<=0))else(bW j.Low C).bind λJ=>if decide (J<=0)then if !j.aMH then some true else(bW C j.aMK).bind λU=>some (decide (U<=0))else some false else if !j.aMO then if !j.aMH then some true else(bW C j.aMK).bind λah=>some (decide (ah<=0))else(bW j.Low C).bind λai=>if decide (ai<=0)then if !j.aMH then some true else(bW C j.aMK).bind λaj=>some (decide (aj<=0))else some false else if j.aMH then(gZ j.aMK).bind λak=>if !ak then some false else if !j.aMO then if !j.aMH then some true else(bW C j.aMK).bind λal=>some (decide (al<=0))else(bW j.Low C).bind λao=>if decide (ao<=0)then if !j.aMH then some true else(bW C j.aMK).bind λaq=>some (decide (aq<=0))else some false else if !j.aMO then if !j.aMH then some true else(bW C j.aMK).bind λar=>some (decide (ar<=0))else(bW j.Low C).bind λav=>if decide (av<=0)then if !j.aMH then some true else(bW C j.aMK).bind λaw=>some (decide (aw<=0))else some false
def lB(j:M.aE)(J:M.gE):Nat->Int->List M.aLo->Option (M.aE×Int)
 |0,_,_=>none
 |U+1,I,C=>if decide (I<(List.length j.aLV:Int))then(idx j.aLV I).bind λaf=>(Cl af.Key J).bind λai=>if !ai then(B3 af).bind λah=>(app 56 C ([ah])).bind λaj=>lB j J U (i64.wrap (I+1)) (C++[ah])else lB j J U (i64.wrap (I+1)) C else some ((⟨j.Name,C,j.aLx⟩:M.aE),i64.wrap ((List.length j.aLV:Int)-(List.length C:Int)))
def vY(j:M.aE)(C:M.gE):Option (M.aE×Int):=
 (pH j).bind λx1=>if !x1 then(cM j).bind λx4=>some (x4,0)else lB j C aH 0 []
def pJ(j:M.aF)(I:ByteArray)(J:Int)(x1:M.aF):Nat->Int->Option (M.aF×Bool)
 |0,_=>none
 |af+1,C=>if decide (C<(List.length j.aLY:Int))then(idx j.aLY C).bind λU=>if Op.bytesLess U.Name.toList I.toList then pJ j I J x1 af (i64.wrap (C+1))else if U.Name.toList==I.toList then(idx x1.aLY C).bind λae=>(cA j).bind λah=>if !ah then(cO j).bind λai=>some (ai,false)else(cA (⟨List.set x1.aLY C.toNat (⟨ae.Name,J⟩:M.aR)⟩:M.aF)).bind λaj=>if !aj then(cO j).bind λak=>some (ak,false)else some ((⟨List.set x1.aLY C.toNat (⟨ae.Name,J⟩:M.aR)⟩:M.aF),true)else(CK j.aLY C).bind λaz=>(app 24 ([]:List M.aR) (List.take C.toNat j.aLY)).bind λba=>(app 24 (List.take C.toNat j.aLY) ([(⟨I,J⟩:M.aR)])).bind λbd=>(Cn j.aLY C).bind λbf=>(app 24 ((List.take C.toNat j.aLY)++[(⟨I,J⟩:M.aR)]) (List.drop C.toNat j.aLY)).bind λbg=>(cA j).bind λal=>if !al then(cO j).bind λao=>some (ao,false)else(cA (⟨((List.take C.toNat j.aLY)++[(⟨I,J⟩:M.aR)])++(List.drop C.toNat j.aLY)⟩:M.aF)).bind λaq=>if !aq then(cO j).bind λar=>some (ar,false)else some ((⟨((List.take C.toNat j.aLY)++[(⟨I,J⟩:M.aR)])++(List.drop C.toNat j.aLY)⟩:M.aF),true)else(CK j.aLY C).bind λbh=>(app 24 ([]:List M.aR) (List.take C.toNat j.aLY)).bind λbj=>(app 24 (List.take C.toNat j.aLY) ([(⟨I,J⟩:M.aR)])).bind λbl=>(Cn j.aLY C).bind λbm=>(app 24 ((List.take C.toNat j.aLY)++[(⟨I,J⟩:M.aR)]) (List.drop C.toNat j.aLY)).bind λbn=>(cA j).bind λav=>if !av then(cO j).bind λaw=>some (aw,false)else(cA (⟨((List.take C.toNat j.aLY)++[(⟨I,J⟩:M.aR)])++(List.drop C.toNat j.aLY)⟩:M.aF)).bind λax=>if !ax then(cO j).bind λay=>some (ay,false)else some ((⟨((List.take C.toNat j.aLY)++[(⟨I,J⟩:M.aR)])++(List.drop C.toNat j.aLY)⟩:M.aF),true)
def iS(j:M.aF)(C:ByteArray)(I:Int):Option (M.aF×Bool):=
 (cO j).bind λx1=>pJ j C I x1 aH 0
def FD(j:M.aE)(p1:M.bD)(C:ByteArray):Option (M.aE×Int×Bool):=
 (kY j p1).bind λx1=>if decide (x1>=0)then(idx j.aLV x1).bind λx4=>(lC x4.aF C).bind λx9=>(iS x4.aF C (i64.wrap (x9.1+1))).bind λah=>(fG j p1 ah.1).bind λI=>if ah.2 then some (I.1,i64.wrap (x9.1+1),I.2)else some (I.1,i64.wrap (x9.1+1),false)else(lC ⟨[]⟩ C).bind λJ=>(iS ⟨[]⟩ C (i64.wrap (J.1+1))).bind λai=>(fG j p1 ai.1).bind λU=>if ai.2 then some (U.1,i64.wrap (J.1+1),U.2)else some (U.1,i64.wrap (J.1+1),false)
def DN(C:M.aE)(j:M.gN):Option (M.aE×Int×Bool):=
 if j.aLn==1 then(fG C j.Key j.aF).bind λx2=>some (x2.1,1,x2.2)else if j.aLn==2 then(Cy C j.Key j.aF).bind λx5=>some (x5.1,1,x5.2)else if j.aLn==3 then(vY C ⟨true,true,j.Key,j.Key⟩).bind λx8=>some (x8.1,x8.2,true)else if j.aLn==4 then(kY C j.Key).bind λJ=>if decide (J<0)then(cM C).bind λah=>some (ah,-1,true)else(cM C).bind λai=>(idx C.aLV J).bind λaj=>some (ai,aj.aF.aLY.length,true)else if j.aLn==5 then(vY C ⟨false,false,⟨0,0,⟨#[]⟩⟩,⟨0,0,⟨#[]⟩⟩⟩).bind λU=>some (U.1,U.2,true)else(FD C j.Key j.Field).bind λI=>some (I.1,I.2.1,I.2.2)
def Ef(j:M.aLS)(I:M.gN):Option (M.aLS×Int×Bool):=
 (fY j).bind λx1=>(nF j I.aE).bind λx3=>(cR j).bind λx5=>if !x5 then some (x1,0,false)else(Fg I).bind λx8=>if !x8 then some (x1,0,false)else if decide (x3<0)then some (x1,0,false)else(idx j.aLc x3).bind λJ=>(DN J I).bind λC=>(idx x1.aLc x3).bind λaj=>if !C.2.2 then(fY j).bind λU=>some (U,0,false)else(cR ⟨x1.Name,x1.aLT,x1.aLc.set x3.toNat C.1,x1.aLm⟩).bind λah=>if !ah then(fY j).bind λai=>some (ai,0,false)else some (⟨x1.Name,x1.aLT,x1.aLc.set x3.toNat C.1,x1.aLm⟩,C.2.1,true)
def Ah(p0:M.aLS)(I:List M.gN):Nat->Int->ByteArray->Int->List Int->List M.aE->List M.aU->Option (M.aLS×(List Int)×Bool)
 |0,_,_,_,_,_,_=>none
 |ak+1,J,ah,ai,C,U,ae=>if decide (J<(List.length I:Int))then(idx I J).bind λal=>(Ef (⟨ah,ai,U,ae⟩:M.aLS) al).bind λj=>if !j.2.2 then(fY p0).bind λao=>some (ao,([]:List Int),false)else(app 8 C ([j.2.1])).bind λaq=>Ah p0 I ak (i64.wrap (J+1)) j.1.Name j.1.aLT (C++[j.2.1]) j.1.aLc j.1.aLm else some ((⟨ah,ai,U,ae⟩:M.aLS),C,true)
def Ca(j:M.aLS)(C:List M.gN):Option (M.aLS×(List Int)×Bool):=
 (fY j).bind λx1=>(cR j).bind λI=>if !I then some (x1,[],false)else if decide ((C.length:Int)>6)then some (x1,[],false)else Ah j C aH 0 x1.Name x1.aLT [] x1.aLc x1.aLm
def vM(x3:((List (List Int))×Int)):Nat->Int->ByteArray->Int->List M.aE->List M.aU->Option (M.aLS×Int)
 |0,_,_,_,_,_=>none
 |ak+1,C,U,ah,I,J=>if decide (C<(List.length x3.1:Int))then(idx x3.1 C).bind λal=>(Ab al).bind λaj=>if !aj.2 then some ((⟨U,ah,I,J⟩:M.aLS),C)else(Ca (⟨U,ah,I,J⟩:M.aLS) aj.1).bind λj=>vM x3 ak (i64.wrap (C+1)) j.1.Name j.1.aLT j.1.aLc j.1.aLm else some ((⟨U,ah,I,J⟩:M.aLS),(List.length x3.1:Int))
def BD(j:M.bP):Option (M.aLS×Int):=
 (fY j.aLq).bind λx1=>(Ft j.Log).bind λx3=>vM x3 aH 0 x1.Name x1.aLT x1.aLc x1.aLm
def AP(j:Int):Option M.bD:=
 some ⟨1,j,⟨#[]⟩⟩
def Ax(U:M.Bucket)(p1:Int):Option (M.aF×Bool):=
 (BD U.bP).bind λx1=>(nF x1.1 ⟨#[110,111,116,101,115]⟩).bind λx3=>if decide (x3<0)then some (⟨[]⟩,false)else(idx x1.1.aLc x3).bind λx6=>(AP p1).bind λC=>(kY x6 C).bind λj=>if decide (j<0)then some (⟨[]⟩,true)else(idx x6.aLV j).bind λI=>(cO I.aF).bind λJ=>some (J,true)
def Bw(C:M.aD)(I:M.bO)(U:Int)(p3:ByteArray):Option Int:=
 (fB C.aC I.aLa I.Top).bind λx1=>if decide (x1<0)then some (-1)else(idx C.aC.Buckets x1).bind λx4=>(Ax x4 U).bind λx9=>(lC x9.1 p3).bind λj=>if !j.2 then some (-1)else(fN 1000 j.1).bind λJ=>some J
def An(j:List Int)(I:Int)(J:List Int):Option ((List Int)×Bool):=
 (app 1 [] j).bind λx1=>(cF j J).bind λx8=>(Bs I J).bind λU=>(cG x8 U).bind λC=>if decide (I<0)then some (j,false)else if decide ((C.length:Int)>4000)then some (j,false)else some (C,true)
def oI(j:M.bP)(I:List M.gN):Option (M.bP×Bool):=
 (Bb j).bind λx1=>(BD j).bind λx3=>(Ca x3.1 I).bind λx5=>(Ae I).bind λx7=>if !x5.2.2 then some (x1,false)else if(x7.length:Int)==0 then some (x1,false)else if x3.2 !=j.aL5 then some (x1,false)else(An j.Log j.aL5 x7).bind λC=>if !C.2 then some (x1,false)else some (⟨x1.aLq,C.1,i64.wrap (j.aL5+1)⟩,true)
def sA(j:M.Bucket)(C:M.Bucket):Option (M.Bucket×Bool):=
 (rA j).bind λx1=>if !x1 then(gU j).bind λx4=>some (x4,false)else(rA C).bind λx6=>if !x6 then(gU j).bind λx9=>some (x9,false)else some (C,true)
def A4(j:M.Bucket)(C:M.bP):Option (M.Bucket×Bool):=
 (gU j).bind λx1=>(Bb C).bind λx3=>(sA j ⟨x1.aLa,x1.Top,x1.aLU,x1.aLW,x3,x1.aG,x1.aL1,x1.aLy⟩).bind λx5=>if x5.2 then some (⟨x1.aLa,x1.Top,x1.aLU,x1.aLW,x3,x1.aG,x1.aL1,x1.aLy⟩,true)else some (x5.1,false)
def uB(j:M.aD)(C:M.Bucket)(I:Bool):Option (M.aD×Bool):=
 (dJ j).bind λx1=>(iN j.aC C).bind λx3=>if !I then some (x1,false)else if !x3.2 then some (x1,false)else some (⟨x1.Now,x1.aLt,x1.aLZ,x3.1,x1.aLf,x1.aLd,x1.aLk,x1.aLe,x1.aLp,x1.aLh⟩,true)
def Ad(j:M.aD)(p1:M.bO)(p2:Int)(p3:ByteArray)(p4:Int):Option (M.aD×Bool):=
 (fB j.aC p1.aLa p1.Top).bind λx1=>if decide (x1<0)then(dJ j).bind λx4=>some (x4,false)else(idx j.aC.Buckets x1).bind λx6=>(Ax x6 p2).bind λI=>(iS I.1 p3 p4).bind λJ=>(AP p2).bind λao=>(oI x6.bP ([⟨1,⟨#[110,111,116,101,115]⟩,ao,J.1,⟨#[]⟩⟩])).bind λU=>(A4 x6 U.1).bind λC=>if I.2 then if J.2 then if U.2 then(uB j C.1 C.2).bind λai=>some (ai.1,ai.2)else(uB j C.1 false).bind λaj=>some (aj.1,aj.2)else(uB j C.1 false).bind λak=>some (ak.1,ak.2)else(uB j C.1 false).bind λal=>some (al.1,al.2)
def lD(j:M.aN)(C:M.bD)(I:ByteArray)(J:Int):Option (M.aN×Bool):=
 (yE j).bind λx1=>(lF j).bind λx3=>if !x3 then some (x1,false)else(app 72 x1.aLl ([⟨j.aLZ,j.aL2,C,I,J⟩])).bind λx6=>(lF ⟨x1.aLZ,i64.wrap (j.aL2+1),x1.aLl++[⟨j.aLZ,j.aL2,C,I,J⟩]⟩).bind λU=>if !U then(yE j).bind λae=>some (ae,false)else some (⟨x1.aLZ,i64.wrap (j.aL2+1),x1.aLl++[⟨j.aLZ,j.aL2,C,I,J⟩]⟩,true)
def nL(C:M.aE)(j:M.bR):Option (M.aE×Bool):=
 (kY C j.Key).bind λx1=>if decide (x1>=0)then(idx C.aLV x1).bind λx4=>(iS x4.aF j.Field j.N).bind λx9=>if !x9.2 then(cM C).bind λah=>some (ah,false)else(fG C j.Key x9.1).bind λI=>some (I.1,I.2)else(iS ⟨[]⟩ j.Field j.N).bind λJ=>if !J.2 then(cM C).bind λai=>some (ai,false)else(fG C j.Key J.1).bind λU=>some (U.1,U.2)
def mM(C:List M.bR):Nat->Int->ByteArray->Int->List M.aLo->Option M.aE
 |0,_,_,_,_=>none
 |ai+1,I,U,af,J=>if decide (I<(List.length C:Int))then(idx C I).bind λaj=>(nL (⟨U,J,af⟩:M.aE) aj).bind λj=>if j.2 then mM C ai (i64.wrap (I+1)) j.1.Name j.1.aLx j.1.aLV else mM C ai (i64.wrap (I+1)) U af J else some (⟨U,J,af⟩:M.aE)
def BJ(j:M.aE)(C:List M.bR):Option M.aE:=
 (cM j).bind λx1=>mM C aH 0 x1.Name x1.aLx x1.aLV
def Dt(j:M.aG):Option M.aE:=
 (BJ j.aLq j.aLs.aN.aLl).bind λx1=>some x1
def lW(j:M.aG)(C:M.bD)(I:ByteArray)(J:Int):Option (M.aG×Bool):=
 (yG j).bind λx1=>(lD j.aLs.aN C I J).bind λx3=>(Dt j).bind λx5=>(nL x5 ⟨0,0,C,I,J⟩).bind λx7=>(rU j).bind λx9=>if !x9 then some (x1,false)else if !x3.2 then some (x1,false)else if !x7.2 then some (x1,false)else some (⟨x1.aLq,x1.aMG,⟨x3.1,x1.aLs.aL7,x1.aLs.aLw⟩⟩,true)
def uP(j:M.Bucket)(C:M.aG):Option (M.Bucket×Bool):=
 (gU j).bind λx1=>(yG C).bind λx3=>(sA j ⟨x1.aLa,x1.Top,x1.aLU,x1.aLW,x1.bP,x3,x1.aL1,x1.aLy⟩).bind λx5=>if x5.2 then some (⟨x1.aLa,x1.Top,x1.aLU,x1.aLW,x1.bP,x3,x1.aL1,x1.aLy⟩,true)else some (x5.1,false)
def Bm(j:M.aD)(p1:M.bO)(p2:Int)(p3:ByteArray)(p4:Int):Option (M.aD×Bool):=
 (fB j.aC p1.aLa p1.Top).bind λx1=>if decide (x1<0)then(dJ j).bind λx4=>some (x4,false)else(idx j.aC.Buckets x1).bind λx6=>(AP p2).bind λai=>(lW x6.aG ai p3 p4).bind λI=>(uP x6 I.1).bind λC=>if I.2 then(uB j C.1 C.2).bind λJ=>some (J.1,J.2)else(uB j C.1 false).bind λU=>some (U.1,U.2)
def uI(U:M.aD)(p1:Int):Option (M.aD×Int):=
 (dJ U).bind λx1=>(rZ U p1).bind λx3=>(lL U).bind λx5=>if !x5 then some (x1,-1)else if decide (x3<0)then some (x1,-1)else(idx U.aLf x3).bind λx9=>(BV x9.aLX).bind λC=>(mZ x9).bind λj=>if C.2.aLn==1 then(gJ U ⟨j.Id,j.aLa,j.Top,j.aLT,j.aW,C.1⟩ C.2.aLu).bind λak=>(kZ ⟨j.Id,j.aLa,j.Top,j.aLT,j.aW,C.1⟩ C.2.aLu ak).bind λai=>(rH ai.1.aLX C.2.R ak.aMD).bind λal=>(idx x1.aLf x3).bind λay=>some (⟨x1.Now,x1.aLt,x1.aLZ,x1.aC,x1.aLf.set x3.toNat ⟨ai.1.Id,ai.1.aLa,ai.1.Top,ai.1.aLT,ai.1.aW,al.1⟩,x1.aLd,x1.aLk,x1.aLe,x1.aLp,x1.aLh⟩,C.2.aLn)else if C.2.aLn==2 then(Bw U ⟨j.Id,j.aLa,j.Top,j.aLT,j.aW,C.1⟩ C.2.N C.2.aLu).bind λao=>(rH C.1 C.2.R ao).bind λaq=>(idx x1.aLf x3).bind λaz=>some (⟨x1.Now,x1.aLt,x1.aLZ,x1.aC,x1.aLf.set x3.toNat ⟨j.Id,j.aLa,j.Top,j.aLT,j.aW,aq.1⟩,x1.aLd,x1.aLk,x1.aLe,x1.aLp,x1.aLh⟩,C.2.aLn)else if C.2.aLn==3 then(AA 0 C.2.Value).bind λar=>(Ad U ⟨j.Id,j.aLa,j.Top,j.aLT,j.aW,C.1⟩ C.2.N C.2.aLu ar).bind λJ=>(idx J.1.aLf x3).bind λav=>some (⟨J.1.Now,J.1.aLt,J.1.aLZ,J.1.aC,List.set J.1.aLf x3.toNat ⟨j.Id,j.aLa,j.Top,j.aLT,j.aW,C.1⟩,J.1.aLd,J.1.aLk,J.1.aLe,J.1.aLp,J.1.aLh⟩,C.2.aLn)else if C.2.aLn==4 then(AA 0 C.2.Value).bind λaj=>(Bm U ⟨j.Id,j.aLa,j.Top,j.aLT,j.aW,C.1⟩ C.2.N C.2.aLu aj).bind λI=>(idx I.1.aLf x3).bind λaw=>some (⟨I.1.Now,I.1.aLt,I.1.aLZ,I.1.aC,List.set I.1.aLf x3.toNat ⟨j.Id,j.aLa,j.Top,j.aLT,j.aW,C.1⟩,I.1.aLd,I.1.aLk,I.1.aLe,I.1.aLp,I.1.aLh⟩,C.2.aLn)else(idx x1.aLf x3).bind λax=>some (⟨x1.Now,x1.aLt,x1.aLZ,x1.aC,x1.aLf.set x3.toNat ⟨j.Id,j.aLa,j.Top,j.aLT,j.aW,C.1⟩,x1.aLd,x1.aLk,x1.aLe,x1.aLp,x1.aLh⟩,C.2.aLn)
def vU(p0:M.bI):Nat->Int->Int->Bool->Int->Int->Int->Int->List M.Bucket->List M.bO->List M.uY->List M.Fy->List M.aLa->List M.aLj->Option (Int×Int×M.aD)
 |0,_,_,_,_,_,_,_,_,_,_,_,_,_=>none
 |ay+1,v4,aq,ar,av,aw,I,J,U,ah,ai,aj,ak,al=>if decide (v4>0)then(aK (⟨p0.b,I,J⟩:M.bI) 3).bind λC=>(uI (⟨aq,ar,av,(⟨U⟩:M.aC),ah,aw,(⟨ai⟩:M.aT),(⟨aj⟩:M.aLe),ak,al⟩:M.aD) (i64.wrap (1+C.2.2))).bind λj=>vU p0 ay (i64.wrap (v4-1)) j.1.Now j.1.aLt j.1.aLZ j.1.aLd C.1 C.2.1 j.1.aC.Buckets j.1.aLf j.1.aLk.aLk j.1.aLe.aL8 j.1.aLp j.1.aLh else some (I,J,(⟨aq,ar,av,(⟨U⟩:M.aC),ah,aw,(⟨ai⟩:M.aT),(⟨aj⟩:M.aLe),ak,al⟩:M.aD))
def C3(C:M.bI):Option (Int×Int×M.aD):=
 (CO C).bind λx4=>(aK ⟨C.b,x4.1,x4.2.1⟩ 6).bind λj=>vU C aH j.2.2 x4.2.2.Now x4.2.2.aLt x4.2.2.aLZ x4.2.2.aLd j.1 j.2.1 x4.2.2.aC.Buckets x4.2.2.aLf x4.2.2.aLk.aLk x4.2.2.aLe.aL8 x4.2.2.aLp x4.2.2.aLh
def cD(C:M.bI)(j:List Int):Option (Int×Int×Int):=
 (aK C (j.length)).bind λx5=>(idx j x5.2.2).bind λx7=>some (x5.1,x5.2.1,x7)
def uC(j:M.bI):Option (Int×Int×ByteArray):=
 (kD j ([⟨#[98,97,110,107]⟩,⟨#[115,104,111,112]⟩,⟨#[110,101,119,115]⟩])).bind λx4=>some (x4.1,x4.2.1,x4.2.2)
def fI(j:M.bI):Option (Int×Int×M.bD):=
 (aK j 6).bind λx4=>some (x4.1,x4.2.1,⟨1,x4.2.2,⟨#[]⟩⟩)
def vJ(I:M.bI):Nat->Int->Int->Int->List M.aR->Option (Int×Int×M.aF)
 |0,_,_,_,_=>none
 |aj+1,v4,J,U,af=>if decide (v4>0)then(eK (⟨I.b,J,U⟩:M.bI)).bind λj=>(aK (⟨I.b,j.1,j.2.1⟩:M.bI) 5).bind λC=>(iS (⟨af⟩:M.aF) j.2.2 C.2.2).bind λak=>vJ I aj (i64.wrap (v4-1)) C.1 C.2.1 ak.1.aLY else some (J,U,(⟨af⟩:M.aF))
def pT(j:M.bI):Option (Int×Int×M.aF):=
 (aK j 4).bind λx4=>vJ j aH x4.2.2 x4.1 x4.2.1 []
def oF(I:M.aJ)(C:Int)(x1:M.aJ):Nat->Int->Option (M.aJ×Bool)
 |0,_=>none
 |ai+1,j=>if decide (j<(List.length I.aLW:Int))then(idx I.aLW j).bind λaj=>if decide (aj.aLT<C)then oF I C x1 ai (i64.wrap (j+1))else(CK x1.aLW j).bind λar=>(app 32 ([]:List M.aLi) (List.take j.toNat x1.aLW)).bind λav=>(app 32 (List.take j.toNat x1.aLW) ([(⟨C,([]:List M.aLr)⟩:M.aLi)])).bind λaw=>(app 32 ((List.take j.toNat x1.aLW)++[(⟨C,([]:List M.aLr)⟩:M.aLi)]) (List.drop j.toNat x1.aLW)).bind λax=>(dA I).bind λak=>if !ak then(eC I).bind λal=>some (al,false)else(dA (⟨((List.take j.toNat x1.aLW)++[(⟨C,([]:List M.aLr)⟩:M.aLi)])++(List.drop j.toNat x1.aLW)⟩:M.aJ)).bind λao=>if !ao then(eC I).bind λaq=>some (aq,false)else some ((⟨((List.take j.toNat x1.aLW)++[(⟨C,([]:List M.aLr)⟩:M.aLi)])++(List.drop j.toNat x1.aLW)⟩:M.aJ),true)else(CK x1.aLW j).bind λay=>(app 32 ([]:List M.aLi) (List.take j.toNat x1.aLW)).bind λaz=>(app 32 (List.take j.toNat x1.aLW) ([(⟨C,([]:List M.aLr)⟩:M.aLi)])).bind λba=>(app 32 ((List.take j.toNat x1.aLW)++[(⟨C,([]:List M.aLr)⟩:M.aLi)]) (List.drop j.toNat x1.aLW)).bind λbd=>(dA I).bind λJ=>if !J then(eC I).bind λU=>some (U,false)else(dA (⟨((List.take j.toNat x1.aLW)++[(⟨C,([]:List M.aLr)⟩:M.aLi)])++(List.drop j.toNat x1.aLW)⟩:M.aJ)).bind λaf=>if !af then(eC I).bind λah=>some (ah,false)else some ((⟨((List.take j.toNat x1.aLW)++[(⟨C,([]:List M.aLr)⟩:M.aLi)])++(List.drop j.toNat x1.aLW)⟩:M.aJ),true)
def sD(j:M.aJ)(C:Int):Option (M.aJ×Bool):=
 (eC j).bind λx1=>oF j C x1 aH 0
def iF(C:M.bI)(j:(M.Bucket×Bool))(bh:ByteArray)(bj:Int)(ba:Int)(aw:List M.aE)(ax:List M.aU)(ay:List Int):Nat->Int->ByteArray->Int->Int->Int->Int->Int->Int->Int->Int->List M.aLo->List M.bR->Option (Int×Int×M.Bucket)
 |0,_,_,_,_,_,_,_,_,_,_,_,_=>none
 |bw+1,bd,ai,aj,ak,al,ao,aq,ar,aa,ae,af,ah=>if decide (bd>0)then(fI (⟨C.b,aa,ae⟩:M.bI)).bind λbl=>(eK (⟨C.b,bl.1,bl.2.1⟩:M.bI)).bind λbm=>(aK (⟨C.b,bm.1,bm.2.1⟩:M.bI) 6).bind λbn=>(lW (⟨(⟨ai,af,aj⟩:M.aE),ak,(⟨(⟨al,ao,ah⟩:M.aN),aq,ar⟩:M.aLs)⟩:M.aG) bl.2.2 bm.2.2 bn.2.2).bind λI=>iF C j bh bj ba aw ax ay bw (i64.wrap (bd-1)) I.1.aLq.Name I.1.aLq.aLx I.1.aMG I.1.aLs.aN.aLZ I.1.aLs.aN.aL2 I.1.aLs.aL7 I.1.aLs.aLw bn.1 bn.2.1 I.1.aLq.aLV I.1.aLs.aN.aLl else(dF (⟨C.b,aa,ae⟩:M.bI) 2).bind λJ=>if J.2.2 then(aK (⟨C.b,J.1,J.2.1⟩:M.bI) 3).bind λU=>(sD j.1.aLW (i64.wrap (1+U.2.2))).bind λbu=>(aK (⟨C.b,U.1,U.2.1⟩:M.bI) 50).bind λbo=>(dF (⟨C.b,bo.1,bo.2.1⟩:M.bI) 4).bind λbq=>some (bq.1,bq.2.1,(⟨j.1.aLa,j.1.Top,(⟨j.1.aLU.aLa,j.1.aLU.aL0,j.1.aLU.aL6,i64.wrap (1+U.2.2)⟩:M.aLU),bu.1,(⟨(⟨bh,bj,aw,ax⟩:M.aLS),ay,ba⟩:M.bP),(⟨(⟨ai,af,aj⟩:M.aE),ak,(⟨(⟨al,ao,ah⟩:M.aN),aq,ar⟩:M.aLs)⟩:M.aG),bo.2.2,bq.2.2⟩:M.Bucket))else(aK (⟨C.b,J.1,J.2.1⟩:M.bI) 50).bind λbr=>(dF (⟨C.b,br.1,br.2.1⟩:M.bI) 4).bind λbt=>some (bt.1,bt.2.1,(⟨j.1.aLa,j.1.Top,j.1.aLU,j.1.aLW,(⟨(⟨bh,bj,aw,ax⟩:M.aLS),ay,ba⟩:M.bP),(⟨(⟨ai,af,aj⟩:M.aE),ak,(⟨(⟨al,ao,ah⟩:M.aN),aq,ar⟩:M.aLs)⟩:M.aG),br.2.2,bt.2.2⟩:M.Bucket))
def iJ(I:M.bI)(j:(M.Bucket×Bool)):Nat->Int->ByteArray->Int->Int->Int->Int->List M.aE->List M.aU->List Int->Option (Int×Int×M.Bucket)
 |0,_,_,_,_,_,_,_,_,_=>none
 |ax+1,v7,aq,ar,ak,aa,ae,ah,ai,aj=>if decide (v7>0)then(fI (⟨I.b,aa,ae⟩:M.bI)).bind λU=>(pT (⟨I.b,U.1,U.2.1⟩:M.bI)).bind λaw=>(oI (⟨(⟨aq,ar,ah,ai⟩:M.aLS),aj,ak⟩:M.bP) ([(⟨1,(⟨#[110,111,116,101,115]⟩:ByteArray),U.2.2,aw.2.2,(⟨#[]⟩:ByteArray)⟩:M.gN)])).bind λC=>iJ I j ax (i64.wrap (v7-1)) C.1.aLq.Name C.1.aLq.aLT C.1.aL5 aw.1 aw.2.1 C.1.aLq.aLc C.1.aLq.aLm C.1.Log else(aK (⟨I.b,aa,ae⟩:M.bI) 3).bind λJ=>iF I j aq ar ak ah ai aj aH J.2.2 j.1.aG.aLq.Name j.1.aG.aLq.aLx j.1.aG.aMG j.1.aG.aLs.aN.aLZ j.1.aG.aLs.aN.aL2 j.1.aG.aLs.aL7 j.1.aG.aLs.aLw J.1 J.2.1 j.1.aG.aLq.aLV j.1.aG.aLs.aN.aLl
def Aw(C:M.bI):Option (Int×Int×M.Bucket):=
 (uC C).bind λx4=>((dF ⟨C.b,x4.1,x4.2.1⟩ 3).bind λI=>if I.2.2 then(uC ⟨C.b,I.1,I.2.1⟩).bind λJ=>some (J.2.2,J.1,J.2.1)else some (x4.2.2,I.1,I.2.1)).bind λU=>(aK ⟨C.b,U.2.1,U.2.2⟩ 3).bind λai=>(xB x4.2.2 U.1 (i64.wrap (1+ai.2.2))).bind λj=>(aK ⟨C.b,ai.1,ai.2.1⟩ 4).bind λaj=>iJ C j aH aj.2.2 j.1.bP.aLq.Name j.1.bP.aLq.aLT j.1.bP.aL5 aj.1 aj.2.1 j.1.bP.aLq.aLc j.1.bP.aLq.aLm j.1.bP.Log
def Cz(j:M.bI):Option (Int×Int×ByteArray):=
 (kD j ([⟨#[105,110,100,101,120]⟩,⟨#[115,116,121,108,101]⟩,⟨#[99,111,100,101]⟩,⟨#[100,97,116,97]⟩])).bind λx4=>some (x4.1,x4.2.1,x4.2.2)
def tU(U:M.bI)(p1:Int):Nat->Int->List Int->Int->Int->Option (Int×Int×(List Int))
 |0,_,_,_,_=>none
 |ah+1,v6,C,I,J=>if decide (v6<p1)then(yB (⟨U.b,I,J⟩:M.bI)).bind λj=>(app 1 C ([IntKind.u8.wrap j.2.2])).bind λai=>tU U p1 ah (i64.wrap (v6+1)) (C++[IntKind.u8.wrap j.2.2]) j.1 j.2.1 else some (I,J,C)
def DS(j:M.bI)(C:Int):Option (Int×Int×(List Int)):=
 tU j C aH 0 [] j.i j.h
def AW(C:M.bI):Option (Int×Int×M.aLb):=
 (aK C 3).bind λx4=>(aK ⟨C.b,x4.1,x4.2.1⟩ 4).bind λx6=>(aK ⟨C.b,x6.1,x6.2.1⟩ 6).bind λx8=>(DS ⟨C.b,x8.1,x8.2.1⟩ x8.2.2).bind λJ=>(dF ⟨C.b,J.1,J.2.1⟩ 2).bind λI=>(aK ⟨C.b,I.1,I.2.1⟩ 14).bind λj=>if j.2.2==0 then(cD ⟨C.b,j.1,j.2.1⟩ ([0,4,5])).bind λU=>some (U.1,U.2.1,⟨U.2.2,200,i64.wrap (1+x6.2.2),J.2.2,I.2.2⟩)else if j.2.2==1 then(cD ⟨C.b,j.1,j.2.1⟩ ([-1,0,404,999,1000])).bind λai=>some (ai.1,ai.2.1,⟨i64.wrap (1+x4.2.2),ai.2.2,i64.wrap (1+x6.2.2),J.2.2,I.2.2⟩)else if j.2.2==2 then(cD ⟨C.b,j.1,j.2.1⟩ ([60,61])).bind λaj=>(DS ⟨C.b,aj.1,aj.2.1⟩ aj.2.2).bind λak=>some (ak.1,ak.2.1,⟨i64.wrap (1+x4.2.2),200,i64.wrap (1+x6.2.2),ak.2.2,I.2.2⟩)else some (j.1,j.2.1,⟨i64.wrap (1+x4.2.2),200,i64.wrap (1+x6.2.2),J.2.2,I.2.2⟩)
def rM(j:M.aJ)(p1:Int)(C:ByteArray)(I:ByteArray)(p4:M.aLb):Option (M.aJ×Bool):=
 (eC j).bind λx1=>(AG j p1).bind λx3=>if decide (x3<0)then some (x1,false)else(yD p4).bind λx6=>(idx x1.aLW x3).bind λx8=>(Cu x8 C I).bind λJ=>if decide (J>=0)then(idx x8.aLg J).bind λaq=>(dA j).bind λU=>if !U then(eC j).bind λaf=>some (af,false)else(dA ⟨x1.aLW.set x3.toNat ⟨x8.aLT,x8.aLg.set J.toNat ⟨C,I,x6⟩⟩⟩).bind λah=>if !ah then(eC j).bind λai=>some (ai,false)else some (⟨x1.aLW.set x3.toNat ⟨x8.aLT,x8.aLg.set J.toNat ⟨C,I,x6⟩⟩⟩,true)else(app 88 x8.aLg ([⟨C,I,x6⟩])).bind λar=>(dA j).bind λaj=>if !aj then(eC j).bind λak=>some (ak,false)else(dA ⟨x1.aLW.set x3.toNat ⟨x8.aLT,x8.aLg++[⟨C,I,x6⟩]⟩⟩).bind λal=>if !al then(eC j).bind λao=>some (ao,false)else some (⟨x1.aLW.set x3.toNat ⟨x8.aLT,x8.aLg++[⟨C,I,x6⟩]⟩⟩,true)
def xH(j:M.bI):Nat->Int->Int->Int->List M.aLi->Option (Int×Int×M.aJ)
 |0,_,_,_,_=>none
 |ao+1,ah,aa,ae,af=>if decide (ah>0)then(aK (⟨j.b,aa,ae⟩:M.bI) 4).bind λC=>(uC (⟨j.b,C.1,C.2.1⟩:M.bI)).bind λI=>(Cz (⟨j.b,I.1,I.2.1⟩:M.bI)).bind λJ=>(AW (⟨j.b,J.1,J.2.1⟩:M.bI)).bind λU=>(rM (⟨af⟩:M.aJ) (i64.wrap (1+C.2.2)) I.2.2 J.2.2 U.2.2).bind λaq=>xH j ao (i64.wrap (ah-1)) U.1 U.2.1 aq.1.aLW else some (aa,ae,(⟨af⟩:M.aJ))
def Ai(j:M.bI):Nat->Int->Int->Int->List M.aLi->Option (Int×Int×M.aJ)
 |0,_,_,_,_=>none
 |aj+1,v4,J,U,af=>if decide (v4>0)then(aK (⟨j.b,J,U⟩:M.bI) 4).bind λC=>(sD (⟨af⟩:M.aJ) (i64.wrap (1+C.2.2))).bind λak=>Ai j aj (i64.wrap (v4-1)) C.1 C.2.1 ak.1.aLW else(aK (⟨j.b,J,U⟩:M.bI) 5).bind λI=>xH j aH I.2.2 I.1 I.2.1 af
def F8(j:M.bI):Option (Int×Int×M.aJ):=
 (aK j 3).bind λx4=>Ai j aH x4.2.2 x4.1 x4.2.1 []
def xD(j:(Int×Int×Int)):Nat->Int->List M.aLi->Option (Int×Int×M.aJ)
 |0,_,_=>none
 |J+1,C,I=>if decide (C<=4)then(sD (⟨I⟩:M.aJ) C).bind λU=>xD j J (i64.wrap (C+1)) U.1.aLW else some (j.1,j.2.1,(⟨I⟩:M.aJ))
def Gc(C:M.bI):Option (Int×Int×M.aJ):=
 (F8 C).bind λx4=>(aK ⟨C.b,x4.1,x4.2.1⟩ 12).bind λj=>if j.2.2==0 then(cD ⟨C.b,j.1,j.2.1⟩ ([0,1,9,1000000000001])).bind λI=>(app 32 x4.2.2.aLW ([⟨I.2.2,[]⟩])).bind λaj=>some (I.1,I.2.1,⟨x4.2.2.aLW++[⟨I.2.2,[]⟩]⟩)else if j.2.2==1 then if decide ((List.length x4.2.2.aLW:Int)>0)then(idx x4.2.2.aLW 0).bind λai=>(kD ⟨C.b,j.1,j.2.1⟩ ([⟨#[105,110,100,101,120]⟩,⟨#[]⟩,⟨#[122,122]⟩])).bind λJ=>(AW ⟨C.b,J.1,J.2.1⟩).bind λU=>(app 88 ai.aLg ([⟨⟨#[98,97,110,107]⟩,J.2.2,U.2.2⟩])).bind λak=>some (U.1,U.2.1,⟨List.set x4.2.2.aLW (0:Int).toNat ⟨ai.aLT,ai.aLg++[⟨⟨#[98,97,110,107]⟩,J.2.2,U.2.2⟩]⟩⟩)else some (j.1,j.2.1,x4.2.2)else if j.2.2==2 then xD j aH 1 x4.2.2.aLW else some (j.1,j.2.1,x4.2.2)
def CP(j:M.bI):Option (Int×Int×Int):=
 (aK j 9).bind λx4=>(cD ⟨j.b,x4.1,x4.2.1⟩ ([0,1,2,-1,255,256,-1000000000000,1000000000000,x4.2.2])).bind λx6=>some (x6.1,x6.2.1,x6.2.2)
def FJ(C:M.bI):Option (Int×Int×M.bD):=
 (kD C ([⟨#[]⟩,⟨#[97]⟩,⟨#[97,98]⟩,⟨#[98]⟩,⟨#[122,57]⟩,⟨#[97,98,99,100,101,102,103,104,105,106,107,108]⟩])).bind λx4=>(aK ⟨C.b,x4.1,x4.2.1⟩ 3).bind λj=>if j.2.2==0 then some (j.1,j.2.1,⟨2,0,x4.2.2⟩)else if j.2.2==1 then(CP ⟨C.b,j.1,j.2.1⟩).bind λI=>some (I.1,I.2.1,⟨3,I.2.2,x4.2.2⟩)else(CP ⟨C.b,j.1,j.2.1⟩).bind λJ=>some (J.1,J.2.1,⟨1,J.2.2,⟨#[]⟩⟩)
def yL(j:M.bI):Nat->Int->ByteArray->Int->Int->Int->List M.aLo->Option (Int×Int×M.aE)
 |0,_,_,_,_,_,_=>none
 |av+1,v6,J,U,aa,ae,I=>if decide (v6>0)then(fI (⟨j.b,aa,ae⟩:M.bI)).bind λak=>(pT (⟨j.b,ak.1,ak.2.1⟩:M.bI)).bind λal=>(fG (⟨J,I,U⟩:M.aE) ak.2.2 al.2.2).bind λao=>yL j av (i64.wrap (v6-1)) ao.1.Name ao.1.aLx al.1 al.2.1 ao.1.aLV else(dF (⟨j.b,aa,ae⟩:M.bI) 8).bind λC=>if C.2.2 then(FJ (⟨j.b,C.1,C.2.1⟩:M.bI)).bind λaq=>(pT (⟨j.b,aq.1,aq.2.1⟩:M.bI)).bind λar=>(fG (⟨J,I,U⟩:M.aE) aq.2.2 ar.2.2).bind λaw=>some (ar.1,ar.2.1,aw.1)else some (C.1,C.2.1,(⟨J,I,U⟩:M.aE))
def yF(j:M.bI)(C:ByteArray):Option (Int×Int×M.aE):=
 (cD j ([0,2,4,6])).bind λx5=>yL j aH x5.2.2 C 0 x5.1 x5.2.1 []
def sQ(C:M.aLS)(I:M.pR):Nat->Int->Option Int
 |0,_=>none
 |J+1,j=>if decide (j<(List.length C.aLm:Int))then(idx C.aLm j).bind λx8=>if x8.aE.toList==I.aE.toList then if x8.Field.toList==I.Field.toList then some j else sQ C I J (i64.wrap (j+1))else sQ C I J (i64.wrap (j+1))else some (-1)
def FC(j:M.aLS)(C:M.pR):Option Int:=
 sQ j C aH 0
def Ch(j:M.aLS)(p1:ByteArray)(J:List M.aE):Nat->Int->List M.aU->Option M.aLS
 |0,_,_=>none
 |ah+1,I,C=>if decide (I<(List.length j.aLm:Int))then(idx j.aLm I).bind λU=>if !(U.aE.toList==p1.toList)then(app 32 C ([U])).bind λai=>Ch j p1 J ah (i64.wrap (I+1)) (C++[U])else Ch j p1 J ah (i64.wrap (I+1)) C else some (⟨j.Name,j.aLT,J,C⟩:M.aLS)
def Cq(j:M.aLS)(I:ByteArray):Nat->Int->List M.aE->Option M.aLS
 |0,_,_=>none
 |U+1,J,C=>if decide (J<(List.length j.aLc:Int))then(idx j.aLc J).bind λaf=>if !(af.Name.toList==I.toList)then(cM af).bind λah=>(app 48 C ([ah])).bind λai=>Cq j I U (i64.wrap (J+1)) (C++[ah])else Cq j I U (i64.wrap (J+1)) C else Ch j I C aH 0 ([]:List M.aU)
def Ib(j:M.aLS)(C:ByteArray):Option M.aLS:=
 Cq j C aH 0 []
def sL(I:M.aLS)(C:M.pR)(x1:M.aLS):Nat->Int->Option (M.aLS×Bool)
 |0,_=>none
 |ai+1,j=>(if decide (j<(List.length I.aLc:Int))then(idx I.aLc j).bind λaj=>some (Op.bytesLess aj.Name.toList C.aE.toList)else some false).bind λak=>if ak then sL I C x1 ai (i64.wrap (j+1))else(CK x1.aLc j).bind λal=>(app 48 ([]:List M.aE) (List.take j.toNat x1.aLc)).bind λao=>(app 48 (List.take j.toNat x1.aLc) ([(⟨C.aE,([]:List M.aLo),0⟩:M.aE)])).bind λaq=>(app 48 ((List.take j.toNat x1.aLc)++[(⟨C.aE,([]:List M.aLo),0⟩:M.aE)]) (List.drop j.toNat x1.aLc)).bind λar=>((cR I).bind λJ=>if !J then some true else(cR (⟨x1.Name,x1.aLT,((List.take j.toNat x1.aLc)++[(⟨C.aE,([]:List M.aLo),0⟩:M.aE)])++(List.drop j.toNat x1.aLc),x1.aLm⟩:M.aLS)).bind λU=>some (!U)).bind λaf=>if af then(fY I).bind λah=>some (ah,false)else some ((⟨x1.Name,x1.aLT,((List.take j.toNat x1.aLc)++[(⟨C.aE,([]:List M.aLo),0⟩:M.aE)])++(List.drop j.toNat x1.aLc),x1.aLm⟩:M.aLS),true)
def oD(C:M.aLS)(j:M.pR):Option (M.aLS×Bool):=
 (fY C).bind λx1=>(nF C j.aE).bind λx3=>(FC C j).bind λx5=>(if j.aLn==1 then some (decide (x3<0))else some false).bind λx7=>if x7 then sL C j x1 aH 0 else(if j.aLn==2 then some (decide (x3>=0))else some false).bind λJ=>if J then(Ib C j.aE).bind λI=>((cR C).bind λU=>if !U then some true else(cR I).bind λah=>some (!ah)).bind λai=>if ai then(fY C).bind λaj=>some (aj,false)else some (I,true)else(if j.aLn==3 then if decide (x3>=0)then some (decide (x5<0))else some false else some false).bind λak=>if ak then(app 32 x1.aLm ([⟨j.aE,j.Field⟩])).bind λba=>((cR C).bind λal=>if !al then some true else(cR ⟨x1.Name,x1.aLT,x1.aLc,x1.aLm++[⟨j.aE,j.Field⟩]⟩).bind λao=>some (!ao)).bind λaq=>if aq then(fY C).bind λar=>some (ar,false)else some (⟨x1.Name,x1.aLT,x1.aLc,x1.aLm++[⟨j.aE,j.Field⟩]⟩,true)else(if j.aLn==4 then some (decide (x5>=0))else some false).bind λav=>if av then(CK x1.aLm x5).bind λbd=>(Cn x1.aLm (i64.wrap (x5+1))).bind λbf=>(app 32 (x1.aLm.take x5.toNat) (x1.aLm.drop (i64.wrap (x5+1)).toNat)).bind λbg=>((cR C).bind λaw=>if !aw then some true else(cR ⟨x1.Name,x1.aLT,x1.aLc,(x1.aLm.take x5.toNat)++(x1.aLm.drop (i64.wrap (x5+1)).toNat)⟩).bind λax=>some (!ax)).bind λay=>if ay then(fY C).bind λaz=>some (az,false)else some (⟨x1.Name,x1.aLT,x1.aLc,(x1.aLm.take x5.toNat)++(x1.aLm.drop (i64.wrap (x5+1)).toNat)⟩,true)else some (x1,false)
def EF(j:M.bI):Option (Int×Int×M.aLS):=
 (yF j ⟨#[110,111,116,101,115]⟩).bind λx4=>(yF ⟨j.b,x4.1,x4.2.1⟩ ⟨#[116,97,103,115]⟩).bind λx6=>(aEG 48 ([x4.2.2,x6.2.2])).bind λx8=>(dF ⟨j.b,x6.1,x6.2.1⟩ 2).bind λC=>if C.2.2 then(yF ⟨j.b,C.1,C.2.1⟩ ⟨#[108,105,115,116,115]⟩).bind λI=>(app 48 ([I.2.2]) ([x4.2.2,x6.2.2])).bind λao=>(dF ⟨j.b,I.1,I.2.1⟩ 3).bind λJ=>if J.2.2 then(eK ⟨j.b,J.1,J.2.1⟩).bind λai=>(oD ⟨⟨#[97,112,112]⟩,1,[I.2.2]++[x4.2.2,x6.2.2],[]⟩ ⟨3,⟨#[110,111,116,101,115]⟩,ai.2.2⟩).bind λak=>some (ai.1,ai.2.1,ak.1)else some (J.1,J.2.1,⟨⟨#[97,112,112]⟩,1,[I.2.2]++[x4.2.2,x6.2.2],[]⟩)else(dF ⟨j.b,C.1,C.2.1⟩ 3).bind λU=>if U.2.2 then(eK ⟨j.b,U.1,U.2.1⟩).bind λaj=>(oD ⟨⟨#[97,112,112]⟩,1,[x4.2.2,x6.2.2],[]⟩ ⟨3,⟨#[110,111,116,101,115]⟩,aj.2.2⟩).bind λal=>some (aj.1,aj.2.1,al.1)else some (U.1,U.2.1,⟨⟨#[97,112,112]⟩,1,[x4.2.2,x6.2.2],[]⟩)
def GC(j:M.bI):Option (Int×Int×M.gN):=
 (aK j 6).bind λx4=>(kD ⟨j.b,x4.1,x4.2.1⟩ ([⟨#[110,111,116,101,115]⟩,⟨#[116,97,103,115]⟩,⟨#[110,111,116,101,115]⟩,⟨#[108,105,115,116,115]⟩])).bind λx6=>(fI ⟨j.b,x6.1,x6.2.1⟩).bind λx8=>if(i64.wrap (1+x4.2.2))==1 then(pT ⟨j.b,x8.1,x8.2.1⟩).bind λI=>some (I.1,I.2.1,⟨i64.wrap (1+x4.2.2),x6.2.2,x8.2.2,I.2.2,⟨#[]⟩⟩)else if(i64.wrap (1+x4.2.2))==2 then(pT ⟨j.b,x8.1,x8.2.1⟩).bind λJ=>some (J.1,J.2.1,⟨i64.wrap (1+x4.2.2),x6.2.2,x8.2.2,J.2.2,⟨#[]⟩⟩)else if(i64.wrap (1+x4.2.2))==6 then(eK ⟨j.b,x8.1,x8.2.1⟩).bind λU=>some (U.1,U.2.1,⟨i64.wrap (1+x4.2.2),x6.2.2,x8.2.2,⟨[]⟩,U.2.2⟩)else if(i64.wrap (1+x4.2.2))==5 then(dF ⟨j.b,x8.1,x8.2.1⟩ 2).bind λC=>if C.2.2 then(fI ⟨j.b,C.1,C.2.1⟩).bind λai=>some (ai.1,ai.2.1,⟨1,x6.2.2,ai.2.2,⟨[]⟩,⟨#[]⟩⟩)else some (C.1,C.2.1,⟨i64.wrap (1+x4.2.2),x6.2.2,⟨0,0,⟨#[]⟩⟩,⟨[]⟩,⟨#[]⟩⟩)else some (x8.1,x8.2.1,⟨i64.wrap (1+x4.2.2),x6.2.2,x8.2.2,⟨[]⟩,⟨#[]⟩⟩)
def zS(U:M.bI):Nat->Int->List M.gN->Int->Int->Option (Int×Int×(List M.gN))
 |0,_,_,_,_=>none
 |ah+1,v6,C,I,J=>if decide (v6>0)then(GC (⟨U.b,I,J⟩:M.bI)).bind λj=>(app 96 C ([j.2.2])).bind λai=>zS U ah (i64.wrap (v6-1)) (C++[j.2.2]) j.1 j.2.1 else some (I,J,C)
def FN(C:M.bI)(I:Int):Option (Int×Int×(List M.gN)):=
 (aK C (i64.wrap (I+1))).bind λj=>zS C aH j.2.2 [] j.1 j.2.1
def tY(p0:M.bI):Nat->Int->ByteArray->Int->Int->Int->Int->List M.aE->List M.aU->List Int->Option (Int×Int×M.bP)
 |0,_,_,_,_,_,_,_,_,_=>none
 |ar+1,v4,ak,al,ao,I,J,U,ah,ai=>if decide (v4>0)then(FN (⟨p0.b,I,J⟩:M.bI) 3).bind λC=>(oI (⟨(⟨ak,al,U,ah⟩:M.aLS),ai,ao⟩:M.bP) C.2.2).bind λj=>tY p0 ar (i64.wrap (v4-1)) j.1.aLq.Name j.1.aLq.aLT j.1.aL5 C.1 C.2.1 j.1.aLq.aLc j.1.aLq.aLm j.1.Log else some (I,J,(⟨(⟨ak,al,U,ah⟩:M.aLS),ai,ao⟩:M.bP))
def DL(C:M.bI):Option (Int×Int×M.bP):=
 (EF C).bind λx4=>(aK ⟨C.b,x4.1,x4.2.1⟩ 5).bind λj=>tY C aH j.2.2 x4.2.2.Name x4.2.2.aLT 0 j.1 j.2.1 x4.2.2.aLc x4.2.2.aLm []
def ER(I:M.bI)(C:List Int):Option (Int×Int×(List Int)):=
 (app 1 [] C).bind λx5=>(aK I 6).bind λj=>if j.2.2==0 then if decide ((C.length:Int)>0)then(aK ⟨I.b,j.1,j.2.1⟩ (C.length)).bind λJ=>(aK ⟨I.b,J.1,J.2.1⟩ 256).bind λai=>(idx C J.2.2).bind λaj=>some (ai.1,ai.2.1,C.set J.2.2.toNat (IntKind.u8.wrap ai.2.2))else some (j.1,j.2.1,C)else if j.2.2==1 then(aK ⟨I.b,j.1,j.2.1⟩ (i64.wrap (C.length+1))).bind λU=>(CK C U.2.2).bind λak=>some (U.1,U.2.1,C.take U.2.2.toNat)else if j.2.2==2 then(cD ⟨I.b,j.1,j.2.1⟩ ([0,1,128,255])).bind λah=>(app 1 C ([IntKind.u8.wrap ah.2.2])).bind λal=>some (ah.1,ah.2.1,C++[IntKind.u8.wrap ah.2.2])else some (j.1,j.2.1,C)
def EH(I:M.bI):Option (Int×Int×M.bP):=
 (DL I).bind λx4=>(aK ⟨I.b,x4.1,x4.2.1⟩ 10).bind λj=>if j.2.2==0 then some (j.1,j.2.1,⟨x4.2.2.aLq,x4.2.2.Log,i64.wrap (x4.2.2.aL5+1)⟩)else if j.2.2==1 then(ER ⟨I.b,j.1,j.2.1⟩ x4.2.2.Log).bind λC=>some (C.1,C.2.1,⟨x4.2.2.aLq,C.2.2,x4.2.2.aL5⟩)else if j.2.2==2 then(An x4.2.2.Log x4.2.2.aL5 ([1,2])).bind λJ=>some (j.1,j.2.1,⟨x4.2.2.aLq,J.1,i64.wrap (x4.2.2.aL5+1)⟩)else some (j.1,j.2.1,x4.2.2)
def yN(j:M.aLj)(I:Int):Nat->Int->Option Int
 |0,_=>none
 |J+1,C=>if decide (C<(List.length j.aQ:Int))then(idx j.aQ C).bind λx7=>if x7.aLZ==I then some x7.Seq else yN j I J (i64.wrap (C+1))else some 0
def Be(j:M.aLj)(C:Int):Option Int:=
 yN j C aH 0
def yP(j:List M.aQ)(I:Int)(J:Int):Nat->Int->Option (List M.aQ)
 |0,_=>none
 |ae+1,C=>if decide (C<(List.length j:Int))then(idx j C).bind λU=>if decide (U.aLZ<I)then yP j I J ae (i64.wrap (C+1))else if U.aLZ==I then some (List.set j C.toNat (⟨U.aLZ,J⟩:M.aQ))else(CK j C).bind λaf=>(app 16 ([]:List M.aQ) (List.take C.toNat j)).bind λah=>(app 16 (List.take C.toNat j) ([(⟨I,J⟩:M.aQ)])).bind λai=>(Cn j C).bind λaj=>(app 16 ((List.take C.toNat j)++[(⟨I,J⟩:M.aQ)]) (List.drop C.toNat j)).bind λak=>some (((List.take C.toNat j)++[(⟨I,J⟩:M.aQ)])++(List.drop C.toNat j))else(CK j C).bind λal=>(app 16 ([]:List M.aQ) (List.take C.toNat j)).bind λao=>(app 16 (List.take C.toNat j) ([(⟨I,J⟩:M.aQ)])).bind λaq=>(Cn j C).bind λar=>(app 16 ((List.take C.toNat j)++[(⟨I,J⟩:M.aQ)]) (List.drop C.toNat j)).bind λav=>some (((List.take C.toNat j)++[(⟨I,J⟩:M.aQ)])++(List.drop C.toNat j))
def DJ(j:List M.aQ)(C:Int)(I:Int):Option (List M.aQ):=
 (app 16 [] j).bind λx1=>yP j C I aH 0
def dR(C:M.aLj)(j:M.bR):Option (M.aLj×Int):=
 (iY C).bind λx1=>(uS C).bind λx3=>if !x3 then some (x1,4)else(mJ j).bind λx6=>if !x6 then some (x1,4)else(DJ C.aQ j.aLZ j.Seq).bind λx9=>(Be C j.aLZ).bind λI=>if decide ((x9.length:Int)>60)then some (x1,4)else if decide (j.Seq<=I)then some (x1,2)else if decide (j.Seq>(i64.wrap (I+1)))then some (x1,3)else(nL C.aE j).bind λJ=>if J.2 then(app 72 x1.aLv ([j])).bind λU=>some (⟨J.1,x9,x1.aLv++[j]⟩,1)else(app 72 x1.aLv ([j])).bind λah=>some (⟨x1.aE,x9,x1.aLv++[j]⟩,1)
def oC(C:M.bI):Nat->Int->ByteArray->Int->Int->Int->List M.aLo->List M.aQ->List M.bR->Option (Int×Int×M.aLj)
 |0,_,_,_,_,_,_,_,_=>none
 |aw+1,v4,aj,ak,aa,ae,J,U,ai=>if decide (v4>0)then(aK (⟨C.b,aa,ae⟩:M.bI) 3).bind λI=>(Be (⟨(⟨aj,J,ak⟩:M.aE),U,ai⟩:M.aLj) (i64.wrap (1+I.2.2))).bind λax=>(fI (⟨C.b,I.1,I.2.1⟩:M.bI)).bind λaq=>(eK (⟨C.b,aq.1,aq.2.1⟩:M.bI)).bind λar=>(aK (⟨C.b,ar.1,ar.2.1⟩:M.bI) 6).bind λav=>(dR (⟨(⟨aj,J,ak⟩:M.aE),U,ai⟩:M.aLj) (⟨i64.wrap (1+I.2.2),i64.wrap (ax+1),aq.2.2,ar.2.2,av.2.2⟩:M.bR)).bind λj=>oC C aw (i64.wrap (v4-1)) j.1.aE.Name j.1.aE.aLx av.1 av.2.1 j.1.aE.aLV j.1.aQ j.1.aLv else some (aa,ae,(⟨(⟨aj,J,ak⟩:M.aE),U,ai⟩:M.aLj))
def Ao(C:M.bI):Option (Int×Int×M.aLj):=
 (yF C ⟨#[110,111,116,101,115]⟩).bind λx4=>(aK ⟨C.b,x4.1,x4.2.1⟩ 6).bind λj=>oC C aH j.2.2 x4.2.2.Name x4.2.2.aLx j.1 j.2.1 x4.2.2.aLV [] []
def BC(j:M.aLj)(C:Int):Option (M.aG×Bool):=
 (rX C).bind λx1=>(cM j.aE).bind λx3=>if !x1.2 then some (⟨⟨⟨#[]⟩,[],0⟩,0,⟨⟨0,0,[]⟩,0,0⟩⟩,false)else(uS j).bind λx6=>if !x6 then some (⟨⟨⟨#[]⟩,[],0⟩,0,⟨⟨0,0,[]⟩,0,0⟩⟩,false)else(rU ⟨x3,j.aLv.length,⟨x1.1,0,0⟩⟩).bind λx9=>if !x9 then some (⟨⟨⟨#[]⟩,[],0⟩,0,⟨⟨0,0,[]⟩,0,0⟩⟩,false)else some (⟨x3,j.aLv.length,⟨x1.1,0,0⟩⟩,true)
def Ds(j:M.aN):Option (M.bR×Bool):=
 if(j.aLl.length:Int)==0 then some (⟨0,0,⟨0,0,⟨#[]⟩⟩,⟨#[]⟩,0⟩,false)else(idx j.aLl 0).bind λx2=>some (x2,true)
def sP(C:M.aN)(I:Int)(x1:M.aN):Nat->Int->Option (M.aN×Int)
 |0,_=>none
 |J+1,j=>if decide (j<(List.length C.aLl:Int))then(idx C.aLl j).bind λU=>if decide (U.Seq<=I)then sP C I x1 J (i64.wrap (j+1))else(Cn C.aLl j).bind λaf=>(app 72 ([]:List M.bR) (List.drop j.toNat C.aLl)).bind λah=>some ((⟨x1.aLZ,x1.aL2,List.drop j.toNat C.aLl⟩:M.aN),j)else(Cn C.aLl j).bind λai=>(app 72 ([]:List M.bR) (List.drop j.toNat C.aLl)).bind λaj=>some ((⟨x1.aLZ,x1.aL2,List.drop j.toNat C.aLl⟩:M.aN),j)
def dS(j:M.aN)(C:Int):Option (M.aN×Int):=
 (yE j).bind λx1=>(lF j).bind λx3=>if !x3 then some (x1,0)else sP j C x1 aH 0
def tM(C:Int):Nat->Int->Int->Option Int
 |0,_,_=>none
 |J+1,j,I=>if decide (I<C)then if decide (j<64)then tM C J (i64.wrap (2*j)) (i64.wrap (I+1))else some j else some j
def lN(j:Int):Option Int:=
 tM j aH 1 0
def C0(j:M.aLs)(p1:M.aLj)(C:Int)(p3:Int):Option (M.aLs×M.aLj×Int):=
 (Bd j).bind λx1=>(Ds j.aN).bind λx3=>if !x3.2 then(iY p1).bind λx6=>some (x1,x6,0)else(lF j.aN).bind λx8=>if !x8 then(iY p1).bind λbo=>some (x1,bo,0)else if decide (C<j.aLw)then(iY p1).bind λbq=>some (x1,bq,0)else(bG C 0 1000000000000).bind λbr=>if !br then(iY p1).bind λbt=>some (x1,bt,0)else(iY p1).bind λao=>if p3==0 then(dR ao x3.1).bind λI=>if p3==3 then(dR I.1 x3.1).bind λah=>if ah.2==1 then(dS j.aN x3.1.Seq).bind λbu=>some (⟨bu.1,0,0⟩,ah.1,1)else if ah.2==2 then(dS j.aN x3.1.Seq).bind λbw=>some (⟨bw.1,0,0⟩,ah.1,1)else(fN 59 j.aL7).bind λbx=>(fN 60 (i64.wrap (bx+1))).bind λbl=>(lN bl).bind λbz=>some (⟨x1.aN,bl,i64.wrap (C+bz)⟩,ah.1,2)else if I.2==1 then(dS j.aN x3.1.Seq).bind λca=>some (⟨ca.1,0,0⟩,I.1,1)else if I.2==2 then(dS j.aN x3.1.Seq).bind λcc=>some (⟨cc.1,0,0⟩,I.1,1)else(fN 59 j.aL7).bind λcd=>(fN 60 (i64.wrap (cd+1))).bind λbm=>(lN bm).bind λcg=>some (⟨x1.aN,bm,i64.wrap (C+cg)⟩,I.1,2)else if p3==2 then(dR ao x3.1).bind λbn=>if p3==3 then(dR bn.1 x3.1).bind λJ=>if J.2==1 then(dS j.aN x3.1.Seq).bind λaq=>some (⟨aq.1,0,0⟩,J.1,1)else if J.2==2 then(dS j.aN x3.1.Seq).bind λar=>some (⟨ar.1,0,0⟩,J.1,1)else(fN 59 j.aL7).bind λav=>(fN 60 (i64.wrap (av+1))).bind λai=>(lN ai).bind λaw=>some (⟨x1.aN,ai,i64.wrap (C+aw)⟩,J.1,2)else(fN 59 j.aL7).bind λax=>(fN 60 (i64.wrap (ax+1))).bind λaj=>(lN aj).bind λay=>some (⟨x1.aN,aj,i64.wrap (C+ay)⟩,bn.1,2)else if p3==3 then(dR ao x3.1).bind λaz=>(dR az.1 x3.1).bind λU=>if U.2==1 then(dS j.aN x3.1.Seq).bind λba=>some (⟨ba.1,0,0⟩,U.1,1)else if U.2==2 then(dS j.aN x3.1.Seq).bind λbd=>some (⟨bd.1,0,0⟩,U.1,1)else(fN 59 j.aL7).bind λbf=>(fN 60 (i64.wrap (bf+1))).bind λak=>(lN ak).bind λbg=>some (⟨x1.aN,ak,i64.wrap (C+bg)⟩,U.1,2)else(fN 59 j.aL7).bind λbh=>(fN 60 (i64.wrap (bh+1))).bind λal=>(lN al).bind λbj=>some (⟨x1.aN,al,i64.wrap (C+bj)⟩,ao,2)
def A8(j:M.aG)(C:M.aLj):Option (M.aG×Int):=
 (yG j).bind λx1=>(rU j).bind λx3=>if !x3 then some (x1,0)else(uS C).bind λx6=>if !x6 then some (x1,0)else if decide (j.aMG>C.aLv.length)then some (x1,0)else(Cn C.aLv j.aMG).bind λah=>(BJ j.aLq (C.aLv.drop j.aMG.toNat)).bind λI=>(Be C j.aLs.aN.aLZ).bind λJ=>(dS j.aLs.aN J).bind λU=>some (⟨I,C.aLv.length,⟨U.1,x1.aLs.aL7,x1.aLs.aLw⟩⟩,i64.wrap (C.aLv.length-j.aMG))
def gR(j:M.bI):Nat->Int->ByteArray->Int->Int->Int->Int->Int->Int->Int->Int->ByteArray->Int->List M.aLo->List M.bR->List M.aLo->List M.aQ->List M.bR->Option (Int×Int×M.aG×M.aLj)
 |0,_,_,_,_,_,_,_,_,_,_,_,_,_,_,_,_,_=>none
 |bw+1,v7,ay,az,ba,bd,bf,bg,aw,aj,ak,ar,av,ah,ai,aa,ae,af=>if decide (v7>0)then(aK (⟨j.b,aj,ak⟩:M.bI) 5).bind λC=>if C.2.2==0 then(fI (⟨j.b,C.1,C.2.1⟩:M.bI)).bind λbx=>(eK (⟨j.b,bx.1,bx.2.1⟩:M.bI)).bind λbz=>(aK (⟨j.b,bz.1,bz.2.1⟩:M.bI) 6).bind λca=>(lW (⟨(⟨ay,ah,az⟩:M.aE),ba,(⟨(⟨bd,bf,ai⟩:M.aN),bg,aw⟩:M.aLs)⟩:M.aG) bx.2.2 bz.2.2 ca.2.2).bind λbj=>gR j bw (i64.wrap (v7-1)) bj.1.aLq.Name bj.1.aLq.aLx bj.1.aMG bj.1.aLs.aN.aLZ bj.1.aLs.aN.aL2 bj.1.aLs.aL7 bj.1.aLs.aLw ca.1 ca.2.1 ar av bj.1.aLq.aLV bj.1.aLs.aN.aLl aa ae af else if C.2.2==1 then(fI (⟨j.b,C.1,C.2.1⟩:M.bI)).bind λbm=>(eK (⟨j.b,bm.1,bm.2.1⟩:M.bI)).bind λbn=>(aK (⟨j.b,bn.1,bn.2.1⟩:M.bI) 6).bind λbo=>(lW (⟨(⟨ay,ah,az⟩:M.aE),ba,(⟨(⟨bd,bf,ai⟩:M.aN),bg,aw⟩:M.aLs)⟩:M.aG) bm.2.2 bn.2.2 bo.2.2).bind λJ=>gR j bw (i64.wrap (v7-1)) J.1.aLq.Name J.1.aLq.aLx J.1.aMG J.1.aLs.aN.aLZ J.1.aLs.aN.aL2 J.1.aLs.aL7 J.1.aLs.aLw bo.1 bo.2.1 ar av J.1.aLq.aLV J.1.aLs.aN.aLl aa ae af else if C.2.2==2 then(aK (⟨j.b,C.1,C.2.1⟩:M.bI) 4).bind λbq=>(C0 (⟨(⟨bd,bf,ai⟩:M.aN),bg,aw⟩:M.aLs) (⟨(⟨ar,aa,av⟩:M.aE),ae,af⟩:M.aLj) aw bq.2.2).bind λI=>gR j bw (i64.wrap (v7-1)) ay az ba I.1.aN.aLZ I.1.aN.aL2 I.1.aL7 I.1.aLw bq.1 bq.2.1 I.2.1.aE.Name I.2.1.aE.aLx ah I.1.aN.aLl I.2.1.aE.aLV I.2.1.aQ I.2.1.aLv else if C.2.2==3 then(aK (⟨j.b,C.1,C.2.1⟩:M.bI) 3).bind λbl=>(Be (⟨(⟨ar,aa,av⟩:M.aE),ae,af⟩:M.aLj) (i64.wrap (1+bl.2.2))).bind λcc=>(fI (⟨j.b,bl.1,bl.2.1⟩:M.bI)).bind λbr=>(eK (⟨j.b,br.1,br.2.1⟩:M.bI)).bind λbt=>(aK (⟨j.b,bt.1,bt.2.1⟩:M.bI) 6).bind λbu=>(dR (⟨(⟨ar,aa,av⟩:M.aE),ae,af⟩:M.aLj) (⟨i64.wrap (1+bl.2.2),i64.wrap (cc+1),br.2.2,bt.2.2,bu.2.2⟩:M.bR)).bind λbh=>gR j bw (i64.wrap (v7-1)) ay az ba bd bf bg aw bu.1 bu.2.1 bh.1.aE.Name bh.1.aE.aLx ah ai bh.1.aE.aLV bh.1.aQ bh.1.aLv else(A8 (⟨(⟨ay,ah,az⟩:M.aE),ba,(⟨(⟨bd,bf,ai⟩:M.aN),bg,aw⟩:M.aLs)⟩:M.aG) (⟨(⟨ar,aa,av⟩:M.aE),ae,af⟩:M.aLj)).bind λU=>gR j bw (i64.wrap (v7-1)) U.1.aLq.Name U.1.aLq.aLx U.1.aMG U.1.aLs.aN.aLZ U.1.aLs.aN.aL2 U.1.aLs.aL7 U.1.aLs.aLw C.1 C.2.1 ar av U.1.aLq.aLV U.1.aLs.aN.aLl aa ae af else some (aj,ak,(⟨(⟨ay,ah,az⟩:M.aE),ba,(⟨(⟨bd,bf,ai⟩:M.aN),bg,aw⟩:M.aLs)⟩:M.aG),(⟨(⟨ar,aa,av⟩:M.aE),ae,af⟩:M.aLj))
def D1(I:M.bI):Option (Int×Int×M.aG×M.aLj):=
 (Ao I).bind λx4=>(BC x4.2.2 4).bind λj=>(aK ⟨I.b,x4.1,x4.2.1⟩ 6).bind λC=>gR I aH C.2.2 j.1.aLq.Name j.1.aLq.aLx j.1.aMG j.1.aLs.aN.aLZ j.1.aLs.aN.aL2 j.1.aLs.aL7 j.1.aLs.aLw C.1 C.2.1 x4.2.2.aE.Name x4.2.2.aE.aLx j.1.aLq.aLV j.1.aLs.aN.aLl x4.2.2.aE.aLV x4.2.2.aQ x4.2.2.aLv
def Eh(C:M.bI):Option (Int×Int×M.bD):=
 (FJ C).bind λx4=>(aK ⟨C.b,x4.1,x4.2.1⟩ 10).bind λj=>if j.2.2==0 then(aK ⟨C.b,j.1,j.2.1⟩ 5).bind λI=>some (I.1,I.2.1,⟨I.2.2,x4.2.2.N,x4.2.2.aLu⟩)else if j.2.2==1 then(cD ⟨C.b,j.1,j.2.1⟩ ([-1000000000001,1000000000001,5])).bind λJ=>some (J.1,J.2.1,⟨x4.2.2.aLn,J.2.2,x4.2.2.aLu⟩)else if j.2.2==2 then(kD ⟨C.b,j.1,j.2.1⟩ ([⟨#[65]⟩,⟨#[97,32,98]⟩,⟨#[97,98,99,100,101,102,103,104,105,106,107,108,109]⟩,⟨#[120,39]⟩])).bind λU=>some (U.1,U.2.1,⟨x4.2.2.aLn,x4.2.2.N,U.2.2⟩)else some (j.1,j.2.1,x4.2.2)
def yV(j:(Int×Int×Int)):Nat->Int->List M.aR->Option (Int×Int×M.aF)
 |0,_,_=>none
 |J+1,C,I=>if decide (C<((6:Nat):Int))then(idx ([(⟨#[100]⟩:ByteArray),(⟨#[101]⟩:ByteArray),(⟨#[102]⟩:ByteArray),(⟨#[103]⟩:ByteArray),(⟨#[104]⟩:ByteArray),(⟨#[105]⟩:ByteArray)]) C).bind λU=>(iS (⟨I⟩:M.aF) U 1).bind λaj=>yV j J (i64.wrap (C+1)) aj.1.aLY else some (j.1,j.2.1,(⟨I⟩:M.aF))
def Hh(J:M.bI):Option (Int×Int×M.aF):=
 (pT J).bind λx4=>(aK ⟨J.b,x4.1,x4.2.1⟩ 12).bind λj=>if j.2.2==0 then(kD ⟨J.b,j.1,j.2.1⟩ ([⟨#[]⟩,⟨#[65]⟩,⟨#[122,122,122,122,122,122,122,122,122]⟩,⟨#[122]⟩,⟨#[97]⟩])).bind λC=>(cD ⟨J.b,C.1,C.2.1⟩ ([0,-1,1000000000,1000000001])).bind λI=>(app 24 x4.2.2.aLY ([⟨C.2.2,I.2.2⟩])).bind λU=>some (I.1,I.2.1,⟨x4.2.2.aLY++[⟨C.2.2,I.2.2⟩]⟩)else if j.2.2==1 then yV j aH 0 x4.2.2.aLY else some (j.1,j.2.1,x4.2.2)
def CM(j:M.aE)(C:M.aF):Option (M.aE×M.bD×Bool):=
 if decide (j.aLx>=1000000)then(cM j).bind λx2=>some (x2,⟨0,0,⟨#[]⟩⟩,false)else(Cy j ⟨1,i64.wrap (j.aLx+1),⟨#[]⟩⟩ C).bind λx4=>if !x4.2 then(cM j).bind λx7=>some (x7,⟨0,0,⟨#[]⟩⟩,false)else some (x4.1,⟨1,i64.wrap (j.aLx+1),⟨#[]⟩⟩,true)
def BT(C:(Int×Int×Int)):Nat->ByteArray->Int->List M.aLo->Option (Int×Int×M.aE)
 |0,_,_,_=>none
 |aj+1,I,J,j=>if decide ((List.length j:Int)<16)then(pH (⟨I,j,J⟩:M.aE)).bind λak=>if ak then(CM (⟨I,j,J⟩:M.aE) (⟨([]:List M.aR)⟩:M.aF)).bind λU=>BT C aj U.1.Name U.1.aLx U.1.aLV else some (C.1,C.2.1,(⟨I,j,J⟩:M.aE))else some (C.1,C.2.1,(⟨I,j,J⟩:M.aE))
def FE(C:M.bI):Option (Int×Int×M.aE):=
 (yF C ⟨#[110,111,116,101,115]⟩).bind λx4=>(aK ⟨C.b,x4.1,x4.2.1⟩ 12).bind λj=>if j.2.2==0 then(kD ⟨C.b,j.1,j.2.1⟩ ([⟨#[]⟩,⟨#[81]⟩,⟨#[97,98,99,100,101,102,103,104,105]⟩])).bind λU=>some (U.1,U.2.1,⟨U.2.2,x4.2.2.aLV,x4.2.2.aLx⟩)else if j.2.2==1 then(cD ⟨C.b,j.1,j.2.1⟩ ([-1,999999,1000000,1000001])).bind λai=>some (ai.1,ai.2.1,⟨x4.2.2.Name,x4.2.2.aLV,ai.2.2⟩)else if j.2.2==2 then(Eh ⟨C.b,j.1,j.2.1⟩).bind λI=>(Hh ⟨C.b,I.1,I.2.1⟩).bind λJ=>(app 56 x4.2.2.aLV ([⟨I.2.2,J.2.2⟩])).bind λaj=>some (J.1,J.2.1,⟨x4.2.2.Name,x4.2.2.aLV++[⟨I.2.2,J.2.2⟩],x4.2.2.aLx⟩)else if j.2.2==3 then BT j aH x4.2.2.Name x4.2.2.aLx x4.2.2.aLV else some (j.1,j.2.1,x4.2.2)
def nS(j:M.bI):Nat->Int->Int->Int->Int->Int->List M.bR->Option (Int×Int×M.aN)
 |0,_,_,_,_,_,_=>none
 |av+1,v7,J,U,aa,ae,I=>if decide (v7>0)then(fI (⟨j.b,aa,ae⟩:M.bI)).bind λak=>(eK (⟨j.b,ak.1,ak.2.1⟩:M.bI)).bind λal=>(aK (⟨j.b,al.1,al.2.1⟩:M.bI) 6).bind λao=>(lD (⟨J,U,I⟩:M.aN) ak.2.2 al.2.2 ao.2.2).bind λaq=>nS j av (i64.wrap (v7-1)) aq.1.aLZ aq.1.aL2 ao.1 ao.2.1 aq.1.aLl else(dF (⟨j.b,aa,ae⟩:M.bI) 3).bind λC=>if C.2.2 then(aK (⟨j.b,C.1,C.2.1⟩:M.bI) 4).bind λar=>(dS (⟨J,U,I⟩:M.aN) ar.2.2).bind λaw=>some (ar.1,ar.2.1,aw.1)else some (C.1,C.2.1,(⟨J,U,I⟩:M.aN))
def Cs(j:M.bI)(C:Int):Option (Int×Int×M.aN):=
 (rX C).bind λx5=>(cD j ([0,2,4,6])).bind λx7=>nS j aH x7.2.2 x5.1.aLZ x5.1.aL2 x7.1 x7.2.1 x5.1.aLl
def AB(p0:M.bI):Nat->Int->Int->Int->Int->List M.bR->Option (Int×Int×M.aN)
 |0,_,_,_,_,_=>none
 |al+1,C,I,J,U,j=>if decide ((List.length j:Int)<20)then(lF (⟨C,I,j⟩:M.aN)).bind λao=>if ao then(fI (⟨p0.b,J,U⟩:M.bI)).bind λaj=>(lD (⟨C,I,j⟩:M.aN) aj.2.2 (⟨#[97]⟩:ByteArray) 1).bind λak=>AB p0 al ak.1.aLZ ak.1.aL2 aj.1 aj.2.1 ak.1.aLl else some (J,U,(⟨C,I,j⟩:M.aN))else some (J,U,(⟨C,I,j⟩:M.aN))
def En(C:M.bI):Option (Int×Int×M.aN):=
 (aK C 3).bind λx4=>(Cs ⟨C.b,x4.1,x4.2.1⟩ (i64.wrap (1+x4.2.2))).bind λx6=>(aK ⟨C.b,x6.1,x6.2.1⟩ 12).bind λj=>if j.2.2==0 then(cD ⟨C.b,j.1,j.2.1⟩ ([0,9,1000001])).bind λU=>some (U.1,U.2.1,⟨U.2.2,x6.2.2.aL2,x6.2.2.aLl⟩)else if j.2.2==1 then(cD ⟨C.b,j.1,j.2.1⟩ ([0,3,1000000,1000001])).bind λai=>some (ai.1,ai.2.1,⟨x6.2.2.aLZ,ai.2.2,x6.2.2.aLl⟩)else if j.2.2==2 then(Eh ⟨C.b,j.1,j.2.1⟩).bind λI=>(cD ⟨C.b,I.1,I.2.1⟩ ([0,-1])).bind λJ=>(app 72 x6.2.2.aLl ([⟨x6.2.2.aLZ,x6.2.2.aL2,I.2.2,⟨#[97]⟩,J.2.2⟩])).bind λaj=>some (J.1,J.2.1,⟨x6.2.2.aLZ,x6.2.2.aL2,x6.2.2.aLl++[⟨x6.2.2.aLZ,x6.2.2.aL2,I.2.2,⟨#[97]⟩,J.2.2⟩]⟩)else if j.2.2==3 then AB C aH x6.2.2.aLZ x6.2.2.aL2 j.1 j.2.1 x6.2.2.aLl else some (j.1,j.2.1,x6.2.2)
def EB(C:M.bI):Option (Int×Int×M.aG):=
 (D1 C).bind λx4=>(aK ⟨C.b,x4.1,x4.2.1⟩ 12).bind λj=>if j.2.2==0 then(FE ⟨C.b,j.1,j.2.1⟩).bind λI=>some (I.1,I.2.1,⟨I.2.2,x4.2.2.1.aMG,x4.2.2.1.aLs⟩)else if j.2.2==1 then(cD ⟨C.b,j.1,j.2.1⟩ ([-1,9,1000000000001])).bind λJ=>some (J.1,J.2.1,⟨x4.2.2.1.aLq,J.2.2,x4.2.2.1.aLs⟩)else if j.2.2==2 then(En ⟨C.b,j.1,j.2.1⟩).bind λU=>some (U.1,U.2.1,⟨x4.2.2.1.aLq,x4.2.2.1.aMG,⟨U.2.2,x4.2.2.1.aLs.aL7,x4.2.2.1.aLs.aLw⟩⟩)else some (j.1,j.2.1,x4.2.2.1)
set_option maxRecDepth 40000 in
def sC(x4:(Int×Int×M.Bucket))(C:(Int×Int×Int)):Nat->List Int->Option (Int×Int×M.Bucket)
 |0,_=>none
 |I+1,j=>if decide ((List.length j:Int)<2600)then(app 1 j ([0])).bind λJ=>sC x4 C I (j++[0])else some (C.1,C.2.1,(⟨x4.2.2.aLa,x4.2.2.Top,x4.2.2.aLU,x4.2.2.aLW,(⟨x4.2.2.bP.aLq,j,x4.2.2.bP.aL5⟩:M.bP),x4.2.2.aG,x4.2.2.aL1,x4.2.2.aLy⟩:M.Bucket))
set_option maxRecDepth 40000 in
theorem Uv:type_of%@sC.eq_2:=@sC.eq_2
def EL(C:M.bI):Option (Int×Int×M.Bucket):=
 (Aw C).bind λx4=>(aK ⟨C.b,x4.1,x4.2.1⟩ 14).bind λj=>if j.2.2==0 then(kD ⟨C.b,j.1,j.2.1⟩ ([⟨#[]⟩,⟨#[122,122,122]⟩])).bind λI=>some (I.1,I.2.1,⟨I.2.2,x4.2.2.Top,x4.2.2.aLU,x4.2.2.aLW,x4.2.2.bP,x4.2.2.aG,x4.2.2.aL1,x4.2.2.aLy⟩)else if j.2.2==1 then(Gc ⟨C.b,j.1,j.2.1⟩).bind λJ=>some (J.1,J.2.1,⟨x4.2.2.aLa,x4.2.2.Top,x4.2.2.aLU,J.2.2,x4.2.2.bP,x4.2.2.aG,x4.2.2.aL1,x4.2.2.aLy⟩)else if j.2.2==2 then(EH ⟨C.b,j.1,j.2.1⟩).bind λU=>some (U.1,U.2.1,⟨x4.2.2.aLa,x4.2.2.Top,x4.2.2.aLU,x4.2.2.aLW,U.2.2,x4.2.2.aG,x4.2.2.aL1,x4.2.2.aLy⟩)else if j.2.2==3 then(EB ⟨C.b,j.1,j.2.1⟩).bind λai=>some (ai.1,ai.2.1,⟨x4.2.2.aLa,x4.2.2.Top,x4.2.2.aLU,x4.2.2.aLW,x4.2.2.bP,ai.2.2,x4.2.2.aL1,x4.2.2.aLy⟩)else if j.2.2==4 then(cD ⟨C.b,j.1,j.2.1⟩ ([-1,1000000000001])).bind λaj=>some (aj.1,aj.2.1,⟨x4.2.2.aLa,x4.2.2.Top,x4.2.2.aLU,x4.2.2.aLW,x4.2.2.bP,x4.2.2.aG,aj.2.2,x4.2.2.aLy⟩)else if j.2.2==5 then sC x4 j aH x4.2.2.bP.Log else some (j.1,j.2.1,x4.2.2)
def mF(J:M.bI):Nat->Int->Int->Int->List M.Bucket->Option (Int×Int×M.aC)
 |0,_,_,_,_=>none
 |ak+1,v4,aa,ae,C=>if decide (v4>0)then(Aw (⟨J.b,aa,ae⟩:M.bI)).bind λU=>(iN (⟨C⟩:M.aC) U.2.2).bind λal=>mF J ak (i64.wrap (v4-1)) U.1 U.2.1 al.1.Buckets else(dF (⟨J.b,aa,ae⟩:M.bI) 12).bind λj=>if j.2.2 then(EL (⟨J.b,j.1,j.2.1⟩:M.bI)).bind λI=>(app 328 C ([I.2.2])).bind λao=>some (I.1,I.2.1,(⟨C++[I.2.2]⟩:M.aC))else some (j.1,j.2.1,(⟨C⟩:M.aC))
def yR(j:M.bI):Option (Int×Int×M.aC):=
 (aK j 4).bind λx4=>mF j aH x4.2.2 x4.1 x4.2.1 []
def tN(p0:M.bI):Nat->Int->Int->ByteArray->ByteArray->Int->Int->Int->Bool->Bool->Int->Int->List M.aW->List M.aZ->List Int->Option (Int×Int×M.bO)
 |0,_,_,_,_,_,_,_,_,_,_,_,_,_,_=>none
 |az+1,v7,ao,aq,ar,C,av,aw,ax,ak,J,U,af,ah,ai=>if decide (v7>0)then(Cz (⟨p0.b,J,U⟩:M.bI)).bind λI=>(kZ (⟨ao,aq,ar,C,af,(⟨ah,av,ai,aw,ax,ak⟩:M.aLX)⟩:M.bO) I.2.2 (⟨0,200,C,([]:List Int),false⟩:M.aLb)).bind λj=>tN p0 az (i64.wrap (v7-1)) j.1.Id j.1.aLa j.1.Top j.1.aLT j.1.aLX.Pc j.1.aLX.aME j.1.aLX.aMJ j.1.aLX.aMI I.1 I.2.1 j.1.aW j.1.aLX.aLz j.1.aLX.aMC else some (J,U,(⟨ao,aq,ar,C,af,(⟨ah,av,ai,aw,ax,ak⟩:M.aLX)⟩:M.bO))
def DU(C:M.bI):Option (Int×Int×M.bO):=
 (uC C).bind λx4=>((dF ⟨C.b,x4.1,x4.2.1⟩ 3).bind λI=>if I.2.2 then(uC ⟨C.b,I.1,I.2.1⟩).bind λJ=>some (J.2.2,J.1,J.2.1)else some (x4.2.2,I.1,I.2.1)).bind λU=>(aK ⟨C.b,U.2.1,U.2.2⟩ 9).bind λai=>(aK ⟨C.b,ai.1,ai.2.1⟩ 3).bind λaj=>(xG ⟨C.b,aj.1,aj.2.1⟩).bind λak=>(nI (i64.wrap (1+ai.2.2)) x4.2.2 U.1 (i64.wrap (1+aj.2.2)) ak.2.2).bind λj=>(aK ⟨C.b,ak.1,ak.2.1⟩ 3).bind λal=>tN C aH al.2.2 j.1.Id j.1.aLa j.1.Top j.1.aLT j.1.aLX.Pc j.1.aLX.aME j.1.aLX.aMJ j.1.aLX.aMI al.1 al.2.1 j.1.aW j.1.aLX.aLz j.1.aLX.aMC
def Ak(x4:(Int×Int×M.bO))(C:(Int×Int×Int)):Nat->List M.aW->Option (Int×Int×M.bO)
 |0,_=>none
 |I+1,j=>if decide ((List.length j:Int)<8)then(app 24 j ([(⟨(⟨#[105,110,100,101,120]⟩:ByteArray),x4.2.2.aLT⟩:M.aW)])).bind λJ=>Ak x4 C I (j++[(⟨(⟨#[105,110,100,101,120]⟩:ByteArray),x4.2.2.aLT⟩:M.aW)])else some (C.1,C.2.1,(⟨x4.2.2.Id,x4.2.2.aLa,x4.2.2.Top,x4.2.2.aLT,j,x4.2.2.aLX⟩:M.bO))
def Dh(C:M.bI):Option (Int×Int×M.bO):=
 (DU C).bind λx4=>(aK ⟨C.b,x4.1,x4.2.1⟩ 12).bind λj=>if j.2.2==0 then(cD ⟨C.b,j.1,j.2.1⟩ ([0,1000000000000,1000000000001])).bind λU=>some (U.1,U.2.1,⟨U.2.2,x4.2.2.aLa,x4.2.2.Top,x4.2.2.aLT,x4.2.2.aW,x4.2.2.aLX⟩)else if j.2.2==1 then(kD ⟨C.b,j.1,j.2.1⟩ ([⟨#[105,110,100,101,120]⟩,⟨#[]⟩])).bind λI=>(aK ⟨C.b,I.1,I.2.1⟩ 2).bind λJ=>(app 24 x4.2.2.aW ([⟨I.2.2,i64.wrap (x4.2.2.aLT+J.2.2)⟩])).bind λaj=>some (J.1,J.2.1,⟨x4.2.2.Id,x4.2.2.aLa,x4.2.2.Top,x4.2.2.aLT,x4.2.2.aW++[⟨I.2.2,i64.wrap (x4.2.2.aLT+J.2.2)⟩],x4.2.2.aLX⟩)else if j.2.2==2 then(cD ⟨C.b,j.1,j.2.1⟩ ([0,1000000000001])).bind λai=>some (ai.1,ai.2.1,⟨x4.2.2.Id,x4.2.2.aLa,x4.2.2.Top,ai.2.2,x4.2.2.aW,x4.2.2.aLX⟩)else if j.2.2==3 then Ak x4 j aH x4.2.2.aW else some (j.1,j.2.1,x4.2.2)
def CQ(C:M.bI):Option (Int×Int×M.bR):=
 (aK C 3).bind λx4=>(aK ⟨C.b,x4.1,x4.2.1⟩ 4).bind λx6=>(fI ⟨C.b,x6.1,x6.2.1⟩).bind λx8=>(eK ⟨C.b,x8.1,x8.2.1⟩).bind λI=>(aK ⟨C.b,I.1,I.2.1⟩ 6).bind λJ=>(aK ⟨C.b,J.1,J.2.1⟩ 12).bind λj=>if j.2.2==0 then(cD ⟨C.b,j.1,j.2.1⟩ ([0,1000000,1000001])).bind λU=>some (U.1,U.2.1,⟨U.2.2,i64.wrap (1+x6.2.2),x8.2.2,I.2.2,J.2.2⟩)else if j.2.2==1 then(cD ⟨C.b,j.1,j.2.1⟩ ([0,1000000,1000001])).bind λai=>some (ai.1,ai.2.1,⟨i64.wrap (1+x4.2.2),ai.2.2,x8.2.2,I.2.2,J.2.2⟩)else if j.2.2==2 then(Eh ⟨C.b,j.1,j.2.1⟩).bind λaj=>some (aj.1,aj.2.1,⟨i64.wrap (1+x4.2.2),i64.wrap (1+x6.2.2),aj.2.2,I.2.2,J.2.2⟩)else if j.2.2==3 then some (j.1,j.2.1,⟨i64.wrap (1+x4.2.2),i64.wrap (1+x6.2.2),x8.2.2,⟨#[]⟩,J.2.2⟩)else if j.2.2==4 then(cD ⟨C.b,j.1,j.2.1⟩ ([-1,1000000000,1000000001])).bind λak=>some (ak.1,ak.2.1,⟨i64.wrap (1+x4.2.2),i64.wrap (1+x6.2.2),x8.2.2,I.2.2,ak.2.2⟩)else some (j.1,j.2.1,⟨i64.wrap (1+x4.2.2),i64.wrap (1+x6.2.2),x8.2.2,I.2.2,J.2.2⟩)
def AH(x4:(Int×Int×M.aLj))(I:(Int×Int×Int)):Nat->Int->List M.aQ->Option (Int×Int×M.aLj)
 |0,_,_=>none
 |J+1,j,C=>if decide (j<64)then(app 16 C ([(⟨j,0⟩:M.aQ)])).bind λU=>AH x4 I J (i64.wrap (j+1)) (C++[(⟨j,0⟩:M.aQ)])else some (I.1,I.2.1,(⟨x4.2.2.aE,C,x4.2.2.aLv⟩:M.aLj))
def Dv(C:M.bI):Option (Int×Int×M.aLj):=
 (Ao C).bind λx4=>(aK ⟨C.b,x4.1,x4.2.1⟩ 12).bind λj=>if j.2.2==0 then(FE ⟨C.b,j.1,j.2.1⟩).bind λai=>some (ai.1,ai.2.1,⟨ai.2.2,x4.2.2.aQ,x4.2.2.aLv⟩)else if j.2.2==1 then(cD ⟨C.b,j.1,j.2.1⟩ ([0,2,9,1000001])).bind λI=>(cD ⟨C.b,I.1,I.2.1⟩ ([0,-1])).bind λJ=>(app 16 x4.2.2.aQ ([⟨I.2.2,J.2.2⟩])).bind λaj=>some (J.1,J.2.1,⟨x4.2.2.aE,x4.2.2.aQ++[⟨I.2.2,J.2.2⟩],x4.2.2.aLv⟩)else if j.2.2==2 then(CQ ⟨C.b,j.1,j.2.1⟩).bind λU=>(app 72 x4.2.2.aLv ([U.2.2])).bind λak=>some (U.1,U.2.1,⟨x4.2.2.aE,x4.2.2.aQ,x4.2.2.aLv++[U.2.2]⟩)else if j.2.2==3 then AH x4 j aH 4 []else some (j.1,j.2.1,x4.2.2)
def ES(I:M.bI):Option (Int×Int×M.aD):=
 (C3 I).bind λx4=>(dF (⟨I.b,x4.1,x4.2.1⟩:M.bI) 4).bind λC=>(aK (⟨I.b,C.1,C.2.1⟩:M.bI) 24).bind λj=>if j.2.2==0 then(cD (⟨I.b,j.1,j.2.1⟩:M.bI) ([-1,999999990000,999999990001])).bind λU=>some (U.1,U.2.1,(⟨U.2.2,!C.2.2,x4.2.2.aLZ,x4.2.2.aC,x4.2.2.aLf,x4.2.2.aLd,x4.2.2.aLk,x4.2.2.aLe,x4.2.2.aLp,x4.2.2.aLh⟩:M.aD))else if j.2.2==1 then some (j.1,j.2.1,(⟨x4.2.2.Now,!C.2.2,0,x4.2.2.aC,x4.2.2.aLf,x4.2.2.aLd,x4.2.2.aLk,x4.2.2.aLe,x4.2.2.aLp,x4.2.2.aLh⟩:M.aD))else if j.2.2==2 then(CK x4.2.2.aLp 2).bind λak=>some (j.1,j.2.1,(⟨x4.2.2.Now,!C.2.2,x4.2.2.aLZ,x4.2.2.aC,x4.2.2.aLf,x4.2.2.aLd,x4.2.2.aLk,x4.2.2.aLe,List.take (2:Int).toNat x4.2.2.aLp,x4.2.2.aLh⟩:M.aD))else if j.2.2==3 then(yR (⟨I.b,j.1,j.2.1⟩:M.bI)).bind λai=>some (ai.1,ai.2.1,(⟨x4.2.2.Now,!C.2.2,x4.2.2.aLZ,ai.2.2,x4.2.2.aLf,x4.2.2.aLd,x4.2.2.aLk,x4.2.2.aLe,x4.2.2.aLp,x4.2.2.aLh⟩:M.aD))else if j.2.2==4 then(Dh (⟨I.b,j.1,j.2.1⟩:M.bI)).bind λJ=>(app 144 x4.2.2.aLf ([J.2.2])).bind λal=>some (J.1,J.2.1,(⟨x4.2.2.Now,!C.2.2,x4.2.2.aLZ,x4.2.2.aC,x4.2.2.aLf++[J.2.2],x4.2.2.aLd,x4.2.2.aLk,x4.2.2.aLe,x4.2.2.aLp,x4.2.2.aLh⟩:M.aD))else if j.2.2==5 then some (j.1,j.2.1,(⟨x4.2.2.Now,!C.2.2,x4.2.2.aLZ,x4.2.2.aC,x4.2.2.aLf,0,x4.2.2.aLk,x4.2.2.aLe,x4.2.2.aLp,x4.2.2.aLh⟩:M.aD))else if j.2.2==6 then(Dv (⟨I.b,j.1,j.2.1⟩:M.bI)).bind λaj=>(idx x4.2.2.aLh 0).bind λao=>some (aj.1,aj.2.1,(⟨x4.2.2.Now,!C.2.2,x4.2.2.aLZ,x4.2.2.aC,x4.2.2.aLf,x4.2.2.aLd,x4.2.2.aLk,x4.2.2.aLe,x4.2.2.aLp,List.set x4.2.2.aLh (0:Int).toNat aj.2.2⟩:M.aD))else some (j.1,j.2.1,(⟨x4.2.2.Now,!C.2.2,x4.2.2.aLZ,x4.2.2.aC,x4.2.2.aLf,x4.2.2.aLd,x4.2.2.aLk,x4.2.2.aLe,x4.2.2.aLp,x4.2.2.aLh⟩:M.aD))
def zP(p0:List Int):Option (M.aD×Int):=
 (G4 p0).bind λx1=>(ES x1).bind λx8=>if decide ((List.length x8.2.2.aLf:Int)>0)then(dF ⟨x1.b,x8.1,x8.2.1⟩ 6).bind λj=>if !j.2.2 then(aK ⟨x1.b,j.1,j.2.1⟩ (List.length x8.2.2.aLf)).bind λC=>(idx x8.2.2.aLf C.2.2).bind λI=>some (x8.2.2,I.Id)else(aK ⟨x1.b,j.1,j.2.1⟩ 6).bind λJ=>some (x8.2.2,J.2.2)else(aK ⟨x1.b,x8.1,x8.2.1⟩ 6).bind λU=>some (x8.2.2,U.2.2)
def eD(j:List Int):Option (List Int):=
 (app 1 [] j).bind λx1=>some j
def nX(j:M.aLb):Option M.aLb:=
 (eD j.aMN).bind λx1=>some ⟨j.aMM,j.aMD,j.aLT,x1,j.aMP⟩
def kE(J:M.aLi)(U:Int->List M.aLr->Option M.aJ):Nat->Int->List M.aLr->Option M.aJ
 |0,_,_=>none
 |ak+1,C,I=>if decide (C<(List.length J.aLg:Int))then(idx J.aLg C).bind λj=>(nX j.aLb).bind λaj=>(app 88 I ([(⟨j.aLa,j.aMF,aj⟩:M.aLr)])).bind λal=>kE J U ak (i64.wrap (C+1)) (I++[(⟨j.aLa,j.aMF,aj⟩:M.aLr)])else U C I
def fU(J:M.aJ):Nat->Int->List M.aLi->Option M.aJ
 |0,_,_=>none
 |aj+1,C,j=>if decide (C<(List.length J.aLW:Int))then(idx J.aLW C).bind λI=>kE I (λ(ai:Int) (U:List M.aLr)=>(app 32 j ([(⟨I.aLT,U⟩:M.aLi)])).bind λak=>fU J aj (i64.wrap (C+1)) (j++[(⟨I.aLT,U⟩:M.aLi)])) aH 0 ([]:List M.aLr)else some (⟨j⟩:M.aJ)
def zI(j:M.aJ):Option M.aJ:=
 fU j aH 0 []
def bX(j:M.aF):Option M.aF:=
 (app 24 [] j.aLY).bind λx1=>some j
def BO(j:M.aLo):Option M.aLo:=
 (bX j.aF).bind λx1=>some ⟨j.Key,x1⟩
def nR(j:M.aE):Nat->Int->List M.aLo->Option M.aE
 |0,_,_=>none
 |U+1,I,C=>if decide (I<(List.length j.aLV:Int))then(idx j.aLV I).bind λai=>(BO ai).bind λJ=>(app 56 C ([J])).bind λaj=>nR j U (i64.wrap (I+1)) (C++[J])else some (⟨j.Name,C,j.aLx⟩:M.aE)
def bH(j:M.aE):Option M.aE:=
 nR j aH 0 []
def kG(j:M.aLS):Nat->Int->List M.aE->Option M.aLS
 |0,_,_=>none
 |U+1,I,C=>if decide (I<(List.length j.aLc:Int))then(idx j.aLc I).bind λai=>(bH ai).bind λJ=>(app 48 C ([J])).bind λaj=>kG j U (i64.wrap (I+1)) (C++[J])else some (⟨j.Name,j.aLT,C,j.aLm⟩:M.aLS)
def eG(j:M.aLS):Option M.aLS:=
 (app 32 [] j.aLm).bind λx1=>kG j aH 0 []
def Bx(j:M.bP):Option M.bP:=
 (eG j.aLq).bind λx1=>(eD j.Log).bind λx3=>some ⟨x1,x3,j.aL5⟩
def pC(j:M.aN):Option M.aN:=
 (app 72 [] j.aLl).bind λx1=>some j
def C4(j:M.aLs):Option M.aLs:=
 (pC j.aN).bind λx1=>some ⟨x1,j.aL7,j.aLw⟩
def vN(j:M.aG):Option M.aG:=
 (bH j.aLq).bind λx1=>(C4 j.aLs).bind λx3=>some ⟨x1,j.aMG,x3⟩
def eZ(j:M.Bucket):Option M.Bucket:=
 (zI j.aLW).bind λx1=>(Bx j.bP).bind λx3=>(vN j.aG).bind λx5=>some ⟨j.aLa,j.Top,j.aLU,x1,x3,x5,j.aL1,j.aLy⟩
def kV(I:M.aC):Nat->Int->List M.Bucket->Option M.aC
 |0,_,_=>none
 |U+1,j,C=>if decide (j<(List.length I.Buckets:Int))then(idx I.Buckets j).bind λah=>(eZ ah).bind λJ=>(app 328 C ([J])).bind λai=>kV I U (i64.wrap (j+1)) (C++[J])else some (⟨C⟩:M.aC)
def cX(j:M.aC):Option M.aC:=
 kV j aH 0 []
def pZ(j:M.aLX):Option M.aLX:=
 (app 40 [] j.aLz).bind λx1=>(app 8 [] j.aMC).bind λC=>some j
def lJ(j:M.bO):Option M.bO:=
 (app 24 [] j.aW).bind λx1=>(pZ j.aLX).bind λx9=>some ⟨j.Id,j.aLa,j.Top,j.aLT,j.aW,x9⟩
def oA(j:List M.bO):Nat->Int->List M.bO->Option (List M.bO)
 |0,_,_=>none
 |U+1,I,C=>if decide (I<(List.length j:Int))then(idx j I).bind λaf=>(lJ af).bind λJ=>(app 144 C ([J])).bind λah=>oA j U (i64.wrap (I+1)) (C++[J])else some C
def Cc(j:List M.bO):Option (List M.bO):=
 oA j aH 0 []
def Cf(j:M.aT):Option M.aT:=
 (app 32 [] j.aLk).bind λx1=>some j
def A0(j:M.aLe):Option M.aLe:=
 (app 24 [] j.aL8).bind λx1=>some j
def C2(j:M.aLa):Option M.aLa:=
 (app 16 [] j.aL4).bind λx1=>some j
def BH(j:M.aLj):Option M.aLj:=
 (bH j.aE).bind λx1=>(app 16 [] j.aQ).bind λx3=>(app 72 [] j.aLv).bind λx5=>some ⟨x1,j.aQ,j.aLv⟩
def iH(j:M.aD)(x1:M.aC)(x3:(List M.bO))(x5:M.aT)(x7:M.aLe)(J:List M.aLa):Nat->Int->List M.aLj->Option M.aD
 |0,_,_=>none
 |ai+1,I,C=>if decide (I<(List.length j.aLh:Int))then(idx j.aLh I).bind λaj=>(BH aj).bind λU=>(app 96 C ([U])).bind λak=>iH j x1 x3 x5 x7 J ai (i64.wrap (I+1)) (C++[U])else some (⟨j.Now,j.aLt,j.aLZ,x1,x3,j.aLd,x5,x7,J,C⟩:M.aD)
def lG(j:M.aD)(x1:M.aC)(x3:(List M.bO))(x5:M.aT)(x7:M.aLe):Nat->Int->List M.aLa->Option M.aD
 |0,_,_=>none
 |U+1,I,C=>if decide (I<(List.length j.aLp:Int))then(idx j.aLp I).bind λai=>(C2 ai).bind λJ=>(app 56 C ([J])).bind λaj=>lG j x1 x3 x5 x7 U (i64.wrap (I+1)) (C++[J])else iH j x1 x3 x5 x7 C aH 0 ([]:List M.aLj)
def rY(j:M.aD):Option M.aD:=
 (cX j.aC).bind λx1=>(Cc j.aLf).bind λx3=>(Cf j.aLk).bind λx5=>(A0 j.aLe).bind λx7=>lG j x1 x3 x5 x7 aH 0 []
def A3(C:M.bO)(j:Int):Option Bool:=
 some (C.Id==j)
def eX(C:List M.bO)(I:M.bO->Option Bool):Nat->Int->Option Int
 |0,_=>none
 |J+1,j=>if decide (j<(List.length C:Int))then(idx C j).bind λx7=>(I x7).bind λU=>if U then some j else eX C I J (i64.wrap (j+1))else some (-1)
def rE(j:List M.bO)(C:M.bO->Option Bool):Option Int:=
 eX j C aH 0
def AE(j:M.aD)(C:Int):Option Int:=
 (rE j.aLf (λI=>A3 I C)).bind λx1=>some x1
def bB(j:Int)(C:Int)(I:Int):Option Bool:=
 if decide (C<=j)then some (decide (j<=I))else some false
def lP(j:ByteArray)(J:Int)(C:Bool):Nat->Int->Option Bool
 |0,_=>none
 |U+1,I=>if decide (I<(j.size:Int))then(aA0 j I).bind λx7=>if decide ((x7.toNat:Int)>=97)then if decide ((x7.toNat:Int)<=122)then lP j J C U (i64.wrap (I+1))else if C then if !((x7.toNat:Int)==47)then some false else lP j J C U (i64.wrap (I+1))else some false else if C then if !((x7.toNat:Int)==47)then some false else lP j J C U (i64.wrap (I+1))else some false else(bB (j.size:Int) 1 J).bind λae=>some ae
def De(j:ByteArray)(C:Int)(I:Bool):Option Bool:=
 lP j C I aH 0
def cE(j:ByteArray):Option Bool:=
 (De j 8 false).bind λx1=>some x1
def eO(C:M.aLU):Nat->Int->Int->Option Bool
 |0,_,_=>none
 |U+1,I,J=>if decide (J<((3:Nat):Int))then(idx ([C.aMA,C.aL6,C.aL0]) J).bind λj=>(bB j 0 1000000000000).bind λah=>if !ah then some false else if j !=0 then if decide (j<=I)then some false else eO C U (if j>I then j else I) (i64.wrap (J+1))else eO C U (if j>I then j else I) (i64.wrap (J+1))else(cE C.aLa).bind λai=>some ai
def A6(j:M.aLU):Option Bool:=
 eO j aH 0 0
def Aj(j:M.aLr)(C:ByteArray)(c1:ByteArray):Option Bool:=
 if j.aLa.toList==C.toList then some (j.aMF.toList==c1.toList)else some false
def dZ(C:List M.aLr)(I:M.aLr->Option Bool):Nat->Int->Option Int
 |0,_=>none
 |J+1,j=>if decide (j<(List.length C:Int))then(idx C j).bind λx7=>(I x7).bind λU=>if U then some j else dZ C I J (i64.wrap (j+1))else some (-1)
def nC(j:List M.aLr)(C:M.aLr->Option Bool):Option Int:=
 dZ j C aH 0
def uA(j:M.aLi)(C:ByteArray)(I:ByteArray):Option Int:=
 (nC j.aLg (λJ=>Aj J C I)).bind λx1=>some x1
def yH(j:M.aLb):Option Bool:=
 (bB j.aMM 1 4).bind λx1=>if x1 then(bB j.aMD 0 999).bind λx4=>if x4 then(bB j.aLT 0 1000000000000).bind λx7=>if x7 then some (decide ((j.aMN.length:Int)<=60))else some false else some false else some false
def gI(x8:M.aLi)(I:Int->Option Bool):Nat->Int->Option Bool
 |0,_=>none
 |J+1,j=>if decide (j<(List.length x8.aLg:Int))then(idx x8.aLg j).bind λC=>(cE C.aLa).bind λU=>if !U then some false else(cE C.aMF).bind λaj=>if !aj then some false else(uA x8 C.aLa C.aMF).bind λak=>if ak !=j then some false else(yH C.aLb).bind λal=>if !al then some false else gI x8 I J (i64.wrap (j+1))else I j
def fW(x8:M.aLi)(I:Int->Option Bool):Nat->Int->Option Bool
 |0,_=>none
 |J+1,j=>if decide (j<(List.length x8.aLg:Int))then(idx x8.aLg j).bind λC=>(cE C.aLa).bind λU=>if !U then some false else(cE C.aMF).bind λaj=>if !aj then some false else(uA x8 C.aLa C.aMF).bind λak=>if ak !=j then some false else(yH C.aLb).bind λal=>if !al then some false else fW x8 I J (i64.wrap (j+1))else I j
def gH(C:M.aJ):Nat->Int->Option Bool
 |0,_=>none
 |I+1,j=>if decide (j<(List.length C.aLW:Int))then(idx C.aLW j).bind λx8=>(bB x8.aLT 1 1000000000000).bind λJ=>if !J then some false else if decide (j>0)then(idx C.aLW (i64.wrap (j-1))).bind λU=>if decide (x8.aLT<=U.aLT)then some false else if decide ((List.length x8.aLg:Int)>12)then some false else gI x8 (λ(aa:Int)=>gH C I (i64.wrap (j+1))) aH 0 else if decide ((List.length x8.aLg:Int)>12)then some false else fW x8 (λ(ae:Int)=>gH C I (i64.wrap (j+1))) aH 0 else some (decide ((List.length C.aLW:Int)<=4))
def Bp(j:M.aJ):Option Bool:=
 gH j aH 0
def fH(j:ByteArray):Nat->Int->Option Bool
 |0,_=>none
 |I+1,C=>if decide (C<(j.size:Int))then(aA0 j C).bind λx5=>if decide ((x5.toNat:Int)>=97)then if decide ((x5.toNat:Int)<=122)then fH j I (i64.wrap (C+1))else if decide ((x5.toNat:Int)>=48)then if !(decide ((x5.toNat:Int)<=57))then some false else fH j I (i64.wrap (C+1))else some false else if decide ((x5.toNat:Int)>=48)then if !(decide ((x5.toNat:Int)<=57))then some false else fH j I (i64.wrap (C+1))else some false else some (decide ((j.size:Int)<=12))
def Ce(j:ByteArray):Option Bool:=
 fH j aH 0
def kX(j:M.bD):Option Bool:=
 (bB j.aLn 1 3).bind λx1=>if !x1 then some false else(bB j.N (-1000000000000) 1000000000000).bind λx4=>if !x4 then some false else(Ce j.aLu).bind λx7=>if !x7 then some false else if j.aLn==2 then if !(j.N !=0)then if j.aLn==1 then some (!(!(j.aLu.toList==(⟨#[]⟩:ByteArray).toList)))else some true else some false else if j.aLn==1 then some (!(!(j.aLu.toList==(⟨#[]⟩:ByteArray).toList)))else some true
def kO(j:M.aF):Nat->Int->Option Bool
 |0,_=>none
 |I+1,C=>if decide (C<(List.length j.aLY:Int))then(idx j.aLY C).bind λx8=>(cE x8.Name).bind λU=>if !U then some false else(bB x8.N 0 1000000000).bind λah=>if !ah then some false else if decide (C>0)then(idx j.aLY (i64.wrap (C-1))).bind λJ=>if Op.bytesLess x8.Name.toList J.Name.toList||x8.Name.toList==J.Name.toList then some false else kO j I (i64.wrap (C+1))else kO j I (i64.wrap (C+1))else some (decide ((List.length j.aLY:Int)<=6))
def cW(j:M.aF):Option Bool:=
 kO j aH 0
def AM(j:Int)(C:Int):Option Int:=
 if decide (j<C)then some (-1)else if decide (j>C)then some 1 else some 0
def sE(j:ByteArray)(C:ByteArray):Option Int:=some (Lib.compareBytes j.data.toList C.data.toList)
def Dg(j:ByteArray)(C:ByteArray):Option Int:=
 (sE j C).bind λx1=>some x1
def fC(j:M.bD)(C:M.bD):Option Int:=
 (kX j).bind λx1=>if !x1 then some 0 else(kX C).bind λx4=>if !x4 then some 0 else(AM j.aLn C.aLn).bind λx7=>if x7 !=0 then some x7 else(AM j.N C.N).bind λI=>if I !=0 then some I else(Dg j.aLu C.aLu).bind λJ=>some J
def mB(j:M.aE):Nat->Int->Option Bool
 |0,_=>none
 |I+1,C=>if decide (C<(List.length j.aLV:Int))then(idx j.aLV C).bind λx8=>(kX x8.Key).bind λJ=>if !J then some false else(cW x8.aF).bind λU=>if !U then some false else if decide (C>0)then(idx j.aLV (i64.wrap (C-1))).bind λah=>(fC ah.Key x8.Key).bind λai=>if decide (ai>=0)then some false else mB j I (i64.wrap (C+1))else mB j I (i64.wrap (C+1))else(cE j.Name).bind λaj=>if aj then if decide ((List.length j.aLV:Int)<=16)then(bB j.aLx 0 1000000).bind λak=>some ak else some false else some false
def cC(j:M.aE):Option Bool:=
 mB j aH 0
def AO(C:M.aE)(j:ByteArray):Option Bool:=
 some (C.Name.toList==j.toList)
def eH(C:List M.aE)(I:M.aE->Option Bool):Nat->Int->Option Int
 |0,_=>none
 |J+1,j=>if decide (j<(List.length C:Int))then(idx C j).bind λx7=>(I x7).bind λU=>if U then some j else eH C I J (i64.wrap (j+1))else some (-1)
def oT(j:List M.aE)(C:M.aE->Option Bool):Option Int:=
 eH j C aH 0
def rT(j:M.aLS)(C:ByteArray):Option Int:=
 (oT j.aLc (λI=>AO I C)).bind λx1=>some x1
def eV(C:List M.aU)(I:M.aU):Nat->Int->Option Int
 |0,_=>none
 |J+1,j=>if decide (j<(List.length C:Int))then(idx C j).bind λx8=>if(I.aE.toList==x8.aE.toList)&&(I.Field.toList==x8.Field.toList)then some j else eV C I J (i64.wrap (j+1))else some (-1)
def pQ(j:List M.aU)(C:M.aU):Option Int:=
 eV j C aH 0
def mE(j:List M.aU)(C:M.aU):Option Bool:=
 (pQ j C).bind λx1=>some (decide (x1>=0))
def zZ(C:M.aR)(j:ByteArray):Option Bool:=
 some (C.Name.toList==j.toList)
def eE(C:List M.aR)(I:M.aR->Option Bool):Nat->Int->Option Int
 |0,_=>none
 |J+1,j=>if decide (j<(List.length C:Int))then(idx C j).bind λx7=>(I x7).bind λU=>if U then some j else eE C I J (i64.wrap (j+1))else some (-1)
def pA(j:List M.aR)(C:M.aR->Option Bool):Option Int:=
 eE j C aH 0
def CD(j:M.aF)(C:ByteArray):Option Int:=
 (pA j.aLY (λI=>zZ I C)).bind λx1=>some x1
def iO(j:M.aF)(C:ByteArray):Option (Int×Bool):=
 (CD j C).bind λx1=>if decide (x1<0)then some (0,false)else(idx j.aLY x1).bind λx4=>some (x4.N,true)
def AR(j:M.aLo)(C:M.aLo)(I:ByteArray):Option Bool:=
 (iO j.aF I).bind λx1=>(iO C.aF I).bind λx3=>if decide (x1.1<x3.1)then some true else if x1.1==x3.1 then(fC j.Key C.Key).bind λx7=>some (decide (x7<0))else some false
def tL(U:ByteArray)(I:List M.aLo)(J:M.aLo)(C:Int->Option (List M.aLo)):Nat->Int->Option (List M.aLo)
 |0,_=>none
 |ai+1,j=>if decide (j>0)then(idx I (i64.wrap (j-1))).bind λaj=>(AR J aj U).bind λak=>if ak then tL U I J C ai (i64.wrap (j-1))else C j else C j
def oK(I:M.aE)(J:ByteArray):Nat->Int->List M.aLo->Option (List M.aLo)
 |0,_,_=>none
 |ai+1,C,j=>if decide (C<(List.length I.aLV:Int))then(idx I.aLV C).bind λah=>(iO ah.aF J).bind λak=>if !ak.2 then oK I J ai (i64.wrap (C+1)) j else tL J j ah (λ(U:Int)=>(BO ah).bind λaj=>(L5 56 j U ([aj])).bind λal=>oK I J ai (i64.wrap (C+1)) (List.take U.toNat j++([aj]++List.drop U.toNat j))) aH (List.length j:Int)else some j
def DH(j:M.aE)(C:ByteArray):Option (List M.aLo):=
 oK j C aH 0 []
def hH(C:ByteArray)(x1:(List M.aLo)):Nat->Int->Option (M.bD×M.bD×Bool)
 |0,_=>none
 |U+1,j=>if decide (j<(List.length x1:Int))then(idx x1 (i64.wrap (j-1))).bind λI=>(iO I.aF C).bind λah=>(idx x1 j).bind λJ=>(iO J.aF C).bind λai=>if ah.1==ai.1 then some (I.Key,J.Key,true)else hH C x1 U (i64.wrap (j+1))else some ((⟨0,0,(⟨#[]⟩:ByteArray)⟩:M.bD),(⟨0,0,(⟨#[]⟩:ByteArray)⟩:M.bD),false)
def mQ(C:M.aE)(j:ByteArray):Option (M.bD×M.bD×Bool):=
 (DH C j).bind λx1=>hH j x1 aH 1
def gG(j:M.aLS):Nat->Int->Option Bool
 |0,_=>none
 |U+1,C=>if decide (C<(List.length j.aLm:Int))then(idx j.aLm C).bind λI=>(rT j I.aE).bind λJ=>if decide (J<0)then some false else(cE I.Field).bind λai=>if !ai then some false else(CK j.aLm C).bind λao=>(mE (List.take C.toNat j.aLm) I).bind λaj=>if aj then some false else(idx j.aLc J).bind λak=>(mQ ak I.Field).bind λal=>if al.2.2 then some false else gG j U (i64.wrap (C+1))else some true
def gB(C:M.aLS):Nat->Int->Option Bool
 |0,_=>none
 |J+1,j=>if decide (j<(List.length C.aLc:Int))then(idx C.aLc j).bind λI=>(cC I).bind λai=>if !ai then some false else if decide (j>0)then(idx C.aLc (i64.wrap (j-1))).bind λU=>if Op.bytesLess I.Name.toList U.Name.toList||I.Name.toList==U.Name.toList then some false else gB C J (i64.wrap (j+1))else gB C J (i64.wrap (j+1))else gG C aH 0
def oJ(j:M.aLS):Option Bool:=
 (cE j.Name).bind λx1=>if !x1 then some false else(bB j.aLT 0 1000).bind λx4=>if !x4 then some false else if decide ((j.aLc.length:Int)>4)then some false else if decide ((j.aLm.length:Int)>4)then some false else gB j aH 0
def rJ(j:M.bR):Option Bool:=
 (bB j.aLZ 1 1000000).bind λx1=>if x1 then(bB j.Seq 1 1000000).bind λx4=>if x4 then(kX j.Key).bind λx7=>if x7 then(cE j.Field).bind λC=>if C then(bB j.N 0 1000000000).bind λI=>some I else some false else some false else some false else some false
def pP(j:M.aN):Nat->Int->Option Bool
 |0,_=>none
 |I+1,C=>if decide (C<(List.length j.aLl:Int))then(idx j.aLl C).bind λx9=>(rJ x9).bind λJ=>if !J then some false else if x9.aLZ !=j.aLZ then some false else if x9.Seq !=(i64.wrap ((i64.wrap (j.aL2-(List.length j.aLl:Int)))+C))then some false else pP j I (i64.wrap (C+1))else(bB j.aLZ 1 1000000).bind λU=>if U then(bB j.aL2 1 1000000).bind λai=>if ai then some (decide ((List.length j.aLl:Int)<=20))else some false else some false
def zH(j:M.aN):Option Bool:=
 pP j aH 0
def Az(j:M.aG):Option Bool:=
 (cC j.aLq).bind λx1=>if x1 then if j.aLq.Name.toList==(⟨#[110,111,116,101,115]⟩:ByteArray).toList then(bB j.aMG 0 1000000000000).bind λx5=>if x5 then(zH j.aLs.aN).bind λx8=>some x8 else some false else some false else some false
def BS(j:M.aLb)(C:Bool):Option Int:=
 if C then some 76 else some (i64.wrap (16+(j.aMN.length)))
def mH(x7:M.aLi)(I:Int->Int->Option Int):Nat->Int->Int->Option Int
 |0,_,_=>none
 |U+1,C,j=>if decide (j<(List.length x7.aLg:Int))then(idx x7.aLg j).bind λJ=>(BS J.aLb (J.aLb.aMM==3)).bind λaj=>mH x7 I U (i64.wrap (C+aj)) (i64.wrap (j+1))else I C j
def gF(C:M.aJ):Nat->Int->Int->Option Int
 |0,_,_=>none
 |U+1,I,j=>if decide (j<(List.length C.aLW:Int))then(idx C.aLW j).bind λx7=>mH x7 (λ(J:Int) (ae:Int)=>gF C U J (i64.wrap (j+1))) aH I 0 else some I
def BL(j:M.aJ):Option Int:=
 gF j aH 0 0
def cN(j:M.bD):Nat->Int->List Int->Option (List Int)
 |0,_,_=>none
 |J+1,C,I=>if decide (C>=0)then if decide (0<=(i64.wrap (8*C)))then(app 1 I ([IntKind.u8.wrap (Int.fdiv (i64.wrap (j.N+1000000000000)) (2^(min (i64.wrap (8*C)).toNat IntKind.i64.bits)))])).bind λU=>cN j J (i64.wrap (C-1)) (I++[IntKind.u8.wrap (Int.fdiv (i64.wrap (j.N+1000000000000)) (2^(min (i64.wrap (8*C)).toNat IntKind.i64.bits)))])else none else(app 1 I (bJ j.aLu)).bind λah=>some (I++bJ j.aLu)
def lO(j:M.bD):Option (List Int):=
 (kX j).bind λx1=>if !x1 then some []else if j.aLn !=2 then cN j aH 5 ([IntKind.u8.wrap j.aLn])else(app 1 ([IntKind.u8.wrap j.aLn]) (bJ j.aLu)).bind λC=>some ([IntKind.u8.wrap j.aLn]++bJ j.aLu)
def dH  :Nat->Int->List Int->Option (List Int)
 |0,_,_=>none
 |I+1,j,C=>if decide (j>=128)then(app 1 C ([IntKind.u8.wrap (i64.wrap ((Int.tmod j 128)+128))])).bind λJ=>dH I (i64.wrap (Int.tdiv j 128)) (C++[IntKind.u8.wrap (i64.wrap ((Int.tmod j 128)+128))])else(app 1 C ([IntKind.u8.wrap j])).bind λU=>some (C++[IntKind.u8.wrap j])
def cQ(C:List Int)(j:Int):Option (List Int):=
 (eD C).bind λx1=>(bB j 0 1000000000000).bind λx3=>if !x3 then some x1 else dH aH j x1
def kM(C:List Int)(j:List Int):Option (List Int):=
 (cQ C (j.length)).bind λx1=>(app 1 x1 j).bind λx3=>some (x1++j)
def dQ(C:M.aF):Nat->Int->List Int->Option (List Int)
 |0,_,_=>none
 |U+1,j,I=>if decide (j<(List.length C.aLY:Int))then(idx C.aLY j).bind λJ=>(kM I (bJ J.Name)).bind λai=>(cQ ai J.N).bind λaj=>dQ C U (i64.wrap (j+1)) aj else some I
def iD(j:M.aF):Option (List Int):=
 (cW j).bind λx1=>if !x1 then some []else(cQ [] (j.aLY.length)).bind λx4=>dQ j aH 0 x4
def nM(j:M.aE):Nat->Int->Int->Option Int
 |0,_,_=>none
 |J+1,I,C=>if decide (C<(List.length j.aLV:Int))then(idx j.aLV C).bind λx7=>(lO x7.Key).bind λU=>(iD x7.aF).bind λaf=>nM j J (i64.wrap (I+(i64.wrap ((List.length U:Int)+(List.length af:Int))))) (i64.wrap (C+1))else some I
def Am(j:M.aE):Option Int:=
 nM j aH 0 0
def kF(j:M.aLS):Nat->Int->Int->Option Int
 |0,_,_=>none
 |J+1,I,C=>if decide (C<(List.length j.aLc:Int))then(idx j.aLc C).bind λx7=>(Am x7).bind λU=>kF j J (i64.wrap (I+U)) (i64.wrap (C+1))else some I
def zF(j:M.aLS):Option Int:=
 kF j aH 0 0
def Ev(j:M.bP):Option Int:=
 (zF j.aLq).bind λx1=>some (i64.wrap (x1+(j.Log.length)))
def DG(j:M.Bucket):Option Int:=
 (BL j.aLW).bind λx1=>(Ev j.bP).bind λx3=>(Am j.aG.aLq).bind λx5=>some (i64.wrap ((i64.wrap ((i64.wrap (x1+x3))+x5))+(i64.wrap (40*(j.aG.aLs.aN.aLl.length)))))
def uN(j:M.Bucket):Option Bool:=
 (cE j.aLa).bind λx1=>if x1 then(cE j.Top).bind λx4=>if x4 then(A6 j.aLU).bind λx7=>if x7 then if j.aLU.aLa.toList==j.aLa.toList then(Bp j.aLW).bind λC=>if C then(oJ j.bP.aLq).bind λI=>if I then(Az j.aG).bind λJ=>if J then(bB j.aL1 0 1000000000000).bind λU=>if U then(DG j).bind λai=>some (decide (ai<=2500))else some false else some false else some false else some false else some false else some false else some false else some false
def tT(j:M.Bucket)(C:M.Bucket):Option Bool:=
 if Op.bytesLess j.aLa.toList C.aLa.toList then some true else if j.aLa.toList==C.aLa.toList then some (Op.bytesLess j.Top.toList C.Top.toList)else some false
def iK(j:M.aC):Nat->Int->Option Bool
 |0,_=>none
 |I+1,C=>if decide (C<(List.length j.Buckets:Int))then(idx j.Buckets C).bind λx8=>(uN x8).bind λJ=>if !J then some false else if decide (C>0)then(idx j.Buckets (i64.wrap (C-1))).bind λU=>(tT U x8).bind λah=>if !ah then some false else iK j I (i64.wrap (C+1))else iK j I (i64.wrap (C+1))else some (decide ((List.length j.Buckets:Int)<=9))
def dE(j:M.aC):Option Bool:=
 iK j aH 0
def Bq(j:ByteArray):Option Bool:=
 (De j 30 true).bind λx1=>some x1
def dL(I:M.aT)(j:Int)(x8:M.uY)(J:Int->Option Bool):Nat->Int->Option Bool
 |0,_=>none
 |U+1,C=>if decide (C<(List.length (List.take j.toNat I.aLk):Int))then(idx (List.take j.toNat I.aLk) C).bind λah=>if ah.Name.toList==x8.Name.toList then if x8.aMS then if !ah.aMS then some false else if !x8.aL9 then some false else if !ah.aL9 then some false else dL I j x8 J U (i64.wrap (C+1))else dL I j x8 J U (i64.wrap (C+1))else dL I j x8 J U (i64.wrap (C+1))else J C
def hU(C:M.aT):Nat->Int->Option Bool
 |0,_=>none
 |I+1,j=>if decide (j<(List.length C.aLk:Int))then(idx C.aLk j).bind λx8=>(Bq x8.Name).bind λJ=>if !J then some false else(bB x8.bO 1 1000000000000).bind λU=>if !U then some false else(CK C.aLk j).bind λai=>dL C j x8 (λ(aa:Int)=>hU C I (i64.wrap (j+1))) aH 0 else some (decide ((List.length C.aLk:Int)<=12))
def AL(j:M.aT):Option Bool:=
 hU j aH 0
def xK(j:M.bO):Nat->Int->Option Bool
 |0,_=>none
 |I+1,C=>if decide (C<(List.length j.aW:Int))then(idx j.aW C).bind λx8=>(cE x8.aMF).bind λJ=>if !J then some false else if x8.aLT !=j.aLT then some false else xK j I (i64.wrap (C+1))else(bB j.Id 1 1000000000000).bind λU=>if U then(cE j.aLa).bind λah=>if ah then(cE j.Top).bind λai=>if ai then(bB j.aLT 1 1000000000000).bind λaj=>if aj then some (decide ((List.length j.aW:Int)<=8))else some false else some false else some false else some false
def B9(j:M.bO):Option Bool:=
 xK j aH 0
def zA(j:M.Bucket)(C:ByteArray)(c1:ByteArray):Option Bool:=
 if j.aLa.toList==C.toList then some (j.Top.toList==c1.toList)else some false
def dY(C:List M.Bucket)(I:M.Bucket->Option Bool):Nat->Int->Option Int
 |0,_=>none
 |J+1,j=>if decide (j<(List.length C:Int))then(idx C j).bind λx7=>(I x7).bind λU=>if U then some j else dY C I J (i64.wrap (j+1))else some (-1)
def mV(j:List M.Bucket)(C:M.Bucket->Option Bool):Option Int:=
 dY j C aH 0
def oL(j:M.aC)(C:ByteArray)(I:ByteArray):Option Int:=
 (mV j.Buckets (λJ=>zA J C I)).bind λx1=>some x1
def nH(j:M.aLa):Nat->Int->Option Bool
 |0,_=>none
 |I+1,C=>if decide (C<(List.length j.aL4:Int))then(idx j.aL4 C).bind λx8=>(cE x8).bind λU=>if !U then some false else if decide (C>0)then(idx j.aL4 (i64.wrap (C-1))).bind λJ=>if Op.bytesLess x8.toList J.toList||x8.toList==J.toList then some false else nH j I (i64.wrap (C+1))else nH j I (i64.wrap (C+1))else(cE j.Name).bind λah=>if ah then(bB j.aLT 1 1000000000000).bind λai=>if ai then(bB (List.length j.aL4:Int) 1 6).bind λaj=>some aj else some false else some false
def B4(j:M.aLa):Option Bool:=
 nH j aH 0
def cU(C:List ByteArray)(I:ByteArray):Nat->Int->Option Int
 |0,_=>none
 |J+1,j=>if decide (j<(List.length C:Int))then(idx C j).bind λx7=>if I.toList==x7.toList then some j else cU C I J (i64.wrap (j+1))else some (-1)
def oY(j:List ByteArray)(C:ByteArray):Option Int:=
 cU j C aH 0
def sU(j:ByteArray):Option Int:=
 (oY ([⟨#[98,97,110,107]⟩,⟨#[110,101,119,115]⟩,⟨#[115,104,111,112]⟩]) j).bind λx1=>some x1
def mP(j:M.aLj):Nat->Int->Option Bool
 |0,_=>none
 |I+1,C=>if decide (C<(List.length j.aLv:Int))then(idx j.aLv C).bind λJ=>(rJ J).bind λU=>if !U then some false else mP j I (i64.wrap (C+1))else(cC j.aE).bind λai=>if ai then if j.aE.Name.toList==(⟨#[110,111,116,101,115]⟩:ByteArray).toList then some (decide ((List.length j.aQ:Int)<=60))else some false else some false
def kN(C:M.aLj):Nat->Int->Option Bool
 |0,_=>none
 |I+1,j=>if decide (j<(List.length C.aQ:Int))then(idx C.aQ j).bind λx8=>(bB x8.aLZ 1 1000000).bind λJ=>if !J then some false else(bB x8.Seq 0 1000000).bind λU=>if !U then some false else if decide (j>0)then(idx C.aQ (i64.wrap (j-1))).bind λah=>if decide (x8.aLZ<=ah.aLZ)then some false else kN C I (i64.wrap (j+1))else kN C I (i64.wrap (j+1))else mP C aH 0
def C1(j:M.aLj):Option Bool:=
 kN j aH 0
def lU(C:M.aD):Nat->Int->Option Bool
 |0,_=>none
 |J+1,j=>if decide (j<(List.length C.aLp:Int))then(idx C.aLp j).bind λI=>(B4 I).bind λU=>if !U then some false else(sU I.Name).bind λai=>if ai !=j then some false else(idx C.aLh j).bind λaj=>(C1 aj).bind λak=>if !ak then some false else lU C J (i64.wrap (j+1))else some true
def iX(j:M.aD):Nat->Int->Option Bool
 |0,_=>none
 |J+1,I=>if decide (I<(List.length j.aLf:Int))then(idx j.aLf I).bind λC=>(B9 C).bind λU=>if !U then some false else if decide (C.Id>=j.aLd)then some false else if decide (I>0)then(idx j.aLf (i64.wrap (I-1))).bind λai=>if decide (C.Id<=ai.Id)then some false else(oL j.aC C.aLa C.Top).bind λaj=>if decide (aj<0)then some false else iX j J (i64.wrap (I+1))else(oL j.aC C.aLa C.Top).bind λak=>if decide (ak<0)then some false else iX j J (i64.wrap (I+1))else lU j aH 0
def Ct(j:M.aD):Option Bool:=
 (bB j.Now 0 999999990000).bind λx1=>if !x1 then some false else(bB j.aLZ 1 1000000).bind λx4=>if !x4 then some false else(dE j.aC).bind λx7=>if !x7 then some false else if decide ((j.aLf.length:Int)>6)then some false else(bB j.aLd 1 1000000000000).bind λC=>if !C then some false else(AL j.aLk).bind λI=>if !I then some false else if(j.aLp.length:Int) !=3 then some false else if(j.aLh.length:Int) !=3 then some false else iX j aH 0
def yC(j:M.aZ)(p1:Int):Option Bool:=
 ((bB j.aLn 1 9).bind λx8=>if !x8 then some true else(bB j.R 0 3).bind λC=>if !C then some true else if j.aLn==4 then some (j.R !=0)else if j.aLn==9 then some (j.R !=0)else some false).bind λx1=>if x1 then some false else(if j.aLn==5 then some true else if j.aLn==6 then some true else if j.aLn==7 then some true else some (j.aLn==8)).bind λI=>(if I then(cE j.aLu).bind λJ=>if !J then some true else some false else some (!(j.aLu.toList==(⟨#[]⟩:ByteArray).toList))).bind λU=>if U then some false else if j.aLn==1 then(bB j.N 0 1000).bind λai=>some ai else if j.aLn==2 then(bB j.N 0 3).bind λaj=>some aj else(if j.aLn==3 then some (j.aLn==3)else some (j.aLn==4)).bind λak=>if ak then(bB j.N 0 p1).bind λal=>some al else(if j.aLn==6 then some (j.aLn==6)else if j.aLn==7 then some (j.aLn==7)else some (j.aLn==8)).bind λao=>if ao then(bB j.N 0 100).bind λaq=>some aq else some (j.N==0)
def BN(j:Int):Option Int:=
 some (if(if j<1000 then j else 1000)>(-1)then if j<1000 then j else 1000 else -1)
def dW(x1:M.aLX):Nat->Int->Int->List Int->Option (M.aLX×M.Ask)
 |0,_,_,_=>none
 |U+1,I,J,C=>if decide (I<0)then some ((⟨x1.aLz,I,C,J,true,x1.aMI⟩:M.aLX),(⟨0,0,0,(⟨#[]⟩:ByteArray),0⟩:M.Ask))else if decide (I>=(List.length x1.aLz:Int))then some ((⟨x1.aLz,I,C,J,true,x1.aMI⟩:M.aLX),(⟨0,0,0,(⟨#[]⟩:ByteArray),0⟩:M.Ask))else(idx x1.aLz I).bind λj=>(yC j (List.length x1.aLz:Int)).bind λak=>if !ak then some ((⟨x1.aLz,I,C,J,true,x1.aMI⟩:M.aLX),(⟨0,0,0,(⟨#[]⟩:ByteArray),0⟩:M.Ask))else if decide (J>=60)then some ((⟨x1.aLz,I,C,J,true,x1.aMI⟩:M.aLX),(⟨0,0,0,(⟨#[]⟩:ByteArray),0⟩:M.Ask))else if j.aLn==1 then(idx C j.R).bind λax=>dW x1 U (i64.wrap (I+1)) (i64.wrap (J+1)) (List.set C j.R.toNat j.N)else if j.aLn==2 then(idx C j.R).bind λal=>(BN al).bind λao=>(idx C j.N).bind λaq=>(BN aq).bind λar=>(BN (i64.wrap (ao+ar))).bind λav=>dW x1 U (i64.wrap (I+1)) (i64.wrap (J+1)) (List.set C j.R.toNat av)else if j.aLn==3 then(idx C j.R).bind λaw=>if aw==0 then dW x1 U j.N (i64.wrap (J+1)) C else dW x1 U (i64.wrap (I+1)) (i64.wrap (J+1)) C else if j.aLn==4 then dW x1 U j.N (i64.wrap (J+1)) C else if j.aLn==5 then some ((⟨x1.aLz,i64.wrap (I+1),C,i64.wrap (J+1),x1.aMJ,true⟩:M.aLX),(⟨1,j.R,0,j.aLu,0⟩:M.Ask))else if j.aLn==6 then some ((⟨x1.aLz,i64.wrap (I+1),C,i64.wrap (J+1),x1.aMJ,true⟩:M.aLX),(⟨2,j.R,j.N,j.aLu,0⟩:M.Ask))else if j.aLn==7 then(idx C j.R).bind λai=>some ((⟨x1.aLz,i64.wrap (I+1),C,i64.wrap (J+1),x1.aMJ,x1.aMI⟩:M.aLX),(⟨3,0,j.N,j.aLu,ai⟩:M.Ask))else if j.aLn==8 then(idx C j.R).bind λaj=>some ((⟨x1.aLz,i64.wrap (I+1),C,i64.wrap (J+1),x1.aMJ,x1.aMI⟩:M.aLX),(⟨4,0,j.N,j.aLu,aj⟩:M.Ask))else if j.aLn==9 then some ((⟨x1.aLz,i64.wrap (I+1),C,i64.wrap (J+1),true,x1.aMI⟩:M.aLX),(⟨0,0,0,(⟨#[]⟩:ByteArray),0⟩:M.Ask))else dW x1 U (i64.wrap (I+1)) (i64.wrap (J+1)) C
def dO(j:M.aLX):Option (M.aLX×M.Ask):=
 (pZ j).bind λx1=>if j.aMJ then some (x1,⟨0,0,0,⟨#[]⟩,0⟩)else if j.aMI then some (x1,⟨0,0,0,⟨#[]⟩,0⟩)else if(j.aMC.length:Int) !=4 then some (x1,⟨0,0,0,⟨#[]⟩,0⟩)else if decide (j.aME<0)then some (x1,⟨0,0,0,⟨#[]⟩,0⟩)else dW x1 aH x1.Pc x1.aME x1.aMC
def mX(j:M.aD)(C:ByteArray)(I:ByteArray):Option (M.Bucket×Bool):=
 (oL j.aC C I).bind λx1=>if decide (x1<0)then some (⟨⟨#[]⟩,⟨#[]⟩,⟨⟨#[]⟩,0,0,0⟩,⟨[]⟩,⟨⟨⟨#[]⟩,0,[],[]⟩,[],0⟩,⟨⟨⟨#[]⟩,[],0⟩,0,⟨⟨0,0,[]⟩,0,0⟩⟩,0,false⟩,false)else(idx j.aC.Buckets x1).bind λx4=>some (x4,true)
def dC  :Option M.aLb:=
 some ⟨4,0,0,[],false⟩
def Gk(j:M.aD)(C:ByteArray):Option M.aLa:=
 (sU C).bind λx1=>if decide (x1<0)then some ⟨⟨#[]⟩,0,[],false⟩else if decide (x1>=(j.aLp.length))then some ⟨⟨#[]⟩,0,[],false⟩else(idx j.aLp x1).bind λx5=>some x5
def AQ(C:M.aLi)(j:Int):Option Bool:=
 some (C.aLT==j)
def eF(C:List M.aLi)(I:M.aLi->Option Bool):Nat->Int->Option Int
 |0,_=>none
 |J+1,j=>if decide (j<(List.length C:Int))then(idx C j).bind λx7=>(I x7).bind λU=>if U then some j else eF C I J (i64.wrap (j+1))else some (-1)
def oQ(j:List M.aLi)(C:M.aLi->Option Bool):Option Int:=
 eF j C aH 0
def Cr(j:M.aJ)(C:Int):Option Int:=
 (oQ j.aLW (λI=>AQ I C)).bind λx1=>some x1
def BR(C:M.aJ)(p1:Int)(p2:ByteArray)(p3:ByteArray):Option (M.aLb×Bool):=
 (Cr C p1).bind λx1=>(if decide (x1<0)then((dC).bind λx4=>(some (x4,false)))else((idx C.aLW x1).bind λx6=>((uA x6 p2 p3).bind λj=>(if decide (j<0)then((dC).bind λI=>(some (I,false)))else((idx x6.aLg j).bind λJ=>((nX J.aLb).bind λU=>(some (U,true))))))))
def xV(j:M.aLa)(C:Int):Option Bool:=
 (B4 j).bind λx1=>if x1 then if decide (C>(i64.wrap (j.aLT-2)))then if decide (C<=j.aLT)then some (decide (C>=1))else some false else some false else some false
def vE(j:List ByteArray)(C:ByteArray):Option Bool:=
 (oY j C).bind λx1=>some (decide (x1>=0))
def DI(j:M.aLa)(C:ByteArray):Option Bool:=
 (vE j.aL4 C).bind λx1=>some x1
def lE(C:List Int):Nat->Int->List Int->Option (List Int)
 |0,_,_=>none
 |U+1,j,I=>if decide (j<(List.length C:Int))then(idx C j).bind λJ=>(app 8 I ([i64.wrap J])).bind λaf=>lE C U (i64.wrap (j+1)) (I++[i64.wrap J])else some I
def vQ(j:List Int):Option (List Int):=
 lE j aH 0 ([j.length])
def HV(C:Int)(j:Int):Option Int:=
 (bB j 1 1000000000000).bind λx1=>if !x1 then some 0 else if decide (j=0)then none else if decide ((Int.tmod C j)<0)then some (i64.wrap ((Int.tmod C j)+j))else some (Int.tmod C j)
def Bg(j:List Int):Nat->Int->Int->Option Int
 |0,_,_=>none
 |J+1,I,C=>if decide (C<(List.length j:Int))then(idx j C).bind λx7=>(HV x7 2147483647).bind λU=>Bg j J (Int.tmod (i64.wrap ((i64.wrap ((i64.wrap (I*1000003))+U))+13)) 2147483647) (i64.wrap (C+1))else some I
def Fh(j:List Int):Option Int:=
 Bg j aH 11 0
def Ar(j:Int)(C:List Int):Option Int:=
 (app 8 ([j]) C).bind λx1=>(app 8 ([j]++C) ([j])).bind λx3=>(Fh (([j]++C)++[j])).bind λx5=>some x5
def mD(j:Int)(C:ByteArray):Option Int:=
 (vQ (bJ C)).bind λx1=>(Ar j x1).bind λx3=>if x3==0 then some 1 else some x3
def gK(x5:Int):Nat->Int->List Int->Option (List Int)
 |0,_,_=>none
 |I+1,j,C=>if decide (j>=0)then if decide (0<=(i64.wrap (8*j)))then(app 1 C ([IntKind.u8.wrap (Int.fdiv x5 (2^(min (i64.wrap (8*j)).toNat IntKind.i64.bits)))])).bind λJ=>gK x5 I (i64.wrap (j-1)) (C++[IntKind.u8.wrap (Int.fdiv x5 (2^(min (i64.wrap (8*j)).toNat IntKind.i64.bits)))])else none else some C
def EJ(j:M.aLa)(C:ByteArray)(I:Int):Option (List Int):=
 (mD 107 j.Name).bind λx1=>(mD 109 C).bind λx3=>(Ar (i64.wrap (1+I)) ([103,x1,x3])).bind λx5=>gK x5 aH 5 []
def Cj(j:M.aLa)(I:ByteArray)(C:Int):Option M.aLb:=
 (B4 j).bind λx1=>(if !x1 then((dC).bind λx4=>(some x4))else((xV j C).bind λx6=>(if !x6 then(some ⟨1,404,j.aLT,[],false⟩)else((DI j I).bind λx9=>(if !x9 then(some ⟨1,404,j.aLT,[],false⟩)else((EJ j I C).bind λJ=>(some ⟨1,200,C,J,j.aL9⟩)))))))
def AZ(J:M.aJ)(j:M.aLa)(C:Int)(I:ByteArray)(U:Bool):Option M.aLb:=
 (BR J C j.Name I).bind λx1=>(if x1.2 then(some x1.1)else(if U then((Cj j I C).bind λx5=>(some x5))else((dC).bind λx7=>(some x7))))
def Db(C:M.aD)(j:M.bO)(U:ByteArray):Option M.aLb:=
 (mX C j.aLa j.Top).bind λx1=>(if !x1.2 then((dC).bind λx4=>(some x4))else((sU j.aLa).bind λx6=>(if decide (x6<0)then((dC).bind λx9=>(some x9))else((Gk C j.aLa).bind λI=>((AZ x1.1.aLW I j.aLT U C.aLt).bind λJ=>(some J))))))
def C5(j:M.bO)(I:ByteArray)(C:M.aLb):Option (M.bO×Bool):=
 (lJ j).bind λx1=>(app 24 x1.aW ([⟨I,C.aLT⟩])).bind λx3=>if C.aMD !=200 then(lJ j).bind λJ=>some (J,false)else if C.aLT !=j.aLT then(lJ j).bind λU=>some (U,false)else(B9 j).bind λaf=>if !af then(lJ j).bind λah=>some (ah,false)else(B9 ⟨x1.Id,x1.aLa,x1.Top,x1.aLT,x1.aW++[⟨I,C.aLT⟩],x1.aLX⟩).bind λai=>if !ai then(lJ j).bind λaj=>some (aj,false)else some (⟨x1.Id,x1.aLa,x1.Top,x1.aLT,x1.aW++[⟨I,C.aLT⟩],x1.aLX⟩,true)
def rQ(C:M.aLX)(j:Int)(I:Int):Option (M.aLX×Bool):=
 (pZ C).bind λx1=>if !C.aMI then some (x1,false)else if decide (j<0)then some (x1,false)else if decide (j>=(C.aMC.length))then some (x1,false)else(bB I (-1) 1000).bind λx6=>if !x6 then some (x1,false)else(idx x1.aMC j).bind λx9=>some (⟨x1.aLz,x1.Pc,x1.aMC.set j.toNat I,x1.aME,x1.aMJ,false⟩,true)
def lI(U:List Int)(I:Int):Nat->Int->Int->Option (Int×Int×Bool)
 |0,_,_=>none
 |ae+1,J,j=>if decide (j<6)then if decide ((i64.wrap (I+j))<(List.length U:Int))then(idx U (i64.wrap (I+j))).bind λC=>if decide (0<=(i64.wrap (7*j)))then if decide ((i64.wrap C)<128)then if decide (j>0)then if(i64.wrap C)==0 then some (0,0,false)else if decide ((i64.wrap (J+(i64.wrap ((Int.tmod (i64.wrap C) 128)*2^(min (i64.wrap (7*j)).toNat IntKind.i64.bits)))))>1000000000000)then some (0,0,false)else some (i64.wrap (J+(i64.wrap ((Int.tmod (i64.wrap C) 128)*2^(min (i64.wrap (7*j)).toNat IntKind.i64.bits)))),i64.wrap ((i64.wrap (I+j))+1),true)else if decide ((i64.wrap (J+(i64.wrap ((Int.tmod (i64.wrap C) 128)*2^(min (i64.wrap (7*j)).toNat IntKind.i64.bits)))))>1000000000000)then some (0,0,false)else some (i64.wrap (J+(i64.wrap ((Int.tmod (i64.wrap C) 128)*2^(min (i64.wrap (7*j)).toNat IntKind.i64.bits)))),i64.wrap ((i64.wrap (I+j))+1),true)else lI U I ae (i64.wrap (J+(i64.wrap ((Int.tmod (i64.wrap C) 128)*2^(min (i64.wrap (7*j)).toNat IntKind.i64.bits))))) (i64.wrap (j+1))else none else some (0,0,false)else some (0,0,false)
def gX(C:List Int)(j:Int):Option (Int×Int×Bool):=
 if decide (j<0)then some (0,0,false)else if decide (j>=(C.length))then some (0,0,false)else lI C j aH 0 0
def eY(j:List Int)(C:Int)(I:Int):Option ((List Int)×Int×Bool):=
 (gX j C).bind λx1=>if !x1.2.2 then some ([],0,false)else if decide (x1.1>I)then some ([],0,false)else if decide (x1.1>(i64.wrap (j.length-x1.2.1)))then some ([],0,false)else(SU j x1.2.1 (i64.wrap (x1.2.1+x1.1))).bind λx6=>(eD (List.drop x1.2.1.toNat (j.take (i64.wrap (x1.2.1+x1.1)).toNat))).bind λx8=>some (x8,i64.wrap (x1.2.1+x1.1),true)
def BP(j:Int)(C:List Int):Option Int:=
 (vQ C).bind λx1=>(app 8 ([101,j]) x1).bind λx3=>(Fh ([101,j]++x1)).bind λx5=>some x5
def yK(U:List Int):Nat->Int->List (List Int)->Option ((List (List Int))×Int)
 |0,_,_=>none
 |ah+1,I,j=>(eY U I 4000).bind λC=>if !C.2.2 then some (j,I)else(gX U C.2.1).bind λJ=>if !J.2.2 then some (j,I)else(BP (List.length j:Int) C.1).bind λai=>if J.1 !=ai then some (j,I)else(app 24 j ([C.1])).bind λaj=>yK U ah J.2.1 (j++[C.1])
def Fw(j:List Int):Option ((List (List Int))×Int):=
 yK j aH 0 []
def mR(C:List Int)(I:List Int):Nat->Int->Option Bool
 |0,_=>none
 |J+1,j=>if decide (j<(List.length C:Int))then(idx C j).bind λx8=>(idx I j).bind λU=>if x8 !=U then some false else mR C I J (i64.wrap (j+1))else some true
def zQ(j:List Int)(C:List Int):Option Bool:=
 if j.length !=(C.length:Int)then some false else mR j C aH 0
def iW(j:List Int)(C:List Int):Option Bool:=
 (zQ j C).bind λx1=>some x1
def nT(j:List Int)(x2:Int):Nat->Int->Int->Option (M.bD×Bool)
 |0,_,_=>none
 |I+1,C,v30=>if(decide (v30<(List.length (List.take (6:Int).toNat (List.drop (1:Int).toNat j)):Int)))=true then(idx (List.take (6:Int).toNat (List.drop (1:Int).toNat j)) v30).bind λJ=>nT j x2 I (i64.wrap ((i64.wrap (C*2^(min (8:Int).toNat IntKind.i64.bits)))+(i64.wrap J))) (i64.wrap (v30+1))else(Cn (List.drop (1:Int).toNat j) 6).bind λai=>(toStr (List.drop (6:Int).toNat (List.drop (1:Int).toNat j))).bind λaj=>(lO (⟨i64.wrap x2,i64.wrap (C-1000000000000),bS (List.drop (6:Int).toNat (List.drop (1:Int).toNat j))⟩:M.bD)).bind λU=>(iW U j).bind λah=>if !ah then some ((⟨0,0,(⟨#[]⟩:ByteArray)⟩:M.bD),false)else some ((⟨i64.wrap x2,i64.wrap (C-1000000000000),bS (List.drop (6:Int).toNat (List.drop (1:Int).toNat j))⟩:M.bD),true)
def AD(j:List Int):Option (M.bD×Bool):=
 if(j.length:Int)==0 then some (⟨0,0,⟨#[]⟩⟩,false)else(idx j 0).bind λx2=>(Cn j 1).bind λx7=>if(i64.wrap x2) !=2 then if(decide ((List.length (j.drop (1:Int).toNat):Int)<6))=true then some (⟨0,0,⟨#[]⟩⟩,false)else(CK (j.drop (1:Int).toNat) 6).bind λJ=>nT j x2 aH 0 0 else(toStr (j.drop (1:Int).toNat)).bind λU=>(lO ⟨i64.wrap x2,0,bS (j.drop (1:Int).toNat)⟩).bind λC=>(iW C j).bind λI=>if !I then some (⟨0,0,⟨#[]⟩⟩,false)else some (⟨i64.wrap x2,0,bS (j.drop (1:Int).toNat)⟩,true)
def kH(J:List Int)(x1:(Int×Int×Bool)):Nat->Int->Int->List M.aR->Option (M.aF×Bool)
 |0,_,_,_=>none
 |ah+1,v5,U,C=>if decide (U<x1.1)then(eY J v5 8).bind λj=>(gX J j.2.1).bind λI=>if !j.2.2 then some ((⟨([]:List M.aR)⟩:M.aF),false)else if !I.2.2 then some ((⟨([]:List M.aR)⟩:M.aF),false)else(toStr j.1).bind λak=>(app 24 C ([(⟨bS j.1,I.1⟩:M.aR)])).bind λal=>kH J x1 ah I.2.1 (i64.wrap (U+1)) (C++[(⟨bS j.1,I.1⟩:M.aR)])else(iD (⟨C⟩:M.aF)).bind λai=>(iW ai J).bind λaj=>if !aj then some ((⟨([]:List M.aR)⟩:M.aF),false)else some ((⟨C⟩:M.aF),true)
def sY(j:List Int):Option (M.aF×Bool):=
 (gX j 0).bind λx1=>if !x1.2.2 then some (⟨[]⟩,false)else if decide (x1.1>6)then some (⟨[]⟩,false)else kH j x1 aH x1.2.1 0 []
def E1(j:M.gN):Option Bool:=
 (bB j.aLn 1 6).bind λx1=>if !x1 then some false else(cE j.aE).bind λx4=>if !x4 then some false else if j.aLn !=5 then(kX j.Key).bind λx8=>if !x8 then some false else(cW j.aF).bind λC=>if !C then some false else if j.aLn==6 then(cE j.Field).bind λI=>some I else some (j.Field.toList==(⟨#[]⟩:ByteArray).toList)else(cW j.aF).bind λJ=>if !J then some false else if j.aLn==6 then(cE j.Field).bind λU=>some U else some (j.Field.toList==(⟨#[]⟩:ByteArray).toList)
def At(j:List M.gN):Nat->Int->Option Bool
 |0,_=>none
 |I+1,C=>if decide (C<(List.length j:Int))then(idx j C).bind λx7=>(E1 x7).bind λJ=>if !J then some false else At j I (i64.wrap (C+1))else some (decide ((List.length j:Int)<=6))
def Er(j:List M.gN):Option Bool:=
 At j aH 0
def lH(C:M.gN)(J:(List Int))(U:(List Int))(aj:Int->List Int->Option (List Int)):Nat->Int->List Int->Option (List Int)
 |0,_,_=>none
 |ak+1,j,I=>if decide (j<((4:Nat):Int))then(idx ([bJ C.aE,J,U,bJ C.Field]) j).bind λal=>(kM I al).bind λao=>lH C J U aj ak (i64.wrap (j+1)) ao else aj j I
def fJ(I:List M.gN):Nat->Int->List Int->Option (List Int)
 |0,_,_=>none
 |aj+1,C,J=>if decide (C<(List.length I:Int))then(idx I C).bind λj=>(cQ J j.aLn).bind λak=>(lO j.Key).bind λal=>(iD j.aF).bind λao=>lH j al ao (λ(ai:Int) (U:List Int)=>fJ I aj (i64.wrap (C+1)) U) aH 0 ak else some J
def AF(j:List M.gN):Option (List Int):=
 (Er j).bind λx1=>if !x1 then some []else(cQ [] (j.length)).bind λx4=>fJ j aH 0 x4
def iI(j:List Int)(x1:(Int×Int×Bool)):Nat->Int->Int->List M.gN->Option ((List M.gN)×Bool)
 |0,_,_,_=>none
 |ar+1,v5,v8,J=>if decide (v8<x1.1)then(gX j v5).bind λU=>if U.2.2 then(eY j U.2.1 (List.length j:Int)).bind λC=>if C.2.2 then(eY j C.2.1 (List.length j:Int)).bind λak=>if ak.2.2 then(eY j ak.2.1 (List.length j:Int)).bind λal=>if al.2.2 then(eY j al.2.1 (List.length j:Int)).bind λI=>if !I.2.2 then some (([]:List M.gN),false)else(toStr C.1).bind λav=>(AD ak.1).bind λaf=>(sY al.1).bind λah=>(toStr I.1).bind λaw=>(app 96 J ([(⟨U.1,bS C.1,af.1,ah.1,bS I.1⟩:M.gN)])).bind λax=>iI j x1 ar I.2.1 (i64.wrap (v8+1)) (J++[(⟨U.1,bS C.1,af.1,ah.1,bS I.1⟩:M.gN)])else some (([]:List M.gN),false)else some (([]:List M.gN),false)else some (([]:List M.gN),false)else some (([]:List M.gN),false)else(AF J).bind λao=>(iW ao j).bind λaq=>if !aq then some (([]:List M.gN),false)else some (J,true)
def As(j:List Int):Option ((List M.gN)×Bool):=
 (gX j 0).bind λx1=>if !x1.2.2 then some ([],false)else if decide (x1.1>6)then some ([],false)else iI j x1 aH x1.2.1 0 []
def BU(C:M.aLo)(j:M.bD):Option Bool:=
 some ((C.Key.aLn==j.aLn)&&((C.Key.N==j.N)&&(C.Key.aLu.toList==j.aLu.toList)))
def eW(C:List M.aLo)(I:M.aLo->Option Bool):Nat->Int->Option Int
 |0,_=>none
 |J+1,j=>if decide (j<(List.length C:Int))then(idx C j).bind λx7=>(I x7).bind λU=>if U then some j else eW C I J (i64.wrap (j+1))else some (-1)
def lY(j:List M.aLo)(C:M.aLo->Option Bool):Option Int:=
 eW j C aH 0
def mW(j:M.aE)(C:M.bD):Option Int:=
 (lY j.aLV (λI=>BU I C)).bind λx1=>some x1
def sX(p0:M.aE)(I:M.bD)(p2:M.aF)(C:M.aE):Nat->Int->Option (M.aE×Bool)
 |0,_=>none
 |av+1,j=>if decide (j<(List.length C.aLV:Int))then(idx C.aLV j).bind λaw=>(fC aw.Key I).bind λax=>if decide (ax<0)then sX p0 I p2 C av (i64.wrap (j+1))else(bX p2).bind λJ=>(L5 56 C.aLV j ([(⟨I,J⟩:M.aLo)])).bind λbl=>if I.aLn==1 then if decide (I.N>C.aLx)then if decide (I.N<=1000000)then(cC (⟨C.Name,List.take j.toNat C.aLV++([(⟨I,J⟩:M.aLo)]++List.drop j.toNat C.aLV),I.N⟩:M.aE)).bind λay=>if !ay then(bH p0).bind λaz=>some (az,false)else some ((⟨C.Name,List.take j.toNat C.aLV++([(⟨I,J⟩:M.aLo)]++List.drop j.toNat C.aLV),I.N⟩:M.aE),true)else(cC (⟨C.Name,List.take j.toNat C.aLV++([(⟨I,J⟩:M.aLo)]++List.drop j.toNat C.aLV),C.aLx⟩:M.aE)).bind λba=>if !ba then(bH p0).bind λbd=>some (bd,false)else some ((⟨C.Name,List.take j.toNat C.aLV++([(⟨I,J⟩:M.aLo)]++List.drop j.toNat C.aLV),C.aLx⟩:M.aE),true)else(cC (⟨C.Name,List.take j.toNat C.aLV++([(⟨I,J⟩:M.aLo)]++List.drop j.toNat C.aLV),C.aLx⟩:M.aE)).bind λbf=>if !bf then(bH p0).bind λbg=>some (bg,false)else some ((⟨C.Name,List.take j.toNat C.aLV++([(⟨I,J⟩:M.aLo)]++List.drop j.toNat C.aLV),C.aLx⟩:M.aE),true)else(cC (⟨C.Name,List.take j.toNat C.aLV++([(⟨I,J⟩:M.aLo)]++List.drop j.toNat C.aLV),C.aLx⟩:M.aE)).bind λbh=>if !bh then(bH p0).bind λbj=>some (bj,false)else some ((⟨C.Name,List.take j.toNat C.aLV++([(⟨I,J⟩:M.aLo)]++List.drop j.toNat C.aLV),C.aLx⟩:M.aE),true)else(bX p2).bind λU=>(L5 56 C.aLV j ([(⟨I,U⟩:M.aLo)])).bind λbm=>if I.aLn==1 then if decide (I.N>C.aLx)then if decide (I.N<=1000000)then(cC (⟨C.Name,List.take j.toNat C.aLV++([(⟨I,U⟩:M.aLo)]++List.drop j.toNat C.aLV),I.N⟩:M.aE)).bind λah=>if !ah then(bH p0).bind λai=>some (ai,false)else some ((⟨C.Name,List.take j.toNat C.aLV++([(⟨I,U⟩:M.aLo)]++List.drop j.toNat C.aLV),I.N⟩:M.aE),true)else(cC (⟨C.Name,List.take j.toNat C.aLV++([(⟨I,U⟩:M.aLo)]++List.drop j.toNat C.aLV),C.aLx⟩:M.aE)).bind λaj=>if !aj then(bH p0).bind λak=>some (ak,false)else some ((⟨C.Name,List.take j.toNat C.aLV++([(⟨I,U⟩:M.aLo)]++List.drop j.toNat C.aLV),C.aLx⟩:M.aE),true)else(cC (⟨C.Name,List.take j.toNat C.aLV++([(⟨I,U⟩:M.aLo)]++List.drop j.toNat C.aLV),C.aLx⟩:M.aE)).bind λal=>if !al then(bH p0).bind λao=>some (ao,false)else some ((⟨C.Name,List.take j.toNat C.aLV++([(⟨I,U⟩:M.aLo)]++List.drop j.toNat C.aLV),C.aLx⟩:M.aE),true)else(cC (⟨C.Name,List.take j.toNat C.aLV++([(⟨I,U⟩:M.aLo)]++List.drop j.toNat C.aLV),C.aLx⟩:M.aE)).bind λaq=>if !aq then(bH p0).bind λar=>some (ar,false)else some ((⟨C.Name,List.take j.toNat C.aLV++([(⟨I,U⟩:M.aLo)]++List.drop j.toNat C.aLV),C.aLx⟩:M.aE),true)
def lQ(C:M.aE)(J:M.bD)(p2:M.aF):Option (M.aE×Bool):=
 (cC C).bind λx1=>if !x1 then(bH C).bind λx4=>some (x4,false)else(kX J).bind λx6=>if !x6 then(bH C).bind λx9=>some (x9,false)else(bH C).bind λj=>(mW C J).bind λI=>if decide (I>=0)then(bX p2).bind λU=>(idx j.aLV I).bind λah=>(cC ⟨j.Name,j.aLV.set I.toNat ⟨ah.Key,U⟩,j.aLx⟩).bind λai=>if !ai then(bH C).bind λaj=>some (aj,false)else some (⟨j.Name,j.aLV.set I.toNat ⟨ah.Key,U⟩,j.aLx⟩,true)else sX C J p2 j aH 0
def DV(j:M.aE)(C:M.bD)(I:M.aF):Option (M.aE×Bool):=
 (mW j C).bind λx1=>if decide (x1>=0)then(bH j).bind λx4=>some (x4,false)else(lQ j C I).bind λx6=>some (x6.1,x6.2)
def Cg(C:M.bD)(j:M.gE):Option Bool:=
 (kX C).bind λx1=>if !x1 then some false else if j.aMO then(kX j.Low).bind λx5=>if !x5 then some false else if j.aMH then(kX j.aMK).bind λx9=>if !x9 then some false else(fC C j.Low).bind λI=>if !(decide (I<0))then(fC C j.aMK).bind λJ=>some (!(decide (J>0)))else some false else(fC C j.Low).bind λU=>if !(decide (U<0))then some true else some false else if j.aMH then(kX j.aMK).bind λah=>if !ah then some false else(fC C j.aMK).bind λai=>some (!(decide (ai>0)))else some true
def mG(C:M.aLo)(j:M.gE):Option Bool:=
 (Cg C.Key j).bind λx1=>some x1
def fE(J:M.aE)(U:M.gE)(x1:M.aE):Nat->Int->Int->List M.aLo->Option (M.aE×Int)
 |0,_,_,_=>none
 |aa+1,C,I,j=>if decide (I<(List.length j:Int))then(idx j I).bind λae=>(mG ae U).bind λaf=>if !af then(idx j C).bind λah=>fE J U x1 aa (i64.wrap (C+1)) (i64.wrap (I+1)) (List.set j C.toNat ae)else fE J U x1 aa C (i64.wrap (I+1)) j else(Cn j C).bind λai=>some ((⟨x1.Name,List.take C.toNat j,x1.aLx⟩:M.aE),i64.wrap ((List.length J.aLV:Int)-(List.length (List.take C.toNat j):Int)))
def vA(j:M.aE)(I:M.gE):Option (M.aE×Int):=
 (bH j).bind λx1=>(cC j).bind λx3=>if !x3 then some (x1,0)else(lY x1.aLV (λJ=>mG J I)).bind λC=>if C==(-1)then some (x1,i64.wrap (j.aLV.length-(x1.aLV.length)))else fE j I x1 aH C (i64.wrap (C+1)) x1.aLV
def pV(I:M.aF)(C:ByteArray)(J:Int)(x1:M.aF):Nat->Int->Option (M.aF×Bool)
 |0,_=>none
 |U+1,j=>if decide (j<(List.length x1.aLY:Int))then(idx x1.aLY j).bind λae=>if Op.bytesLess ae.Name.toList C.toList then pV I C J x1 U (i64.wrap (j+1))else(L5 24 x1.aLY j ([(⟨C,J⟩:M.aR)])).bind λar=>(cW I).bind λaf=>if !af then(bX I).bind λah=>some (ah,false)else(cW (⟨List.take j.toNat x1.aLY++([(⟨C,J⟩:M.aR)]++List.drop j.toNat x1.aLY)⟩:M.aF)).bind λai=>if !ai then(bX I).bind λaj=>some (aj,false)else some ((⟨List.take j.toNat x1.aLY++([(⟨C,J⟩:M.aR)]++List.drop j.toNat x1.aLY)⟩:M.aF),true)else(L5 24 x1.aLY j ([(⟨C,J⟩:M.aR)])).bind λav=>(cW I).bind λak=>if !ak then(bX I).bind λal=>some (al,false)else(cW (⟨List.take j.toNat x1.aLY++([(⟨C,J⟩:M.aR)]++List.drop j.toNat x1.aLY)⟩:M.aF)).bind λao=>if !ao then(bX I).bind λaq=>some (aq,false)else some ((⟨List.take j.toNat x1.aLY++([(⟨C,J⟩:M.aR)]++List.drop j.toNat x1.aLY)⟩:M.aF),true)
def pK(j:M.aF)(I:ByteArray)(C:Int):Option (M.aF×Bool):=
 (bX j).bind λx1=>(CD j I).bind λx3=>if decide (x3>=0)then(idx x1.aLY x3).bind λx6=>(cW j).bind λJ=>if !J then(bX j).bind λU=>some (U,false)else(cW ⟨x1.aLY.set x3.toNat ⟨x6.Name,C⟩⟩).bind λaf=>if !af then(bX j).bind λah=>some (ah,false)else some (⟨x1.aLY.set x3.toNat ⟨x6.Name,C⟩⟩,true)else pV j I C x1 aH 0
def GQ(C:M.aE)(j:M.gN):Option (M.aE×Int×Bool):=
 (mW C j.Key).bind λx1=>if j.aLn==1 then(lQ C j.Key j.aF).bind λx4=>some (x4.1,1,x4.2)else if j.aLn==2 then(DV C j.Key j.aF).bind λx7=>some (x7.1,1,x7.2)else if j.aLn==3 then(vA C ⟨true,true,j.Key,j.Key⟩).bind λI=>some (I.1,I.2,true)else if j.aLn==5 then(vA C ⟨false,false,⟨0,0,⟨#[]⟩⟩,⟨0,0,⟨#[]⟩⟩⟩).bind λJ=>some (J.1,J.2,true)else if j.aLn==4 then if decide (x1<0)then some (C,-1,true)else(idx C.aLV x1).bind λaq=>some (C,aq.aF.aLY.length,true)else if decide (x1>=0)then(idx C.aLV x1).bind λU=>(iO U.aF j.Field).bind λah=>(pK U.aF j.Field (i64.wrap (ah.1+1))).bind λai=>if !ai.2 then some (C,0,false)else(lQ C j.Key ai.1).bind λaj=>some (aj.1,i64.wrap (ah.1+1),aj.2)else(iO ⟨[]⟩ j.Field).bind λak=>(pK ⟨[]⟩ j.Field (i64.wrap (ak.1+1))).bind λal=>if !al.2 then some (C,0,false)else(lQ C j.Key al.1).bind λao=>some (ao.1,i64.wrap (ak.1+1),ao.2)
def Eg(j:M.aLS)(I:M.gN):Option (M.aLS×Int×Bool):=
 (eG j).bind λx1=>(rT j I.aE).bind λx3=>(oJ j).bind λx5=>if !x5 then some (x1,0,false)else(E1 I).bind λx8=>if !x8 then some (x1,0,false)else if decide (x3<0)then some (x1,0,false)else(idx x1.aLc x3).bind λJ=>(GQ J I).bind λC=>if !C.2.2 then(eG j).bind λU=>some (U,0,false)else(oJ ⟨x1.Name,x1.aLT,x1.aLc.set x3.toNat C.1,x1.aLm⟩).bind λah=>if !ah then(eG j).bind λai=>some (ai,0,false)else some (⟨x1.Name,x1.aLT,x1.aLc.set x3.toNat C.1,x1.aLm⟩,C.2.1,true)
def vZ(p0:M.aLS)(J:List M.gN):Nat->Int->ByteArray->Int->List Int->List M.aE->List M.aU->Option (M.aLS×(List Int)×Bool)
 |0,_,_,_,_,_,_=>none
 |al+1,C,U,af,I,ah,ai=>if decide (C<(List.length J:Int))then(idx J C).bind λao=>(Eg (⟨U,af,ah,ai⟩:M.aLS) ao).bind λj=>if !j.2.2 then(eG p0).bind λaq=>some (aq,([]:List Int),false)else(app 8 I ([j.2.1])).bind λar=>vZ p0 J al (i64.wrap (C+1)) j.1.Name j.1.aLT (I++[j.2.1]) j.1.aLc j.1.aLm else some ((⟨U,af,ah,ai⟩:M.aLS),I,true)
def B1(j:M.aLS)(C:List M.gN):Option (M.aLS×(List Int)×Bool):=
 (eG j).bind λx1=>(oJ j).bind λI=>if !I then some (x1,[],false)else if decide ((C.length:Int)>6)then some (x1,[],false)else vZ j C aH 0 x1.Name x1.aLT [] x1.aLc x1.aLm
def pU(x3:((List (List Int))×Int)):Nat->Int->ByteArray->Int->List M.aE->List M.aU->Option (M.aLS×Int)
 |0,_,_,_,_,_=>none
 |al+1,j,I,J,U,ah=>if decide (j<(List.length x3.1:Int))then(idx x3.1 j).bind λao=>(As ao).bind λak=>if !ak.2 then some ((⟨I,J,U,ah⟩:M.aLS),j)else(B1 (⟨I,J,U,ah⟩:M.aLS) ak.1).bind λC=>pU x3 al (i64.wrap (j+1)) C.1.Name C.1.aLT C.1.aLc C.1.aLm else some ((⟨I,J,U,ah⟩:M.aLS),(List.length x3.1:Int))
def yZ(j:M.bP):Option (M.aLS×Int):=
 (eG j.aLq).bind λx1=>(Fw j.Log).bind λx3=>pU x3 aH 0 x1.Name x1.aLT x1.aLc x1.aLm
def rV(j:Int):Option M.bD:=
 some ⟨1,j,⟨#[]⟩⟩
def Dn(C:M.aLS)(J:Int):Option (M.aF×Bool×Bool):=
 (rT C ⟨#[110,111,116,101,115]⟩).bind λx1=>if decide (x1<0)then some (⟨[]⟩,false,false)else(idx C.aLc x1).bind λx4=>(rV J).bind λx9=>(mW x4 x9).bind λj=>if decide (j<0)then some (⟨[]⟩,false,true)else(idx x4.aLV j).bind λI=>some (I.aF,true,true)
def C7(C:M.aD)(j:M.bO)(I:Int)(J:ByteArray):Option Int:=
 (mX C j.aLa j.Top).bind λx1=>if !x1.2 then some (-1)else(yZ x1.1.bP).bind λx4=>(Dn x4.1 I).bind λx6=>(iO x6.1 J).bind λx8=>if !x8.2 then some (-1)else some (if 1000<x8.1 then 1000 else x8.1)
def Ck(j:List Int)(C:Int)(I:List Int):Option ((List Int)×Bool):=
 (kM j I).bind λx1=>(BP C I).bind λx3=>(cQ x1 x3).bind λx5=>if decide (C<0)then(eD j).bind λx8=>some (x8,false)else if decide ((x5.length:Int)>4000)then(eD j).bind λJ=>some (J,false)else some (x5,true)
def BI(j:M.bP)(C:List M.gN):Option (M.bP×Bool):=
 (Bx j).bind λx1=>(yZ j).bind λx3=>(B1 x3.1 C).bind λx5=>(AF C).bind λx7=>(Ck j.Log j.aL5 x7).bind λx9=>if !x5.2.2 then some (x1,false)else if(x7.length:Int)==0 then some (x1,false)else if !x9.2 then some (x1,false)else if j.aL5 !=x3.2 then some (x1,false)else some (⟨x1.aLq,x9.1,i64.wrap (x1.aL5+1)⟩,true)
def rP(j:M.Bucket)(C:M.Bucket):Option (M.Bucket×Bool):=
 (uN j).bind λx1=>if !x1 then(eZ j).bind λx4=>some (x4,false)else(uN C).bind λx6=>if !x6 then(eZ j).bind λx9=>some (x9,false)else(eZ C).bind λI=>some (I,true)
def AN(j:M.Bucket)(C:M.bP):Option (M.Bucket×Bool):=
 (rP j ⟨j.aLa,j.Top,j.aLU,j.aLW,C,j.aG,j.aL1,j.aLy⟩).bind λx1=>some (x1.1,x1.2)
def nV(C:M.aC)(I:M.Bucket)(x1:M.aC):Nat->Int->Option (M.aC×Bool)
 |0,_=>none
 |af+1,j=>if decide (j<(List.length x1.Buckets:Int))then(idx x1.Buckets j).bind λah=>(tT ah I).bind λai=>if ai then nV C I x1 af (i64.wrap (j+1))else(eZ I).bind λJ=>(L5 328 x1.Buckets j ([J])).bind λax=>(dE C).bind λaj=>if !aj then(cX C).bind λak=>some (ak,false)else(dE (⟨List.take j.toNat x1.Buckets++([J]++List.drop j.toNat x1.Buckets)⟩:M.aC)).bind λal=>if !al then(cX C).bind λao=>some (ao,false)else some ((⟨List.take j.toNat x1.Buckets++([J]++List.drop j.toNat x1.Buckets)⟩:M.aC),true)else(eZ I).bind λU=>(L5 328 x1.Buckets j ([U])).bind λay=>(dE C).bind λaq=>if !aq then(cX C).bind λar=>some (ar,false)else(dE (⟨List.take j.toNat x1.Buckets++([U]++List.drop j.toNat x1.Buckets)⟩:M.aC)).bind λav=>if !av then(cX C).bind λaw=>some (aw,false)else some ((⟨List.take j.toNat x1.Buckets++([U]++List.drop j.toNat x1.Buckets)⟩:M.aC),true)
def Ag(j:M.aC)(C:M.Bucket):Option (M.aC×Bool):=
 (cX j).bind λx1=>(oL j C.aLa C.Top).bind λx3=>if decide (x3>=0)then(eZ C).bind λx6=>(idx x1.Buckets x3).bind λx8=>(dE j).bind λI=>if !I then(cX j).bind λJ=>some (J,false)else(dE ⟨x1.Buckets.set x3.toNat x6⟩).bind λU=>if !U then(cX j).bind λah=>some (ah,false)else some (⟨x1.Buckets.set x3.toNat x6⟩,true)else nV j C x1 aH 0
def Cb(j:M.aD)(p1:M.bO)(p2:Int)(p3:ByteArray)(p4:Int):Option (M.aD×Bool):=
 (rY j).bind λx1=>(mX j p1.aLa p1.Top).bind λx3=>if !x3.2 then some (x1,false)else(yZ x3.1.bP).bind λx6=>(Dn x6.1 p2).bind λx8=>(pK x8.1 p3 p4).bind λC=>if !x8.2.2 then some (x1,false)else if !C.2 then some (x1,false)else(rV p2).bind λai=>(BI x3.1.bP ([⟨1,⟨#[110,111,116,101,115]⟩,ai,C.1,⟨#[]⟩⟩])).bind λI=>(AN x3.1 I.1).bind λJ=>(Ag j.aC J.1).bind λU=>if !I.2 then some (x1,false)else if !J.2 then some (x1,false)else if !U.2 then some (x1,false)else some (⟨x1.Now,x1.aLt,x1.aLZ,U.1,x1.aLf,x1.aLd,x1.aLk,x1.aLe,x1.aLp,x1.aLh⟩,true)
def zT(j:M.aN)(C:M.bD)(I:ByteArray)(J:Int):Option (M.aN×Bool):=
 (pC j).bind λx1=>(app 72 x1.aLl ([⟨j.aLZ,j.aL2,C,I,J⟩])).bind λx3=>(zH j).bind λU=>if !U then(pC j).bind λae=>some (ae,false)else(zH ⟨x1.aLZ,i64.wrap (x1.aL2+1),x1.aLl++[⟨j.aLZ,j.aL2,C,I,J⟩]⟩).bind λaf=>if !af then(pC j).bind λah=>some (ah,false)else some (⟨x1.aLZ,i64.wrap (x1.aL2+1),x1.aLl++[⟨j.aLZ,j.aL2,C,I,J⟩]⟩,true)
def tX(C:M.aE)(j:M.bR):Option (M.aE×Bool):=
 (mW C j.Key).bind λx1=>if decide (x1>=0)then(idx C.aLV x1).bind λx4=>(pK x4.aF j.Field j.N).bind λx9=>if !x9.2 then(bH C).bind λah=>some (ah,false)else(lQ C j.Key x9.1).bind λI=>some (I.1,I.2)else(pK ⟨[]⟩ j.Field j.N).bind λJ=>if !J.2 then(bH C).bind λai=>some (ai,false)else(lQ C j.Key J.1).bind λU=>some (U.1,U.2)
def tE(I:List M.bR):Nat->Int->ByteArray->Int->List M.aLo->Option M.aE
 |0,_,_,_,_=>none
 |aj+1,j,U,af,J=>if decide (j<(List.length I:Int))then(idx I j).bind λak=>(tX (⟨U,J,af⟩:M.aE) ak).bind λC=>tE I aj (i64.wrap (j+1)) C.1.Name C.1.aLx C.1.aLV else some (⟨U,J,af⟩:M.aE)
def DR(j:M.aE)(C:List M.bR):Option M.aE:=
 (bH j).bind λx1=>tE C aH 0 x1.Name x1.aLx x1.aLV
def Dl(j:M.aG):Option M.aE:=
 (DR j.aLq j.aLs.aN.aLl).bind λx1=>some x1
def Bn(j:M.aG)(C:M.bD)(I:ByteArray)(J:Int):Option (M.aG×Bool):=
 (vN j).bind λx1=>(zT j.aLs.aN C I J).bind λx3=>(Dl j).bind λx5=>(tX x5 ⟨j.aLs.aN.aLZ,j.aLs.aN.aL2,C,I,J⟩).bind λx7=>(Az j).bind λx9=>if !x9 then some (x1,false)else if !x3.2 then some (x1,false)else if !x7.2 then some (x1,false)else some (⟨x1.aLq,x1.aMG,⟨x3.1,x1.aLs.aL7,x1.aLs.aLw⟩⟩,true)
def uJ(j:M.Bucket)(C:M.aG):Option (M.Bucket×Bool):=
 (rP j ⟨j.aLa,j.Top,j.aLU,j.aLW,j.bP,C,j.aL1,j.aLy⟩).bind λx1=>some (x1.1,x1.2)
def CL(j:M.aD)(J:M.bO)(U:Int)(p3:ByteArray)(p4:Int):Option (M.aD×Bool):=
 (rY j).bind λx1=>(mX j J.aLa J.Top).bind λx3=>if !x3.2 then some (x1,false)else(rV U).bind λx6=>(Bn x3.1.aG x6 p3 p4).bind λx8=>(uJ x3.1 x8.1).bind λC=>(Ag j.aC C.1).bind λI=>if !x8.2 then some (x1,false)else if !C.2 then some (x1,false)else if !I.2 then some (x1,false)else some (⟨x1.Now,x1.aLt,x1.aLZ,I.1,x1.aLf,x1.aLd,x1.aLk,x1.aLe,x1.aLp,x1.aLh⟩,true)
def iP(U:M.aD)(p1:Int):Option (M.aD×Int):=
 (rY U).bind λx1=>(AE U p1).bind λx3=>(Ct U).bind λx5=>if !x5 then some (x1,-1)else if decide (x3<0)then some (x1,-1)else(idx U.aLf x3).bind λx9=>(lJ x9).bind λC=>(dO C.aLX).bind λj=>if j.2.aLn==1 then(Db U C j.2.aLu).bind λaj=>(C5 C j.2.aLu aj).bind λai=>(rQ j.1 j.2.R aj.aMD).bind λak=>(idx x1.aLf x3).bind λav=>some (⟨x1.Now,x1.aLt,x1.aLZ,x1.aC,x1.aLf.set x3.toNat ⟨ai.1.Id,ai.1.aLa,ai.1.Top,ai.1.aLT,ai.1.aW,ak.1⟩,x1.aLd,x1.aLk,x1.aLe,x1.aLp,x1.aLh⟩,j.2.aLn)else if j.2.aLn==2 then(C7 U C j.2.N j.2.aLu).bind λal=>(rQ j.1 j.2.R al).bind λao=>(idx x1.aLf x3).bind λaw=>some (⟨x1.Now,x1.aLt,x1.aLZ,x1.aC,x1.aLf.set x3.toNat ⟨C.Id,C.aLa,C.Top,C.aLT,C.aW,ao.1⟩,x1.aLd,x1.aLk,x1.aLe,x1.aLp,x1.aLh⟩,j.2.aLn)else if j.2.aLn==3 then(Cb x1 C j.2.N j.2.aLu (if j.2.Value>0 then j.2.Value else 0)).bind λI=>(idx I.1.aLf x3).bind λax=>some (⟨I.1.Now,I.1.aLt,I.1.aLZ,I.1.aC,List.set I.1.aLf x3.toNat ⟨C.Id,C.aLa,C.Top,C.aLT,C.aW,j.1⟩,I.1.aLd,I.1.aLk,I.1.aLe,I.1.aLp,I.1.aLh⟩,j.2.aLn)else if j.2.aLn==4 then(CL x1 C j.2.N j.2.aLu (if j.2.Value>0 then j.2.Value else 0)).bind λJ=>(idx J.1.aLf x3).bind λaq=>some (⟨J.1.Now,J.1.aLt,J.1.aLZ,J.1.aC,List.set J.1.aLf x3.toNat ⟨C.Id,C.aLa,C.Top,C.aLT,C.aW,j.1⟩,J.1.aLd,J.1.aLk,J.1.aLe,J.1.aLp,J.1.aLh⟩,j.2.aLn)else(idx x1.aLf x3).bind λar=>some (⟨x1.Now,x1.aLt,x1.aLZ,x1.aC,x1.aLf.set x3.toNat ⟨C.Id,C.aLa,C.Top,C.aLT,C.aW,j.1⟩,x1.aLd,x1.aLk,x1.aLe,x1.aLp,x1.aLh⟩,j.2.aLn)
def fM(C:List M.Bucket)(I:List M.Bucket)(J:M.Bucket->M.Bucket->Option Bool):Nat->Int->Option Bool
 |0,_=>none
 |U+1,j=>if decide (j<(List.length C:Int))then(idx C j).bind λx9=>(idx I j).bind λaf=>(J x9 af).bind λah=>if !ah then some false else fM C I J U (i64.wrap (j+1))else some true
def nA(j:List M.Bucket)(C:List M.Bucket)(I:M.Bucket->M.Bucket->Option Bool):Option Bool:=
 if j.length !=(C.length:Int)then some false else fM j C I aH 0
def gS(C:List M.aLi)(I:List M.aLi)(J:M.aLi->M.aLi->Option Bool):Nat->Int->Option Bool
 |0,_=>none
 |U+1,j=>if decide (j<(List.length C:Int))then(idx C j).bind λx9=>(idx I j).bind λaf=>(J x9 af).bind λah=>if !ah then some false else gS C I J U (i64.wrap (j+1))else some true
def oP(j:List M.aLi)(C:List M.aLi)(I:M.aLi->M.aLi->Option Bool):Option Bool:=
 if j.length !=(C.length:Int)then some false else gS j C I aH 0
def fO(C:List M.aLr)(I:List M.aLr)(J:M.aLr->M.aLr->Option Bool):Nat->Int->Option Bool
 |0,_=>none
 |U+1,j=>if decide (j<(List.length C:Int))then(idx C j).bind λx9=>(idx I j).bind λaf=>(J x9 af).bind λah=>if !ah then some false else fO C I J U (i64.wrap (j+1))else some true
def mY(j:List M.aLr)(C:List M.aLr)(I:M.aLr->M.aLr->Option Bool):Option Bool:=
 if j.length !=(C.length:Int)then some false else fO j C I aH 0
def uR(j:M.aLb)(C:M.aLb):Option Bool:=
 if j.aMM==C.aMM then if j.aMD==C.aMD then if j.aLT==C.aLT then(iW j.aMN C.aMN).bind λx4=>if x4 then some (j.aMP==C.aMP)else some false else some false else some false else some false
def vF(j:M.aLr)(C:M.aLr):Option Bool:=
 if j.aLa.toList==C.aLa.toList then if j.aMF.toList==C.aMF.toList then(uR j.aLb C.aLb).bind λx3=>some x3 else some false else some false
def vW(j:M.aLi)(C:M.aLi):Option Bool:=
 if j.aLT==C.aLT then(mY j.aLg C.aLg (λI J=>vF I J)).bind λx2=>some x2 else some false
def uD(j:M.aJ)(C:M.aJ):Option Bool:=
 (oP j.aLW C.aLW (λI J=>vW I J)).bind λx1=>some x1
def gO(C:List M.aE)(I:List M.aE)(J:M.aE->M.aE->Option Bool):Nat->Int->Option Bool
 |0,_=>none
 |U+1,j=>if decide (j<(List.length C:Int))then(idx C j).bind λx9=>(idx I j).bind λaf=>(J x9 af).bind λah=>if !ah then some false else gO C I J U (i64.wrap (j+1))else some true
def pE(j:List M.aE)(C:List M.aE)(I:M.aE->M.aE->Option Bool):Option Bool:=
 if j.length !=(C.length:Int)then some false else gO j C I aH 0
def iA(C:List M.aLo)(I:List M.aLo)(J:M.aLo->M.aLo->Option Bool):Nat->Int->Option Bool
 |0,_=>none
 |U+1,j=>if decide (j<(List.length C:Int))then(idx C j).bind λx9=>(idx I j).bind λaf=>(J x9 af).bind λah=>if !ah then some false else iA C I J U (i64.wrap (j+1))else some true
def pM(j:List M.aLo)(C:List M.aLo)(I:M.aLo->M.aLo->Option Bool):Option Bool:=
 if j.length !=(C.length:Int)then some false else iA j C I aH 0
def mC(C:List M.aR)(J:List M.aR):Nat->Int->Option Bool
 |0,_=>none
 |U+1,j=>if decide (j<(List.length C:Int))then(idx C j).bind λx8=>(idx J j).bind λI=>if !((x8.Name.toList==I.Name.toList)&&(x8.N==I.N))then some false else mC C J U (i64.wrap (j+1))else some true
def xS(j:List M.aR)(C:List M.aR):Option Bool:=
 if j.length !=(C.length:Int)then some false else mC j C aH 0
def zE(j:M.aF)(C:M.aF):Option Bool:=
 (xS j.aLY C.aLY).bind λx1=>some x1
def yO(j:M.aLo)(C:M.aLo):Option Bool:=
 if(j.Key.aLn==C.Key.aLn)&&((j.Key.N==C.Key.N)&&(j.Key.aLu.toList==C.Key.aLu.toList))then(zE j.aF C.aF).bind λx2=>some x2 else some false
def kJ(j:M.aE)(C:M.aE):Option Bool:=
 if j.Name.toList==C.Name.toList then if j.aLx==C.aLx then(pM j.aLV C.aLV (λI J=>yO I J)).bind λx3=>some x3 else some false else some false
def hY(C:List M.aU)(J:List M.aU):Nat->Int->Option Bool
 |0,_=>none
 |U+1,j=>if decide (j<(List.length C:Int))then(idx C j).bind λx8=>(idx J j).bind λI=>if !((x8.aE.toList==I.aE.toList)&&(x8.Field.toList==I.Field.toList))then some false else hY C J U (i64.wrap (j+1))else some true
def pY(j:List M.aU)(C:List M.aU):Option Bool:=
 if j.length !=(C.length:Int)then some false else hY j C aH 0
def uO(j:M.aLS)(C:M.aLS):Option Bool:=
 if j.Name.toList==C.Name.toList then if j.aLT==C.aLT then(pE j.aLc C.aLc (λI J=>kJ I J)).bind λx3=>if x3 then(pY j.aLm C.aLm).bind λx6=>some x6 else some false else some false else some false
def Bz(j:M.bP)(C:M.bP):Option Bool:=
 (uO j.aLq C.aLq).bind λx1=>if x1 then(iW j.Log C.Log).bind λx4=>if x4 then some (j.aL5==C.aL5)else some false else some false
def lS(I:List M.bR)(J:List M.bR):Nat->Int->Option Bool
 |0,_=>none
 |U+1,C=>if decide (C<(List.length I:Int))then(idx I C).bind λx8=>(idx J C).bind λj=>if !((x8.aLZ==j.aLZ)&&((x8.Seq==j.Seq)&&((x8.Key.aLn==j.Key.aLn)&&((x8.Key.N==j.Key.N)&&((x8.Key.aLu.toList==j.Key.aLu.toList)&&((x8.Field.toList==j.Field.toList)&&(x8.N==j.N)))))))then some false else lS I J U (i64.wrap (C+1))else some true
def rO(j:List M.bR)(C:List M.bR):Option Bool:=
 if j.length !=(C.length:Int)then some false else lS j C aH 0
def xU(j:M.aN)(C:M.aN):Option Bool:=
 if j.aLZ==C.aLZ then if j.aL2==C.aL2 then(rO j.aLl C.aLl).bind λx3=>some x3 else some false else some false
def BQ(j:M.aLs)(C:M.aLs):Option Bool:=
 (xU j.aN C.aN).bind λx1=>if x1 then if j.aL7==C.aL7 then some (j.aLw==C.aLw)else some false else some false
def xN(j:M.aG)(C:M.aG):Option Bool:=
 (kJ j.aLq C.aLq).bind λx1=>if x1 then if j.aMG==C.aMG then(BQ j.aLs C.aLs).bind λx5=>some x5 else some false else some false
def tD(j:M.Bucket)(C:M.Bucket):Option Bool:=
 if j.aLa.toList==C.aLa.toList then if j.Top.toList==C.Top.toList then if(j.aLU.aLa.toList==C.aLU.aLa.toList)&&((j.aLU.aL0==C.aLU.aL0)&&((j.aLU.aL6==C.aLU.aL6)&&(j.aLU.aMA==C.aLU.aMA)))then(uD j.aLW C.aLW).bind λx4=>if x4 then(Bz j.bP C.bP).bind λx7=>if x7 then(xN j.aG C.aG).bind λI=>if I then if j.aL1==C.aL1 then some (j.aLy==C.aLy)else some false else some false else some false else some false else some false else some false else some false
def xR(j:M.aC)(C:M.aC):Option Bool:=
 (nA j.Buckets C.Buckets (λI J=>tD I J)).bind λx1=>some x1
def iC(C:List M.bO)(I:List M.bO)(J:M.bO->M.bO->Option Bool):Nat->Int->Option Bool
 |0,_=>none
 |U+1,j=>if decide (j<(List.length C:Int))then(idx C j).bind λx9=>(idx I j).bind λaf=>(J x9 af).bind λah=>if !ah then some false else iC C I J U (i64.wrap (j+1))else some true
def pL(j:List M.bO)(C:List M.bO)(I:M.bO->M.bO->Option Bool):Option Bool:=
 if j.length !=(C.length:Int)then some false else iC j C I aH 0
def kT(C:List M.aW)(J:List M.aW):Nat->Int->Option Bool
 |0,_=>none
 |U+1,j=>if decide (j<(List.length C:Int))then(idx C j).bind λx8=>(idx J j).bind λI=>if !((x8.aMF.toList==I.aMF.toList)&&(x8.aLT==I.aLT))then some false else kT C J U (i64.wrap (j+1))else some true
def uG(j:List M.aW)(C:List M.aW):Option Bool:=
 if j.length !=(C.length:Int)then some false else kT j C aH 0
def lX(I:List M.aZ)(J:List M.aZ):Nat->Int->Option Bool
 |0,_=>none
 |U+1,j=>if decide (j<(List.length I:Int))then(idx I j).bind λx8=>(idx J j).bind λC=>if !((x8.aLn==C.aLn)&&((x8.R==C.R)&&((x8.N==C.N)&&(x8.aLu.toList==C.aLu.toList))))then some false else lX I J U (i64.wrap (j+1))else some true
def xP(j:List M.aZ)(C:List M.aZ):Option Bool:=
 if j.length !=(C.length:Int)then some false else lX j C aH 0
def oU(C:List Int)(I:List Int):Nat->Int->Option Bool
 |0,_=>none
 |J+1,j=>if decide (j<(List.length C:Int))then(idx C j).bind λx8=>(idx I j).bind λU=>if x8 !=U then some false else oU C I J (i64.wrap (j+1))else some true
def AU(j:List Int)(C:List Int):Option Bool:=
 if j.length !=(C.length:Int)then some false else oU j C aH 0
def xL(j:M.aLX)(C:M.aLX):Option Bool:=
 (xP j.aLz C.aLz).bind λx1=>if x1 then if j.Pc==C.Pc then(AU j.aMC C.aMC).bind λx5=>if x5 then if j.aME==C.aME then if j.aMJ==C.aMJ then some (j.aMI==C.aMI)else some false else some false else some false else some false else some false
def iQ(j:M.bO)(C:M.bO):Option Bool:=
 if j.Id==C.Id then if j.aLa.toList==C.aLa.toList then if j.Top.toList==C.Top.toList then if j.aLT==C.aLT then(uG j.aW C.aW).bind λx5=>if x5 then(xL j.aLX C.aLX).bind λx8=>some x8 else some false else some false else some false else some false else some false
def mU(I:List M.uY)(J:List M.uY):Nat->Int->Option Bool
 |0,_=>none
 |U+1,j=>if decide (j<(List.length I:Int))then(idx I j).bind λx8=>(idx J j).bind λC=>if !((x8.Name.toList==C.Name.toList)&&((x8.bO==C.bO)&&((x8.aL9==C.aL9)&&(x8.aMS==C.aMS))))then some false else mU I J U (i64.wrap (j+1))else some true
def zN(j:List M.uY)(C:List M.uY):Option Bool:=
 if j.length !=(C.length:Int)then some false else mU j C aH 0
def mT(I:List M.Fy)(J:List M.Fy):Nat->Int->Option Bool
 |0,_=>none
 |U+1,j=>if decide (j<(List.length I:Int))then(idx I j).bind λx8=>(idx J j).bind λC=>if !((x8.To==C.To)&&((x8.aMU==C.aMU)&&(x8.N==C.N)))then some false else mT I J U (i64.wrap (j+1))else some true
def zU(j:List M.Fy)(C:List M.Fy):Option Bool:=
 if j.length !=(C.length:Int)then some false else mT j C aH 0
def iB(C:List M.aLa)(I:List M.aLa)(J:M.aLa->M.aLa->Option Bool):Nat->Int->Option Bool
 |0,_=>none
 |U+1,j=>if decide (j<(List.length C:Int))then(idx C j).bind λx9=>(idx I j).bind λaf=>(J x9 af).bind λah=>if !ah then some false else iB C I J U (i64.wrap (j+1))else some true
def pX(j:List M.aLa)(C:List M.aLa)(I:M.aLa->M.aLa->Option Bool):Option Bool:=
 if j.length !=(C.length:Int)then some false else iB j C I aH 0
def kS(C:List ByteArray)(I:List ByteArray):Nat->Int->Option Bool
 |0,_=>none
 |J+1,j=>if decide (j<(List.length C:Int))then(idx C j).bind λx8=>(idx I j).bind λU=>if !(x8.toList==U.toList)then some false else kS C I J (i64.wrap (j+1))else some true
def uK(j:List ByteArray)(C:List ByteArray):Option Bool:=
 if j.length !=(C.length:Int)then some false else kS j C aH 0
def sV(j:M.aLa)(C:M.aLa):Option Bool:=
 if j.Name.toList==C.Name.toList then if j.aLT==C.aLT then(uK j.aL4 C.aL4).bind λx3=>if x3 then some (j.aL9==C.aL9)else some false else some false else some false
def fL(C:List M.aLj)(I:List M.aLj)(J:M.aLj->M.aLj->Option Bool):Nat->Int->Option Bool
 |0,_=>none
 |U+1,j=>if decide (j<(List.length C:Int))then(idx C j).bind λx9=>(idx I j).bind λaf=>(J x9 af).bind λah=>if !ah then some false else fL C I J U (i64.wrap (j+1))else some true
def nB(j:List M.aLj)(C:List M.aLj)(I:M.aLj->M.aLj->Option Bool):Option Bool:=
 if j.length !=(C.length:Int)then some false else fL j C I aH 0
def iU(C:List M.aQ)(J:List M.aQ):Nat->Int->Option Bool
 |0,_=>none
 |U+1,j=>if decide (j<(List.length C:Int))then(idx C j).bind λx8=>(idx J j).bind λI=>if !((x8.aLZ==I.aLZ)&&(x8.Seq==I.Seq))then some false else iU C J U (i64.wrap (j+1))else some true
def sK(j:List M.aQ)(C:List M.aQ):Option Bool:=
 if j.length !=(C.length:Int)then some false else iU j C aH 0
def tQ(j:M.aLj)(C:M.aLj):Option Bool:=
 (kJ j.aE C.aE).bind λx1=>if x1 then(sK j.aQ C.aQ).bind λx4=>if x4 then(rO j.aLv C.aLv).bind λx7=>some x7 else some false else some false
def rD(j:M.aD)(C:M.aD):Option Bool:=
 if j.Now==C.Now then if j.aLt==C.aLt then if j.aLZ==C.aLZ then(xR j.aC C.aC).bind λx4=>if x4 then(pL j.aLf C.aLf (λI J=>iQ I J)).bind λx7=>if x7 then if j.aLd==C.aLd then(zN j.aLk.aLk C.aLk.aLk).bind λU=>if U then(zU j.aLe.aL8 C.aLe.aL8).bind λae=>if ae then(pX j.aLp C.aLp (λI J=>sV I J)).bind λaf=>if af then(nB j.aLh C.aLh (λI J=>tQ I J)).bind λah=>some ah else some false else some false else some false else some false else some false else some false else some false else some false else some false
def uF(j:M.aLb)(C:M.aLb):Option Bool:=
 if j.aMM==C.aMM then if j.aMD==C.aMD then if j.aLT==C.aLT then if j.aMP==C.aMP then(tB j.aMN C.aMN).bind λx5=>some x5 else some false else some false else some false else some false
def gT(x9:M.aLi)(J:M.aLi)(U:Int->Option Bool):Nat->Int->Option Bool
 |0,_=>none
 |aj+1,j=>if decide (j<(List.length x9.aLg:Int))then(idx x9.aLg j).bind λC=>(idx J.aLg j).bind λI=>if !(C.aLa.toList==I.aLa.toList)then some false else if !(C.aMF.toList==I.aMF.toList)then some false else(uF C.aLb I.aLb).bind λak=>if !ak then some false else gT x9 J U aj (i64.wrap (j+1))else U j
def kR(I:M.aJ)(J:M.aJ):Nat->Int->Option Bool
 |0,_=>none
 |U+1,j=>if decide (j<(List.length I.aLW:Int))then(idx I.aLW j).bind λx9=>(idx J.aLW j).bind λC=>if x9.aLT !=C.aLT then some false else if(List.length x9.aLg:Int) !=(List.length C.aLg:Int)then some false else gT x9 C (λ(ae:Int)=>kR I J U (i64.wrap (j+1))) aH 0 else some true
def uL(j:M.aJ)(C:M.aJ):Option Bool:=
 if j.aLW.length !=(C.aLW.length:Int)then some false else kR j C aH 0
def mS(C:M.aF)(J:M.aF):Nat->Int->Option Bool
 |0,_=>none
 |U+1,j=>if decide (j<(List.length C.aLY:Int))then(idx C.aLY j).bind λx9=>(idx J.aLY j).bind λI=>if !((x9.Name.toList==I.Name.toList)&&(x9.N==I.N))then some false else mS C J U (i64.wrap (j+1))else some true
def zJ(j:M.aF)(C:M.aF):Option Bool:=
 if j.aLY.length !=(C.aLY.length:Int)then some false else mS j C aH 0
def oM(J:M.aE)(U:M.aE):Nat->Int->Option Bool
 |0,_=>none
 |af+1,I=>if decide (I<(List.length J.aLV:Int))then(idx J.aLV I).bind λj=>(idx U.aLV I).bind λC=>if !((j.Key.aLn==C.Key.aLn)&&((j.Key.N==C.Key.N)&&(j.Key.aLu.toList==C.Key.aLu.toList)))then some false else(zJ j.aF C.aF).bind λah=>if !ah then some false else oM J U af (i64.wrap (I+1))else some true
def vO(j:M.aE)(C:M.aE):Option Bool:=
 if !(j.Name.toList==C.Name.toList)then some false else if j.aLx !=C.aLx then some false else if j.aLV.length !=(C.aLV.length:Int)then some false else oM j C aH 0
def eN(C:M.aLS)(U:M.aLS):Nat->Int->Option Bool
 |0,_=>none
 |af+1,j=>if decide (j<(List.length C.aLm:Int))then(idx C.aLm j).bind λI=>(idx U.aLm j).bind λJ=>if !((I.aE.toList==J.aE.toList)&&(I.Field.toList==J.Field.toList))then some false else eN C U af (i64.wrap (j+1))else some true
def eM(j:M.aLS)(I:M.aLS):Nat->Int->Option Bool
 |0,_=>none
 |J+1,C=>if decide (C<(List.length j.aLc:Int))then(idx j.aLc C).bind λU=>(idx I.aLc C).bind λaf=>(vO U af).bind λah=>if !ah then some false else eM j I J (i64.wrap (C+1))else eN j I aH 0
def uU(j:M.aLS)(C:M.aLS):Option Bool:=
 if !(j.Name.toList==C.Name.toList)then some false else if j.aLT !=C.aLT then some false else if j.aLc.length !=(C.aLc.length:Int)then some false else if j.aLm.length !=(C.aLm.length:Int)then some false else eM j C aH 0
def Bu(j:M.bP)(C:M.bP):Option Bool:=
 (uU j.aLq C.aLq).bind λx1=>if x1 then(tB j.Log C.Log).bind λx4=>if x4 then some (j.aL5==C.aL5)else some false else some false
def lR(J:M.aN)(U:M.aN):Nat->Int->Option Bool
 |0,_=>none
 |af+1,I=>if decide (I<(List.length J.aLl:Int))then(idx J.aLl I).bind λj=>(idx U.aLl I).bind λC=>if !((j.aLZ==C.aLZ)&&((j.Seq==C.Seq)&&((j.Key.aLn==C.Key.aLn)&&((j.Key.N==C.Key.N)&&((j.Key.aLu.toList==C.Key.aLu.toList)&&((j.Field.toList==C.Field.toList)&&(j.N==C.N)))))))then some false else lR J U af (i64.wrap (I+1))else some true
def xQ(j:M.aN)(C:M.aN):Option Bool:=
 if j.aLZ !=C.aLZ then some false else if j.aL2 !=C.aL2 then some false else if j.aLl.length !=(C.aLl.length:Int)then some false else lR j C aH 0
def Bo(j:M.aLs)(C:M.aLs):Option Bool:=
 (xQ j.aN C.aN).bind λx1=>if x1 then if j.aL7==C.aL7 then some (j.aLw==C.aLw)else some false else some false
def xM(j:M.aG)(C:M.aG):Option Bool:=
 (vO j.aLq C.aLq).bind λx1=>if x1 then if j.aMG==C.aMG then(Bo j.aLs C.aLs).bind λx5=>some x5 else some false else some false
def nZ(j:M.Bucket)(C:M.Bucket):Option Bool:=
 if j.aLa.toList==C.aLa.toList then if j.Top.toList==C.Top.toList then if(j.aLU.aLa.toList==C.aLU.aLa.toList)&&((j.aLU.aL0==C.aLU.aL0)&&((j.aLU.aL6==C.aLU.aL6)&&(j.aLU.aMA==C.aLU.aMA)))then(uL j.aLW C.aLW).bind λx4=>if x4 then(Bu j.bP C.bP).bind λx7=>if x7 then(xM j.aG C.aG).bind λI=>if I then if j.aL1==C.aL1 then some (j.aLy==C.aLy)else some false else some false else some false else some false else some false else some false else some false
def iV(p1:Int):Nat->Int->Int->Bool->Int->Int->List M.Bucket->List M.bO->List M.uY->List M.Fy->List M.aLa->List M.aLj->Option M.aD
 |0,_,_,_,_,_,_,_,_,_,_,_=>none
 |av+1,v6,al,ao,aq,ar,C,I,J,U,ai,aj=>if decide (v6<60)then(iP (⟨al,ao,aq,(⟨C⟩:M.aC),I,ar,(⟨J⟩:M.aT),(⟨U⟩:M.aLe),ai,aj⟩:M.aD) p1).bind λj=>iV p1 av (i64.wrap (v6+1)) j.1.Now j.1.aLt j.1.aLZ j.1.aLd j.1.aC.Buckets j.1.aLf j.1.aLk.aLk j.1.aLe.aL8 j.1.aLp j.1.aLh else some (⟨al,ao,aq,(⟨C⟩:M.aC),I,ar,(⟨J⟩:M.aT),(⟨U⟩:M.aLe),ai,aj⟩:M.aD)
def DT(j:M.aD)(C:Int):Option M.aD:=
 (rY j).bind λx1=>iV C aH 0 x1.Now x1.aLt x1.aLZ x1.aLd x1.aC.Buckets x1.aLf x1.aLk.aLk x1.aLe.aL8 x1.aLp x1.aLh
def tA(p1:Int):Nat->Int->Int->Bool->Int->Int->List M.Bucket->List M.bO->List M.uY->List M.Fy->List M.aLa->List M.aLj->Option M.aD
 |0,_,_,_,_,_,_,_,_,_,_,_=>none
 |av+1,v6,al,ao,aq,ar,C,I,J,U,aj,ak=>if decide (v6<60)then(uI (⟨al,ao,aq,(⟨C⟩:M.aC),I,ar,(⟨J⟩:M.aT),(⟨U⟩:M.aLe),aj,ak⟩:M.aD) p1).bind λj=>if decide (j.2<=0)then some j.1 else tA p1 av (i64.wrap (v6+1)) j.1.Now j.1.aLt j.1.aLZ j.1.aLd j.1.aC.Buckets j.1.aLf j.1.aLk.aLk j.1.aLe.aL8 j.1.aLp j.1.aLh else some (⟨al,ao,aq,(⟨C⟩:M.aC),I,ar,(⟨J⟩:M.aT),(⟨U⟩:M.aLe),aj,ak⟩:M.aD)
def DF(j:M.aD)(C:Int):Option M.aD:=
 (dJ j).bind λx1=>tA C aH 0 x1.Now x1.aLt x1.aLZ x1.aLd x1.aC.Buckets x1.aLf x1.aLk.aLk x1.aLe.aL8 x1.aLp x1.aLh
def tJ(j:M.aD)(C:Int):Option Bool:=
 (AE j C).bind λx1=>if decide (x1>=0)then(idx j.aLf x1).bind λx4=>some x4.aLX.aMJ else some false
def tK(j:M.aD)(C:Int):Option Bool:=
 (rZ j C).bind λx1=>if decide (x1>=0)then(idx j.aLf x1).bind λx4=>some x4.aLX.aMJ else some false
def gQ(x4:(M.aD×Int))(x6:(M.aD×Int))(J:Int):Nat->Int->Option Bool
 |0,_=>none
 |ba+1,j=>(if decide (j<(List.length x4.1.aC.Buckets:Int))then if decide (J>=0)then(lL x4.1).bind λbd=>some bd else some false else some false).bind λbf=>if bf then(idx x4.1.aC.Buckets j).bind λI=>((idx x4.1.aLf J).bind λU=>if !(I.aLa.toList==U.aLa.toList)then if decide (j>=(List.length x6.1.aC.Buckets:Int))then some true else(idx x6.1.aC.Buckets j).bind λai=>(nZ I ai).bind λaj=>some (!aj)else if !(I.Top.toList==U.Top.toList)then if decide (j>=(List.length x6.1.aC.Buckets:Int))then some true else(idx x6.1.aC.Buckets j).bind λak=>(nZ I ak).bind λal=>some (!al)else some false).bind λbg=>if bg then some false else gQ x4 x6 J ba (i64.wrap (j+1))else(DT x4.1 x4.2).bind λC=>((DF x4.1 x4.2).bind λao=>(rD C ao).bind λaq=>if aq then if decide (x6.2>=0)then if decide (x6.2<0)then some true else(tJ C x4.2).bind λar=>(tK C x4.2).bind λav=>some (ar==av)else(rD x6.1 x4.1).bind λaw=>if aw then if decide (x6.2<0)then some true else(tJ C x4.2).bind λax=>(tK C x4.2).bind λay=>some (ax==ay)else some false else some false).bind λaz=>some az
def uT(j:List Int):Option Bool:=
 (J1 j).bind λx1=>if x1 then some true else(zP j).bind λx4=>(iP x4.1 x4.2).bind λx6=>(uI x4.1 x4.2).bind λx8=>(if x6.2 !=x8.2 then some true else(rD x6.1 x8.1).bind λC=>some (!C)).bind λI=>if I then some false else(rZ x4.1 x4.2).bind λJ=>gQ x4 x6 J aH 0
