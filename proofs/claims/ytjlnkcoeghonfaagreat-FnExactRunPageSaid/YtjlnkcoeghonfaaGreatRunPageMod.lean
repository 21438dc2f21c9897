/-
  Helper text. No conditions.
-/
import Derived.Test.YtjlnkcoeghonfaaGreatRunPageShS
set_option linter.all false
namespace Go.Proofs.YtjlnkcoeghonfaaGreat.gen
open Go Go.Sh
open Go.IntKind (i64)
structure M.aJk where
 aJr:ByteArray
 aKI:Int
 aKN:Int
 aKT:Int
def M.aJk.en(x:M.aJk):List D:=[.str x.aJr,.int .i64 x.aKI,.int .i64 x.aKN,.int .i64 x.aKT]
theorem M.aJk.en.fl(l:List M.aJk):(List.map M.aJk.en l).all (λy=>y.all D.flat)=true:=Ji (λ_=>rfl) l
structure M.aJo where
 aKc:Int
 aKS:Int
 aJl:Int
 aKa:List Int
 aKh:Bool
def M.aJo.en(x:M.aJo):List D:=[.int .i64 x.aKc,.int .i64 x.aKS,.int .i64 x.aJl,.sl (List.map enB x.aKa),.bool x.aKh]
structure M.aJx where
 aJr:ByteArray
 aKP:ByteArray
 aJo:M.aJo
def M.aJx.en(x:M.aJx):List D:=[.str x.aJr,.str x.aKP,.int .i64 x.aJo.aKc,.int .i64 x.aJo.aKS,.int .i64 x.aJo.aJl,.sl (List.map enB x.aJo.aKa),.bool x.aJo.aKh]
structure M.aJ0 where
 aJl:Int
 aJ1:List M.aJx
def M.aJ0.en(x:M.aJ0):List D:=[.int .i64 x.aJl,.sl (List.map M.aJx.en x.aJ1)]
structure M.aO where
 aJs:List M.aJ0
def M.aO.en(x:M.aO):List D:=[.sl (List.map M.aJ0.en x.aJs)]
structure M.Key where
 aJz:Int
 N:Int
 aKA:ByteArray
def M.Key.en(x:M.Key):List D:=[.int .i64 x.aJz,.int .i64 x.N,.str x.aKA]
theorem M.Key.en.fl(l:List M.Key):(List.map M.Key.en l).all (λy=>y.all D.flat)=true:=Ji (λ_=>rfl) l
structure M.Field where
 Name:ByteArray
 N:Int
def M.Field.en(x:M.Field):List D:=[.str x.Name,.int .i64 x.N]
theorem M.Field.en.fl(l:List M.Field):(List.map M.Field.en l).all (λy=>y.all D.flat)=true:=Ji (λ_=>rfl) l
structure M.aC where
 aJq:List M.Field
def M.aC.en(x:M.aC):List D:=[.sl (List.map M.Field.en x.aJq)]
structure M.aJt where
 Key:M.Key
 aC:M.aC
def M.aJt.en(x:M.aJt):List D:=[.int .i64 x.Key.aJz,.int .i64 x.Key.N,.str x.Key.aKA,.sl (List.map M.Field.en x.aC.aJq)]
structure M.aD where
 Name:ByteArray
 aJm:List M.aJt
 aKG:Int
def M.aD.en(x:M.aD):List D:=[.str x.Name,.sl (List.map M.aJt.en x.aJm),.int .i64 x.aKG]
structure M.aG where
 aD:ByteArray
 Field:ByteArray
def M.aG.en(x:M.aG):List D:=[.str x.aD,.str x.Field]
theorem M.aG.en.fl(l:List M.aG):(List.map M.aG.en l).all (λy=>y.all D.flat)=true:=Ji (λ_=>rfl) l
structure M.aJj where
 Name:ByteArray
 aJl:Int
 aJw:List M.aD
 aJ5:List M.aG
def M.aJj.en(x:M.aJj):List D:=[.str x.Name,.int .i64 x.aJl,.sl (List.map M.aD.en x.aJw),.sl (List.map M.aG.en x.aJ5)]
structure M.bL where
 aJ8:M.aJj
 Log:List Int
 aKR:Int
def M.bL.en(x:M.bL):List D:=[.str x.aJ8.Name,.int .i64 x.aJ8.aJl,.sl (List.map M.aD.en x.aJ8.aJw),.sl (List.map M.aG.en x.aJ8.aJ5),.sl (List.map enB x.Log),.int .i64 x.aKR]
structure M.aY where
 aJy:Int
 Seq:Int
 Key:M.Key
 Field:ByteArray
 N:Int
def M.aY.en(x:M.aY):List D:=[.int .i64 x.aJy,.int .i64 x.Seq,.int .i64 x.Key.aJz,.int .i64 x.Key.N,.str x.Key.aKA,.str x.Field,.int .i64 x.N]
theorem M.aY.en.fl(l:List M.aY):(List.map M.aY.en l).all (λy=>y.all D.flat)=true:=Ji (λ_=>rfl) l
structure M.aM where
 aJy:Int
 aKU:Int
 aJ9:List M.aY
def M.aM.en(x:M.aM):List D:=[.int .i64 x.aJy,.int .i64 x.aKU,.sl (List.map M.aY.en x.aJ9)]
structure M.aJ7 where
 aM:M.aM
 aKX:Int
 aKL:Int
def M.aJ7.en(x:M.aJ7):List D:=[.int .i64 x.aM.aJy,.int .i64 x.aM.aKU,.sl (List.map M.aY.en x.aM.aJ9),.int .i64 x.aKX,.int .i64 x.aKL]
structure M.aE where
 aJ8:M.aD
 aKe:Int
 aJ7:M.aJ7
def M.aE.en(x:M.aE):List D:=[.str x.aJ8.Name,.sl (List.map M.aJt.en x.aJ8.aJm),.int .i64 x.aJ8.aKG,.int .i64 x.aKe,.int .i64 x.aJ7.aM.aJy,.int .i64 x.aJ7.aM.aKU,.sl (List.map M.aY.en x.aJ7.aM.aJ9),.int .i64 x.aJ7.aKX,.int .i64 x.aJ7.aKL]
structure M.aJi where
 aJr:ByteArray
 Top:ByteArray
 aJk:M.aJk
 aJs:M.aO
 bL:M.bL
 aE:M.aE
 aKC:Int
 aKB:Bool
def M.aJi.en(x:M.aJi):List D:=[.str x.aJr,.str x.Top,.str x.aJk.aJr,.int .i64 x.aJk.aKI,.int .i64 x.aJk.aKN,.int .i64 x.aJk.aKT,.sl (List.map M.aJ0.en x.aJs.aJs),.str x.bL.aJ8.Name,.int .i64 x.bL.aJ8.aJl,.sl (List.map M.aD.en x.bL.aJ8.aJw),.sl (List.map M.aG.en x.bL.aJ8.aJ5),.sl (List.map enB x.bL.Log),.int .i64 x.bL.aKR,.str x.aE.aJ8.Name,.sl (List.map M.aJt.en x.aE.aJ8.aJm),.int .i64 x.aE.aJ8.aKG,.int .i64 x.aE.aKe,.int .i64 x.aE.aJ7.aM.aJy,.int .i64 x.aE.aJ7.aM.aKU,.sl (List.map M.aY.en x.aE.aJ7.aM.aJ9),.int .i64 x.aE.aJ7.aKX,.int .i64 x.aE.aJ7.aKL,.int .i64 x.aKC,.bool x.aKB]
structure M.aA where
 aJp:List M.aJi
def M.aA.en(x:M.aA):List D:=[.sl (List.map M.aJi.en x.aJp)]
structure M.aJ where
 aKP:ByteArray
 aJl:Int
def M.aJ.en(x:M.aJ):List D:=[.str x.aKP,.int .i64 x.aJl]
theorem M.aJ.en.fl(l:List M.aJ):(List.map M.aJ.en l).all (λy=>y.all D.flat)=true:=Ji (λ_=>rfl) l
structure M.Instr where
 aJz:Int
 R:Int
 N:Int
 aKA:ByteArray
def M.Instr.en(x:M.Instr):List D:=[.int .i64 x.aJz,.int .i64 x.R,.int .i64 x.N,.str x.aKA]
theorem M.Instr.en.fl(l:List M.Instr):(List.map M.Instr.en l).all (λy=>y.all D.flat)=true:=Ji (λ_=>rfl) l
structure M.aJn where
 aKD:List M.Instr
 Pc:Int
 aKQ:List Int
 aKW:Int
 aKb:Bool
 aKY:Bool
def M.aJn.en(x:M.aJn):List D:=[.sl (List.map M.Instr.en x.aKD),.int .i64 x.Pc,.sl (List.map enI x.aKQ),.int .i64 x.aKW,.bool x.aKb,.bool x.aKY]
structure M.bD where
 Id:Int
 aJr:ByteArray
 Top:ByteArray
 aJl:Int
 aJ:List M.aJ
 aJn:M.aJn
def M.bD.en(x:M.bD):List D:=[.int .i64 x.Id,.str x.aJr,.str x.Top,.int .i64 x.aJl,.sl (List.map M.aJ.en x.aJ),.sl (List.map M.Instr.en x.aJn.aKD),.int .i64 x.aJn.Pc,.sl (List.map enI x.aJn.aKQ),.int .i64 x.aJn.aKW,.bool x.aJn.aKb,.bool x.aJn.aKY]
structure M.eO where
 Name:ByteArray
 bD:Int
 aKO:Bool
 aKj:Bool
def M.eO.en(x:M.eO):List D:=[.str x.Name,.int .i64 x.bD,.bool x.aKO,.bool x.aKj]
theorem M.eO.en.fl(l:List M.eO):(List.map M.eO.en l).all (λy=>y.all D.flat)=true:=Ji (λ_=>rfl) l
structure M.aP where
 aJ3:List M.eO
def M.aP.en(x:M.aP):List D:=[.sl (List.map M.eO.en x.aJ3)]
structure M.iU where
 To:Int
 aKm:Int
 N:Int
def M.iU.en(x:M.iU):List D:=[.int .i64 x.To,.int .i64 x.aKm,.int .i64 x.N]
theorem M.iU.en.fl(l:List M.iU):(List.map M.iU.en l).all (λy=>y.all D.flat)=true:=Ji (λ_=>rfl) l
structure M.aJu where
 aKM:List M.iU
def M.aJu.en(x:M.aJu):List D:=[.sl (List.map M.iU.en x.aKM)]
structure M.aJr where
 Name:ByteArray
 aJl:Int
 aKJ:List ByteArray
 aKO:Bool
def M.aJr.en(x:M.aJr):List D:=[.str x.Name,.int .i64 x.aJl,.sl (List.map enS x.aKJ),.bool x.aKO]
structure M.aK where
 aJy:Int
 Seq:Int
def M.aK.en(x:M.aK):List D:=[.int .i64 x.aJy,.int .i64 x.Seq]
theorem M.aK.en.fl(l:List M.aK):(List.map M.aK.en l).all (λy=>y.all D.flat)=true:=Ji (λ_=>rfl) l
structure M.aJv where
 aD:M.aD
 aK:List M.aK
 aKH:List M.aY
def M.aJv.en(x:M.aJv):List D:=[.str x.aD.Name,.sl (List.map M.aJt.en x.aD.aJm),.int .i64 x.aD.aKG,.sl (List.map M.aK.en x.aK),.sl (List.map M.aY.en x.aKH)]
structure M.World where
 Now:Int
 aKF:Bool
 aJy:Int
 aA:M.aA
 aJ2:List M.bD
 aJ4:Int
 aJ3:M.aP
 aJu:M.aJu
 aKE:List M.aJr
 aJ6:List M.aJv
def M.World.en(x:M.World):List D:=[.int .i64 x.Now,.bool x.aKF,.int .i64 x.aJy,.sl (List.map M.aJi.en x.aA.aJp),.sl (List.map M.bD.en x.aJ2),.int .i64 x.aJ4,.sl (List.map M.eO.en x.aJ3.aJ3),.sl (List.map M.iU.en x.aJu.aKM),.sl (List.map M.aJr.en x.aKE),.sl (List.map M.aJv.en x.aJ6)]
structure M.Ask where
 aJz:Int
 R:Int
 N:Int
 aKA:ByteArray
 Value:Int
def M.Ask.en(x:M.Ask):List D:=[.int .i64 x.aJz,.int .i64 x.R,.int .i64 x.N,.str x.aKA,.int .i64 x.Value]
theorem M.Ask.en.fl(l:List M.Ask):(List.map M.Ask.en l).all (λy=>y.all D.flat)=true:=Ji (λ_=>rfl) l
structure M.Op where
 aJz:Int
 aD:ByteArray
 Key:M.Key
 aC:M.aC
 Field:ByteArray
def M.Op.en(x:M.Op):List D:=[.int .i64 x.aJz,.str x.aD,.int .i64 x.Key.aJz,.int .i64 x.Key.N,.str x.Key.aKA,.sl (List.map M.Field.en x.aC.aJq),.str x.Field]
structure M.dF where
 aKg:Bool
 aKV:Bool
 Low:M.Key
 aKZ:M.Key
def M.dF.en(x:M.dF):List D:=[.bool x.aKg,.bool x.aKV,.int .i64 x.Low.aJz,.int .i64 x.Low.N,.str x.Low.aKA,.int .i64 x.aKZ.aJz,.int .i64 x.aKZ.N,.str x.aKZ.aKA]
theorem M.dF.en.fl(l:List M.dF):(List.map M.dF.en l).all (λy=>y.all D.flat)=true:=Ji (λ_=>rfl) l
def pB(j:M.aJk)(C:Int):Option Int:=
 if decide ((i64.wrap (C-(j.aJr.size:Int)))<0)then some (-1)else some (i64.wrap (C-(j.aJr.size:Int)))
def Au(j:List Int)(C:Int):Option Int:=
 if decide ((i64.wrap (C-(List.length j:Int)))<0)then some (-1)else some (i64.wrap (C-(List.length j:Int)))
def xY(j:M.aJo)(C:Int):Option Int:=
 (Au j.aKa C).bind λx1=>if decide (x1<0)then some (-1)else some x1
def wX(j:M.aJx)(C:Int):Option Int:=
 if decide ((i64.wrap (C-(j.aJr.size:Int)))<0)then some (-1)else if decide ((i64.wrap ((i64.wrap (C-(j.aJr.size:Int)))-(j.aKP.size:Int)))<0)then some (-1)else(xY j.aJo (i64.wrap ((i64.wrap (C-(j.aJr.size:Int)))-(j.aKP.size:Int)))).bind λx3=>if decide (x3<0)then some (-1)else some x3
def CW:=szS wX
def AK(j:M.aJ0)(C:Int):Option Int:=
 (CW j.aJ1 C).bind λx1=>if decide (x1<0)then some (-1)else some x1
def Ec:=szS AK
def yQ(j:M.aO)(C:Int):Option Int:=
 (Ec j.aJs C).bind λx1=>if decide (x1<0)then some (-1)else some x1
def Dt(j:M.Key)(C:Int):Option Int:=
 if decide ((i64.wrap (C-(j.aKA.size:Int)))<0)then some (-1)else some (i64.wrap (C-(j.aKA.size:Int)))
def AF(j:M.Field)(C:Int):Option Int:=
 if decide ((i64.wrap (C-(j.Name.size:Int)))<0)then some (-1)else some (i64.wrap (C-(j.Name.size:Int)))
def DE:=szS AF
def BE(j:M.aC)(C:Int):Option Int:=
 (DE j.aJq C).bind λx1=>if decide (x1<0)then some (-1)else some x1
def B6(j:M.aJt)(C:Int):Option Int:=
 (Dt j.Key C).bind λx1=>if decide (x1<0)then some (-1)else(BE j.aC x1).bind λx4=>if decide (x4<0)then some (-1)else some x4
def ES:=szS B6
def rP(j:M.aD)(C:Int):Option Int:=
 if decide ((i64.wrap (C-(j.Name.size:Int)))<0)then some (-1)else(ES j.aJm (i64.wrap (C-(j.Name.size:Int)))).bind λx2=>if decide (x2<0)then some (-1)else some x2
def DV:=szS rP
def rZ(j:M.aG)(C:Int):Option Int:=
 if decide ((i64.wrap (C-(j.aD.size:Int)))<0)then some (-1)else if decide ((i64.wrap ((i64.wrap (C-(j.aD.size:Int)))-(j.Field.size:Int)))<0)then some (-1)else some (i64.wrap ((i64.wrap (C-(j.aD.size:Int)))-(j.Field.size:Int)))
def AX:=szS rZ
def yJ(j:M.aJj)(C:Int):Option Int:=
 if decide ((i64.wrap (C-(j.Name.size:Int)))<0)then some (-1)else(DV j.aJw (i64.wrap (C-(j.Name.size:Int)))).bind λx2=>if decide (x2<0)then some (-1)else(AX j.aJ5 x2).bind λx5=>if decide (x5<0)then some (-1)else some x5
def DA(j:M.bL)(C:Int):Option Int:=
 (yJ j.aJ8 C).bind λx1=>if decide (x1<0)then some (-1)else(Au j.Log x1).bind λx4=>if decide (x4<0)then some (-1)else some x4
def AJ(j:M.aY)(C:Int):Option Int:=
 (Dt j.Key C).bind λx1=>if decide (x1<0)then some (-1)else if decide ((i64.wrap (x1-(j.Field.size:Int)))<0)then some (-1)else some (i64.wrap (x1-(j.Field.size:Int)))
def Bv:=szS AJ
def Bk(j:M.aM)(C:Int):Option Int:=
 (Bv j.aJ9 C).bind λx1=>if decide (x1<0)then some (-1)else some x1
def Eh(j:M.aJ7)(C:Int):Option Int:=
 (Bk j.aM C).bind λx1=>if decide (x1<0)then some (-1)else some x1
def Ak(j:M.aE)(C:Int):Option Int:=
 (rP j.aJ8 C).bind λx1=>if decide (x1<0)then some (-1)else(Eh j.aJ7 x1).bind λx4=>if decide (x4<0)then some (-1)else some x4
def yL(j:M.aJi)(C:Int):Option Int:=
 if decide ((i64.wrap (C-(j.aJr.size:Int)))<0)then some (-1)else if decide ((i64.wrap ((i64.wrap (C-(j.aJr.size:Int)))-(j.Top.size:Int)))<0)then some (-1)else(pB j.aJk (i64.wrap ((i64.wrap (C-(j.aJr.size:Int)))-(j.Top.size:Int)))).bind λx3=>if decide (x3<0)then some (-1)else(yQ j.aJs x3).bind λx6=>if decide (x6<0)then some (-1)else(DA j.bL x6).bind λx9=>if decide (x9<0)then some (-1)else(Ak j.aE x9).bind λI=>if decide (I<0)then some (-1)else some I
def CX:=szS yL
def zT(j:M.aA)(C:Int):Option Int:=
 (CX j.aJp C).bind λx1=>if decide (x1<0)then some (-1)else some x1
def wY(j:M.aJ)(C:Int):Option Int:=
 if decide ((i64.wrap (C-(j.aKP.size:Int)))<0)then some (-1)else some (i64.wrap (C-(j.aKP.size:Int)))
def CY:=szS wY
def At(j:M.Instr)(C:Int):Option Int:=
 if decide ((i64.wrap (C-(j.aKA.size:Int)))<0)then some (-1)else some (i64.wrap (C-(j.aKA.size:Int)))
def DZ:=szS At
def D6(j:List Int)(C:Int):Option Int:=
 if decide ((i64.wrap (C-(List.length j:Int)))<0)then some (-1)else some (i64.wrap (C-(List.length j:Int)))
def An(j:M.aJn)(C:Int):Option Int:=
 (DZ j.aKD C).bind λx1=>if decide (x1<0)then some (-1)else(D6 j.aKQ x1).bind λx4=>if decide (x4<0)then some (-1)else some x4
def B8(j:M.bD)(C:Int):Option Int:=
 if decide ((i64.wrap (C-(j.aJr.size:Int)))<0)then some (-1)else if decide ((i64.wrap ((i64.wrap (C-(j.aJr.size:Int)))-(j.Top.size:Int)))<0)then some (-1)else(CY j.aJ (i64.wrap ((i64.wrap (C-(j.aJr.size:Int)))-(j.Top.size:Int)))).bind λx3=>if decide (x3<0)then some (-1)else(An j.aJn x3).bind λx6=>if decide (x6<0)then some (-1)else some x6
def EH:=szS B8
def Cj(j:M.eO)(C:Int):Option Int:=
 if decide ((i64.wrap (C-(j.Name.size:Int)))<0)then some (-1)else some (i64.wrap (C-(j.Name.size:Int)))
def EG:=szS Cj
def vA(j:M.aP)(C:Int):Option Int:=
 (EG j.aJ3 C).bind λx1=>if decide (x1<0)then some (-1)else some x1
def CF(j:List M.iU)(C:Int):Option Int:=
 if decide ((i64.wrap (C-(List.length j:Int)))<0)then some (-1)else some (i64.wrap (C-(List.length j:Int)))
def Aj(j:M.aJu)(C:Int):Option Int:=
 (CF j.aKM C).bind λx1=>if decide (x1<0)then some (-1)else some x1
def zI(j:List ByteArray):Nat->Int->Int->Option Int
 |0,_,_=>none
 |J+1,C,I=>if decide (I<(List.length j:Int))then(idx j I).bind λx7=>if decide ((i64.wrap (C-(x7.size:Int)))<0)then some (-1)else zI j J (i64.wrap (C-(x7.size:Int))) (i64.wrap (I+1))else some C
def zM(j:List ByteArray)(C:Int):Option Int:=
 if decide ((i64.wrap (C-(List.length j:Int)))<0)then some (-1)else zI j fuel (i64.wrap (C-(List.length j:Int))) 0
def BM(j:M.aJr)(C:Int):Option Int:=
 if decide ((i64.wrap (C-(j.Name.size:Int)))<0)then some (-1)else(zM j.aKJ (i64.wrap (C-(j.Name.size:Int)))).bind λx2=>if decide (x2<0)then some (-1)else some x2
def ET:=szS BM
def xV(j:List M.aK)(C:Int):Option Int:=
 if decide ((i64.wrap (C-(List.length j:Int)))<0)then some (-1)else some (i64.wrap (C-(List.length j:Int)))
def wU(j:M.aJv)(C:Int):Option Int:=
 (rP j.aD C).bind λx1=>if decide (x1<0)then some (-1)else(xV j.aK x1).bind λx4=>if decide (x4<0)then some (-1)else(Bv j.aKH x4).bind λx7=>if decide (x7<0)then some (-1)else some x7
def Dg:=szS wU
def CD(j:M.World)(U:Int):Option Int:=
 (zT j.aA U).bind λx1=>if decide (x1<0)then some (-1)else(EH j.aJ2 x1).bind λx4=>if decide (x4<0)then some (-1)else(vA j.aJ3 x4).bind λx7=>if decide (x7<0)then some (-1)else(Aj j.aJu x7).bind λC=>if decide (C<0)then some (-1)else(ET j.aKE C).bind λI=>if decide (I<0)then some (-1)else(Dg j.aJ6 I).bind λJ=>if decide (J<0)then some (-1)else some J
def pJ(j:M.aJk):Option M.aJk:=
 some j
def sE(C:List Int):Nat->Int->List Int->Option (List Int)
 |0,_,_=>none
 |J+1,j,I=>if decide (j<(List.length C:Int))then(idx C j).bind λU=>(idx I j).bind λaf=>sE C J (i64.wrap (j+1)) (List.set I j.toNat U)else some I
def AD(j:List Int):Option (List Int):=
 (mkL 1 (List.length j:Int) 0).bind λx1=>sE j fuel 0 (List.replicate (List.length j:Int).toNat 0)
def xK(j:M.aJo):Option M.aJo:=
 (AD j.aKa).bind λx1=>some (⟨j.aKc,j.aKS,j.aJl,x1,j.aKh⟩:M.aJo)
def xN(j:M.aJx):Option M.aJx:=
 (xK j.aJo).bind λx1=>some (⟨j.aJr,j.aKP,x1⟩:M.aJx)
def C7:=toS 88 (⟨(⟨#[]⟩:ByteArray),(⟨#[]⟩:ByteArray),(⟨0,0,0,([]:List Int),false⟩:M.aJo)⟩:M.aJx) xN
def AB(j:M.aJ0):Option M.aJ0:=
 (C7 j.aJ1).bind λx1=>some (⟨j.aJl,x1⟩:M.aJ0)
def DY:=toS 32 (⟨0,([]:List M.aJx)⟩:M.aJ0) AB
def xU(j:M.aO):Option M.aO:=
 (DY j.aJs).bind λx1=>some (⟨x1⟩:M.aO)
def Dr(j:M.Key):Option M.Key:=
 some j
def AM(j:M.Field):Option M.Field:=
 some j
def Ej:=toS 24 (⟨(⟨#[]⟩:ByteArray),0⟩:M.Field) AM
def Bm(j:M.aC):Option M.aC:=
 (Ej j.aJq).bind λx1=>some (⟨x1⟩:M.aC)
def BI(j:M.aJt):Option M.aJt:=
 (Dr j.Key).bind λx1=>(Bm j.aC).bind λx3=>some (⟨x1,x3⟩:M.aJt)
def EE:=toS 56 (⟨(⟨0,0,(⟨#[]⟩:ByteArray)⟩:M.Key),(⟨([]:List M.Field)⟩:M.aC)⟩:M.aJt) BI
def rV(j:M.aD):Option M.aD:=
 (EE j.aJm).bind λx1=>some (⟨j.Name,x1,j.aKG⟩:M.aD)
def DI:=toS 48 (⟨(⟨#[]⟩:ByteArray),([]:List M.aJt),0⟩:M.aD) rV
def sI(j:M.aG):Option M.aG:=
 some j
def A5:=toS 32 (⟨(⟨#[]⟩:ByteArray),(⟨#[]⟩:ByteArray)⟩:M.aG) sI
def wO(j:M.aJj):Option M.aJj:=
 (DI j.aJw).bind λx1=>(A5 j.aJ5).bind λx3=>some (⟨j.Name,j.aJl,x1,x3⟩:M.aJj)
def Ef(j:M.bL):Option M.bL:=
 (wO j.aJ8).bind λx1=>(AD j.Log).bind λx3=>some (⟨x1,x3,j.aKR⟩:M.bL)
def AE(j:M.aY):Option M.aY:=
 (Dr j.Key).bind λx1=>some (⟨j.aJy,j.Seq,x1,j.Field,j.N⟩:M.aY)
def Bw:=toS 72 (⟨0,0,(⟨0,0,(⟨#[]⟩:ByteArray)⟩:M.Key),(⟨#[]⟩:ByteArray),0⟩:M.aY) AE
def Bf(j:M.aM):Option M.aM:=
 (Bw j.aJ9).bind λx1=>some (⟨j.aJy,j.aKU,x1⟩:M.aM)
def D4(j:M.aJ7):Option M.aJ7:=
 (Bf j.aM).bind λx1=>some (⟨x1,j.aKX,j.aKL⟩:M.aJ7)
def Ae(j:M.aE):Option M.aE:=
 (rV j.aJ8).bind λx1=>(D4 j.aJ7).bind λx3=>some (⟨x1,j.aKe,x3⟩:M.aE)
def xZ(j:M.aJi):Option M.aJi:=
 (pJ j.aJk).bind λx1=>(xU j.aJs).bind λx3=>(Ef j.bL).bind λx5=>(Ae j.aE).bind λx7=>some (⟨j.aJr,j.Top,x1,x3,x5,x7,j.aKC,j.aKB⟩:M.aJi)
def Df:=toS 328 (⟨(⟨#[]⟩:ByteArray),(⟨#[]⟩:ByteArray),(⟨(⟨#[]⟩:ByteArray),0,0,0⟩:M.aJk),(⟨([]:List M.aJ0)⟩:M.aO),(⟨(⟨(⟨#[]⟩:ByteArray),0,([]:List M.aD),([]:List M.aG)⟩:M.aJj),([]:List Int),0⟩:M.bL),(⟨(⟨(⟨#[]⟩:ByteArray),([]:List M.aJt),0⟩:M.aD),0,(⟨(⟨0,0,([]:List M.aY)⟩:M.aM),0,0⟩:M.aJ7)⟩:M.aE),0,false⟩:M.aJi) xZ
def zZ(j:M.aA):Option M.aA:=
 (Df j.aJp).bind λx1=>some (⟨x1⟩:M.aA)
def wP(j:M.aJ):Option M.aJ:=
 some j
def CZ:=toS 24 (⟨(⟨#[]⟩:ByteArray),0⟩:M.aJ) wP
def AN(j:M.Instr):Option M.Instr:=
 some j
def Ek:=toS 40 (⟨0,0,0,(⟨#[]⟩:ByteArray)⟩:M.Instr) AN
def uJ(C:List Int):Nat->Int->List Int->Option (List Int)
 |0,_,_=>none
 |J+1,j,I=>if decide (j<(List.length C:Int))then(idx C j).bind λU=>(idx I j).bind λaf=>uJ C J (i64.wrap (j+1)) (List.set I j.toNat U)else some I
def DN(j:List Int):Option (List Int):=
 (mkL 8 (List.length j:Int) 0).bind λx1=>uJ j fuel 0 (List.replicate (List.length j:Int).toNat 0)
def zW(j:M.aJn):Option M.aJn:=
 (Ek j.aKD).bind λx1=>(DN j.aKQ).bind λx3=>some (⟨x1,j.Pc,x3,j.aKW,j.aKb,j.aKY⟩:M.aJn)
def BK(j:M.bD):Option M.bD:=
 (CZ j.aJ).bind λx1=>(zW j.aJn).bind λx3=>some (⟨j.Id,j.aJr,j.Top,j.aJl,x1,x3⟩:M.bD)
def EI:=toS 144 (⟨0,(⟨#[]⟩:ByteArray),(⟨#[]⟩:ByteArray),0,([]:List M.aJ),(⟨([]:List M.Instr),0,([]:List Int),0,false,false⟩:M.aJn)⟩:M.bD) BK
def BU(j:M.eO):Option M.eO:=
 some j
def EF:=toS 32 (⟨(⟨#[]⟩:ByteArray),0,false,false⟩:M.eO) BU
def vC(j:M.aP):Option M.aP:=
 (EF j.aJ3).bind λx1=>some (⟨x1⟩:M.aP)
def B4(j:M.iU):Option M.iU:=
 some j
def EB:=toS 24 (⟨0,0,0⟩:M.iU) B4
def zV(j:M.aJu):Option M.aJu:=
 (EB j.aKM).bind λx1=>some (⟨x1⟩:M.aJu)
def nV(C:List ByteArray):Nat->Int->List ByteArray->Option (List ByteArray)
 |0,_,_=>none
 |J+1,j,I=>if decide (j<(List.length C:Int))then(idx C j).bind λU=>(idx I j).bind λaf=>nV C J (i64.wrap (j+1)) (List.set I j.toNat U)else some I
def Al(j:List ByteArray):Option (List ByteArray):=
 (mkL 16 (List.length j:Int) (⟨#[]⟩:ByteArray)).bind λx1=>nV j fuel 0 (List.replicate (List.length j:Int).toNat (⟨#[]⟩:ByteArray))
def BZ(j:M.aJr):Option M.aJr:=
 (Al j.aKJ).bind λx1=>some (⟨j.Name,j.aJl,x1,j.aKO⟩:M.aJr)
def EK:=toS 56 (⟨(⟨#[]⟩:ByteArray),0,([]:List ByteArray),false⟩:M.aJr) BZ
def uH(j:M.aK):Option M.aK:=
 some j
def B9:=toS 16 (⟨0,0⟩:M.aK) uH
def yG(j:M.aJv):Option M.aJv:=
 (rV j.aD).bind λx1=>(B9 j.aK).bind λx3=>(Bw j.aKH).bind λx5=>some (⟨x1,x3,x5⟩:M.aJv)
def C0:=toS 96 (⟨(⟨(⟨#[]⟩:ByteArray),([]:List M.aJt),0⟩:M.aD),([]:List M.aK),([]:List M.aY)⟩:M.aJv) yG
def rX(j:M.World):Option M.World:=
 (zZ j.aA).bind λx1=>(EI j.aJ2).bind λx3=>(vC j.aJ3).bind λx5=>(zV j.aJu).bind λx7=>(EK j.aKE).bind λx9=>(C0 j.aJ6).bind λC=>some (⟨j.Now,j.aKF,j.aJy,x1,x3,j.aJ4,x5,x7,x9,C⟩:M.World)
def wD(j:M.aJo):Option M.aJo:=
 (app 1 ([]:List Int) j.aKa).bind λx1=>some j
def mI(C:M.aJ0):Nat->Int->List M.aJx->Option M.aJ0
 |0,_,_=>none
 |ah+1,J,I=>if decide (J<(List.length C.aJ1:Int))then(idx C.aJ1 J).bind λj=>(wD j.aJo).bind λU=>(app 88 I ([(⟨j.aJr,j.aKP,U⟩:M.aJx)])).bind λai=>mI C ah (i64.wrap (J+1)) (I++[(⟨j.aJr,j.aKP,U⟩:M.aJx)])else some (⟨C.aJl,I⟩:M.aJ0)
def Bp(j:M.aJ0):Option M.aJ0:=
 mI j fuel 0 ([]:List M.aJx)
def oQ(C:M.aO):Nat->Int->List M.aJ0->Option M.aO
 |0,_,_=>none
 |U+1,I,j=>if decide (I<(List.length C.aJs:Int))then(idx C.aJs I).bind λah=>(Bp ah).bind λJ=>(app 32 j ([J])).bind λai=>oQ C U (i64.wrap (I+1)) (j++[J])else some (⟨j⟩:M.aO)
def CT(j:M.aO):Option M.aO:=
 oQ j fuel 0 ([]:List M.aJ0)
def cD(j:M.aC):Option M.aC:=
 (app 24 ([]:List M.Field) j.aJq).bind λx1=>some j
def yZ(j:M.aJt):Option M.aJt:=
 (cD j.aC).bind λx1=>some (⟨j.Key,x1⟩:M.aJt)
def rF(j:M.aD):Nat->Int->List M.aJt->Option M.aD
 |0,_,_=>none
 |U+1,I,C=>if decide (I<(List.length j.aJm:Int))then(idx j.aJm I).bind λah=>(yZ ah).bind λJ=>(app 56 C ([J])).bind λai=>rF j U (i64.wrap (I+1)) (C++[J])else some (⟨j.Name,C,j.aKG⟩:M.aD)
def dE(j:M.aD):Option M.aD:=
 rF j fuel 0 ([]:List M.aJt)
def rG(j:M.aJj):Nat->Int->List M.aD->Option M.aJj
 |0,_,_=>none
 |U+1,I,C=>if decide (I<(List.length j.aJw:Int))then(idx j.aJw I).bind λah=>(dE ah).bind λJ=>(app 48 C ([J])).bind λai=>rG j U (i64.wrap (I+1)) (C++[J])else some (⟨j.Name,j.aJl,C,j.aJ5⟩:M.aJj)
def mM(j:M.aJj):Option M.aJj:=
 (app 32 ([]:List M.aG) j.aJ5).bind λx1=>rG j fuel 0 ([]:List M.aD)
def wA(j:M.bL):Option M.bL:=
 (mM j.aJ8).bind λx1=>(app 1 ([]:List Int) j.Log).bind λx3=>some (⟨x1,j.Log,j.aKR⟩:M.bL)
def wF(j:M.aM):Option M.aM:=
 (app 72 ([]:List M.aY) j.aJ9).bind λx1=>some j
def Cz(j:M.aJ7):Option M.aJ7:=
 (wF j.aM).bind λx1=>some (⟨x1,j.aKX,j.aKL⟩:M.aJ7)
def wG(j:M.aE):Option M.aE:=
 (dE j.aJ8).bind λx1=>(Cz j.aJ7).bind λx3=>some (⟨x1,j.aKe,x3⟩:M.aE)
def gD(j:M.aJi):Option M.aJi:=
 (CT j.aJs).bind λx1=>(wA j.bL).bind λx3=>(wG j.aE).bind λx5=>some (⟨j.aJr,j.Top,j.aJk,x1,x3,x5,j.aKC,j.aKB⟩:M.aJi)
def nU(C:M.aA):Nat->Int->List M.aJi->Option M.aA
 |0,_,_=>none
 |U+1,I,j=>if decide (I<(List.length C.aJp:Int))then(idx C.aJp I).bind λah=>(gD ah).bind λJ=>(app 328 j ([J])).bind λai=>nU C U (i64.wrap (I+1)) (j++[J])else some (⟨j⟩:M.aA)
def fH(j:M.aA):Option M.aA:=
 nU j fuel 0 ([]:List M.aJi)
def Aa(j:List M.Instr):Option (List M.Instr):=
 (app 40 ([]:List M.Instr) j).bind λx1=>some j
def wC(j:M.aJn):Option M.aJn:=
 (Aa j.aKD).bind λx1=>(app 8 ([]:List Int) j.aKQ).bind λx3=>some (⟨x1,j.Pc,j.aKQ,j.aKW,j.aKb,j.aKY⟩:M.aJn)
def kK(j:M.bD):Option M.bD:=
 (app 24 ([]:List M.aJ) j.aJ).bind λx1=>(wC j.aJn).bind λC=>some (⟨j.Id,j.aJr,j.Top,j.aJl,j.aJ,C⟩:M.bD)
def AP(j:M.aP):Option M.aP:=
 (app 32 ([]:List M.eO) j.aJ3).bind λx1=>some j
def AL(j:M.aJu):Option M.aJu:=
 (app 24 ([]:List M.iU) j.aKM).bind λx1=>some j
def CK(j:M.aJr):Option M.aJr:=
 (app 16 ([]:List ByteArray) j.aKJ).bind λx1=>some j
def CE(j:M.aJv):Option M.aJv:=
 (dE j.aD).bind λx1=>(app 16 ([]:List M.aK) j.aK).bind λx3=>(app 72 ([]:List M.aY) j.aKH).bind λx5=>some (⟨x1,j.aK,j.aKH⟩:M.aJv)
def iM(j:M.World)(x1:M.aA)(U:List M.bD)(ai:M.aP)(aj:M.aJu)(ak:List M.aJr):Nat->Int->List M.aJv->Option M.World
 |0,_,_=>none
 |al+1,I,C=>if decide (I<(List.length j.aJ6:Int))then(idx j.aJ6 I).bind λaf=>(CE af).bind λJ=>(app 96 C ([J])).bind λao=>iM j x1 U ai aj ak al (i64.wrap (I+1)) (C++[J])else some (⟨j.Now,j.aKF,j.aJy,x1,U,j.aJ4,ai,aj,ak,C⟩:M.World)
def iP(j:M.World)(x1:M.aA)(J:List M.bD)(U:M.aP)(ah:M.aJu):Nat->Int->List M.aJr->Option M.World
 |0,_,_=>none
 |aj+1,I,C=>if decide (I<(List.length j.aKE:Int))then(idx j.aKE I).bind λak=>(CK ak).bind λai=>(app 56 C ([ai])).bind λal=>iP j x1 J U ah aj (i64.wrap (I+1)) (C++[ai])else iM j x1 J U ah C fuel 0 ([]:List M.aJv)
def lU(j:M.World)(x1:M.aA):Nat->Int->List M.bD->Option M.World
 |0,_,_=>none
 |U+1,I,C=>if decide (I<(List.length j.aJ2:Int))then(idx j.aJ2 I).bind λah=>(kK ah).bind λJ=>(app 144 C ([J])).bind λak=>lU j x1 U (i64.wrap (I+1)) (C++[J])else(AP j.aJ3).bind λai=>(AL j.aJu).bind λaj=>iP j x1 C ai aj fuel 0 ([]:List M.aJr)
def oY(j:M.World):Option M.World:=
 (fH j.aA).bind λx1=>lU j x1 fuel 0 ([]:List M.bD)
def nW(C:List M.bD)(I:Int):Nat->Int->Option Int
 |0,_=>none
 |J+1,j=>if decide (j<(List.length C:Int))then(idx C j).bind λx6=>if x6.Id==I then some j else nW C I J (i64.wrap (j+1))else some (-1)
def CO(j:List M.bD)(C:Int):Option Int:=
 nW j C fuel 0
def Af(j:M.World)(C:Int):Option Int:=
 (CO j.aJ2 C).bind λx1=>some x1
def bB(j:Int)(C:Int)(I:Int):Option Bool:=
 if decide (j>=C)then some (decide (j<=I))else some false
def nL(j:ByteArray):Nat->Int->Option Bool
 |0,_=>none
 |I+1,C=>if decide (C<(j.size:Int))then(Ym j C).bind λx5=>if decide ((x5.toNat:Int)<97)then some false else if decide ((x5.toNat:Int)>122)then some false else nL j I (i64.wrap (C+1))else(bB (j.size:Int) 1 8).bind λJ=>some J
def cE(j:ByteArray):Option Bool:=
 nL j fuel 0
def kQ(j:M.aJr):Nat->Int->Option Bool
 |0,_=>none
 |I+1,C=>if decide (C<(List.length j.aKJ:Int))then(idx j.aKJ C).bind λx6=>(cE x6).bind λJ=>if !J then some false else if decide (C>0)then(idx j.aKJ (i64.wrap (C-1))).bind λU=>if !(Op.bytesLess U.toList x6.toList)then some false else kQ j I (i64.wrap (C+1))else kQ j I (i64.wrap (C+1))else(cE j.Name).bind λah=>if ah then(bB j.aJl 1 1000000000000).bind λai=>if ai then(bB (List.length j.aKJ:Int) 1 6).bind λaj=>some aj else some false else some false
def zF(j:M.aJr):Option Bool:=
 kQ j fuel 0
def xI  :Option (List ByteArray):=
 some ([(⟨#[98,97,110,107]⟩:ByteArray),(⟨#[110,101,119,115]⟩:ByteArray),(⟨#[115,104,111,112]⟩:ByteArray)])
def iG(j:ByteArray):Nat->Int->Option Bool
 |0,_=>none
 |I+1,C=>if decide (C<(j.size:Int))then(Ym j C).bind λx5=>if decide ((x5.toNat:Int)<97)then if decide ((x5.toNat:Int)<48)then some false else if decide ((x5.toNat:Int)>57)then some false else iG j I (i64.wrap (C+1))else if decide ((x5.toNat:Int)>122)then if decide ((x5.toNat:Int)<48)then some false else if decide ((x5.toNat:Int)>57)then some false else iG j I (i64.wrap (C+1))else iG j I (i64.wrap (C+1))else some (decide ((j.size:Int)<=12))
def BN(j:ByteArray):Option Bool:=
 iG j fuel 0
def fL(j:M.Key):Option Bool:=
 (bB j.aJz 1 3).bind λx1=>if x1 then(bB j.N (-1000000000000) 1000000000000).bind λx4=>if x4 then if j.aJz !=2 then(BN j.aKA).bind λx8=>if x8 then if j.aJz !=1 then some true else some (j.aKA.toList==(⟨#[]⟩:ByteArray).toList)else some false else if j.N==0 then(BN j.aKA).bind λC=>if C then if j.aJz !=1 then some true else some (j.aKA.toList==(⟨#[]⟩:ByteArray).toList)else some false else some false else some false else some false
def nF(j:M.aY):Option Bool:=
 (bB j.aJy 1 1000000).bind λx1=>if x1 then(bB j.Seq 1 1000000).bind λx4=>if x4 then(fL j.Key).bind λx7=>if x7 then(cE j.Field).bind λC=>if C then(bB j.N 0 1000000000).bind λI=>some I else some false else some false else some false else some false
def gN(j:M.aC):Nat->Int->Option Bool
 |0,_=>none
 |I+1,C=>if decide (C<(List.length j.aJq:Int))then(idx j.aJq C).bind λx6=>(cE x6.Name).bind λJ=>if !J then some false else(bB x6.N 0 1000000000).bind λU=>if !U then some false else if decide (C>0)then(idx j.aJq (i64.wrap (C-1))).bind λah=>if !(Op.bytesLess ah.Name.toList x6.Name.toList)then some false else gN j I (i64.wrap (C+1))else gN j I (i64.wrap (C+1))else some (decide ((List.length j.aJq:Int)<=6))
def bS(j:M.aC):Option Bool:=
 gN j fuel 0
def BQ(j:Bool)(C:Bool):Option Int:=
 if j then some (-1)else if C then some 1 else some 0
def bO(j:M.Key)(C:M.Key):Option Int:=
 (fL j).bind λx1=>if !x1 then some 0 else(fL C).bind λx4=>if !x4 then some 0 else if j.aJz !=C.aJz then(BQ (decide (j.aJz<C.aJz)) true).bind λx8=>some x8 else if j.N !=C.N then(BQ (decide (j.N<C.N)) true).bind λI=>some I else(BQ (Op.bytesLess j.aKA.toList C.aKA.toList) (!(Op.bytesLess j.aKA.toList C.aKA.toList||j.aKA.toList==C.aKA.toList))).bind λJ=>some J
def iQ(j:M.aD):Nat->Int->Option Bool
 |0,_=>none
 |I+1,C=>if decide (C<(List.length j.aJm:Int))then(idx j.aJm C).bind λx6=>(fL x6.Key).bind λJ=>if !J then some false else(bS x6.aC).bind λU=>if !U then some false else if decide (C>0)then(idx j.aJm (i64.wrap (C-1))).bind λah=>(bO ah.Key x6.Key).bind λai=>if decide (ai>=0)then some false else iQ j I (i64.wrap (C+1))else iQ j I (i64.wrap (C+1))else(cE j.Name).bind λaj=>if aj then if decide ((List.length j.aJm:Int)<=16)then(bB j.aKG 0 1000000).bind λak=>some ak else some false else some false
def oV(j:M.aD):Option Bool:=
 iQ j fuel 0
def jZ(j:M.aJv):Nat->Int->Option Bool
 |0,_=>none
 |I+1,C=>if decide (C<(List.length j.aKH:Int))then(idx j.aKH C).bind λJ=>(nF J).bind λU=>if !U then some false else jZ j I (i64.wrap (C+1))else(oV j.aD).bind λah=>if ah then if j.aD.Name.toList==(⟨#[110,111,116,101,115]⟩:ByteArray).toList then some (decide ((List.length j.aK:Int)<=60))else some false else some false
def gP(j:M.aJv):Nat->Int->Option Bool
 |0,_=>none
 |I+1,C=>if decide (C<(List.length j.aK:Int))then(idx j.aK C).bind λx6=>(bB x6.aJy 1 1000000).bind λJ=>if !J then some false else(bB x6.Seq 0 1000000).bind λU=>if !U then some false else if decide (C>0)then(idx j.aK (i64.wrap (C-1))).bind λah=>if decide (ah.aJy>=x6.aJy)then some false else gP j I (i64.wrap (C+1))else gP j I (i64.wrap (C+1))else jZ j fuel 0
def BB(j:M.aJv):Option Bool:=
 gP j fuel 0
def rC(j:M.bD):Nat->Int->Option Bool
 |0,_=>none
 |I+1,C=>if decide (C<(List.length j.aJ:Int))then(idx j.aJ C).bind λx6=>(cE x6.aKP).bind λJ=>if !J then some false else if x6.aJl !=j.aJl then some false else rC j I (i64.wrap (C+1))else(bB j.Id 1 1000000000000).bind λU=>if U then(cE j.aJr).bind λah=>if ah then(cE j.Top).bind λai=>if ai then(bB j.aJl 1 1000000000000).bind λaj=>if aj then some (decide ((List.length j.aJ:Int)<=8))else some false else some false else some false else some false
def zL(j:M.bD):Option Bool:=
 rC j fuel 0
def gG(C:M.aA)(I:ByteArray)(J:ByteArray):Nat->Int->Option Int
 |0,_=>none
 |U+1,j=>if decide (j<(List.length C.aJp:Int))then(idx C.aJp j).bind λx8=>if x8.aJr.toList==I.toList then if x8.Top.toList==J.toList then some j else gG C I J U (i64.wrap (j+1))else gG C I J U (i64.wrap (j+1))else some (-1)
def fF(j:M.aA)(C:ByteArray)(I:ByteArray):Option Int:=
 gG j C I fuel 0
def cJ(j:M.aJk):Nat->Int->Int->Option Bool
 |0,_,_=>none
 |J+1,U,I=>if decide (I<((3:Nat):Int))then(idx ([j.aKT,j.aKN,j.aKI]) I).bind λC=>(bB C 0 1000000000000).bind λaf=>if !af then some false else if C !=0 then if decide (C<=U)then some false else cJ j J C (i64.wrap (I+1))else cJ j J U (i64.wrap (I+1))else(cE j.aJr).bind λah=>some ah
def lZ(j:M.aJk):Option Bool:=
 cJ j fuel 0 0
def yA(j:M.aJo):Option Bool:=
 (bB j.aKc 1 4).bind λx1=>if x1 then(bB j.aKS 0 999).bind λx4=>if x4 then(bB j.aJl 0 1000000000000).bind λx7=>if x7 then some (decide ((List.length j.aKa:Int)<=60))else some false else some false else some false
def gF(I:List M.aJx)(J:Int)(x5:M.aJx)(C:Int->Option Bool):Nat->Int->Option Bool
 |0,_=>none
 |U+1,j=>if decide (j<J)then(idx I j).bind λah=>if ah.aJr.toList==x5.aJr.toList then if ah.aKP.toList==x5.aKP.toList then some false else gF I J x5 C U (i64.wrap (j+1))else gF I J x5 C U (i64.wrap (j+1))else C j
def eV(j:List M.aJx):Nat->Int->Option Bool
 |0,_=>none
 |I+1,C=>if decide (C<(List.length j:Int))then(idx j C).bind λx5=>(cE x5.aJr).bind λJ=>if !J then some false else(cE x5.aKP).bind λU=>if !U then some false else(yA x5.aJo).bind λai=>if !ai then some false else gF j C x5 (λ(aa:Int)=>eV j I (i64.wrap (C+1))) fuel 0 else some (decide ((List.length j:Int)<=12))
def sB(j:List M.aJx):Option Bool:=
 eV j fuel 0
def eU(j:M.aO):Nat->Int->Option Bool
 |0,_=>none
 |I+1,C=>if decide (C<(List.length j.aJs:Int))then(idx j.aJs C).bind λx6=>(bB x6.aJl 1 1000000000000).bind λJ=>if !J then some false else if decide (C>0)then(idx j.aJs (i64.wrap (C-1))).bind λU=>if decide (U.aJl>=x6.aJl)then some false else(sB x6.aJ1).bind λah=>if !ah then some false else eU j I (i64.wrap (C+1))else(sB x6.aJ1).bind λai=>if !ai then some false else eU j I (i64.wrap (C+1))else some (decide ((List.length j.aJs:Int)<=4))
def yC(j:M.aO):Option Bool:=
 eU j fuel 0
def lG(C:M.aJj)(I:ByteArray):Nat->Int->Option Int
 |0,_=>none
 |J+1,j=>if decide (j<(List.length C.aJw:Int))then(idx C.aJw j).bind λx7=>if x7.Name.toList==I.toList then some j else lG C I J (i64.wrap (j+1))else some (-1)
def nG(j:M.aJj)(C:ByteArray):Option Int:=
 lG j C fuel 0
def pR(j:M.aC)(I:ByteArray):Nat->Int->Option (Int×Bool)
 |0,_=>none
 |J+1,C=>if decide (C<(List.length j.aJq:Int))then(idx j.aJq C).bind λx7=>if x7.Name.toList==I.toList then some (x7.N,true)else pR j I J (i64.wrap (C+1))else some (0,false)
def hP(j:M.aC)(C:ByteArray):Option (Int×Bool):=
 pR j C fuel 0
def El(j:M.aJt)(C:M.aJt)(I:ByteArray):Option Bool:=
 (hP j.aC I).bind λx1=>(hP C.aC I).bind λx3=>if decide (x1.1<x3.1)then some true else if x1.1==x3.1 then(bO j.Key C.Key).bind λx7=>some (decide (x7<0))else some false
def nS(U:ByteArray)(I:List M.aJt)(J:M.aJt)(C:Int->Option (List M.aJt)):Nat->Int->Option (List M.aJt)
 |0,_=>none
 |ai+1,j=>if decide (j>0)then(idx I (i64.wrap (j-1))).bind λaj=>(El J aj U).bind λak=>if ak then nS U I J C ai (i64.wrap (j-1))else C j else C j
def lO(I:M.aD)(J:ByteArray):Nat->Int->List M.aJt->Option (List M.aJt)
 |0,_,_=>none
 |ai+1,U,j=>if decide (U<(List.length I.aJm:Int))then(idx I.aJm U).bind λaf=>(hP af.aC J).bind λaj=>if !aj.2 then lO I J ai (i64.wrap (U+1)) j else nS J j af (λ(C:Int)=>(GR j C).bind λal=>(app 56 ([]:List M.aJt) (List.take C.toNat j)).bind λao=>(yZ af).bind λah=>(app 56 (List.take C.toNat j) ([ah])).bind λaq=>(app 56 ((List.take C.toNat j)++[ah]) (List.drop C.toNat j)).bind λak=>lO I J ai (i64.wrap (U+1)) (((List.take C.toNat j)++[ah])++(List.drop C.toNat j))) fuel (List.length j:Int)else some j
def CJ(j:M.aD)(C:ByteArray):Option (List M.aJt):=
 lO j C fuel 0 ([]:List M.aJt)
def lX(C:ByteArray)(x1:(List M.aJt)):Nat->Int->Option (M.Key×M.Key×Bool)
 |0,_=>none
 |U+1,j=>if decide (j<(List.length x1:Int))then(idx x1 (i64.wrap (j-1))).bind λI=>(hP I.aC C).bind λah=>(idx x1 j).bind λJ=>(hP J.aC C).bind λai=>if ah.1==ai.1 then some (I.Key,J.Key,true)else lX C x1 U (i64.wrap (j+1))else some ((⟨0,0,(⟨#[]⟩:ByteArray)⟩:M.Key),(⟨0,0,(⟨#[]⟩:ByteArray)⟩:M.Key),false)
def uU(C:M.aD)(j:ByteArray):Option (M.Key×M.Key×Bool):=
 (CJ C j).bind λx1=>lX j x1 fuel 1
def gE(U:M.aJj)(v4:Int)(C:M.aG)(I:Int->Option Bool):Nat->Int->Option Bool
 |0,_=>none
 |ai+1,j=>if decide (j<v4)then(idx U.aJ5 j).bind λJ=>if(J.aD.toList==C.aD.toList)&&(J.Field.toList==C.Field.toList)then some false else gE U v4 C I ai (i64.wrap (j+1))else I j
def eY(j:M.aJj):Nat->Int->Option Bool
 |0,_=>none
 |U+1,I=>if decide (I<(List.length j.aJ5:Int))then(idx j.aJ5 I).bind λC=>(nG j C.aD).bind λJ=>if decide (J<0)then some false else(cE C.Field).bind λai=>if !ai then some false else(idx j.aJw J).bind λaj=>(uU aj C.Field).bind λak=>if ak.2.2 then some false else gE j I C (λ(af:Int)=>eY j U (i64.wrap (I+1))) fuel 0 else(cE j.Name).bind λal=>if al then(bB j.aJl 0 1000).bind λao=>if ao then if decide ((List.length j.aJw:Int)<=4)then some (decide ((List.length j.aJ5:Int)<=4))else some false else some false else some false
def eX(j:M.aJj):Nat->Int->Option Bool
 |0,_=>none
 |I+1,C=>if decide (C<(List.length j.aJw:Int))then(idx j.aJw C).bind λx6=>(oV x6).bind λJ=>if !J then some false else if decide (C>0)then(idx j.aJw (i64.wrap (C-1))).bind λU=>if !(Op.bytesLess U.Name.toList x6.Name.toList)then some false else eX j I (i64.wrap (C+1))else eX j I (i64.wrap (C+1))else eY j fuel 0
def lP(j:M.aJj):Option Bool:=
 eX j fuel 0
def mJ(j:M.aM):Nat->Int->Option Bool
 |0,_=>none
 |J+1,C=>if decide (C<(List.length j.aJ9:Int))then(idx j.aJ9 C).bind λI=>(nF I).bind λU=>if !U then some false else if I.aJy !=j.aJy then some false else if I.Seq !=(i64.wrap ((i64.wrap (j.aKU-(List.length j.aJ9:Int)))+C))then some false else mJ j J (i64.wrap (C+1))else some true
def sX(j:M.aM):Option Bool:=
 (bB j.aJy 1 1000000).bind λx1=>if !x1 then some false else(bB j.aKU 1 1000000).bind λx4=>if !x4 then some false else if decide ((List.length j.aJ9:Int)>20)then some false else mJ j fuel 0
def tT(j:M.aE):Option Bool:=
 (oV j.aJ8).bind λx1=>if x1 then if j.aJ8.Name.toList==(⟨#[110,111,116,101,115]⟩:ByteArray).toList then(bB j.aKe 0 1000000000000).bind λx5=>if x5 then(sX j.aJ7.aM).bind λx8=>some x8 else some false else some false else some false
def xM(j:M.aJo)(C:Bool):Option Int:=
 if C then some 76 else some (i64.wrap (16+(List.length j.aKa:Int)))
def jU(p0:M.aO)(v4:Int)(U:Int->Int->Option Int):Nat->Int->Int->Option Int
 |0,_,_=>none
 |ai+1,C,j=>(idx p0.aJs v4).bind λI=>if decide (j<(List.length I.aJ1:Int))then(idx I.aJ1 j).bind λJ=>(xM J.aJo (J.aJo.aKc==3)).bind λaj=>jU p0 v4 U ai (i64.wrap (C+aj)) (i64.wrap (j+1))else U C j
def eS(j:M.aO):Nat->Int->Int->Option Int
 |0,_,_=>none
 |U+1,I,C=>if decide (C<(List.length j.aJs:Int))then jU j C (λ(J:Int) (ae:Int)=>eS j U J (i64.wrap (C+1))) fuel I 0 else some I
def xC(j:M.aO):Option Int:=
 eS j fuel 0 0
def bN(j:M.Key):Nat->Int->List Int->Option (List Int)
 |0,_,_=>none
 |J+1,I,C=>if decide (I>=0)then if j.aJz !=2 then if decide (0<=(i64.wrap (8*I)))then(app 1 C ([IntKind.u8.wrap (i64.wrap (BitVec.ofInt (IntKind.i64.bits) (Int.fdiv (i64.wrap (j.N+1000000000000)) (2^(min (i64.wrap (8*I)).toNat IntKind.i64.bits)))&&&BitVec.ofInt (IntKind.i64.bits) 255).toNat)])).bind λU=>bN j J (i64.wrap (I-1)) (C++[IntKind.u8.wrap (i64.wrap (BitVec.ofInt (IntKind.i64.bits) (Int.fdiv (i64.wrap (j.N+1000000000000)) (2^(min (i64.wrap (8*I)).toNat IntKind.i64.bits)))&&&BitVec.ofInt (IntKind.i64.bits) 255).toNat)])else none else(app 1 C (bC j.aKA)).bind λah=>some (C++(bC j.aKA))else(app 1 C (bC j.aKA)).bind λai=>some (C++(bC j.aKA))
def kO(j:M.Key):Option (List Int):=
 (fL j).bind λx1=>if !x1 then some ([]:List Int)else bN j fuel 5 ([IntKind.u8.wrap j.aJz])
def cV  :Nat->Int->List Int->Option (List Int)
 |0,_,_=>none
 |I+1,j,C=>if decide (j>127)then(app 1 C ([IntKind.u8.wrap (i64.wrap (BitVec.ofInt (IntKind.i64.bits) (i64.wrap (BitVec.ofInt (IntKind.i64.bits) j&&&BitVec.ofInt (IntKind.i64.bits) 127).toNat)|||BitVec.ofInt (IntKind.i64.bits) 128).toNat)])).bind λJ=>cV I (Int.fdiv j (2^(min (7:Int).toNat IntKind.i64.bits))) (C++[IntKind.u8.wrap (i64.wrap (BitVec.ofInt (IntKind.i64.bits) (i64.wrap (BitVec.ofInt (IntKind.i64.bits) j&&&BitVec.ofInt (IntKind.i64.bits) 127).toNat)|||BitVec.ofInt (IntKind.i64.bits) 128).toNat)])else(app 1 C ([IntKind.u8.wrap j])).bind λU=>some (C++[IntKind.u8.wrap j])
def bX(j:List Int)(C:Int):Option (List Int):=
 (app 1 ([]:List Int) j).bind λx1=>(bB C 0 1000000000000).bind λx7=>if !x7 then some j else cV fuel C j
def bW(C:List Int)(j:List Int):Option (List Int):=
 (bX C (List.length j:Int)).bind λx1=>(app 1 x1 j).bind λx3=>some (x1++j)
def cZ(j:M.aC):Nat->Int->List Int->Option (List Int)
 |0,_,_=>none
 |U+1,C,I=>if decide (C<(List.length j.aJq:Int))then(idx j.aJq C).bind λJ=>(bW I (bC J.Name)).bind λah=>(bX ah J.N).bind λai=>cZ j U (i64.wrap (C+1)) ai else some I
def fZ(j:M.aC):Option (List Int):=
 (bS j).bind λx1=>if !x1 then some ([]:List Int)else(bX ([]:List Int) (List.length j.aJq:Int)).bind λx4=>cZ j fuel 0 x4
def kX(j:M.aD):Nat->Int->Int->Option Int
 |0,_,_=>none
 |J+1,I,C=>if decide (C<(List.length j.aJm:Int))then(idx j.aJm C).bind λx7=>(kO x7.Key).bind λU=>(fZ x7.aC).bind λaf=>kX j J (i64.wrap ((i64.wrap (I+(List.length U:Int)))+(List.length af:Int))) (i64.wrap (C+1))else some I
def uG(j:M.aD):Option Int:=
 kX j fuel 0 0
def gL(j:M.aJj):Nat->Int->Int->Option Int
 |0,_,_=>none
 |J+1,I,C=>if decide (C<(List.length j.aJw:Int))then(idx j.aJw C).bind λx7=>(uG x7).bind λU=>gL j J (i64.wrap (I+U)) (i64.wrap (C+1))else some I
def sY(j:M.aJj):Option Int:=
 gL j fuel 0 0
def D9(j:M.bL):Option Int:=
 (sY j.aJ8).bind λx1=>some (i64.wrap (x1+(List.length j.Log:Int)))
def CQ(j:M.aJi):Option Int:=
 (xC j.aJs).bind λx1=>(D9 j.bL).bind λx3=>(uG j.aE.aJ8).bind λx5=>some (i64.wrap ((i64.wrap ((i64.wrap (x1+x3))+x5))+(i64.wrap (40*(List.length j.aE.aJ7.aM.aJ9:Int)))))
def pE(j:M.aJi):Option Bool:=
 (cE j.aJr).bind λx1=>if x1 then(cE j.Top).bind λx4=>if x4 then(lZ j.aJk).bind λx7=>if x7 then if j.aJk.aJr.toList==j.aJr.toList then(yC j.aJs).bind λC=>if C then(lP j.bL.aJ8).bind λI=>if I then(tT j.aE).bind λJ=>if J then(bB j.aKC 0 1000000000000).bind λU=>if U then(CQ j).bind λai=>some (decide (ai<=2500))else some false else some false else some false else some false else some false else some false else some false else some false
def AA(j:M.aJi)(C:ByteArray)(I:ByteArray):Option Bool:=
 if Op.bytesLess j.aJr.toList C.toList then some true else if j.aJr.toList==C.toList then some (Op.bytesLess j.Top.toList I.toList)else some false
def gA(j:M.aA):Nat->Int->Option Bool
 |0,_=>none
 |I+1,C=>if decide (C<(List.length j.aJp:Int))then(idx j.aJp C).bind λx6=>(pE x6).bind λJ=>if !J then some false else if decide (C>0)then(idx j.aJp (i64.wrap (C-1))).bind λU=>(AA U x6.aJr x6.Top).bind λah=>if !ah then some false else gA j I (i64.wrap (C+1))else gA j I (i64.wrap (C+1))else some (decide ((List.length j.aJp:Int)<=9))
def cQ(j:M.aA):Option Bool:=
 gA j fuel 0
def dS(j:ByteArray):Nat->Int->Option Bool
 |0,_=>none
 |I+1,C=>if decide (C<(j.size:Int))then(Ym j C).bind λx5=>if decide ((x5.toNat:Int)<97)then if(x5.toNat:Int) !=47 then some false else dS j I (i64.wrap (C+1))else if decide ((x5.toNat:Int)>122)then if(x5.toNat:Int) !=47 then some false else dS j I (i64.wrap (C+1))else dS j I (i64.wrap (C+1))else(bB (j.size:Int) 1 30).bind λJ=>some J
def wN(j:ByteArray):Option Bool:=
 dS j fuel 0
def cW(I:M.aP)(J:Int)(x6:M.eO)(C:Int->Option Bool):Nat->Int->Option Bool
 |0,_=>none
 |U+1,j=>if decide (j<J)then(idx I.aJ3 j).bind λah=>if x6.aKj then if ah.Name.toList==x6.Name.toList then if !ah.aKj then some false else if !x6.aKO then some false else if !ah.aKO then some false else cW I J x6 C U (i64.wrap (j+1))else cW I J x6 C U (i64.wrap (j+1))else cW I J x6 C U (i64.wrap (j+1))else C j
def fN(j:M.aP):Nat->Int->Option Bool
 |0,_=>none
 |I+1,C=>if decide (C<(List.length j.aJ3:Int))then(idx j.aJ3 C).bind λx6=>(wN x6.Name).bind λJ=>if !J then some false else(bB x6.bD 1 1000000000000).bind λU=>if !U then some false else cW j C x6 (λ(aa:Int)=>fN j I (i64.wrap (C+1))) fuel 0 else some (decide ((List.length j.aJ3:Int)<=12))
def vY(j:M.aP):Option Bool:=
 fN j fuel 0
def eA(j:M.World):Nat->Int->Option Bool
 |0,_=>none
 |J+1,I=>if decide (I<(List.length j.aJ2:Int))then(idx j.aJ2 I).bind λC=>(zL C).bind λU=>if !U then some false else if decide (C.Id>=j.aJ4)then some false else if decide (I>0)then(idx j.aJ2 (i64.wrap (I-1))).bind λah=>if decide (ah.Id>=C.Id)then some false else(fF j.aA C.aJr C.Top).bind λai=>if decide (ai<0)then some false else eA j J (i64.wrap (I+1))else(fF j.aA C.aJr C.Top).bind λaj=>if decide (aj<0)then some false else eA j J (i64.wrap (I+1))else(bB j.Now 0 999999990000).bind λak=>if ak then(bB j.aJy 1 1000000).bind λal=>if al then(cQ j.aA).bind λao=>if ao then(bB j.aJ4 1 1000000000000).bind λaq=>if aq then(vY j.aJ3).bind λar=>some ar else some false else some false else some false else some false
def lS(C:M.World):Nat->Int->Option Bool
 |0,_=>none
 |I+1,j=>if decide (j<3)then((idx C.aKE j).bind λx9=>((zF x9).bind λJ=>(if !J then(some false)else((xI).bind λU=>((idx U j).bind λah=>(if !(x9.Name.toList==ah.toList)then(some false)else((idx C.aJ6 j).bind λai=>((BB ai).bind λaj=>(if !aj then(some false)else(lS C I (i64.wrap (j+1))))))))))))else(eA C fuel 0)
def AG(j:M.World):Option Bool:=
 if(List.length j.aKE:Int) !=3 then some false else if(List.length j.aJ6:Int) !=3 then some false else if decide ((List.length j.aJ2:Int)>6)then some false else lS j fuel 0
def Ar(j:M.Instr)(p1:Int):Option Bool:=
 (if j.aJz==5 then some true else(bB j.aJz 6 8).bind λx9=>some x9).bind λx1=>(if j.aJz==1 then some 1000 else if j.aJz==2 then some 3 else(if j.aJz==3 then some (j.aJz==3)else some (j.aJz==4)).bind λC=>if C then some p1 else(if j.aJz==6 then some (j.aJz==6)else if j.aJz==7 then some (j.aJz==7)else some (j.aJz==8)).bind λI=>if I then some 100 else some 0).bind λJ=>((bB j.aJz 1 9).bind λU=>if !U then some true else(bB j.R 0 3).bind λai=>if !ai then some true else(bB j.N 0 J).bind λaj=>some (!aj)).bind λak=>if ak then some false else(if j.aJz==4 then some (j.R !=0)else if j.aJz==9 then some (j.R !=0)else some false).bind λal=>if al then some false else(if x1 then(cE j.aKA).bind λao=>if ao then some true else some false else some (j.aKA.toList==(⟨#[]⟩:ByteArray).toList)).bind λaq=>some aq
def FL(j:Int)(C:Int):Option Int:=
 if decide (C<j)then some C else some j
def uO(j:Int)(C:Int):Option Int:=
 if decide (C>j)then some C else some j
def rE(j:Int):Option Int:=
 (FL 1000 j).bind λx1=>(uO (-1) x1).bind λx3=>some x3
def vN(C:M.aJn)(j:M.Instr):Option M.Ask:=
 if j.aJz==5 then some (⟨1,j.R,0,j.aKA,0⟩:M.Ask)else if j.aJz==6 then some (⟨2,j.R,j.N,j.aKA,0⟩:M.Ask)else if j.aJz==7 then(idx C.aKQ j.R).bind λx4=>some (⟨3,0,j.N,j.aKA,x4⟩:M.Ask)else if j.aJz==8 then(idx C.aKQ j.R).bind λI=>some (⟨4,0,j.N,j.aKA,I⟩:M.Ask)else some (⟨0,0,0,(⟨#[]⟩:ByteArray),0⟩:M.Ask)
def dU(x1:M.aJn):Nat->Int->Int->List Int->Option (M.aJn×M.Ask)
 |0,_,_,_=>none
 |U+1,J,I,C=>(bB J 0 (i64.wrap ((List.length x1.aKD:Int)-1))).bind λai=>if !ai then some ((⟨x1.aKD,J,C,I,true,x1.aKY⟩:M.aJn),(⟨0,0,0,(⟨#[]⟩:ByteArray),0⟩:M.Ask))else(idx x1.aKD J).bind λj=>(Ar j (List.length x1.aKD:Int)).bind λaj=>if !aj then some ((⟨x1.aKD,J,C,I,true,x1.aKY⟩:M.aJn),(⟨0,0,0,(⟨#[]⟩:ByteArray),0⟩:M.Ask))else if decide (I>=60)then some ((⟨x1.aKD,J,C,I,true,x1.aKY⟩:M.aJn),(⟨0,0,0,(⟨#[]⟩:ByteArray),0⟩:M.Ask))else if j.aJz==1 then(idx C j.R).bind λay=>dU x1 U (i64.wrap (J+1)) (i64.wrap (I+1)) (List.set C j.R.toNat j.N)else if j.aJz==2 then(idx C j.R).bind λak=>(rE ak).bind λal=>(idx C j.N).bind λao=>(rE ao).bind λaq=>(rE (i64.wrap (al+aq))).bind λar=>dU x1 U (i64.wrap (J+1)) (i64.wrap (I+1)) (List.set C j.R.toNat ar)else if j.aJz==3 then(idx C j.R).bind λav=>if av==0 then dU x1 U j.N (i64.wrap (I+1)) C else dU x1 U (i64.wrap (J+1)) (i64.wrap (I+1)) C else if j.aJz==4 then dU x1 U j.N (i64.wrap (I+1)) C else if j.aJz==9 then some ((⟨x1.aKD,i64.wrap (J+1),C,i64.wrap (I+1),true,x1.aKY⟩:M.aJn),(⟨0,0,0,(⟨#[]⟩:ByteArray),0⟩:M.Ask))else if j.aJz==5 then(vN (⟨x1.aKD,i64.wrap (J+1),C,i64.wrap (I+1),x1.aKb,true⟩:M.aJn) j).bind λaw=>some ((⟨x1.aKD,i64.wrap (J+1),C,i64.wrap (I+1),x1.aKb,true⟩:M.aJn),aw)else(vN (⟨x1.aKD,i64.wrap (J+1),C,i64.wrap (I+1),x1.aKb,j.aJz==6⟩:M.aJn) j).bind λax=>some ((⟨x1.aKD,i64.wrap (J+1),C,i64.wrap (I+1),x1.aKb,j.aJz==6⟩:M.aJn),ax)
def yO(j:M.aJn):Option (M.aJn×M.Ask):=
 (wC j).bind λx1=>if j.aKb then some (x1,(⟨0,0,0,(⟨#[]⟩:ByteArray),0⟩:M.Ask))else if j.aKY then some (x1,(⟨0,0,0,(⟨#[]⟩:ByteArray),0⟩:M.Ask))else if(List.length j.aKQ:Int) !=4 then some (x1,(⟨0,0,0,(⟨#[]⟩:ByteArray),0⟩:M.Ask))else if decide (j.aKW<0)then some (x1,(⟨0,0,0,(⟨#[]⟩:ByteArray),0⟩:M.Ask))else dU x1 fuel x1.Pc x1.aKW x1.aKQ
def jW(C:ByteArray)(x1:(List ByteArray)):Nat->Int->Option Int
 |0,_=>none
 |I+1,j=>if decide (j<(List.length x1:Int))then(idx x1 j).bind λx9=>if x9.toList==C.toList then some j else jW C x1 I (i64.wrap (j+1))else some (-1)
def yP(j:ByteArray):Option Int:=
 (xI).bind λx1=>jW j x1 fuel 0
def cO  :Option M.aJo:=
 some (⟨4,0,0,([]:List Int),false⟩:M.aJo)
def kU(C:M.aO)(I:Int):Nat->Int->Option Int
 |0,_=>none
 |J+1,j=>if decide (j<(List.length C.aJs:Int))then(idx C.aJs j).bind λx7=>if x7.aJl==I then some j else kU C I J (i64.wrap (j+1))else some (-1)
def Aq(j:M.aO)(C:Int):Option Int:=
 kU j C fuel 0
def mC(C:M.aJ0)(I:ByteArray)(J:ByteArray):Nat->Int->Option Int
 |0,_=>none
 |U+1,j=>if decide (j<(List.length C.aJ1:Int))then(idx C.aJ1 j).bind λx8=>if x8.aJr.toList==I.toList then if x8.aKP.toList==J.toList then some j else mC C I J U (i64.wrap (j+1))else mC C I J U (i64.wrap (j+1))else some (-1)
def Cs(j:M.aJ0)(C:ByteArray)(I:ByteArray):Option Int:=
 mC j C I fuel 0
def xJ(C:M.aO)(p1:Int)(p2:ByteArray)(p3:ByteArray):Option (M.aJo×Bool):=
 (Aq C p1).bind λx1=>(if decide (x1<0)then((cO).bind λx4=>(some (x4,false)))else((idx C.aJs x1).bind λx6=>((Cs x6 p2 p3).bind λj=>(if decide (j<0)then((cO).bind λI=>(some (I,false)))else((idx x6.aJ1 j).bind λJ=>((wD J.aJo).bind λU=>(some (U,true))))))))
def rK(j:M.aJr)(C:Int):Option Bool:=
 (zF j).bind λx1=>if x1 then(uO 1 (i64.wrap ((i64.wrap (j.aJl-2))+1))).bind λx4=>(bB C x4 j.aJl).bind λx6=>some x6 else some false
def oA(j:M.aJr)(I:ByteArray):Nat->Int->Option Bool
 |0,_=>none
 |J+1,C=>if decide (C<(List.length j.aKJ:Int))then(idx j.aKJ C).bind λx7=>if x7.toList==I.toList then some true else oA j I J (i64.wrap (C+1))else some false
def Ct(j:M.aJr)(C:ByteArray):Option Bool:=
 oA j C fuel 0
def gW(j:List Int):Nat->Int->List Int->Option (List Int)
 |0,_,_=>none
 |U+1,I,C=>if decide (I<(List.length j:Int))then(idx j I).bind λJ=>(app 8 C ([i64.wrap J])).bind λaf=>gW j U (i64.wrap (I+1)) (C++[i64.wrap J])else some C
def pY(j:List Int):Option (List Int):=
 gW j fuel 0 ([(List.length j:Int)])
def GS(C:Int)(j:Int):Option Int:=
 (bB j 1 1000000000000).bind λx1=>if !x1 then some 0 else if decide (j=0)then none else some (Int.tmod (i64.wrap ((Int.tmod C j)+j)) j)
def wB(j:List Int):Nat->Int->Int->Option Int
 |0,_,_=>none
 |J+1,I,C=>if decide (C<(List.length j:Int))then(idx j C).bind λx6=>(GS x6 2147483647).bind λU=>wB j J (Int.tmod (i64.wrap ((i64.wrap ((i64.wrap (I*1000003))+U))+13)) 2147483647) (i64.wrap (C+1))else some I
def Es(j:List Int):Option Int:=
 wB j fuel 11 0
def uB(j:Int)(C:List Int):Option Int:=
 (app 8 ([j]) C).bind λx1=>(app 8 ([j]++C) ([j])).bind λx3=>(Es (([j]++C)++[j])).bind λx5=>some x5
def iK(j:Int)(C:ByteArray):Option Int:=
 (pY (bC C)).bind λx1=>(uB j x1).bind λx3=>(uO 1 x3).bind λx5=>some x5
def tY(x5:Int):Nat->Int->List Int->Option (List Int)
 |0,_,_=>none
 |I+1,j,C=>if decide (j>=0)then if decide (0<=(i64.wrap (8*j)))then(app 1 C ([IntKind.u8.wrap (i64.wrap (BitVec.ofInt (IntKind.i64.bits) (Int.fdiv x5 (2^(min (i64.wrap (8*j)).toNat IntKind.i64.bits)))&&&BitVec.ofInt (IntKind.i64.bits) 255).toNat)])).bind λJ=>tY x5 I (i64.wrap (j-1)) (C++[IntKind.u8.wrap (i64.wrap (BitVec.ofInt (IntKind.i64.bits) (Int.fdiv x5 (2^(min (i64.wrap (8*j)).toNat IntKind.i64.bits)))&&&BitVec.ofInt (IntKind.i64.bits) 255).toNat)])else none else some C
def DT(j:M.aJr)(C:ByteArray)(I:Int):Option (List Int):=
 (iK 107 j.Name).bind λx1=>(iK 109 C).bind λx3=>(uB (i64.wrap (1+I)) ([103,x1,x3])).bind λx5=>tY x5 fuel 5 ([]:List Int)
def Am(j:M.aJr)(I:ByteArray)(C:Int):Option M.aJo:=
 (zF j).bind λx1=>(if !x1 then((cO).bind λx4=>(some x4))else((rK j C).bind λx6=>(if !x6 then(some (⟨1,404,j.aJl,([]:List Int),false⟩:M.aJo))else((Ct j I).bind λx9=>(if !x9 then(some (⟨1,404,j.aJl,([]:List Int),false⟩:M.aJo))else((DT j I C).bind λJ=>(some (⟨1,200,C,J,j.aKO⟩:M.aJo))))))))
def vD(J:M.aO)(j:M.aJr)(C:Int)(I:ByteArray)(U:Bool):Option M.aJo:=
 (xJ J C j.Name I).bind λx1=>(if x1.2 then(some x1.1)else(if U then((Am j I C).bind λx5=>(some x5))else((cO).bind λx7=>(some x7))))
def tW(j:M.World)(C:M.bD)(p2:ByteArray):Option M.aJo:=
 (fF j.aA C.aJr C.Top).bind λx1=>((yP C.aJr).bind λx3=>(if decide (x1<0)then((cO).bind λx6=>(some x6))else(if decide (x3<0)then((cO).bind λx9=>(some x9))else((idx j.aA.aJp x1).bind λI=>((idx j.aKE x3).bind λJ=>((vD I.aJs J C.aJl p2 j.aKF).bind λU=>(some U)))))))
def Bl(j:M.bD)(I:ByteArray)(C:M.aJo):Option (M.bD×Bool):=
 (kK j).bind λx1=>(app 24 x1.aJ ([(⟨I,C.aJl⟩:M.aJ)])).bind λx3=>if C.aKS !=200 then(kK j).bind λJ=>some (J,false)else if C.aJl !=j.aJl then(kK j).bind λU=>some (U,false)else(zL j).bind λaf=>if !af then(kK j).bind λah=>some (ah,false)else(zL (⟨x1.Id,x1.aJr,x1.Top,x1.aJl,x1.aJ++[(⟨I,C.aJl⟩:M.aJ)],x1.aJn⟩:M.bD)).bind λai=>if !ai then(kK j).bind λaj=>some (aj,false)else some ((⟨x1.Id,x1.aJr,x1.Top,x1.aJl,x1.aJ++[(⟨I,C.aJl⟩:M.aJ)],x1.aJn⟩:M.bD),true)
def mU(j:M.aJn)(C:Int)(I:Int):Option (M.aJn×Bool):=
 (wC j).bind λx1=>if !j.aKY then some (x1,false)else(bB C 0 (i64.wrap ((List.length j.aKQ:Int)-1))).bind λx4=>if !x4 then some (x1,false)else(bB I (-1) 1000).bind λx7=>if !x7 then some (x1,false)else(idx x1.aKQ C).bind λJ=>some ((⟨x1.aKD,x1.Pc,List.set x1.aKQ C.toNat I,x1.aKW,x1.aKb,false⟩:M.aJn),true)
def eG(J:List Int)(C:Int):Nat->Int->Int->Option (Int×Int×Bool)
 |0,_,_=>none
 |U+1,I,j=>if decide (j<6)then if decide (C<0)then some (0,0,false)else if decide (C>=(i64.wrap ((List.length J:Int)-j)))then some (0,0,false)else(idx J (i64.wrap (C+j))).bind λx9=>if decide (0<=(i64.wrap (7*j)))then if decide ((i64.wrap x9)<128)then if(i64.wrap x9)==0 then if decide (j>0)then some (0,0,false)else if decide ((i64.wrap (BitVec.ofInt (IntKind.i64.bits) I|||BitVec.ofInt (IntKind.i64.bits) (i64.wrap ((i64.wrap (BitVec.ofInt (IntKind.i64.bits) (i64.wrap x9)&&&BitVec.ofInt (IntKind.i64.bits) 127).toNat)*2^(min (i64.wrap (7*j)).toNat IntKind.i64.bits)))).toNat)>1000000000000)then some (0,0,false)else some (i64.wrap (BitVec.ofInt (IntKind.i64.bits) I|||BitVec.ofInt (IntKind.i64.bits) (i64.wrap ((i64.wrap (BitVec.ofInt (IntKind.i64.bits) (i64.wrap x9)&&&BitVec.ofInt (IntKind.i64.bits) 127).toNat)*2^(min (i64.wrap (7*j)).toNat IntKind.i64.bits)))).toNat,i64.wrap ((i64.wrap (C+j))+1),true)else if decide ((i64.wrap (BitVec.ofInt (IntKind.i64.bits) I|||BitVec.ofInt (IntKind.i64.bits) (i64.wrap ((i64.wrap (BitVec.ofInt (IntKind.i64.bits) (i64.wrap x9)&&&BitVec.ofInt (IntKind.i64.bits) 127).toNat)*2^(min (i64.wrap (7*j)).toNat IntKind.i64.bits)))).toNat)>1000000000000)then some (0,0,false)else some (i64.wrap (BitVec.ofInt (IntKind.i64.bits) I|||BitVec.ofInt (IntKind.i64.bits) (i64.wrap ((i64.wrap (BitVec.ofInt (IntKind.i64.bits) (i64.wrap x9)&&&BitVec.ofInt (IntKind.i64.bits) 127).toNat)*2^(min (i64.wrap (7*j)).toNat IntKind.i64.bits)))).toNat,i64.wrap ((i64.wrap (C+j))+1),true)else eG J C U (i64.wrap (BitVec.ofInt (IntKind.i64.bits) I|||BitVec.ofInt (IntKind.i64.bits) (i64.wrap ((i64.wrap (BitVec.ofInt (IntKind.i64.bits) (i64.wrap x9)&&&BitVec.ofInt (IntKind.i64.bits) 127).toNat)*2^(min (i64.wrap (7*j)).toNat IntKind.i64.bits)))).toNat) (i64.wrap (j+1))else none else some (0,0,false)
def fI(j:List Int)(C:Int):Option (Int×Int×Bool):=
 eG j C fuel 0 0
def eD(j:List Int)(C:Int)(I:Int):Option ((List Int)×Int×Bool):=
 (fI j C).bind λx1=>if !x1.2.2 then some (([]:List Int),0,false)else if decide (x1.1>I)then some (([]:List Int),0,false)else if decide (x1.1>(i64.wrap ((List.length j:Int)-x1.2.1)))then some (([]:List Int),0,false)else(Q1 j x1.2.1 (i64.wrap (x1.2.1+x1.1))).bind λx6=>(app 1 ([]:List Int) (List.drop x1.2.1.toNat (List.take (i64.wrap (x1.2.1+x1.1)).toNat j))).bind λx8=>some (List.drop x1.2.1.toNat (List.take (i64.wrap (x1.2.1+x1.1)).toNat j),i64.wrap (x1.2.1+x1.1),true)
def xA(j:Int)(C:List Int):Option Int:=
 (pY C).bind λx1=>(app 8 ([101,j]) x1).bind λx3=>(Es ([101,j]++x1)).bind λx5=>some x5
def sG(J:List Int):Nat->Int->List (List Int)->Option ((List (List Int))×Int)
 |0,_,_=>none
 |ah+1,C,j=>if decide (C<(List.length J:Int))then(eD J C 4000).bind λI=>if !I.2.2 then some (j,C)else(fI J I.2.1).bind λU=>if !U.2.2 then some (j,C)else(xA (List.length j:Int) I.1).bind λai=>if U.1 !=ai then some (j,C)else(app 24 j ([I.1])).bind λaj=>sG J ah U.2.1 (j++[I.1])else some (j,C)
def Cv(j:List Int):Option ((List (List Int))×Int):=
 sG j fuel 0 ([]:List (List Int))
def kT(j:List Int)(x2:Int):Nat->Int->Int->Option (M.Key×Bool)
 |0,_,_=>none
 |J+1,C,I=>if decide (I<7)then(idx j I).bind λU=>kT j x2 J (i64.wrap (BitVec.ofInt (IntKind.i64.bits) (i64.wrap (C*2^(min (8:Int).toNat IntKind.i64.bits)))|||BitVec.ofInt (IntKind.i64.bits) (i64.wrap U)).toNat) (i64.wrap (I+1))else(Ea j 7).bind λah=>(toStr (List.drop (7:Int).toNat j)).bind λai=>(fL (⟨i64.wrap x2,i64.wrap (C-1000000000000),bF (List.drop (7:Int).toNat j)⟩:M.Key)).bind λaf=>if !af then some ((⟨0,0,(⟨#[]⟩:ByteArray)⟩:M.Key),false)else some ((⟨i64.wrap x2,i64.wrap (C-1000000000000),bF (List.drop (7:Int).toNat j)⟩:M.Key),true)
def tK(j:List Int):Option (M.Key×Bool):=
 if(List.length j:Int)==0 then some ((⟨0,0,(⟨#[]⟩:ByteArray)⟩:M.Key),false)else(idx j 0).bind λx2=>if(i64.wrap x2) !=2 then if decide ((List.length j:Int)<7)then some ((⟨0,0,(⟨#[]⟩:ByteArray)⟩:M.Key),false)else kT j x2 fuel 0 1 else(Ea j 1).bind λI=>(toStr (List.drop (1:Int).toNat j)).bind λJ=>(fL (⟨i64.wrap x2,0,bF (List.drop (1:Int).toNat j)⟩:M.Key)).bind λC=>if !C then some ((⟨0,0,(⟨#[]⟩:ByteArray)⟩:M.Key),false)else some ((⟨i64.wrap x2,0,bF (List.drop (1:Int).toNat j)⟩:M.Key),true)
def rD(U:List Int)(x1:(Int×Int×Bool)):Nat->Int->Int->List M.Field->Option (M.aC×Int×Bool)
 |0,_,_,_=>none
 |ah+1,v8,C,I=>if decide (C<x1.1)then(eD U v8 8).bind λj=>if !j.2.2 then some ((⟨([]:List M.Field)⟩:M.aC),0,false)else(fI U j.2.1).bind λJ=>if !J.2.2 then some ((⟨([]:List M.Field)⟩:M.aC),0,false)else(toStr j.1).bind λaj=>(app 24 I ([(⟨bF j.1,J.1⟩:M.Field)])).bind λak=>rD U x1 ah J.2.1 (i64.wrap (C+1)) (I++[(⟨bF j.1,J.1⟩:M.Field)])else(bS (⟨I⟩:M.aC)).bind λai=>some ((⟨I⟩:M.aC),v8,ai)
def Fy(j:List Int)(C:Int):Option (M.aC×Int×Bool):=
 (fI j C).bind λx1=>if !x1.2.2 then some ((⟨([]:List M.Field)⟩:M.aC),0,false)else if decide (x1.1>6)then some ((⟨([]:List M.Field)⟩:M.aC),0,false)else rD j x1 fuel x1.2.1 0 ([]:List M.Field)
def oN(j:List Int):Option (M.aC×Bool):=
 (Fy j 0).bind λx1=>if !x1.2.2 then some ((⟨([]:List M.Field)⟩:M.aC),false)else if x1.2.1 !=(List.length j:Int)then some ((⟨([]:List M.Field)⟩:M.aC),false)else some (x1.1,true)
def DC(j:List Int)(J:Int):Option (M.Op×Int×Bool):=
 (fI j J).bind λx1=>(eD j x1.2.1 100).bind λx3=>(eD j x3.2.1 100).bind λx5=>(eD j x5.2.1 200).bind λx7=>(eD j x7.2.1 100).bind λx9=>if !x1.2.2 then some ((⟨0,(⟨#[]⟩:ByteArray),(⟨0,0,(⟨#[]⟩:ByteArray)⟩:M.Key),(⟨([]:List M.Field)⟩:M.aC),(⟨#[]⟩:ByteArray)⟩:M.Op),0,false)else if !x3.2.2 then some ((⟨0,(⟨#[]⟩:ByteArray),(⟨0,0,(⟨#[]⟩:ByteArray)⟩:M.Key),(⟨([]:List M.Field)⟩:M.aC),(⟨#[]⟩:ByteArray)⟩:M.Op),0,false)else if !x5.2.2 then some ((⟨0,(⟨#[]⟩:ByteArray),(⟨0,0,(⟨#[]⟩:ByteArray)⟩:M.Key),(⟨([]:List M.Field)⟩:M.aC),(⟨#[]⟩:ByteArray)⟩:M.Op),0,false)else if !x7.2.2 then some ((⟨0,(⟨#[]⟩:ByteArray),(⟨0,0,(⟨#[]⟩:ByteArray)⟩:M.Key),(⟨([]:List M.Field)⟩:M.aC),(⟨#[]⟩:ByteArray)⟩:M.Op),0,false)else if !x9.2.2 then some ((⟨0,(⟨#[]⟩:ByteArray),(⟨0,0,(⟨#[]⟩:ByteArray)⟩:M.Key),(⟨([]:List M.Field)⟩:M.aC),(⟨#[]⟩:ByteArray)⟩:M.Op),0,false)else(toStr x3.1).bind λU=>(toStr x9.1).bind λah=>(tK x5.1).bind λC=>(oN x7.1).bind λI=>some ((⟨x1.1,bF x3.1,C.1,I.1,bF x9.1⟩:M.Op),x9.2.1,true)
def Ew(j:M.Op):Option Bool:=
 (bB j.aJz 1 6).bind λx1=>if x1 then(cE j.aD).bind λx4=>if x4 then if j.aJz==5 then(bS j.aC).bind λx8=>if x8 then if j.aJz==6 then(cE j.Field).bind λC=>if C then some true else if j.aJz !=6 then some (j.Field.toList==(⟨#[]⟩:ByteArray).toList)else some false else if j.aJz !=6 then some (j.Field.toList==(⟨#[]⟩:ByteArray).toList)else some false else some false else(fL j.Key).bind λI=>if I then(bS j.aC).bind λJ=>if J then if j.aJz==6 then(cE j.Field).bind λU=>if U then some true else if j.aJz !=6 then some (j.Field.toList==(⟨#[]⟩:ByteArray).toList)else some false else if j.aJz !=6 then some (j.Field.toList==(⟨#[]⟩:ByteArray).toList)else some false else some false else some false else some false else some false
def oG(C:List M.Op):Nat->Int->List Int->Option (List Int)
 |0,_,_=>none
 |U+1,I,J=>if decide (I<(List.length C:Int))then(idx C I).bind λj=>(Ew j).bind λah=>if !ah then some ([]:List Int)else(bX J j.aJz).bind λai=>(bW ai (bC j.aD)).bind λaj=>(kO j.Key).bind λak=>(bW aj ak).bind λal=>(fZ j.aC).bind λao=>(bW al ao).bind λaq=>(bW aq (bC j.Field)).bind λar=>oG C U (i64.wrap (I+1)) ar else if decide ((List.length C:Int)>6)then some ([]:List Int)else some J
def tM(j:List M.Op):Option (List Int):=
 (bX ([]:List Int) (List.length j:Int)).bind λx1=>oG j fuel 0 x1
def xQ(j:List Int)(C:List Int):Option Bool:=
 (toStr j).bind λx1=>(toStr C).bind λx3=>some ((bF j).toList==(bF C).toList)
def kZ(I:List Int)(x1:(Int×Int×Bool)):Nat->Int->Int->List M.Op->Option ((List M.Op)×Bool)
 |0,_,_,_=>none
 |U+1,v5,J,j=>if decide (J<x1.1)then(DC I v5).bind λC=>if !C.2.2 then some (([]:List M.Op),false)else(app 96 j ([C.1])).bind λaj=>kZ I x1 U C.2.1 (i64.wrap (J+1)) (j++[C.1])else(tM j).bind λah=>(xQ ah I).bind λai=>if !ai then some (([]:List M.Op),false)else some (j,true)
def tJ(j:List Int):Option ((List M.Op)×Bool):=
 (fI j 0).bind λx1=>if !x1.2.2 then some (([]:List M.Op),false)else if decide (x1.1>6)then some (([]:List M.Op),false)else kZ j x1 fuel x1.2.1 0 ([]:List M.Op)
def mT(I:M.aD)(j:M.Key):Nat->Int->Option Int
 |0,_=>none
 |J+1,C=>if decide (C<(List.length I.aJm:Int))then(idx I.aJm C).bind λx8=>if(x8.Key.aJz==j.aJz)&&((x8.Key.N==j.N)&&(x8.Key.aKA.toList==j.aKA.toList))then some C else mT I j J (i64.wrap (C+1))else some (-1)
def gY(j:M.aD)(C:M.Key):Option Int:=
 mT j C fuel 0
def oM(p0:M.aD)(I:M.Key)(p2:M.aC)(C:M.aD):Nat->Int->Option (M.aD×Bool)
 |0,_=>none
 |aj+1,j=>if decide (j<(List.length p0.aJm:Int))then(idx p0.aJm j).bind λak=>(bO ak.Key I).bind λal=>if decide (al<0)then oM p0 I p2 C aj (i64.wrap (j+1))else(GR C.aJm j).bind λaw=>(app 56 ([]:List M.aJt) (List.take j.toNat C.aJm)).bind λax=>(cD p2).bind λU=>(app 56 (List.take j.toNat C.aJm) ([(⟨I,U⟩:M.aJt)])).bind λay=>(app 56 ((List.take j.toNat C.aJm)++[(⟨I,U⟩:M.aJt)]) (List.drop j.toNat C.aJm)).bind λaz=>if I.aJz==1 then(bB I.N (i64.wrap (p0.aKG+1)) 1000000).bind λah=>if ah then some ((⟨C.Name,((List.take j.toNat C.aJm)++[(⟨I,U⟩:M.aJt)])++(List.drop j.toNat C.aJm),I.N⟩:M.aD),true)else some ((⟨C.Name,((List.take j.toNat C.aJm)++[(⟨I,U⟩:M.aJt)])++(List.drop j.toNat C.aJm),C.aKG⟩:M.aD),true)else some ((⟨C.Name,((List.take j.toNat C.aJm)++[(⟨I,U⟩:M.aJt)])++(List.drop j.toNat C.aJm),C.aKG⟩:M.aD),true)else(GR C.aJm j).bind λao=>(app 56 ([]:List M.aJt) (List.take j.toNat C.aJm)).bind λaq=>(cD p2).bind λJ=>(app 56 (List.take j.toNat C.aJm) ([(⟨I,J⟩:M.aJt)])).bind λar=>(app 56 ((List.take j.toNat C.aJm)++[(⟨I,J⟩:M.aJt)]) (List.drop j.toNat C.aJm)).bind λav=>if I.aJz==1 then(bB I.N (i64.wrap (p0.aKG+1)) 1000000).bind λai=>if ai then some ((⟨C.Name,((List.take j.toNat C.aJm)++[(⟨I,J⟩:M.aJt)])++(List.drop j.toNat C.aJm),I.N⟩:M.aD),true)else some ((⟨C.Name,((List.take j.toNat C.aJm)++[(⟨I,J⟩:M.aJt)])++(List.drop j.toNat C.aJm),C.aKG⟩:M.aD),true)else some ((⟨C.Name,((List.take j.toNat C.aJm)++[(⟨I,J⟩:M.aJt)])++(List.drop j.toNat C.aJm),C.aKG⟩:M.aD),true)
def iE(j:M.aD)(J:M.Key)(U:M.aC):Option (M.aD×Bool):=
 (oV j).bind λx1=>if !x1 then(dE j).bind λx4=>some (x4,false)else(fL J).bind λx6=>if !x6 then(dE j).bind λx9=>some (x9,false)else(bS U).bind λaf=>if !af then(dE j).bind λah=>some (ah,false)else(dE j).bind λC=>(gY j J).bind λI=>if decide (I>=0)then(cD U).bind λai=>(idx C.aJm I).bind λaj=>some ((⟨C.Name,List.set C.aJm I.toNat (⟨aj.Key,ai⟩:M.aJt),C.aKG⟩:M.aD),true)else if decide ((List.length j.aJm:Int)>=16)then some (C,false)else oM j J U C fuel 0
def CB(j:M.aD)(C:M.Key)(I:M.aC):Option (M.aD×Bool):=
 (gY j C).bind λx1=>if decide (x1>=0)then(dE j).bind λx4=>some (x4,false)else(iE j C I).bind λx6=>some (x6.1,x6.2)
def Ag(C:M.Key)(j:M.dF):Option Bool:=
 (fL C).bind λx1=>if !x1 then some false else if j.aKg then(fL j.Low).bind λx5=>if !x5 then some false else if j.aKV then(fL j.aKZ).bind λx9=>if !x9 then some false else if !j.aKg then if !j.aKV then some true else(bO C j.aKZ).bind λI=>some (decide (I<=0))else(bO j.Low C).bind λJ=>if decide (J<=0)then if !j.aKV then some true else(bO C j.aKZ).bind λU=>some (decide (U<=0))else some false else if !j.aKg then if !j.aKV then some true else(bO C j.aKZ).bind λah=>some (decide (ah<=0))else(bO j.Low C).bind λai=>if decide (ai<=0)then if !j.aKV then some true else(bO C j.aKZ).bind λaj=>some (decide (aj<=0))else some false else if j.aKV then(fL j.aKZ).bind λak=>if !ak then some false else if !j.aKg then if !j.aKV then some true else(bO C j.aKZ).bind λal=>some (decide (al<=0))else(bO j.Low C).bind λao=>if decide (ao<=0)then if !j.aKV then some true else(bO C j.aKZ).bind λaq=>some (decide (aq<=0))else some false else if !j.aKg then if !j.aKV then some true else(bO C j.aKZ).bind λar=>some (decide (ar<=0))else(bO j.Low C).bind λav=>if decide (av<=0)then if !j.aKV then some true else(bO C j.aKZ).bind λaw=>some (decide (aw<=0))else some false
def hM(j:M.aD)(J:M.dF):Nat->Int->List M.aJt->Option (M.aD×Int)
 |0,_,_=>none
 |U+1,I,C=>if decide (I<(List.length j.aJm:Int))then(idx j.aJm I).bind λaf=>(Ag af.Key J).bind λai=>if !ai then(yZ af).bind λah=>(app 56 C ([ah])).bind λaj=>hM j J U (i64.wrap (I+1)) (C++[ah])else hM j J U (i64.wrap (I+1)) C else some ((⟨j.Name,C,j.aKG⟩:M.aD),i64.wrap ((List.length j.aJm:Int)-(List.length C:Int)))
def pZ(j:M.aD)(C:M.dF):Option (M.aD×Int):=
 (oV j).bind λx1=>if !x1 then(dE j).bind λx4=>some (x4,0)else hM j C fuel 0 ([]:List M.aJt)
def mG(j:M.aC)(I:ByteArray)(J:Int)(x1:M.aC):Nat->Int->Option (M.aC×Bool)
 |0,_=>none
 |af+1,C=>if decide (C<(List.length j.aJq:Int))then(idx j.aJq C).bind λU=>if Op.bytesLess U.Name.toList I.toList then mG j I J x1 af (i64.wrap (C+1))else if U.Name.toList==I.toList then(idx x1.aJq C).bind λae=>(bS j).bind λah=>if !ah then(cD j).bind λai=>some (ai,false)else(bS (⟨List.set x1.aJq C.toNat (⟨ae.Name,J⟩:M.Field)⟩:M.aC)).bind λaj=>if !aj then(cD j).bind λak=>some (ak,false)else some ((⟨List.set x1.aJq C.toNat (⟨ae.Name,J⟩:M.Field)⟩:M.aC),true)else(GR j.aJq C).bind λaz=>(app 24 ([]:List M.Field) (List.take C.toNat j.aJq)).bind λba=>(app 24 (List.take C.toNat j.aJq) ([(⟨I,J⟩:M.Field)])).bind λbd=>(Ea j.aJq C).bind λbf=>(app 24 ((List.take C.toNat j.aJq)++[(⟨I,J⟩:M.Field)]) (List.drop C.toNat j.aJq)).bind λbg=>(bS j).bind λal=>if !al then(cD j).bind λao=>some (ao,false)else(bS (⟨((List.take C.toNat j.aJq)++[(⟨I,J⟩:M.Field)])++(List.drop C.toNat j.aJq)⟩:M.aC)).bind λaq=>if !aq then(cD j).bind λar=>some (ar,false)else some ((⟨((List.take C.toNat j.aJq)++[(⟨I,J⟩:M.Field)])++(List.drop C.toNat j.aJq)⟩:M.aC),true)else(GR j.aJq C).bind λbh=>(app 24 ([]:List M.Field) (List.take C.toNat j.aJq)).bind λbj=>(app 24 (List.take C.toNat j.aJq) ([(⟨I,J⟩:M.Field)])).bind λbl=>(Ea j.aJq C).bind λbm=>(app 24 ((List.take C.toNat j.aJq)++[(⟨I,J⟩:M.Field)]) (List.drop C.toNat j.aJq)).bind λbn=>(bS j).bind λav=>if !av then(cD j).bind λaw=>some (aw,false)else(bS (⟨((List.take C.toNat j.aJq)++[(⟨I,J⟩:M.Field)])++(List.drop C.toNat j.aJq)⟩:M.aC)).bind λax=>if !ax then(cD j).bind λay=>some (ay,false)else some ((⟨((List.take C.toNat j.aJq)++[(⟨I,J⟩:M.Field)])++(List.drop C.toNat j.aJq)⟩:M.aC),true)
def mS(j:M.aC)(C:ByteArray)(I:Int):Option (M.aC×Bool):=
 (cD j).bind λx1=>mG j C I x1 fuel 0
def EV(j:M.aD)(p1:M.Key)(C:ByteArray):Option (M.aD×Int×Bool):=
 (gY j p1).bind λx1=>if decide (x1>=0)then(idx j.aJm x1).bind λx4=>(hP x4.aC C).bind λx9=>(mS x4.aC C (i64.wrap (x9.1+1))).bind λah=>(iE j p1 ah.1).bind λI=>if ah.2 then some (I.1,i64.wrap (x9.1+1),I.2)else some (I.1,i64.wrap (x9.1+1),false)else(hP (⟨([]:List M.Field)⟩:M.aC) C).bind λJ=>(mS (⟨([]:List M.Field)⟩:M.aC) C (i64.wrap (J.1+1))).bind λai=>(iE j p1 ai.1).bind λU=>if ai.2 then some (U.1,i64.wrap (J.1+1),U.2)else some (U.1,i64.wrap (J.1+1),false)
def CH(C:M.aD)(j:M.Op):Option (M.aD×Int×Bool):=
 if j.aJz==1 then(iE C j.Key j.aC).bind λx2=>some (x2.1,1,x2.2)else if j.aJz==2 then(CB C j.Key j.aC).bind λx5=>some (x5.1,1,x5.2)else if j.aJz==3 then(pZ C (⟨true,true,j.Key,j.Key⟩:M.dF)).bind λx8=>some (x8.1,x8.2,true)else if j.aJz==4 then(gY C j.Key).bind λJ=>if decide (J<0)then(dE C).bind λah=>some (ah,-1,true)else(dE C).bind λai=>(idx C.aJm J).bind λaj=>some (ai,(List.length aj.aC.aJq:Int),true)else if j.aJz==5 then(pZ C (⟨false,false,(⟨0,0,(⟨#[]⟩:ByteArray)⟩:M.Key),(⟨0,0,(⟨#[]⟩:ByteArray)⟩:M.Key)⟩:M.dF)).bind λU=>some (U.1,U.2,true)else(EV C j.Key j.Field).bind λI=>some (I.1,I.2.1,I.2.2)
def Dm(j:M.aJj)(I:M.Op):Option (M.aJj×Int×Bool):=
 (mM j).bind λx1=>(nG j I.aD).bind λx3=>(lP j).bind λx5=>if !x5 then some (x1,0,false)else(Ew I).bind λx8=>if !x8 then some (x1,0,false)else if decide (x3<0)then some (x1,0,false)else(idx j.aJw x3).bind λJ=>(CH J I).bind λC=>(idx x1.aJw x3).bind λaj=>if !C.2.2 then(mM j).bind λU=>some (U,0,false)else(lP (⟨x1.Name,x1.aJl,List.set x1.aJw x3.toNat C.1,x1.aJ5⟩:M.aJj)).bind λah=>if !ah then(mM j).bind λai=>some (ai,0,false)else some ((⟨x1.Name,x1.aJl,List.set x1.aJw x3.toNat C.1,x1.aJ5⟩:M.aJj),C.2.1,true)
def tR(p0:M.aJj)(I:List M.Op):Nat->Int->ByteArray->Int->List Int->List M.aD->List M.aG->Option (M.aJj×(List Int)×Bool)
 |0,_,_,_,_,_,_=>none
 |ak+1,J,ah,ai,C,U,ae=>if decide (J<(List.length I:Int))then(idx I J).bind λal=>(Dm (⟨ah,ai,U,ae⟩:M.aJj) al).bind λj=>if !j.2.2 then(mM p0).bind λao=>some (ao,([]:List Int),false)else(app 8 C ([j.2.1])).bind λaq=>tR p0 I ak (i64.wrap (J+1)) j.1.Name j.1.aJl (C++[j.2.1]) j.1.aJw j.1.aJ5 else some ((⟨ah,ai,U,ae⟩:M.aJj),C,true)
def zK(j:M.aJj)(C:List M.Op):Option (M.aJj×(List Int)×Bool):=
 (mM j).bind λx1=>(lP j).bind λI=>if !I then some (x1,([]:List Int),false)else if decide ((List.length C:Int)>6)then some (x1,([]:List Int),false)else tR j C fuel 0 x1.Name x1.aJl ([]:List Int) x1.aJw x1.aJ5
def pT(x3:((List (List Int))×Int)):Nat->Int->ByteArray->Int->List M.aD->List M.aG->Option (M.aJj×Int)
 |0,_,_,_,_,_=>none
 |ak+1,C,U,ah,I,J=>if decide (C<(List.length x3.1:Int))then(idx x3.1 C).bind λal=>(tJ al).bind λaj=>if !aj.2 then some ((⟨U,ah,I,J⟩:M.aJj),C)else(zK (⟨U,ah,I,J⟩:M.aJj) aj.1).bind λj=>pT x3 ak (i64.wrap (C+1)) j.1.Name j.1.aJl j.1.aJw j.1.aJ5 else some ((⟨U,ah,I,J⟩:M.aJj),(List.length x3.1:Int))
def xL(j:M.bL):Option (M.aJj×Int):=
 (mM j.aJ8).bind λx1=>(Cv j.Log).bind λx3=>pT x3 fuel 0 x1.Name x1.aJl x1.aJw x1.aJ5
def vF(j:Int):Option M.Key:=
 some (⟨1,j,(⟨#[]⟩:ByteArray)⟩:M.Key)
def uK(U:M.aJi)(p1:Int):Option (M.aC×Bool):=
 (xL U.bL).bind λx1=>(nG x1.1 (⟨#[110,111,116,101,115]⟩:ByteArray)).bind λx3=>if decide (x3<0)then some ((⟨([]:List M.Field)⟩:M.aC),false)else(idx x1.1.aJw x3).bind λx6=>(vF p1).bind λC=>(gY x6 C).bind λj=>if decide (j<0)then some ((⟨([]:List M.Field)⟩:M.aC),true)else(idx x6.aJm j).bind λI=>(cD I.aC).bind λJ=>some (J,true)
def xG(C:M.World)(I:M.bD)(U:Int)(p3:ByteArray):Option Int:=
 (fF C.aA I.aJr I.Top).bind λx1=>if decide (x1<0)then some (-1)else(idx C.aA.aJp x1).bind λx4=>(uK x4 U).bind λx9=>(hP x9.1 p3).bind λj=>if !j.2 then some (-1)else(FL 1000 j.1).bind λJ=>some J
def zX(j:List Int)(I:Int)(J:List Int):Option ((List Int)×Bool):=
 (app 1 ([]:List Int) j).bind λx1=>(bW j J).bind λx8=>(xA I J).bind λU=>(bX x8 U).bind λC=>if decide (I<0)then some (j,false)else if decide ((List.length C:Int)>4000)then some (j,false)else some (C,true)
def wS(j:M.bL)(I:List M.Op):Option (M.bL×Bool):=
 (wA j).bind λx1=>(xL j).bind λx3=>(zK x3.1 I).bind λx5=>(tM I).bind λx7=>if !x5.2.2 then some (x1,false)else if(List.length x7:Int)==0 then some (x1,false)else if x3.2 !=j.aKR then some (x1,false)else(zX j.Log j.aKR x7).bind λC=>if !C.2 then some (x1,false)else some ((⟨x1.aJ8,C.1,i64.wrap (j.aKR+1)⟩:M.bL),true)
def nK(j:M.aJi)(C:M.aJi):Option (M.aJi×Bool):=
 (pE j).bind λx1=>if !x1 then(gD j).bind λx4=>some (x4,false)else(pE C).bind λx6=>if !x6 then(gD j).bind λx9=>some (x9,false)else some (C,true)
def vV(j:M.aJi)(C:M.bL):Option (M.aJi×Bool):=
 (gD j).bind λx1=>(wA C).bind λx3=>(nK j (⟨x1.aJr,x1.Top,x1.aJk,x1.aJs,x3,x1.aE,x1.aKC,x1.aKB⟩:M.aJi)).bind λx5=>if x5.2 then some ((⟨x1.aJr,x1.Top,x1.aJk,x1.aJs,x3,x1.aE,x1.aKC,x1.aKB⟩:M.aJi),true)else some (x5.1,false)
def lC(C:M.aA)(I:M.aJi)(x1:M.aA):Nat->Int->Option (M.aA×Bool)
 |0,_=>none
 |al+1,j=>if decide (j<(List.length C.aJp:Int))then(idx C.aJp j).bind λao=>(AA ao I.aJr I.Top).bind λaq=>if aq then lC C I x1 al (i64.wrap (j+1))else(GR x1.aJp j).bind λbd=>(app 328 ([]:List M.aJi) (List.take j.toNat x1.aJp)).bind λbf=>(gD I).bind λU=>(app 328 (List.take j.toNat x1.aJp) ([U])).bind λbg=>(app 328 ((List.take j.toNat x1.aJp)++[U]) (List.drop j.toNat x1.aJp)).bind λbh=>(cQ C).bind λar=>if !ar then(fH C).bind λav=>some (av,false)else(cQ (⟨((List.take j.toNat x1.aJp)++[U])++(List.drop j.toNat x1.aJp)⟩:M.aA)).bind λaw=>if !aw then(fH C).bind λaf=>some (af,false)else some ((⟨((List.take j.toNat x1.aJp)++[U])++(List.drop j.toNat x1.aJp)⟩:M.aA),true)else(GR x1.aJp j).bind λax=>(app 328 ([]:List M.aJi) (List.take j.toNat x1.aJp)).bind λay=>(gD I).bind λJ=>(app 328 (List.take j.toNat x1.aJp) ([J])).bind λaz=>(app 328 ((List.take j.toNat x1.aJp)++[J]) (List.drop j.toNat x1.aJp)).bind λba=>(cQ C).bind λah=>if !ah then(fH C).bind λai=>some (ai,false)else(cQ (⟨((List.take j.toNat x1.aJp)++[J])++(List.drop j.toNat x1.aJp)⟩:M.aA)).bind λaj=>if !aj then(fH C).bind λak=>some (ak,false)else some ((⟨((List.take j.toNat x1.aJp)++[J])++(List.drop j.toNat x1.aJp)⟩:M.aA),true)
def zQ(j:M.aA)(C:M.aJi):Option (M.aA×Bool):=
 (fH j).bind λx1=>(fF j C.aJr C.Top).bind λx3=>if decide (x3>=0)then(gD C).bind λx6=>(idx x1.aJp x3).bind λx8=>(cQ j).bind λI=>if !I then(fH j).bind λJ=>some (J,false)else(cQ (⟨List.set x1.aJp x3.toNat x6⟩:M.aA)).bind λU=>if !U then(fH j).bind λah=>some (ah,false)else some ((⟨List.set x1.aJp x3.toNat x6⟩:M.aA),true)else lC j C x1 fuel 0
def oU(j:M.World)(C:M.aJi)(I:Bool):Option (M.World×Bool):=
 (oY j).bind λx1=>(zQ j.aA C).bind λx3=>if !I then some (x1,false)else if !x3.2 then some (x1,false)else some ((⟨x1.Now,x1.aKF,x1.aJy,x3.1,x1.aJ2,x1.aJ4,x1.aJ3,x1.aJu,x1.aKE,x1.aJ6⟩:M.World),true)
def tL(j:M.World)(p1:M.bD)(p2:Int)(p3:ByteArray)(p4:Int):Option (M.World×Bool):=
 (fF j.aA p1.aJr p1.Top).bind λx1=>if decide (x1<0)then(oY j).bind λx4=>some (x4,false)else(idx j.aA.aJp x1).bind λx6=>(uK x6 p2).bind λI=>(mS I.1 p3 p4).bind λJ=>(vF p2).bind λao=>(wS x6.bL ([(⟨1,(⟨#[110,111,116,101,115]⟩:ByteArray),ao,J.1,(⟨#[]⟩:ByteArray)⟩:M.Op)])).bind λU=>(vV x6 U.1).bind λC=>if I.2 then if J.2 then if U.2 then(oU j C.1 C.2).bind λai=>some (ai.1,ai.2)else(oU j C.1 false).bind λaj=>some (aj.1,aj.2)else(oU j C.1 false).bind λak=>some (ak.1,ak.2)else(oU j C.1 false).bind λal=>some (al.1,al.2)
def sV(j:M.aM)(C:M.Key)(I:ByteArray)(J:Int):Option (M.aM×Bool):=
 (wF j).bind λx1=>(sX j).bind λx3=>if !x3 then some (x1,false)else(app 72 x1.aJ9 ([(⟨j.aJy,j.aKU,C,I,J⟩:M.aY)])).bind λx6=>(sX (⟨x1.aJy,i64.wrap (j.aKU+1),x1.aJ9++[(⟨j.aJy,j.aKU,C,I,J⟩:M.aY)]⟩:M.aM)).bind λU=>if !U then(wF j).bind λae=>some (ae,false)else some ((⟨x1.aJy,i64.wrap (j.aKU+1),x1.aJ9++[(⟨j.aJy,j.aKU,C,I,J⟩:M.aY)]⟩:M.aM),true)
def nR(C:M.aD)(j:M.aY):Option (M.aD×Bool):=
 (gY C j.Key).bind λx1=>if decide (x1>=0)then(idx C.aJm x1).bind λx4=>(mS x4.aC j.Field j.N).bind λx9=>if !x9.2 then(dE C).bind λah=>some (ah,false)else(iE C j.Key x9.1).bind λI=>some (I.1,I.2)else(mS (⟨([]:List M.Field)⟩:M.aC) j.Field j.N).bind λJ=>if !J.2 then(dE C).bind λai=>some (ai,false)else(iE C j.Key J.1).bind λU=>some (U.1,U.2)
def kB(C:List M.aY):Nat->Int->ByteArray->Int->List M.aJt->Option M.aD
 |0,_,_,_,_=>none
 |ai+1,I,U,af,J=>if decide (I<(List.length C:Int))then(idx C I).bind λaj=>(nR (⟨U,J,af⟩:M.aD) aj).bind λj=>if j.2 then kB C ai (i64.wrap (I+1)) j.1.Name j.1.aKG j.1.aJm else kB C ai (i64.wrap (I+1)) U af J else some (⟨U,J,af⟩:M.aD)
def Bu(j:M.aD)(C:List M.aY):Option M.aD:=
 (dE j).bind λx1=>kB C fuel 0 x1.Name x1.aKG x1.aJm
def Cg(j:M.aE):Option M.aD:=
 (Bu j.aJ8 j.aJ7.aM.aJ9).bind λx1=>some x1
def xW(j:M.aE)(C:M.Key)(I:ByteArray)(J:Int):Option (M.aE×Bool):=
 (wG j).bind λx1=>(sV j.aJ7.aM C I J).bind λx3=>(Cg j).bind λx5=>(nR x5 (⟨0,0,C,I,J⟩:M.aY)).bind λx7=>(tT j).bind λx9=>if !x9 then some (x1,false)else if !x3.2 then some (x1,false)else if !x7.2 then some (x1,false)else some ((⟨x1.aJ8,x1.aKe,(⟨x3.1,x1.aJ7.aKX,x1.aJ7.aKL⟩:M.aJ7)⟩:M.aE),true)
def pF(j:M.aJi)(C:M.aE):Option (M.aJi×Bool):=
 (gD j).bind λx1=>(wG C).bind λx3=>(nK j (⟨x1.aJr,x1.Top,x1.aJk,x1.aJs,x1.bL,x3,x1.aKC,x1.aKB⟩:M.aJi)).bind λx5=>if x5.2 then some ((⟨x1.aJr,x1.Top,x1.aJk,x1.aJs,x1.bL,x3,x1.aKC,x1.aKB⟩:M.aJi),true)else some (x5.1,false)
def wR(j:M.World)(p1:M.bD)(p2:Int)(p3:ByteArray)(p4:Int):Option (M.World×Bool):=
 (fF j.aA p1.aJr p1.Top).bind λx1=>if decide (x1<0)then(oY j).bind λx4=>some (x4,false)else(idx j.aA.aJp x1).bind λx6=>(vF p2).bind λai=>(xW x6.aE ai p3 p4).bind λI=>(pF x6 I.1).bind λC=>if I.2 then(oU j C.1 C.2).bind λJ=>some (J.1,J.2)else(oU j C.1 false).bind λU=>some (U.1,U.2)
def Bh(U:M.World)(p1:Int):Option (M.World×Int):=
 (oY U).bind λx1=>(Af U p1).bind λx3=>(AG U).bind λx5=>if !x5 then some (x1,-1)else if decide (x3<0)then some (x1,-1)else(idx U.aJ2 x3).bind λx9=>(yO x9.aJn).bind λC=>(kK x9).bind λj=>if C.2.aJz==1 then(tW U (⟨j.Id,j.aJr,j.Top,j.aJl,j.aJ,C.1⟩:M.bD) C.2.aKA).bind λak=>(Bl (⟨j.Id,j.aJr,j.Top,j.aJl,j.aJ,C.1⟩:M.bD) C.2.aKA ak).bind λai=>(mU ai.1.aJn C.2.R ak.aKS).bind λal=>(idx x1.aJ2 x3).bind λay=>some ((⟨x1.Now,x1.aKF,x1.aJy,x1.aA,List.set x1.aJ2 x3.toNat (⟨ai.1.Id,ai.1.aJr,ai.1.Top,ai.1.aJl,ai.1.aJ,al.1⟩:M.bD),x1.aJ4,x1.aJ3,x1.aJu,x1.aKE,x1.aJ6⟩:M.World),C.2.aJz)else if C.2.aJz==2 then(xG U (⟨j.Id,j.aJr,j.Top,j.aJl,j.aJ,C.1⟩:M.bD) C.2.N C.2.aKA).bind λao=>(mU C.1 C.2.R ao).bind λaq=>(idx x1.aJ2 x3).bind λaz=>some ((⟨x1.Now,x1.aKF,x1.aJy,x1.aA,List.set x1.aJ2 x3.toNat (⟨j.Id,j.aJr,j.Top,j.aJl,j.aJ,aq.1⟩:M.bD),x1.aJ4,x1.aJ3,x1.aJu,x1.aKE,x1.aJ6⟩:M.World),C.2.aJz)else if C.2.aJz==3 then(uO 0 C.2.Value).bind λar=>(tL U (⟨j.Id,j.aJr,j.Top,j.aJl,j.aJ,C.1⟩:M.bD) C.2.N C.2.aKA ar).bind λJ=>(idx J.1.aJ2 x3).bind λav=>some ((⟨J.1.Now,J.1.aKF,J.1.aJy,J.1.aA,List.set J.1.aJ2 x3.toNat (⟨j.Id,j.aJr,j.Top,j.aJl,j.aJ,C.1⟩:M.bD),J.1.aJ4,J.1.aJ3,J.1.aJu,J.1.aKE,J.1.aJ6⟩:M.World),C.2.aJz)else if C.2.aJz==4 then(uO 0 C.2.Value).bind λaj=>(wR U (⟨j.Id,j.aJr,j.Top,j.aJl,j.aJ,C.1⟩:M.bD) C.2.N C.2.aKA aj).bind λI=>(idx I.1.aJ2 x3).bind λaw=>some ((⟨I.1.Now,I.1.aKF,I.1.aJy,I.1.aA,List.set I.1.aJ2 x3.toNat (⟨j.Id,j.aJr,j.Top,j.aJl,j.aJ,C.1⟩:M.bD),I.1.aJ4,I.1.aJ3,I.1.aJu,I.1.aKE,I.1.aJ6⟩:M.World),C.2.aJz)else(idx x1.aJ2 x3).bind λax=>some ((⟨x1.Now,x1.aKF,x1.aJy,x1.aA,List.set x1.aJ2 x3.toNat (⟨j.Id,j.aJr,j.Top,j.aJl,j.aJ,C.1⟩:M.bD),x1.aJ4,x1.aJ3,x1.aJu,x1.aKE,x1.aJ6⟩:M.World),C.2.aJz)
def oF(p1:Int):Nat->Int->Int->Bool->Int->Int->List M.aJi->List M.bD->List M.eO->List M.iU->List M.aJr->List M.aJv->Option M.World
 |0,_,_,_,_,_,_,_,_,_,_,_=>none
 |av+1,v6,al,ao,aq,ar,C,I,J,U,aj,ak=>if decide (v6<60)then(Bh (⟨al,ao,aq,(⟨C⟩:M.aA),I,ar,(⟨J⟩:M.aP),(⟨U⟩:M.aJu),aj,ak⟩:M.World) p1).bind λj=>if decide (j.2<=0)then some j.1 else oF p1 av (i64.wrap (v6+1)) j.1.Now j.1.aKF j.1.aJy j.1.aJ4 j.1.aA.aJp j.1.aJ2 j.1.aJ3.aJ3 j.1.aJu.aKM j.1.aKE j.1.aJ6 else some (⟨al,ao,aq,(⟨C⟩:M.aA),I,ar,(⟨J⟩:M.aP),(⟨U⟩:M.aJu),aj,ak⟩:M.World)
def Cw(j:M.World)(C:Int):Option M.World:=
 (oY j).bind λx1=>oF C fuel 0 x1.Now x1.aKF x1.aJy x1.aJ4 x1.aA.aJp x1.aJ2 x1.aJ3.aJ3 x1.aJu.aKM x1.aKE x1.aJ6
def dL(j:List Int):Option (List Int):=
 (app 1 ([]:List Int) j).bind λx1=>some j
def lA(j:M.aJo):Option M.aJo:=
 (dL j.aKa).bind λx1=>some (⟨j.aKc,j.aKS,j.aJl,x1,j.aKh⟩:M.aJo)
def gH(J:M.aJ0)(U:Int->List M.aJx->Option M.aO):Nat->Int->List M.aJx->Option M.aO
 |0,_,_=>none
 |ak+1,C,I=>if decide (C<(List.length J.aJ1:Int))then(idx J.aJ1 C).bind λj=>(lA j.aJo).bind λaj=>(app 88 I ([(⟨j.aJr,j.aKP,aj⟩:M.aJx)])).bind λal=>gH J U ak (i64.wrap (C+1)) (I++[(⟨j.aJr,j.aKP,aj⟩:M.aJx)])else U C I
def eR(J:M.aO):Nat->Int->List M.aJ0->Option M.aO
 |0,_,_=>none
 |aj+1,C,j=>if decide (C<(List.length J.aJs:Int))then(idx J.aJs C).bind λI=>gH I (λ(ai:Int) (U:List M.aJx)=>(app 32 j ([(⟨I.aJl,U⟩:M.aJ0)])).bind λak=>eR J aj (i64.wrap (C+1)) (j++[(⟨I.aJl,U⟩:M.aJ0)])) fuel 0 ([]:List M.aJx)else some (⟨j⟩:M.aO)
def sU(j:M.aO):Option M.aO:=
 eR j fuel 0 ([]:List M.aJ0)
def bQ(j:M.aC):Option M.aC:=
 (app 24 ([]:List M.Field) j.aJq).bind λx1=>some j
def yF(j:M.aJt):Option M.aJt:=
 (bQ j.aC).bind λx1=>some (⟨j.Key,x1⟩:M.aJt)
def kV(j:M.aD):Nat->Int->List M.aJt->Option M.aD
 |0,_,_=>none
 |U+1,I,C=>if decide (I<(List.length j.aJm:Int))then(idx j.aJm I).bind λai=>(yF ai).bind λJ=>(app 56 C ([J])).bind λaj=>kV j U (i64.wrap (I+1)) (C++[J])else some (⟨j.Name,C,j.aKG⟩:M.aD)
def aZ(j:M.aD):Option M.aD:=
 kV j fuel 0 ([]:List M.aJt)
def gJ(j:M.aJj):Nat->Int->List M.aD->Option M.aJj
 |0,_,_=>none
 |U+1,I,C=>if decide (I<(List.length j.aJw:Int))then(idx j.aJw I).bind λai=>(aZ ai).bind λJ=>(app 48 C ([J])).bind λaj=>gJ j U (i64.wrap (I+1)) (C++[J])else some (⟨j.Name,j.aJl,C,j.aJ5⟩:M.aJj)
def dO(j:M.aJj):Option M.aJj:=
 (app 32 ([]:List M.aG) j.aJ5).bind λx1=>gJ j fuel 0 ([]:List M.aD)
def xH(j:M.bL):Option M.bL:=
 (dO j.aJ8).bind λx1=>(dL j.Log).bind λx3=>some (⟨x1,x3,j.aKR⟩:M.bL)
def mB(j:M.aM):Option M.aM:=
 (app 72 ([]:List M.aY) j.aJ9).bind λx1=>some j
def Bz(j:M.aJ7):Option M.aJ7:=
 (mB j.aM).bind λx1=>some (⟨x1,j.aKX,j.aKL⟩:M.aJ7)
def pU(j:M.aE):Option M.aE:=
 (aZ j.aJ8).bind λx1=>(Bz j.aJ7).bind λx3=>some (⟨x1,j.aKe,x3⟩:M.aE)
def eC(j:M.aJi):Option M.aJi:=
 (sU j.aJs).bind λx1=>(xH j.bL).bind λx3=>(pU j.aE).bind λx5=>some (⟨j.aJr,j.Top,j.aJk,x1,x3,x5,j.aKC,j.aKB⟩:M.aJi)
def gV(I:M.aA):Nat->Int->List M.aJi->Option M.aA
 |0,_,_=>none
 |U+1,j,C=>if decide (j<(List.length I.aJp:Int))then(idx I.aJp j).bind λah=>(eC ah).bind λJ=>(app 328 C ([J])).bind λai=>gV I U (i64.wrap (j+1)) (C++[J])else some (⟨C⟩:M.aA)
def cN(j:M.aA):Option M.aA:=
 gV j fuel 0 ([]:List M.aJi)
def mQ(j:M.aJn):Option M.aJn:=
 (app 40 ([]:List M.Instr) j.aKD).bind λx1=>(app 8 ([]:List Int) j.aKQ).bind λC=>some j
def iC(j:M.bD):Option M.bD:=
 (app 24 ([]:List M.aJ) j.aJ).bind λx1=>(mQ j.aJn).bind λx9=>some (⟨j.Id,j.aJr,j.Top,j.aJl,j.aJ,x9⟩:M.bD)
def lE(j:List M.bD):Nat->Int->List M.bD->Option (List M.bD)
 |0,_,_=>none
 |U+1,I,C=>if decide (I<(List.length j:Int))then(idx j I).bind λaf=>(iC af).bind λJ=>(app 144 C ([J])).bind λah=>lE j U (i64.wrap (I+1)) (C++[J])else some C
def zP(j:List M.bD):Option (List M.bD):=
 lE j fuel 0 ([]:List M.bD)
def zS(j:M.aP):Option M.aP:=
 (app 32 ([]:List M.eO) j.aJ3).bind λx1=>some j
def vT(j:M.aJu):Option M.aJu:=
 (app 24 ([]:List M.iU) j.aKM).bind λx1=>some j
def Bt(j:M.aJr):Option M.aJr:=
 (app 16 ([]:List ByteArray) j.aKJ).bind λx1=>some j
def xS(j:M.aJv):Option M.aJv:=
 (aZ j.aD).bind λx1=>(app 16 ([]:List M.aK) j.aK).bind λx3=>(app 72 ([]:List M.aY) j.aKH).bind λx5=>some (⟨x1,j.aK,j.aKH⟩:M.aJv)
def fU(j:M.World)(x1:M.aA)(x3:(List M.bD))(x5:M.aP)(x7:M.aJu)(J:List M.aJr):Nat->Int->List M.aJv->Option M.World
 |0,_,_=>none
 |ai+1,I,C=>if decide (I<(List.length j.aJ6:Int))then(idx j.aJ6 I).bind λaj=>(xS aj).bind λU=>(app 96 C ([U])).bind λak=>fU j x1 x3 x5 x7 J ai (i64.wrap (I+1)) (C++[U])else some (⟨j.Now,j.aKF,j.aJy,x1,x3,j.aJ4,x5,x7,J,C⟩:M.World)
def hZ(j:M.World)(x1:M.aA)(x3:(List M.bD))(x5:M.aP)(x7:M.aJu):Nat->Int->List M.aJr->Option M.World
 |0,_,_=>none
 |U+1,I,C=>if decide (I<(List.length j.aKE:Int))then(idx j.aKE I).bind λai=>(Bt ai).bind λJ=>(app 56 C ([J])).bind λaj=>hZ j x1 x3 x5 x7 U (i64.wrap (I+1)) (C++[J])else fU j x1 x3 x5 x7 C fuel 0 ([]:List M.aJv)
def nJ(j:M.World):Option M.World:=
 (cN j.aA).bind λx1=>(zP j.aJ2).bind λx3=>(zS j.aJ3).bind λx5=>(vT j.aJu).bind λx7=>hZ j x1 x3 x5 x7 fuel 0 ([]:List M.aJr)
def vU(C:M.bD)(j:Int):Option Bool:=
 some (C.Id==j)
def dZ(C:List M.bD)(I:M.bD->Option Bool):Nat->Int->Option Int
 |0,_=>none
 |J+1,j=>if decide (j<(List.length C:Int))then(idx C j).bind λx7=>(I x7).bind λU=>if U then some j else dZ C I J (i64.wrap (j+1))else some (-1)
def mR(j:List M.bD)(C:M.bD->Option Bool):Option Int:=
 dZ j C fuel 0
def Ap(j:M.World)(C:Int):Option Int:=
 (mR j.aJ2 (λI=>vU I C)).bind λx1=>some x1
def aV(j:Int)(C:Int)(I:Int):Option Bool:=
 if decide (C<=j)then some (decide (j<=I))else some false
def iI(j:ByteArray)(J:Int)(C:Bool):Nat->Int->Option Bool
 |0,_=>none
 |U+1,I=>if decide (I<(j.size:Int))then(Ym j I).bind λx7=>if decide ((x7.toNat:Int)>=97)then if decide ((x7.toNat:Int)<=122)then iI j J C U (i64.wrap (I+1))else if C then if !((x7.toNat:Int)==47)then some false else iI j J C U (i64.wrap (I+1))else some false else if C then if !((x7.toNat:Int)==47)then some false else iI j J C U (i64.wrap (I+1))else some false else(aV (j.size:Int) 1 J).bind λae=>some ae
def BP(j:ByteArray)(C:Int)(I:Bool):Option Bool:=
 iI j C I fuel 0
def bV(j:ByteArray):Option Bool:=
 (BP j 8 false).bind λx1=>some x1
def dR(C:M.aJk):Nat->Int->Int->Option Bool
 |0,_,_=>none
 |U+1,I,J=>if decide (J<((3:Nat):Int))then(idx ([C.aKT,C.aKN,C.aKI]) J).bind λj=>(aV j 0 1000000000000).bind λah=>if !ah then some false else if j !=0 then if decide (j<=I)then some false else dR C U (if j>I then j else I) (i64.wrap (J+1))else dR C U (if j>I then j else I) (i64.wrap (J+1))else(bV C.aJr).bind λai=>some ai
def vX(j:M.aJk):Option Bool:=
 dR j fuel 0 0
def tV(j:M.aJx)(C:ByteArray)(c1:ByteArray):Option Bool:=
 if j.aJr.toList==C.toList then some (j.aKP.toList==c1.toList)else some false
def dD(C:List M.aJx)(I:M.aJx->Option Bool):Nat->Int->Option Int
 |0,_=>none
 |J+1,j=>if decide (j<(List.length C:Int))then(idx C j).bind λx7=>(I x7).bind λU=>if U then some j else dD C I J (i64.wrap (j+1))else some (-1)
def kM(j:List M.aJx)(C:M.aJx->Option Bool):Option Int:=
 dD j C fuel 0
def oT(j:M.aJ0)(C:ByteArray)(I:ByteArray):Option Int:=
 (kM j.aJ1 (λJ=>tV J C I)).bind λx1=>some x1
def sA(j:M.aJo):Option Bool:=
 (aV j.aKc 1 4).bind λx1=>if x1 then(aV j.aKS 0 999).bind λx4=>if x4 then(aV j.aJl 0 1000000000000).bind λx7=>if x7 then some (decide ((List.length j.aKa:Int)<=60))else some false else some false else some false
def fC(x8:M.aJ0)(I:Int->Option Bool):Nat->Int->Option Bool
 |0,_=>none
 |J+1,j=>if decide (j<(List.length x8.aJ1:Int))then(idx x8.aJ1 j).bind λC=>(bV C.aJr).bind λU=>if !U then some false else(bV C.aKP).bind λaj=>if !aj then some false else(oT x8 C.aJr C.aKP).bind λak=>if ak !=j then some false else(sA C.aJo).bind λal=>if !al then some false else fC x8 I J (i64.wrap (j+1))else I j
def eT(x8:M.aJ0)(I:Int->Option Bool):Nat->Int->Option Bool
 |0,_=>none
 |J+1,j=>if decide (j<(List.length x8.aJ1:Int))then(idx x8.aJ1 j).bind λC=>(bV C.aJr).bind λU=>if !U then some false else(bV C.aKP).bind λaj=>if !aj then some false else(oT x8 C.aJr C.aKP).bind λak=>if ak !=j then some false else(sA C.aJo).bind λal=>if !al then some false else eT x8 I J (i64.wrap (j+1))else I j
def fB(C:M.aO):Nat->Int->Option Bool
 |0,_=>none
 |I+1,j=>if decide (j<(List.length C.aJs:Int))then(idx C.aJs j).bind λx8=>(aV x8.aJl 1 1000000000000).bind λJ=>if !J then some false else if decide (j>0)then(idx C.aJs (i64.wrap (j-1))).bind λU=>if decide (x8.aJl<=U.aJl)then some false else if decide ((List.length x8.aJ1:Int)>12)then some false else fC x8 (λ(aa:Int)=>fB C I (i64.wrap (j+1))) fuel 0 else if decide ((List.length x8.aJ1:Int)>12)then some false else eT x8 (λ(ae:Int)=>fB C I (i64.wrap (j+1))) fuel 0 else some (decide ((List.length C.aJs:Int)<=4))
def wV(j:M.aO):Option Bool:=
 fB j fuel 0
def eJ(j:ByteArray):Nat->Int->Option Bool
 |0,_=>none
 |I+1,C=>if decide (C<(j.size:Int))then(Ym j C).bind λx5=>if decide ((x5.toNat:Int)>=97)then if decide ((x5.toNat:Int)<=122)then eJ j I (i64.wrap (C+1))else if decide ((x5.toNat:Int)>=48)then if !(decide ((x5.toNat:Int)<=57))then some false else eJ j I (i64.wrap (C+1))else some false else if decide ((x5.toNat:Int)>=48)then if !(decide ((x5.toNat:Int)<=57))then some false else eJ j I (i64.wrap (C+1))else some false else some (decide ((j.size:Int)<=12))
def zR(j:ByteArray):Option Bool:=
 eJ j fuel 0
def gX(j:M.Key):Option Bool:=
 (aV j.aJz 1 3).bind λx1=>if !x1 then some false else(aV j.N (-1000000000000) 1000000000000).bind λx4=>if !x4 then some false else(zR j.aKA).bind λx7=>if !x7 then some false else if j.aJz==2 then if !(j.N !=0)then if j.aJz==1 then some (!(!(j.aKA.toList==(⟨#[]⟩:ByteArray).toList)))else some true else some false else if j.aJz==1 then some (!(!(j.aKA.toList==(⟨#[]⟩:ByteArray).toList)))else some true
def gS(j:M.aC):Nat->Int->Option Bool
 |0,_=>none
 |I+1,C=>if decide (C<(List.length j.aJq:Int))then(idx j.aJq C).bind λx8=>(bV x8.Name).bind λU=>if !U then some false else(aV x8.N 0 1000000000).bind λah=>if !ah then some false else if decide (C>0)then(idx j.aJq (i64.wrap (C-1))).bind λJ=>if Op.bytesLess x8.Name.toList J.Name.toList||x8.Name.toList==J.Name.toList then some false else gS j I (i64.wrap (C+1))else gS j I (i64.wrap (C+1))else some (decide ((List.length j.aJq:Int)<=6))
def cK(j:M.aC):Option Bool:=
 gS j fuel 0
def uW(j:Int)(C:Int):Option Int:=
 if decide (j<C)then some (-1)else if decide (j>C)then some 1 else some 0
def nO(j:ByteArray)(C:ByteArray):Option Int:=some (Lib.compareBytes j.data.toList C.data.toList)
def BR(j:ByteArray)(C:ByteArray):Option Int:=
 (nO j C).bind λx1=>some x1
def eF(j:M.Key)(C:M.Key):Option Int:=
 (gX j).bind λx1=>if !x1 then some 0 else(gX C).bind λx4=>if !x4 then some 0 else(uW j.aJz C.aJz).bind λx7=>if x7 !=0 then some x7 else(uW j.N C.N).bind λI=>if I !=0 then some I else(BR j.aKA C.aKA).bind λJ=>some J
def iR(j:M.aD):Nat->Int->Option Bool
 |0,_=>none
 |I+1,C=>if decide (C<(List.length j.aJm:Int))then(idx j.aJm C).bind λx8=>(gX x8.Key).bind λJ=>if !J then some false else(cK x8.aC).bind λU=>if !U then some false else if decide (C>0)then(idx j.aJm (i64.wrap (C-1))).bind λah=>(eF ah.Key x8.Key).bind λai=>if decide (ai>=0)then some false else iR j I (i64.wrap (C+1))else iR j I (i64.wrap (C+1))else(bV j.Name).bind λaj=>if aj then if decide ((List.length j.aJm:Int)<=16)then(aV j.aKG 0 1000000).bind λak=>some ak else some false else some false
def bT(j:M.aD):Option Bool:=
 iR j fuel 0
def uZ(C:M.aD)(j:ByteArray):Option Bool:=
 some (C.Name.toList==j.toList)
def dP(C:List M.aD)(I:M.aD->Option Bool):Nat->Int->Option Int
 |0,_=>none
 |J+1,j=>if decide (j<(List.length C:Int))then(idx C j).bind λx7=>(I x7).bind λU=>if U then some j else dP C I J (i64.wrap (j+1))else some (-1)
def lT(j:List M.aD)(C:M.aD->Option Bool):Option Int:=
 dP j C fuel 0
def nH(j:M.aJj)(C:ByteArray):Option Int:=
 (lT j.aJw (λI=>uZ I C)).bind λx1=>some x1
def dX(C:List M.aG)(I:M.aG):Nat->Int->Option Int
 |0,_=>none
 |J+1,j=>if decide (j<(List.length C:Int))then(idx C j).bind λx8=>if(I.aD.toList==x8.aD.toList)&&(I.Field.toList==x8.Field.toList)then some j else dX C I J (i64.wrap (j+1))else some (-1)
def mL(j:List M.aG)(C:M.aG):Option Int:=
 dX j C fuel 0
def iV(j:List M.aG)(C:M.aG):Option Bool:=
 (mL j C).bind λx1=>some (decide (x1>=0))
def tG(C:M.Field)(j:ByteArray):Option Bool:=
 some (C.Name.toList==j.toList)
def dM(C:List M.Field)(I:M.Field->Option Bool):Nat->Int->Option Int
 |0,_=>none
 |J+1,j=>if decide (j<(List.length C:Int))then(idx C j).bind λx7=>(I x7).bind λU=>if U then some j else dM C I J (i64.wrap (j+1))else some (-1)
def lY(j:List M.Field)(C:M.Field->Option Bool):Option Int:=
 dM j C fuel 0
def AS(j:M.aC)(C:ByteArray):Option Int:=
 (lY j.aJq (λI=>tG I C)).bind λx1=>some x1
def gB(j:M.aC)(C:ByteArray):Option (Int×Bool):=
 (AS j C).bind λx1=>if decide (x1<0)then some (0,false)else(idx j.aJq x1).bind λx4=>some (x4.N,true)
def vK(j:M.aJt)(C:M.aJt)(I:ByteArray):Option Bool:=
 (gB j.aC I).bind λx1=>(gB C.aC I).bind λx3=>if decide (x1.1<x3.1)then some true else if x1.1==x3.1 then(eF j.Key C.Key).bind λx7=>some (decide (x7<0))else some false
def oJ(U:ByteArray)(I:List M.aJt)(J:M.aJt)(C:Int->Option (List M.aJt)):Nat->Int->Option (List M.aJt)
 |0,_=>none
 |ai+1,j=>if decide (j>0)then(idx I (i64.wrap (j-1))).bind λaj=>(vK J aj U).bind λak=>if ak then oJ U I J C ai (i64.wrap (j-1))else C j else C j
def lM(I:M.aD)(J:ByteArray):Nat->Int->List M.aJt->Option (List M.aJt)
 |0,_,_=>none
 |ai+1,C,j=>if decide (C<(List.length I.aJm:Int))then(idx I.aJm C).bind λah=>(gB ah.aC J).bind λak=>if !ak.2 then lM I J ai (i64.wrap (C+1)) j else oJ J j ah (λ(U:Int)=>(yF ah).bind λaj=>(KO 56 j U ([aj])).bind λal=>lM I J ai (i64.wrap (C+1)) (List.take U.toNat j++([aj]++List.drop U.toNat j))) fuel (List.length j:Int)else some j
def Cy(j:M.aD)(C:ByteArray):Option (List M.aJt):=
 lM j C fuel 0 ([]:List M.aJt)
def fM(C:ByteArray)(x1:(List M.aJt)):Nat->Int->Option (M.Key×M.Key×Bool)
 |0,_=>none
 |U+1,j=>if decide (j<(List.length x1:Int))then(idx x1 (i64.wrap (j-1))).bind λI=>(gB I.aC C).bind λah=>(idx x1 j).bind λJ=>(gB J.aC C).bind λai=>if ah.1==ai.1 then some (I.Key,J.Key,true)else fM C x1 U (i64.wrap (j+1))else some ((⟨0,0,(⟨#[]⟩:ByteArray)⟩:M.Key),(⟨0,0,(⟨#[]⟩:ByteArray)⟩:M.Key),false)
def kD(C:M.aD)(j:ByteArray):Option (M.Key×M.Key×Bool):=
 (Cy C j).bind λx1=>fM j x1 fuel 1
def fA(j:M.aJj):Nat->Int->Option Bool
 |0,_=>none
 |U+1,C=>if decide (C<(List.length j.aJ5:Int))then(idx j.aJ5 C).bind λI=>(nH j I.aD).bind λJ=>if decide (J<0)then some false else(bV I.Field).bind λai=>if !ai then some false else(GR j.aJ5 C).bind λao=>(iV (List.take C.toNat j.aJ5) I).bind λaj=>if aj then some false else(idx j.aJw J).bind λak=>(kD ak I.Field).bind λal=>if al.2.2 then some false else fA j U (i64.wrap (C+1))else some true
def eW(C:M.aJj):Nat->Int->Option Bool
 |0,_=>none
 |J+1,j=>if decide (j<(List.length C.aJw:Int))then(idx C.aJw j).bind λI=>(bT I).bind λai=>if !ai then some false else if decide (j>0)then(idx C.aJw (i64.wrap (j-1))).bind λU=>if Op.bytesLess I.Name.toList U.Name.toList||I.Name.toList==U.Name.toList then some false else eW C J (i64.wrap (j+1))else eW C J (i64.wrap (j+1))else fA C fuel 0
def lL(j:M.aJj):Option Bool:=
 (bV j.Name).bind λx1=>if !x1 then some false else(aV j.aJl 0 1000).bind λx4=>if !x4 then some false else if decide ((List.length j.aJw:Int)>4)then some false else if decide ((List.length j.aJ5:Int)>4)then some false else eW j fuel 0
def mX(j:M.aY):Option Bool:=
 (aV j.aJy 1 1000000).bind λx1=>if x1 then(aV j.Seq 1 1000000).bind λx4=>if x4 then(gX j.Key).bind λx7=>if x7 then(bV j.Field).bind λC=>if C then(aV j.N 0 1000000000).bind λI=>some I else some false else some false else some false else some false
def mK(j:M.aM):Nat->Int->Option Bool
 |0,_=>none
 |I+1,C=>if decide (C<(List.length j.aJ9:Int))then(idx j.aJ9 C).bind λx9=>(mX x9).bind λJ=>if !J then some false else if x9.aJy !=j.aJy then some false else if x9.Seq !=(i64.wrap ((i64.wrap (j.aKU-(List.length j.aJ9:Int)))+C))then some false else mK j I (i64.wrap (C+1))else(aV j.aJy 1 1000000).bind λU=>if U then(aV j.aKU 1 1000000).bind λai=>if ai then some (decide ((List.length j.aJ9:Int)<=20))else some false else some false
def sS(j:M.aM):Option Bool:=
 mK j fuel 0
def uN(j:M.aE):Option Bool:=
 (bT j.aJ8).bind λx1=>if x1 then if j.aJ8.Name.toList==(⟨#[110,111,116,101,115]⟩:ByteArray).toList then(aV j.aKe 0 1000000000000).bind λx5=>if x5 then(sS j.aJ7.aM).bind λx8=>some x8 else some false else some false else some false
def yK(j:M.aJo)(C:Bool):Option Int:=
 if C then some 76 else some (i64.wrap (16+(List.length j.aKa:Int)))
def iZ(x7:M.aJ0)(I:Int->Int->Option Int):Nat->Int->Int->Option Int
 |0,_,_=>none
 |U+1,C,j=>if decide (j<(List.length x7.aJ1:Int))then(idx x7.aJ1 j).bind λJ=>(yK J.aJo (J.aJo.aKc==3)).bind λaj=>iZ x7 I U (i64.wrap (C+aj)) (i64.wrap (j+1))else I C j
def eZ(C:M.aO):Nat->Int->Int->Option Int
 |0,_,_=>none
 |U+1,I,j=>if decide (j<(List.length C.aJs:Int))then(idx C.aJs j).bind λx7=>iZ x7 (λ(J:Int) (ae:Int)=>eZ C U J (i64.wrap (j+1))) fuel I 0 else some I
def yB(j:M.aO):Option Int:=
 eZ j fuel 0 0
def cC(j:M.Key):Nat->Int->List Int->Option (List Int)
 |0,_,_=>none
 |J+1,C,I=>if decide (C>=0)then if decide (0<=(i64.wrap (8*C)))then(app 1 I ([IntKind.u8.wrap (Int.fdiv (i64.wrap (j.N+1000000000000)) (2^(min (i64.wrap (8*C)).toNat IntKind.i64.bits)))])).bind λU=>cC j J (i64.wrap (C-1)) (I++[IntKind.u8.wrap (Int.fdiv (i64.wrap (j.N+1000000000000)) (2^(min (i64.wrap (8*C)).toNat IntKind.i64.bits)))])else none else(app 1 I (bC j.aKA)).bind λah=>some (I++bC j.aKA)
def iH(j:M.Key):Option (List Int):=
 (gX j).bind λx1=>if !x1 then some ([]:List Int)else if j.aJz !=2 then cC j fuel 5 ([IntKind.u8.wrap j.aJz])else(app 1 ([IntKind.u8.wrap j.aJz]) (bC j.aKA)).bind λC=>some ([IntKind.u8.wrap j.aJz]++bC j.aKA)
def cU  :Nat->Int->List Int->Option (List Int)
 |0,_,_=>none
 |I+1,j,C=>if decide (j>=128)then(app 1 C ([IntKind.u8.wrap (i64.wrap ((Int.tmod j 128)+128))])).bind λJ=>cU I (i64.wrap (Int.tdiv j 128)) (C++[IntKind.u8.wrap (i64.wrap ((Int.tmod j 128)+128))])else(app 1 C ([IntKind.u8.wrap j])).bind λU=>some (C++[IntKind.u8.wrap j])
def cF(C:List Int)(j:Int):Option (List Int):=
 (dL C).bind λx1=>(aV j 0 1000000000000).bind λx3=>if !x3 then some x1 else cU fuel j x1
def gQ(C:List Int)(j:List Int):Option (List Int):=
 (cF C (List.length j:Int)).bind λx1=>(app 1 x1 j).bind λx3=>some (x1++j)
def dA(C:M.aC):Nat->Int->List Int->Option (List Int)
 |0,_,_=>none
 |U+1,j,I=>if decide (j<(List.length C.aJq:Int))then(idx C.aJq j).bind λJ=>(gQ I (bC J.Name)).bind λai=>(cF ai J.N).bind λaj=>dA C U (i64.wrap (j+1)) aj else some I
def fT(j:M.aC):Option (List Int):=
 (cK j).bind λx1=>if !x1 then some ([]:List Int)else(cF ([]:List Int) (List.length j.aJq:Int)).bind λx4=>dA j fuel 0 x4
def kR(j:M.aD):Nat->Int->Int->Option Int
 |0,_,_=>none
 |J+1,I,C=>if decide (C<(List.length j.aJm:Int))then(idx j.aJm C).bind λx7=>(iH x7.Key).bind λU=>(fT x7.aC).bind λaf=>kR j J (i64.wrap (I+(i64.wrap ((List.length U:Int)+(List.length af:Int))))) (i64.wrap (C+1))else some I
def tZ(j:M.aD):Option Int:=
 kR j fuel 0 0
def gI(j:M.aJj):Nat->Int->Int->Option Int
 |0,_,_=>none
 |J+1,I,C=>if decide (C<(List.length j.aJw:Int))then(idx j.aJw C).bind λx7=>(tZ x7).bind λU=>gI j J (i64.wrap (I+U)) (i64.wrap (C+1))else some I
def sQ(j:M.aJj):Option Int:=
 gI j fuel 0 0
def DP(j:M.bL):Option Int:=
 (sQ j.aJ8).bind λx1=>some (i64.wrap (x1+(List.length j.Log:Int)))
def Cx(j:M.aJi):Option Int:=
 (yB j.aJs).bind λx1=>(DP j.bL).bind λx3=>(tZ j.aE.aJ8).bind λx5=>some (i64.wrap ((i64.wrap ((i64.wrap (x1+x3))+x5))+(i64.wrap (40*(List.length j.aE.aJ7.aM.aJ9:Int)))))
def pD(j:M.aJi):Option Bool:=
 (bV j.aJr).bind λx1=>if x1 then(bV j.Top).bind λx4=>if x4 then(vX j.aJk).bind λx7=>if x7 then if j.aJk.aJr.toList==j.aJr.toList then(wV j.aJs).bind λC=>if C then(lL j.bL.aJ8).bind λI=>if I then(uN j.aE).bind λJ=>if J then(aV j.aKC 0 1000000000000).bind λU=>if U then(Cx j).bind λai=>some (decide (ai<=2500))else some false else some false else some false else some false else some false else some false else some false else some false
def oO(j:M.aJi)(C:M.aJi):Option Bool:=
 if Op.bytesLess j.aJr.toList C.aJr.toList then some true else if j.aJr.toList==C.aJr.toList then some (Op.bytesLess j.Top.toList C.Top.toList)else some false
def fW(j:M.aA):Nat->Int->Option Bool
 |0,_=>none
 |I+1,C=>if decide (C<(List.length j.aJp:Int))then(idx j.aJp C).bind λx8=>(pD x8).bind λJ=>if !J then some false else if decide (C>0)then(idx j.aJp (i64.wrap (C-1))).bind λU=>(oO U x8).bind λah=>if !ah then some false else fW j I (i64.wrap (C+1))else fW j I (i64.wrap (C+1))else some (decide ((List.length j.aJp:Int)<=9))
def cR(j:M.aA):Option Bool:=
 fW j fuel 0
def wW(j:ByteArray):Option Bool:=
 (BP j 30 true).bind λx1=>some x1
def cX(I:M.aP)(j:Int)(x8:M.eO)(J:Int->Option Bool):Nat->Int->Option Bool
 |0,_=>none
 |U+1,C=>if decide (C<(List.length (List.take j.toNat I.aJ3):Int))then(idx (List.take j.toNat I.aJ3) C).bind λah=>if ah.Name.toList==x8.Name.toList then if x8.aKj then if !ah.aKj then some false else if !x8.aKO then some false else if !ah.aKO then some false else cX I j x8 J U (i64.wrap (C+1))else cX I j x8 J U (i64.wrap (C+1))else cX I j x8 J U (i64.wrap (C+1))else J C
def fO(C:M.aP):Nat->Int->Option Bool
 |0,_=>none
 |I+1,j=>if decide (j<(List.length C.aJ3:Int))then(idx C.aJ3 j).bind λx8=>(wW x8.Name).bind λJ=>if !J then some false else(aV x8.bD 1 1000000000000).bind λU=>if !U then some false else(GR C.aJ3 j).bind λai=>cX C j x8 (λ(aa:Int)=>fO C I (i64.wrap (j+1))) fuel 0 else some (decide ((List.length C.aJ3:Int)<=12))
def uV(j:M.aP):Option Bool:=
 fO j fuel 0
def rH(j:M.bD):Nat->Int->Option Bool
 |0,_=>none
 |I+1,C=>if decide (C<(List.length j.aJ:Int))then(idx j.aJ C).bind λx8=>(bV x8.aKP).bind λJ=>if !J then some false else if x8.aJl !=j.aJl then some false else rH j I (i64.wrap (C+1))else(aV j.Id 1 1000000000000).bind λU=>if U then(bV j.aJr).bind λah=>if ah then(bV j.Top).bind λai=>if ai then(aV j.aJl 1 1000000000000).bind λaj=>if aj then some (decide ((List.length j.aJ:Int)<=8))else some false else some false else some false else some false
def zJ(j:M.bD):Option Bool:=
 rH j fuel 0
def sO(j:M.aJi)(C:ByteArray)(c1:ByteArray):Option Bool:=
 if j.aJr.toList==C.toList then some (j.Top.toList==c1.toList)else some false
def dC(C:List M.aJi)(I:M.aJi->Option Bool):Nat->Int->Option Int
 |0,_=>none
 |J+1,j=>if decide (j<(List.length C:Int))then(idx C j).bind λx7=>(I x7).bind λU=>if U then some j else dC C I J (i64.wrap (j+1))else some (-1)
def kH(j:List M.aJi)(C:M.aJi->Option Bool):Option Int:=
 dC j C fuel 0
def lN(j:M.aA)(C:ByteArray)(I:ByteArray):Option Int:=
 (kH j.aJp (λJ=>sO J C I)).bind λx1=>some x1
def kP(j:M.aJr):Nat->Int->Option Bool
 |0,_=>none
 |I+1,C=>if decide (C<(List.length j.aKJ:Int))then(idx j.aKJ C).bind λx8=>(bV x8).bind λU=>if !U then some false else if decide (C>0)then(idx j.aKJ (i64.wrap (C-1))).bind λJ=>if Op.bytesLess x8.toList J.toList||x8.toList==J.toList then some false else kP j I (i64.wrap (C+1))else kP j I (i64.wrap (C+1))else(bV j.Name).bind λah=>if ah then(aV j.aJl 1 1000000000000).bind λai=>if ai then(aV (List.length j.aKJ:Int) 1 6).bind λaj=>some aj else some false else some false
def zB(j:M.aJr):Option Bool:=
 kP j fuel 0
def cH(C:List ByteArray)(I:ByteArray):Nat->Int->Option Int
 |0,_=>none
 |J+1,j=>if decide (j<(List.length C:Int))then(idx C j).bind λx7=>if I.toList==x7.toList then some j else cH C I J (i64.wrap (j+1))else some (-1)
def lV(j:List ByteArray)(C:ByteArray):Option Int:=
 cH j C fuel 0
def nY(j:ByteArray):Option Int:=
 (lV ([(⟨#[98,97,110,107]⟩:ByteArray),(⟨#[110,101,119,115]⟩:ByteArray),(⟨#[115,104,111,112]⟩:ByteArray)]) j).bind λx1=>some x1
def kC(j:M.aJv):Nat->Int->Option Bool
 |0,_=>none
 |I+1,C=>if decide (C<(List.length j.aKH:Int))then(idx j.aKH C).bind λJ=>(mX J).bind λU=>if !U then some false else kC j I (i64.wrap (C+1))else(bT j.aD).bind λai=>if ai then if j.aD.Name.toList==(⟨#[110,111,116,101,115]⟩:ByteArray).toList then some (decide ((List.length j.aK:Int)<=60))else some false else some false
def gR(C:M.aJv):Nat->Int->Option Bool
 |0,_=>none
 |I+1,j=>if decide (j<(List.length C.aK:Int))then(idx C.aK j).bind λx8=>(aV x8.aJy 1 1000000).bind λJ=>if !J then some false else(aV x8.Seq 0 1000000).bind λU=>if !U then some false else if decide (j>0)then(idx C.aK (i64.wrap (j-1))).bind λah=>if decide (x8.aJy<=ah.aJy)then some false else gR C I (i64.wrap (j+1))else gR C I (i64.wrap (j+1))else kC C fuel 0
def Bs(j:M.aJv):Option Bool:=
 gR j fuel 0
def iL(C:M.World):Nat->Int->Option Bool
 |0,_=>none
 |J+1,j=>if decide (j<(List.length C.aKE:Int))then(idx C.aKE j).bind λI=>(zB I).bind λU=>if !U then some false else(nY I.Name).bind λai=>if ai !=j then some false else(idx C.aJ6 j).bind λaj=>(Bs aj).bind λak=>if !ak then some false else iL C J (i64.wrap (j+1))else some true
def fE(j:M.World):Nat->Int->Option Bool
 |0,_=>none
 |J+1,I=>if decide (I<(List.length j.aJ2:Int))then(idx j.aJ2 I).bind λC=>(zJ C).bind λU=>if !U then some false else if decide (C.Id>=j.aJ4)then some false else if decide (I>0)then(idx j.aJ2 (i64.wrap (I-1))).bind λai=>if decide (C.Id<=ai.Id)then some false else(lN j.aA C.aJr C.Top).bind λaj=>if decide (aj<0)then some false else fE j J (i64.wrap (I+1))else(lN j.aA C.aJr C.Top).bind λak=>if decide (ak<0)then some false else fE j J (i64.wrap (I+1))else iL j fuel 0
def Aw(j:M.World):Option Bool:=
 (aV j.Now 0 999999990000).bind λx1=>if !x1 then some false else(aV j.aJy 1 1000000).bind λx4=>if !x4 then some false else(cR j.aA).bind λx7=>if !x7 then some false else if decide ((List.length j.aJ2:Int)>6)then some false else(aV j.aJ4 1 1000000000000).bind λC=>if !C then some false else(uV j.aJ3).bind λI=>if !I then some false else if(List.length j.aKE:Int) !=3 then some false else if(List.length j.aJ6:Int) !=3 then some false else fE j fuel 0
def rQ(j:M.Instr)(p1:Int):Option Bool:=
 ((aV j.aJz 1 9).bind λx8=>if !x8 then some true else(aV j.R 0 3).bind λC=>if !C then some true else if j.aJz==4 then some (j.R !=0)else if j.aJz==9 then some (j.R !=0)else some false).bind λx1=>if x1 then some false else(if j.aJz==5 then some true else if j.aJz==6 then some true else if j.aJz==7 then some true else some (j.aJz==8)).bind λI=>(if I then(bV j.aKA).bind λJ=>if !J then some true else some false else some (!(j.aKA.toList==(⟨#[]⟩:ByteArray).toList))).bind λU=>if U then some false else if j.aJz==1 then(aV j.N 0 1000).bind λai=>some ai else if j.aJz==2 then(aV j.N 0 3).bind λaj=>some aj else(if j.aJz==3 then some (j.aJz==3)else some (j.aJz==4)).bind λak=>if ak then(aV j.N 0 p1).bind λal=>some al else(if j.aJz==6 then some (j.aJz==6)else if j.aJz==7 then some (j.aJz==7)else some (j.aJz==8)).bind λao=>if ao then(aV j.N 0 100).bind λaq=>some aq else some (j.N==0)
def yE(j:Int):Option Int:=
 some (if(if j<1000 then j else 1000)>(-1)then if j<1000 then j else 1000 else -1)
def dB(x1:M.aJn):Nat->Int->Int->List Int->Option (M.aJn×M.Ask)
 |0,_,_,_=>none
 |U+1,I,J,C=>if decide (I<0)then some ((⟨x1.aKD,I,C,J,true,x1.aKY⟩:M.aJn),(⟨0,0,0,(⟨#[]⟩:ByteArray),0⟩:M.Ask))else if decide (I>=(List.length x1.aKD:Int))then some ((⟨x1.aKD,I,C,J,true,x1.aKY⟩:M.aJn),(⟨0,0,0,(⟨#[]⟩:ByteArray),0⟩:M.Ask))else(idx x1.aKD I).bind λj=>(rQ j (List.length x1.aKD:Int)).bind λak=>if !ak then some ((⟨x1.aKD,I,C,J,true,x1.aKY⟩:M.aJn),(⟨0,0,0,(⟨#[]⟩:ByteArray),0⟩:M.Ask))else if decide (J>=60)then some ((⟨x1.aKD,I,C,J,true,x1.aKY⟩:M.aJn),(⟨0,0,0,(⟨#[]⟩:ByteArray),0⟩:M.Ask))else if j.aJz==1 then(idx C j.R).bind λax=>dB x1 U (i64.wrap (I+1)) (i64.wrap (J+1)) (List.set C j.R.toNat j.N)else if j.aJz==2 then(idx C j.R).bind λal=>(yE al).bind λao=>(idx C j.N).bind λaq=>(yE aq).bind λar=>(yE (i64.wrap (ao+ar))).bind λav=>dB x1 U (i64.wrap (I+1)) (i64.wrap (J+1)) (List.set C j.R.toNat av)else if j.aJz==3 then(idx C j.R).bind λaw=>if aw==0 then dB x1 U j.N (i64.wrap (J+1)) C else dB x1 U (i64.wrap (I+1)) (i64.wrap (J+1)) C else if j.aJz==4 then dB x1 U j.N (i64.wrap (J+1)) C else if j.aJz==5 then some ((⟨x1.aKD,i64.wrap (I+1),C,i64.wrap (J+1),x1.aKb,true⟩:M.aJn),(⟨1,j.R,0,j.aKA,0⟩:M.Ask))else if j.aJz==6 then some ((⟨x1.aKD,i64.wrap (I+1),C,i64.wrap (J+1),x1.aKb,true⟩:M.aJn),(⟨2,j.R,j.N,j.aKA,0⟩:M.Ask))else if j.aJz==7 then(idx C j.R).bind λai=>some ((⟨x1.aKD,i64.wrap (I+1),C,i64.wrap (J+1),x1.aKb,x1.aKY⟩:M.aJn),(⟨3,0,j.N,j.aKA,ai⟩:M.Ask))else if j.aJz==8 then(idx C j.R).bind λaj=>some ((⟨x1.aKD,i64.wrap (I+1),C,i64.wrap (J+1),x1.aKb,x1.aKY⟩:M.aJn),(⟨4,0,j.N,j.aKA,aj⟩:M.Ask))else if j.aJz==9 then some ((⟨x1.aKD,i64.wrap (I+1),C,i64.wrap (J+1),true,x1.aKY⟩:M.aJn),(⟨0,0,0,(⟨#[]⟩:ByteArray),0⟩:M.Ask))else dB x1 U (i64.wrap (I+1)) (i64.wrap (J+1)) C
def cY(j:M.aJn):Option (M.aJn×M.Ask):=
 (mQ j).bind λx1=>if j.aKb then some (x1,(⟨0,0,0,(⟨#[]⟩:ByteArray),0⟩:M.Ask))else if j.aKY then some (x1,(⟨0,0,0,(⟨#[]⟩:ByteArray),0⟩:M.Ask))else if(List.length j.aKQ:Int) !=4 then some (x1,(⟨0,0,0,(⟨#[]⟩:ByteArray),0⟩:M.Ask))else if decide (j.aKW<0)then some (x1,(⟨0,0,0,(⟨#[]⟩:ByteArray),0⟩:M.Ask))else dB x1 fuel x1.Pc x1.aKW x1.aKQ
def kJ(j:M.World)(C:ByteArray)(I:ByteArray):Option (M.aJi×Bool):=
 (lN j.aA C I).bind λx1=>if decide (x1<0)then some ((⟨(⟨#[]⟩:ByteArray),(⟨#[]⟩:ByteArray),(⟨(⟨#[]⟩:ByteArray),0,0,0⟩:M.aJk),(⟨([]:List M.aJ0)⟩:M.aO),(⟨(⟨(⟨#[]⟩:ByteArray),0,([]:List M.aD),([]:List M.aG)⟩:M.aJj),([]:List Int),0⟩:M.bL),(⟨(⟨(⟨#[]⟩:ByteArray),([]:List M.aJt),0⟩:M.aD),0,(⟨(⟨0,0,([]:List M.aY)⟩:M.aM),0,0⟩:M.aJ7)⟩:M.aE),0,false⟩:M.aJi),false)else(idx j.aA.aJp x1).bind λx4=>some (x4,true)
def cP  :Option M.aJo:=
 some (⟨4,0,0,([]:List Int),false⟩:M.aJo)
def FG(j:M.World)(C:ByteArray):Option M.aJr:=
 (nY C).bind λx1=>if decide (x1<0)then some (⟨(⟨#[]⟩:ByteArray),0,([]:List ByteArray),false⟩:M.aJr)else if decide (x1>=(List.length j.aKE:Int))then some (⟨(⟨#[]⟩:ByteArray),0,([]:List ByteArray),false⟩:M.aJr)else(idx j.aKE x1).bind λx5=>some x5
def vH(C:M.aJ0)(j:Int):Option Bool:=
 some (C.aJl==j)
def dN(C:List M.aJ0)(I:M.aJ0->Option Bool):Nat->Int->Option Int
 |0,_=>none
 |J+1,j=>if decide (j<(List.length C:Int))then(idx C j).bind λx7=>(I x7).bind λU=>if U then some j else dN C I J (i64.wrap (j+1))else some (-1)
def lR(j:List M.aJ0)(C:M.aJ0->Option Bool):Option Int:=
 dN j C fuel 0
def Ao(j:M.aO)(C:Int):Option Int:=
 (lR j.aJs (λI=>vH I C)).bind λx1=>some x1
def yI(C:M.aO)(p1:Int)(p2:ByteArray)(p3:ByteArray):Option (M.aJo×Bool):=
 (Ao C p1).bind λx1=>(if decide (x1<0)then((cP).bind λx4=>(some (x4,false)))else((idx C.aJs x1).bind λx6=>((oT x6 p2 p3).bind λj=>(if decide (j<0)then((cP).bind λI=>(some (I,false)))else((idx x6.aJ1 j).bind λJ=>((lA J.aJo).bind λU=>(some (U,true))))))))
def rL(j:M.aJr)(C:Int):Option Bool:=
 (zB j).bind λx1=>if x1 then if decide (C>(i64.wrap (j.aJl-2)))then if decide (C<=j.aJl)then some (decide (C>=1))else some false else some false else some false
def pP(j:List ByteArray)(C:ByteArray):Option Bool:=
 (lV j C).bind λx1=>some (decide (x1>=0))
def CA(j:M.aJr)(C:ByteArray):Option Bool:=
 (pP j.aKJ C).bind λx1=>some x1
def hY(C:List Int):Nat->Int->List Int->Option (List Int)
 |0,_,_=>none
 |U+1,j,I=>if decide (j<(List.length C:Int))then(idx C j).bind λJ=>(app 8 I ([i64.wrap J])).bind λaf=>hY C U (i64.wrap (j+1)) (I++[i64.wrap J])else some I
def pV(j:List Int):Option (List Int):=
 hY j fuel 0 ([(List.length j:Int)])
def Hj(C:Int)(j:Int):Option Int:=
 (aV j 1 1000000000000).bind λx1=>if !x1 then some 0 else if decide (j=0)then none else if decide ((Int.tmod C j)<0)then some (i64.wrap ((Int.tmod C j)+j))else some (Int.tmod C j)
def wE(j:List Int):Nat->Int->Int->Option Int
 |0,_,_=>none
 |J+1,I,C=>if decide (C<(List.length j:Int))then(idx j C).bind λx7=>(Hj x7 2147483647).bind λU=>wE j J (Int.tmod (i64.wrap ((i64.wrap ((i64.wrap (I*1000003))+U))+13)) 2147483647) (i64.wrap (C+1))else some I
def Ex(j:List Int):Option Int:=
 wE j fuel 11 0
def uC(j:Int)(C:List Int):Option Int:=
 (app 8 ([j]) C).bind λx1=>(app 8 ([j]++C) ([j])).bind λx3=>(Ex (([j]++C)++[j])).bind λx5=>some x5
def iS(j:Int)(C:ByteArray):Option Int:=
 (pV (bC C)).bind λx1=>(uC j x1).bind λx3=>if x3==0 then some 1 else some x3
def fD(x5:Int):Nat->Int->List Int->Option (List Int)
 |0,_,_=>none
 |I+1,j,C=>if decide (j>=0)then if decide (0<=(i64.wrap (8*j)))then(app 1 C ([IntKind.u8.wrap (Int.fdiv x5 (2^(min (i64.wrap (8*j)).toNat IntKind.i64.bits)))])).bind λJ=>fD x5 I (i64.wrap (j-1)) (C++[IntKind.u8.wrap (Int.fdiv x5 (2^(min (i64.wrap (8*j)).toNat IntKind.i64.bits)))])else none else some C
def D8(j:M.aJr)(C:ByteArray)(I:Int):Option (List Int):=
 (iS 107 j.Name).bind λx1=>(iS 109 C).bind λx3=>(uC (i64.wrap (1+I)) ([103,x1,x3])).bind λx5=>fD x5 fuel 5 ([]:List Int)
def zY(j:M.aJr)(I:ByteArray)(C:Int):Option M.aJo:=
 (zB j).bind λx1=>(if !x1 then((cP).bind λx4=>(some x4))else((rL j C).bind λx6=>(if !x6 then(some (⟨1,404,j.aJl,([]:List Int),false⟩:M.aJo))else((CA j I).bind λx9=>(if !x9 then(some (⟨1,404,j.aJl,([]:List Int),false⟩:M.aJo))else((D8 j I C).bind λJ=>(some (⟨1,200,C,J,j.aKO⟩:M.aJo))))))))
def vQ(J:M.aO)(j:M.aJr)(C:Int)(I:ByteArray)(U:Bool):Option M.aJo:=
 (yI J C j.Name I).bind λx1=>(if x1.2 then(some x1.1)else(if U then((zY j I C).bind λx5=>(some x5))else((cP).bind λx7=>(some x7))))
def BG(C:M.World)(j:M.bD)(U:ByteArray):Option M.aJo:=
 (kJ C j.aJr j.Top).bind λx1=>(if !x1.2 then((cP).bind λx4=>(some x4))else((nY j.aJr).bind λx6=>(if decide (x6<0)then((cP).bind λx9=>(some x9))else((FG C j.aJr).bind λI=>((vQ x1.1.aJs I j.aJl U C.aKF).bind λJ=>(some J))))))
def BA(j:M.bD)(I:ByteArray)(C:M.aJo):Option (M.bD×Bool):=
 (iC j).bind λx1=>(app 24 x1.aJ ([(⟨I,C.aJl⟩:M.aJ)])).bind λx3=>if C.aKS !=200 then(iC j).bind λJ=>some (J,false)else if C.aJl !=j.aJl then(iC j).bind λU=>some (U,false)else(zJ j).bind λaf=>if !af then(iC j).bind λah=>some (ah,false)else(zJ (⟨x1.Id,x1.aJr,x1.Top,x1.aJl,x1.aJ++[(⟨I,C.aJl⟩:M.aJ)],x1.aJn⟩:M.bD)).bind λai=>if !ai then(iC j).bind λaj=>some (aj,false)else some ((⟨x1.Id,x1.aJr,x1.Top,x1.aJl,x1.aJ++[(⟨I,C.aJl⟩:M.aJ)],x1.aJn⟩:M.bD),true)
def nD(C:M.aJn)(j:Int)(I:Int):Option (M.aJn×Bool):=
 (mQ C).bind λx1=>if !C.aKY then some (x1,false)else if decide (j<0)then some (x1,false)else if decide (j>=(List.length C.aKQ:Int))then some (x1,false)else(aV I (-1) 1000).bind λx6=>if !x6 then some (x1,false)else(idx x1.aKQ j).bind λx9=>some ((⟨x1.aKD,x1.Pc,List.set x1.aKQ j.toNat I,x1.aKW,x1.aKb,false⟩:M.aJn),true)
def iA(U:List Int)(I:Int):Nat->Int->Int->Option (Int×Int×Bool)
 |0,_,_=>none
 |ae+1,J,j=>if decide (j<6)then if decide ((i64.wrap (I+j))<(List.length U:Int))then(idx U (i64.wrap (I+j))).bind λC=>if decide (0<=(i64.wrap (7*j)))then if decide ((i64.wrap C)<128)then if decide (j>0)then if(i64.wrap C)==0 then some (0,0,false)else if decide ((i64.wrap (J+(i64.wrap ((Int.tmod (i64.wrap C) 128)*2^(min (i64.wrap (7*j)).toNat IntKind.i64.bits)))))>1000000000000)then some (0,0,false)else some (i64.wrap (J+(i64.wrap ((Int.tmod (i64.wrap C) 128)*2^(min (i64.wrap (7*j)).toNat IntKind.i64.bits)))),i64.wrap ((i64.wrap (I+j))+1),true)else if decide ((i64.wrap (J+(i64.wrap ((Int.tmod (i64.wrap C) 128)*2^(min (i64.wrap (7*j)).toNat IntKind.i64.bits)))))>1000000000000)then some (0,0,false)else some (i64.wrap (J+(i64.wrap ((Int.tmod (i64.wrap C) 128)*2^(min (i64.wrap (7*j)).toNat IntKind.i64.bits)))),i64.wrap ((i64.wrap (I+j))+1),true)else iA U I ae (i64.wrap (J+(i64.wrap ((Int.tmod (i64.wrap C) 128)*2^(min (i64.wrap (7*j)).toNat IntKind.i64.bits))))) (i64.wrap (j+1))else none else some (0,0,false)else some (0,0,false)
def fJ(C:List Int)(j:Int):Option (Int×Int×Bool):=
 if decide (j<0)then some (0,0,false)else if decide (j>=(List.length C:Int))then some (0,0,false)else iA C j fuel 0 0
def eB(j:List Int)(C:Int)(I:Int):Option ((List Int)×Int×Bool):=
 (fJ j C).bind λx1=>if !x1.2.2 then some (([]:List Int),0,false)else if decide (x1.1>I)then some (([]:List Int),0,false)else if decide (x1.1>(i64.wrap ((List.length j:Int)-x1.2.1)))then some (([]:List Int),0,false)else(Q1 j x1.2.1 (i64.wrap (x1.2.1+x1.1))).bind λx6=>(dL (List.drop x1.2.1.toNat (List.take (i64.wrap (x1.2.1+x1.1)).toNat j))).bind λx8=>some (x8,i64.wrap (x1.2.1+x1.1),true)
def yH(j:Int)(C:List Int):Option Int:=
 (pV C).bind λx1=>(app 8 ([101,j]) x1).bind λx3=>(Ex ([101,j]++x1)).bind λx5=>some x5
def sD(U:List Int):Nat->Int->List (List Int)->Option ((List (List Int))×Int)
 |0,_,_=>none
 |ah+1,I,j=>(eB U I 4000).bind λC=>if !C.2.2 then some (j,I)else(fJ U C.2.1).bind λJ=>if !J.2.2 then some (j,I)else(yH (List.length j:Int) C.1).bind λai=>if J.1 !=ai then some (j,I)else(app 24 j ([C.1])).bind λaj=>sD U ah J.2.1 (j++[C.1])
def CG(j:List Int):Option ((List (List Int))×Int):=
 sD j fuel 0 ([]:List (List Int))
def kF(C:List Int)(I:List Int):Nat->Int->Option Bool
 |0,_=>none
 |J+1,j=>if decide (j<(List.length C:Int))then(idx C j).bind λx8=>(idx I j).bind λU=>if x8 !=U then some false else kF C I J (i64.wrap (j+1))else some true
def sZ(j:List Int)(C:List Int):Option Bool:=
 if(List.length j:Int) !=(List.length C:Int)then some false else kF j C fuel 0
def lJ(j:List Int)(C:List Int):Option Bool:=
 (sZ j C).bind λx1=>some x1
def kW(j:List Int)(x2:Int):Nat->Int->Int->Option (M.Key×Bool)
 |0,_,_=>none
 |I+1,C,v30=>if(decide (v30<(List.length (List.take (6:Int).toNat (List.drop (1:Int).toNat j)):Int)))=true then(idx (List.take (6:Int).toNat (List.drop (1:Int).toNat j)) v30).bind λJ=>kW j x2 I (i64.wrap ((i64.wrap (C*2^(min (8:Int).toNat IntKind.i64.bits)))+(i64.wrap J))) (i64.wrap (v30+1))else(Ea (List.drop (1:Int).toNat j) 6).bind λai=>(toStr (List.drop (6:Int).toNat (List.drop (1:Int).toNat j))).bind λaj=>(iH (⟨i64.wrap x2,i64.wrap (C-1000000000000),bF (List.drop (6:Int).toNat (List.drop (1:Int).toNat j))⟩:M.Key)).bind λU=>(lJ U j).bind λah=>if !ah then some ((⟨0,0,(⟨#[]⟩:ByteArray)⟩:M.Key),false)else some ((⟨i64.wrap x2,i64.wrap (C-1000000000000),bF (List.drop (6:Int).toNat (List.drop (1:Int).toNat j))⟩:M.Key),true)
def uP(j:List Int):Option (M.Key×Bool):=
 if(List.length j:Int)==0 then some ((⟨0,0,(⟨#[]⟩:ByteArray)⟩:M.Key),false)else(idx j 0).bind λx2=>(Ea j 1).bind λx7=>if(i64.wrap x2) !=2 then if(decide ((List.length (List.drop (1:Int).toNat j):Int)<6))=true then some ((⟨0,0,(⟨#[]⟩:ByteArray)⟩:M.Key),false)else(GR (List.drop (1:Int).toNat j) 6).bind λJ=>kW j x2 fuel 0 0 else(toStr (List.drop (1:Int).toNat j)).bind λU=>(iH (⟨i64.wrap x2,0,bF (List.drop (1:Int).toNat j)⟩:M.Key)).bind λC=>(lJ C j).bind λI=>if !I then some ((⟨0,0,(⟨#[]⟩:ByteArray)⟩:M.Key),false)else some ((⟨i64.wrap x2,0,bF (List.drop (1:Int).toNat j)⟩:M.Key),true)
def gK(J:List Int)(x1:(Int×Int×Bool)):Nat->Int->Int->List M.Field->Option (M.aC×Bool)
 |0,_,_,_=>none
 |ah+1,v5,U,C=>if decide (U<x1.1)then(eB J v5 8).bind λj=>(fJ J j.2.1).bind λI=>if !j.2.2 then some ((⟨([]:List M.Field)⟩:M.aC),false)else if !I.2.2 then some ((⟨([]:List M.Field)⟩:M.aC),false)else(toStr j.1).bind λak=>(app 24 C ([(⟨bF j.1,I.1⟩:M.Field)])).bind λal=>gK J x1 ah I.2.1 (i64.wrap (U+1)) (C++[(⟨bF j.1,I.1⟩:M.Field)])else(fT (⟨C⟩:M.aC)).bind λai=>(lJ ai J).bind λaj=>if !aj then some ((⟨([]:List M.Field)⟩:M.aC),false)else some ((⟨C⟩:M.aC),true)
def oD(j:List Int):Option (M.aC×Bool):=
 (fJ j 0).bind λx1=>if !x1.2.2 then some ((⟨([]:List M.Field)⟩:M.aC),false)else if decide (x1.1>6)then some ((⟨([]:List M.Field)⟩:M.aC),false)else gK j x1 fuel x1.2.1 0 ([]:List M.Field)
def Ep(j:M.Op):Option Bool:=
 (aV j.aJz 1 6).bind λx1=>if !x1 then some false else(bV j.aD).bind λx4=>if !x4 then some false else if j.aJz !=5 then(gX j.Key).bind λx8=>if !x8 then some false else(cK j.aC).bind λC=>if !C then some false else if j.aJz==6 then(bV j.Field).bind λI=>some I else some (j.Field.toList==(⟨#[]⟩:ByteArray).toList)else(cK j.aC).bind λJ=>if !J then some false else if j.aJz==6 then(bV j.Field).bind λU=>some U else some (j.Field.toList==(⟨#[]⟩:ByteArray).toList)
def uF(j:List M.Op):Nat->Int->Option Bool
 |0,_=>none
 |I+1,C=>if decide (C<(List.length j:Int))then(idx j C).bind λx7=>(Ep x7).bind λJ=>if !J then some false else uF j I (i64.wrap (C+1))else some (decide ((List.length j:Int)<=6))
def DJ(j:List M.Op):Option Bool:=
 uF j fuel 0
def fY(C:M.Op)(J:(List Int))(U:(List Int))(aj:Int->List Int->Option (List Int)):Nat->Int->List Int->Option (List Int)
 |0,_,_=>none
 |ak+1,j,I=>if decide (j<((4:Nat):Int))then(idx ([bC C.aD,J,U,bC C.Field]) j).bind λal=>(gQ I al).bind λao=>fY C J U aj ak (i64.wrap (j+1)) ao else aj j I
def eM(I:List M.Op):Nat->Int->List Int->Option (List Int)
 |0,_,_=>none
 |aj+1,C,J=>if decide (C<(List.length I:Int))then(idx I C).bind λj=>(cF J j.aJz).bind λak=>(iH j.Key).bind λal=>(fT j.aC).bind λao=>fY j al ao (λ(ai:Int) (U:List Int)=>eM I aj (i64.wrap (C+1)) U) fuel 0 ak else some J
def uR(j:List M.Op):Option (List Int):=
 (DJ j).bind λx1=>if !x1 then some ([]:List Int)else(cF ([]:List Int) (List.length j:Int)).bind λx4=>eM j fuel 0 x4
def fV(j:List Int)(x1:(Int×Int×Bool)):Nat->Int->Int->List M.Op->Option ((List M.Op)×Bool)
 |0,_,_,_=>none
 |ar+1,v5,v8,J=>if decide (v8<x1.1)then(fJ j v5).bind λU=>if U.2.2 then(eB j U.2.1 (List.length j:Int)).bind λC=>if C.2.2 then(eB j C.2.1 (List.length j:Int)).bind λak=>if ak.2.2 then(eB j ak.2.1 (List.length j:Int)).bind λal=>if al.2.2 then(eB j al.2.1 (List.length j:Int)).bind λI=>if !I.2.2 then some (([]:List M.Op),false)else(toStr C.1).bind λav=>(uP ak.1).bind λaf=>(oD al.1).bind λah=>(toStr I.1).bind λaw=>(app 96 J ([(⟨U.1,bF C.1,af.1,ah.1,bF I.1⟩:M.Op)])).bind λax=>fV j x1 ar I.2.1 (i64.wrap (v8+1)) (J++[(⟨U.1,bF C.1,af.1,ah.1,bF I.1⟩:M.Op)])else some (([]:List M.Op),false)else some (([]:List M.Op),false)else some (([]:List M.Op),false)else some (([]:List M.Op),false)else(uR J).bind λao=>(lJ ao j).bind λaq=>if !aq then some (([]:List M.Op),false)else some (J,true)
def uE(j:List Int):Option ((List M.Op)×Bool):=
 (fJ j 0).bind λx1=>if !x1.2.2 then some (([]:List M.Op),false)else if decide (x1.1>6)then some (([]:List M.Op),false)else fV j x1 fuel x1.2.1 0 ([]:List M.Op)
def yN(C:M.aJt)(j:M.Key):Option Bool:=
 some ((C.Key.aJz==j.aJz)&&((C.Key.N==j.N)&&(C.Key.aKA.toList==j.aKA.toList)))
def dY(C:List M.aJt)(I:M.aJt->Option Bool):Nat->Int->Option Int
 |0,_=>none
 |J+1,j=>if decide (j<(List.length C:Int))then(idx C j).bind λx7=>(I x7).bind λU=>if U then some j else dY C I J (i64.wrap (j+1))else some (-1)
def iO(j:List M.aJt)(C:M.aJt->Option Bool):Option Int:=
 dY j C fuel 0
def kI(j:M.aD)(C:M.Key):Option Int:=
 (iO j.aJm (λI=>yN I C)).bind λx1=>some x1
def oC(p0:M.aD)(I:M.Key)(p2:M.aC)(C:M.aD):Nat->Int->Option (M.aD×Bool)
 |0,_=>none
 |av+1,j=>if decide (j<(List.length C.aJm:Int))then(idx C.aJm j).bind λaw=>(eF aw.Key I).bind λax=>if decide (ax<0)then oC p0 I p2 C av (i64.wrap (j+1))else(bQ p2).bind λJ=>(KO 56 C.aJm j ([(⟨I,J⟩:M.aJt)])).bind λbl=>if I.aJz==1 then if decide (I.N>C.aKG)then if decide (I.N<=1000000)then(bT (⟨C.Name,List.take j.toNat C.aJm++([(⟨I,J⟩:M.aJt)]++List.drop j.toNat C.aJm),I.N⟩:M.aD)).bind λay=>if !ay then(aZ p0).bind λaz=>some (az,false)else some ((⟨C.Name,List.take j.toNat C.aJm++([(⟨I,J⟩:M.aJt)]++List.drop j.toNat C.aJm),I.N⟩:M.aD),true)else(bT (⟨C.Name,List.take j.toNat C.aJm++([(⟨I,J⟩:M.aJt)]++List.drop j.toNat C.aJm),C.aKG⟩:M.aD)).bind λba=>if !ba then(aZ p0).bind λbd=>some (bd,false)else some ((⟨C.Name,List.take j.toNat C.aJm++([(⟨I,J⟩:M.aJt)]++List.drop j.toNat C.aJm),C.aKG⟩:M.aD),true)else(bT (⟨C.Name,List.take j.toNat C.aJm++([(⟨I,J⟩:M.aJt)]++List.drop j.toNat C.aJm),C.aKG⟩:M.aD)).bind λbf=>if !bf then(aZ p0).bind λbg=>some (bg,false)else some ((⟨C.Name,List.take j.toNat C.aJm++([(⟨I,J⟩:M.aJt)]++List.drop j.toNat C.aJm),C.aKG⟩:M.aD),true)else(bT (⟨C.Name,List.take j.toNat C.aJm++([(⟨I,J⟩:M.aJt)]++List.drop j.toNat C.aJm),C.aKG⟩:M.aD)).bind λbh=>if !bh then(aZ p0).bind λbj=>some (bj,false)else some ((⟨C.Name,List.take j.toNat C.aJm++([(⟨I,J⟩:M.aJt)]++List.drop j.toNat C.aJm),C.aKG⟩:M.aD),true)else(bQ p2).bind λU=>(KO 56 C.aJm j ([(⟨I,U⟩:M.aJt)])).bind λbm=>if I.aJz==1 then if decide (I.N>C.aKG)then if decide (I.N<=1000000)then(bT (⟨C.Name,List.take j.toNat C.aJm++([(⟨I,U⟩:M.aJt)]++List.drop j.toNat C.aJm),I.N⟩:M.aD)).bind λah=>if !ah then(aZ p0).bind λai=>some (ai,false)else some ((⟨C.Name,List.take j.toNat C.aJm++([(⟨I,U⟩:M.aJt)]++List.drop j.toNat C.aJm),I.N⟩:M.aD),true)else(bT (⟨C.Name,List.take j.toNat C.aJm++([(⟨I,U⟩:M.aJt)]++List.drop j.toNat C.aJm),C.aKG⟩:M.aD)).bind λaj=>if !aj then(aZ p0).bind λak=>some (ak,false)else some ((⟨C.Name,List.take j.toNat C.aJm++([(⟨I,U⟩:M.aJt)]++List.drop j.toNat C.aJm),C.aKG⟩:M.aD),true)else(bT (⟨C.Name,List.take j.toNat C.aJm++([(⟨I,U⟩:M.aJt)]++List.drop j.toNat C.aJm),C.aKG⟩:M.aD)).bind λal=>if !al then(aZ p0).bind λao=>some (ao,false)else some ((⟨C.Name,List.take j.toNat C.aJm++([(⟨I,U⟩:M.aJt)]++List.drop j.toNat C.aJm),C.aKG⟩:M.aD),true)else(bT (⟨C.Name,List.take j.toNat C.aJm++([(⟨I,U⟩:M.aJt)]++List.drop j.toNat C.aJm),C.aKG⟩:M.aD)).bind λaq=>if !aq then(aZ p0).bind λar=>some (ar,false)else some ((⟨C.Name,List.take j.toNat C.aJm++([(⟨I,U⟩:M.aJt)]++List.drop j.toNat C.aJm),C.aKG⟩:M.aD),true)
def iJ(C:M.aD)(J:M.Key)(p2:M.aC):Option (M.aD×Bool):=
 (bT C).bind λx1=>if !x1 then(aZ C).bind λx4=>some (x4,false)else(gX J).bind λx6=>if !x6 then(aZ C).bind λx9=>some (x9,false)else(aZ C).bind λj=>(kI C J).bind λI=>if decide (I>=0)then(bQ p2).bind λU=>(idx j.aJm I).bind λah=>(bT (⟨j.Name,List.set j.aJm I.toNat (⟨ah.Key,U⟩:M.aJt),j.aKG⟩:M.aD)).bind λai=>if !ai then(aZ C).bind λaj=>some (aj,false)else some ((⟨j.Name,List.set j.aJm I.toNat (⟨ah.Key,U⟩:M.aJt),j.aKG⟩:M.aD),true)else oC C J p2 j fuel 0
def CN(j:M.aD)(C:M.Key)(I:M.aC):Option (M.aD×Bool):=
 (kI j C).bind λx1=>if decide (x1>=0)then(aZ j).bind λx4=>some (x4,false)else(iJ j C I).bind λx6=>some (x6.1,x6.2)
def zU(C:M.Key)(j:M.dF):Option Bool:=
 (gX C).bind λx1=>if !x1 then some false else if j.aKg then(gX j.Low).bind λx5=>if !x5 then some false else if j.aKV then(gX j.aKZ).bind λx9=>if !x9 then some false else(eF C j.Low).bind λI=>if !(decide (I<0))then(eF C j.aKZ).bind λJ=>some (!(decide (J>0)))else some false else(eF C j.Low).bind λU=>if !(decide (U<0))then some true else some false else if j.aKV then(gX j.aKZ).bind λah=>if !ah then some false else(eF C j.aKZ).bind λai=>some (!(decide (ai>0)))else some true
def iY(C:M.aJt)(j:M.dF):Option Bool:=
 (zU C.Key j).bind λx1=>some x1
def eI(J:M.aD)(U:M.dF)(x1:M.aD):Nat->Int->Int->List M.aJt->Option (M.aD×Int)
 |0,_,_,_=>none
 |aa+1,C,I,j=>if decide (I<(List.length j:Int))then(idx j I).bind λae=>(iY ae U).bind λaf=>if !af then(idx j C).bind λah=>eI J U x1 aa (i64.wrap (C+1)) (i64.wrap (I+1)) (List.set j C.toNat ae)else eI J U x1 aa C (i64.wrap (I+1)) j else(Ea j C).bind λai=>some ((⟨x1.Name,List.take C.toNat j,x1.aKG⟩:M.aD),i64.wrap ((List.length J.aJm:Int)-(List.length (List.take C.toNat j):Int)))
def pM(j:M.aD)(I:M.dF):Option (M.aD×Int):=
 (aZ j).bind λx1=>(bT j).bind λx3=>if !x3 then some (x1,0)else(iO x1.aJm (λJ=>iY J I)).bind λC=>if C==(-1)then some (x1,i64.wrap ((List.length j.aJm:Int)-(List.length x1.aJm:Int)))else eI j I x1 fuel C (i64.wrap (C+1)) x1.aJm
def mP(I:M.aC)(C:ByteArray)(J:Int)(x1:M.aC):Nat->Int->Option (M.aC×Bool)
 |0,_=>none
 |U+1,j=>if decide (j<(List.length x1.aJq:Int))then(idx x1.aJq j).bind λae=>if Op.bytesLess ae.Name.toList C.toList then mP I C J x1 U (i64.wrap (j+1))else(KO 24 x1.aJq j ([(⟨C,J⟩:M.Field)])).bind λar=>(cK I).bind λaf=>if !af then(bQ I).bind λah=>some (ah,false)else(cK (⟨List.take j.toNat x1.aJq++([(⟨C,J⟩:M.Field)]++List.drop j.toNat x1.aJq)⟩:M.aC)).bind λai=>if !ai then(bQ I).bind λaj=>some (aj,false)else some ((⟨List.take j.toNat x1.aJq++([(⟨C,J⟩:M.Field)]++List.drop j.toNat x1.aJq)⟩:M.aC),true)else(KO 24 x1.aJq j ([(⟨C,J⟩:M.Field)])).bind λav=>(cK I).bind λak=>if !ak then(bQ I).bind λal=>some (al,false)else(cK (⟨List.take j.toNat x1.aJq++([(⟨C,J⟩:M.Field)]++List.drop j.toNat x1.aJq)⟩:M.aC)).bind λao=>if !ao then(bQ I).bind λaq=>some (aq,false)else some ((⟨List.take j.toNat x1.aJq++([(⟨C,J⟩:M.Field)]++List.drop j.toNat x1.aJq)⟩:M.aC),true)
def mH(j:M.aC)(I:ByteArray)(C:Int):Option (M.aC×Bool):=
 (bQ j).bind λx1=>(AS j I).bind λx3=>if decide (x3>=0)then(idx x1.aJq x3).bind λx6=>(cK j).bind λJ=>if !J then(bQ j).bind λU=>some (U,false)else(cK (⟨List.set x1.aJq x3.toNat (⟨x6.Name,C⟩:M.Field)⟩:M.aC)).bind λaf=>if !af then(bQ j).bind λah=>some (ah,false)else some ((⟨List.set x1.aJq x3.toNat (⟨x6.Name,C⟩:M.Field)⟩:M.aC),true)else mP j I C x1 fuel 0
def Ga(C:M.aD)(j:M.Op):Option (M.aD×Int×Bool):=
 (kI C j.Key).bind λx1=>if j.aJz==1 then(iJ C j.Key j.aC).bind λx4=>some (x4.1,1,x4.2)else if j.aJz==2 then(CN C j.Key j.aC).bind λx7=>some (x7.1,1,x7.2)else if j.aJz==3 then(pM C (⟨true,true,j.Key,j.Key⟩:M.dF)).bind λI=>some (I.1,I.2,true)else if j.aJz==5 then(pM C (⟨false,false,(⟨0,0,(⟨#[]⟩:ByteArray)⟩:M.Key),(⟨0,0,(⟨#[]⟩:ByteArray)⟩:M.Key)⟩:M.dF)).bind λJ=>some (J.1,J.2,true)else if j.aJz==4 then if decide (x1<0)then some (C,-1,true)else(idx C.aJm x1).bind λaq=>some (C,(List.length aq.aC.aJq:Int),true)else if decide (x1>=0)then(idx C.aJm x1).bind λU=>(gB U.aC j.Field).bind λah=>(mH U.aC j.Field (i64.wrap (ah.1+1))).bind λai=>if !ai.2 then some (C,0,false)else(iJ C j.Key ai.1).bind λaj=>some (aj.1,i64.wrap (ah.1+1),aj.2)else(gB (⟨([]:List M.Field)⟩:M.aC) j.Field).bind λak=>(mH (⟨([]:List M.Field)⟩:M.aC) j.Field (i64.wrap (ak.1+1))).bind λal=>if !al.2 then some (C,0,false)else(iJ C j.Key al.1).bind λao=>some (ao.1,i64.wrap (ak.1+1),ao.2)
def Dp(j:M.aJj)(I:M.Op):Option (M.aJj×Int×Bool):=
 (dO j).bind λx1=>(nH j I.aD).bind λx3=>(lL j).bind λx5=>if !x5 then some (x1,0,false)else(Ep I).bind λx8=>if !x8 then some (x1,0,false)else if decide (x3<0)then some (x1,0,false)else(idx x1.aJw x3).bind λJ=>(Ga J I).bind λC=>if !C.2.2 then(dO j).bind λU=>some (U,0,false)else(lL (⟨x1.Name,x1.aJl,List.set x1.aJw x3.toNat C.1,x1.aJ5⟩:M.aJj)).bind λah=>if !ah then(dO j).bind λai=>some (ai,0,false)else some ((⟨x1.Name,x1.aJl,List.set x1.aJw x3.toNat C.1,x1.aJ5⟩:M.aJj),C.2.1,true)
def rA(p0:M.aJj)(J:List M.Op):Nat->Int->ByteArray->Int->List Int->List M.aD->List M.aG->Option (M.aJj×(List Int)×Bool)
 |0,_,_,_,_,_,_=>none
 |al+1,C,U,af,I,ah,ai=>if decide (C<(List.length J:Int))then(idx J C).bind λao=>(Dp (⟨U,af,ah,ai⟩:M.aJj) ao).bind λj=>if !j.2.2 then(dO p0).bind λaq=>some (aq,([]:List Int),false)else(app 8 I ([j.2.1])).bind λar=>rA p0 J al (i64.wrap (C+1)) j.1.Name j.1.aJl (I++[j.2.1]) j.1.aJw j.1.aJ5 else some ((⟨U,af,ah,ai⟩:M.aJj),I,true)
def yV(j:M.aJj)(C:List M.Op):Option (M.aJj×(List Int)×Bool):=
 (dO j).bind λx1=>(lL j).bind λI=>if !I then some (x1,([]:List Int),false)else if decide ((List.length C:Int)>6)then some (x1,([]:List Int),false)else rA j C fuel 0 x1.Name x1.aJl ([]:List Int) x1.aJw x1.aJ5
def mO(x3:((List (List Int))×Int)):Nat->Int->ByteArray->Int->List M.aD->List M.aG->Option (M.aJj×Int)
 |0,_,_,_,_,_=>none
 |al+1,j,I,J,U,ah=>if decide (j<(List.length x3.1:Int))then(idx x3.1 j).bind λao=>(uE ao).bind λak=>if !ak.2 then some ((⟨I,J,U,ah⟩:M.aJj),j)else(yV (⟨I,J,U,ah⟩:M.aJj) ak.1).bind λC=>mO x3 al (i64.wrap (j+1)) C.1.Name C.1.aJl C.1.aJw C.1.aJ5 else some ((⟨I,J,U,ah⟩:M.aJj),(List.length x3.1:Int))
def sN(j:M.bL):Option (M.aJj×Int):=
 (dO j.aJ8).bind λx1=>(CG j.Log).bind λx3=>mO x3 fuel 0 x1.Name x1.aJl x1.aJw x1.aJ5
def nI(j:Int):Option M.Key:=
 some (⟨1,j,(⟨#[]⟩:ByteArray)⟩:M.Key)
def Ca(C:M.aJj)(J:Int):Option (M.aC×Bool×Bool):=
 (nH C (⟨#[110,111,116,101,115]⟩:ByteArray)).bind λx1=>if decide (x1<0)then some ((⟨([]:List M.Field)⟩:M.aC),false,false)else(idx C.aJw x1).bind λx4=>(nI J).bind λx9=>(kI x4 x9).bind λj=>if decide (j<0)then some ((⟨([]:List M.Field)⟩:M.aC),false,true)else(idx x4.aJm j).bind λI=>some (I.aC,true,true)
def BC(C:M.World)(j:M.bD)(I:Int)(J:ByteArray):Option Int:=
 (kJ C j.aJr j.Top).bind λx1=>if !x1.2 then some (-1)else(sN x1.1.bL).bind λx4=>(Ca x4.1 I).bind λx6=>(gB x6.1 J).bind λx8=>if !x8.2 then some (-1)else some (if 1000<x8.1 then 1000 else x8.1)
def Ac(j:List Int)(C:Int)(I:List Int):Option ((List Int)×Bool):=
 (gQ j I).bind λx1=>(yH C I).bind λx3=>(cF x1 x3).bind λx5=>if decide (C<0)then(dL j).bind λx8=>some (x8,false)else if decide ((List.length x5:Int)>4000)then(dL j).bind λJ=>some (J,false)else some (x5,true)
def xX(j:M.bL)(C:List M.Op):Option (M.bL×Bool):=
 (xH j).bind λx1=>(sN j).bind λx3=>(yV x3.1 C).bind λx5=>(uR C).bind λx7=>(Ac j.Log j.aKR x7).bind λx9=>if !x5.2.2 then some (x1,false)else if(List.length x7:Int)==0 then some (x1,false)else if !x9.2 then some (x1,false)else if j.aKR !=x3.2 then some (x1,false)else some ((⟨x1.aJ8,x9.1,i64.wrap (x1.aKR+1)⟩:M.bL),true)
def nC(j:M.aJi)(C:M.aJi):Option (M.aJi×Bool):=
 (pD j).bind λx1=>if !x1 then(eC j).bind λx4=>some (x4,false)else(pD C).bind λx6=>if !x6 then(eC j).bind λx9=>some (x9,false)else(eC C).bind λI=>some (I,true)
def uY(j:M.aJi)(C:M.bL):Option (M.aJi×Bool):=
 (nC j (⟨j.aJr,j.Top,j.aJk,j.aJs,C,j.aE,j.aKC,j.aKB⟩:M.aJi)).bind λx1=>some (x1.1,x1.2)
def kY(C:M.aA)(I:M.aJi)(x1:M.aA):Nat->Int->Option (M.aA×Bool)
 |0,_=>none
 |af+1,j=>if decide (j<(List.length x1.aJp:Int))then(idx x1.aJp j).bind λah=>(oO ah I).bind λai=>if ai then kY C I x1 af (i64.wrap (j+1))else(eC I).bind λJ=>(KO 328 x1.aJp j ([J])).bind λax=>(cR C).bind λaj=>if !aj then(cN C).bind λak=>some (ak,false)else(cR (⟨List.take j.toNat x1.aJp++([J]++List.drop j.toNat x1.aJp)⟩:M.aA)).bind λal=>if !al then(cN C).bind λao=>some (ao,false)else some ((⟨List.take j.toNat x1.aJp++([J]++List.drop j.toNat x1.aJp)⟩:M.aA),true)else(eC I).bind λU=>(KO 328 x1.aJp j ([U])).bind λay=>(cR C).bind λaq=>if !aq then(cN C).bind λar=>some (ar,false)else(cR (⟨List.take j.toNat x1.aJp++([U]++List.drop j.toNat x1.aJp)⟩:M.aA)).bind λav=>if !av then(cN C).bind λaw=>some (aw,false)else some ((⟨List.take j.toNat x1.aJp++([U]++List.drop j.toNat x1.aJp)⟩:M.aA),true)
def tP(j:M.aA)(C:M.aJi):Option (M.aA×Bool):=
 (cN j).bind λx1=>(lN j C.aJr C.Top).bind λx3=>if decide (x3>=0)then(eC C).bind λx6=>(idx x1.aJp x3).bind λx8=>(cR j).bind λI=>if !I then(cN j).bind λJ=>some (J,false)else(cR (⟨List.set x1.aJp x3.toNat x6⟩:M.aA)).bind λU=>if !U then(cN j).bind λah=>some (ah,false)else some ((⟨List.set x1.aJp x3.toNat x6⟩:M.aA),true)else kY j C x1 fuel 0
def zO(j:M.World)(p1:M.bD)(p2:Int)(p3:ByteArray)(p4:Int):Option (M.World×Bool):=
 (nJ j).bind λx1=>(kJ j p1.aJr p1.Top).bind λx3=>if !x3.2 then some (x1,false)else(sN x3.1.bL).bind λx6=>(Ca x6.1 p2).bind λx8=>(mH x8.1 p3 p4).bind λC=>if !x8.2.2 then some (x1,false)else if !C.2 then some (x1,false)else(nI p2).bind λai=>(xX x3.1.bL ([(⟨1,(⟨#[110,111,116,101,115]⟩:ByteArray),ai,C.1,(⟨#[]⟩:ByteArray)⟩:M.Op)])).bind λI=>(uY x3.1 I.1).bind λJ=>(tP j.aA J.1).bind λU=>if !I.2 then some (x1,false)else if !J.2 then some (x1,false)else if !U.2 then some (x1,false)else some ((⟨x1.Now,x1.aKF,x1.aJy,U.1,x1.aJ2,x1.aJ4,x1.aJ3,x1.aJu,x1.aKE,x1.aJ6⟩:M.World),true)
def tA(j:M.aM)(C:M.Key)(I:ByteArray)(J:Int):Option (M.aM×Bool):=
 (mB j).bind λx1=>(app 72 x1.aJ9 ([(⟨j.aJy,j.aKU,C,I,J⟩:M.aY)])).bind λx3=>(sS j).bind λU=>if !U then(mB j).bind λae=>some (ae,false)else(sS (⟨x1.aJy,i64.wrap (x1.aKU+1),x1.aJ9++[(⟨j.aJy,j.aKU,C,I,J⟩:M.aY)]⟩:M.aM)).bind λaf=>if !af then(mB j).bind λah=>some (ah,false)else some ((⟨x1.aJy,i64.wrap (x1.aKU+1),x1.aJ9++[(⟨j.aJy,j.aKU,C,I,J⟩:M.aY)]⟩:M.aM),true)
def oP(C:M.aD)(j:M.aY):Option (M.aD×Bool):=
 (kI C j.Key).bind λx1=>if decide (x1>=0)then(idx C.aJm x1).bind λx4=>(mH x4.aC j.Field j.N).bind λx9=>if !x9.2 then(aZ C).bind λah=>some (ah,false)else(iJ C j.Key x9.1).bind λI=>some (I.1,I.2)else(mH (⟨([]:List M.Field)⟩:M.aC) j.Field j.N).bind λJ=>if !J.2 then(aZ C).bind λai=>some (ai,false)else(iJ C j.Key J.1).bind λU=>some (U.1,U.2)
def oH(I:List M.aY):Nat->Int->ByteArray->Int->List M.aJt->Option M.aD
 |0,_,_,_,_=>none
 |aj+1,j,U,af,J=>if decide (j<(List.length I:Int))then(idx I j).bind λak=>(oP (⟨U,J,af⟩:M.aD) ak).bind λC=>oH I aj (i64.wrap (j+1)) C.1.Name C.1.aKG C.1.aJm else some (⟨U,J,af⟩:M.aD)
def CM(j:M.aD)(C:List M.aY):Option M.aD:=
 (aZ j).bind λx1=>oH C fuel 0 x1.Name x1.aKG x1.aJm
def B3(j:M.aE):Option M.aD:=
 (CM j.aJ8 j.aJ7.aM.aJ9).bind λx1=>some x1
def wT(j:M.aE)(C:M.Key)(I:ByteArray)(J:Int):Option (M.aE×Bool):=
 (pU j).bind λx1=>(tA j.aJ7.aM C I J).bind λx3=>(B3 j).bind λx5=>(oP x5 (⟨j.aJ7.aM.aJy,j.aJ7.aM.aKU,C,I,J⟩:M.aY)).bind λx7=>(uN j).bind λx9=>if !x9 then some (x1,false)else if !x3.2 then some (x1,false)else if !x7.2 then some (x1,false)else some ((⟨x1.aJ8,x1.aKe,(⟨x3.1,x1.aJ7.aKX,x1.aJ7.aKL⟩:M.aJ7)⟩:M.aE),true)
def pC(j:M.aJi)(C:M.aE):Option (M.aJi×Bool):=
 (nC j (⟨j.aJr,j.Top,j.aJk,j.aJs,j.bL,C,j.aKC,j.aKB⟩:M.aJi)).bind λx1=>some (x1.1,x1.2)
def Bd(j:M.World)(J:M.bD)(U:Int)(p3:ByteArray)(p4:Int):Option (M.World×Bool):=
 (nJ j).bind λx1=>(kJ j J.aJr J.Top).bind λx3=>if !x3.2 then some (x1,false)else(nI U).bind λx6=>(wT x3.1.aE x6 p3 p4).bind λx8=>(pC x3.1 x8.1).bind λC=>(tP j.aA C.1).bind λI=>if !x8.2 then some (x1,false)else if !C.2 then some (x1,false)else if !I.2 then some (x1,false)else some ((⟨x1.Now,x1.aKF,x1.aJy,I.1,x1.aJ2,x1.aJ4,x1.aJ3,x1.aJu,x1.aKE,x1.aJ6⟩:M.World),true)
def hJ(U:M.World)(p1:Int):Option (M.World×Int):=
 (nJ U).bind λx1=>(Ap U p1).bind λx3=>(Aw U).bind λx5=>if !x5 then some (x1,-1)else if decide (x3<0)then some (x1,-1)else(idx U.aJ2 x3).bind λx9=>(iC x9).bind λC=>(cY C.aJn).bind λj=>if j.2.aJz==1 then(BG U C j.2.aKA).bind λaj=>(BA C j.2.aKA aj).bind λai=>(nD j.1 j.2.R aj.aKS).bind λak=>(idx x1.aJ2 x3).bind λav=>some ((⟨x1.Now,x1.aKF,x1.aJy,x1.aA,List.set x1.aJ2 x3.toNat (⟨ai.1.Id,ai.1.aJr,ai.1.Top,ai.1.aJl,ai.1.aJ,ak.1⟩:M.bD),x1.aJ4,x1.aJ3,x1.aJu,x1.aKE,x1.aJ6⟩:M.World),j.2.aJz)else if j.2.aJz==2 then(BC U C j.2.N j.2.aKA).bind λal=>(nD j.1 j.2.R al).bind λao=>(idx x1.aJ2 x3).bind λaw=>some ((⟨x1.Now,x1.aKF,x1.aJy,x1.aA,List.set x1.aJ2 x3.toNat (⟨C.Id,C.aJr,C.Top,C.aJl,C.aJ,ao.1⟩:M.bD),x1.aJ4,x1.aJ3,x1.aJu,x1.aKE,x1.aJ6⟩:M.World),j.2.aJz)else if j.2.aJz==3 then(zO x1 C j.2.N j.2.aKA (if j.2.Value>0 then j.2.Value else 0)).bind λI=>(idx I.1.aJ2 x3).bind λax=>some ((⟨I.1.Now,I.1.aKF,I.1.aJy,I.1.aA,List.set I.1.aJ2 x3.toNat (⟨C.Id,C.aJr,C.Top,C.aJl,C.aJ,j.1⟩:M.bD),I.1.aJ4,I.1.aJ3,I.1.aJu,I.1.aKE,I.1.aJ6⟩:M.World),j.2.aJz)else if j.2.aJz==4 then(Bd x1 C j.2.N j.2.aKA (if j.2.Value>0 then j.2.Value else 0)).bind λJ=>(idx J.1.aJ2 x3).bind λaq=>some ((⟨J.1.Now,J.1.aKF,J.1.aJy,J.1.aA,List.set J.1.aJ2 x3.toNat (⟨C.Id,C.aJr,C.Top,C.aJl,C.aJ,j.1⟩:M.bD),J.1.aJ4,J.1.aJ3,J.1.aJu,J.1.aKE,J.1.aJ6⟩:M.World),j.2.aJz)else(idx x1.aJ2 x3).bind λar=>some ((⟨x1.Now,x1.aKF,x1.aJy,x1.aA,List.set x1.aJ2 x3.toNat (⟨C.Id,C.aJr,C.Top,C.aJl,C.aJ,j.1⟩:M.bD),x1.aJ4,x1.aJ3,x1.aJu,x1.aKE,x1.aJ6⟩:M.World),j.2.aJz)
def gC(p1:Int):Nat->Int->Int->Bool->Int->Int->List M.aJi->List M.bD->List M.eO->List M.iU->List M.aJr->List M.aJv->Option M.World
 |0,_,_,_,_,_,_,_,_,_,_,_=>none
 |av+1,v6,al,ao,aq,ar,C,I,J,U,ai,aj=>if decide (v6<60)then(hJ (⟨al,ao,aq,(⟨C⟩:M.aA),I,ar,(⟨J⟩:M.aP),(⟨U⟩:M.aJu),ai,aj⟩:M.World) p1).bind λj=>gC p1 av (i64.wrap (v6+1)) j.1.Now j.1.aKF j.1.aJy j.1.aJ4 j.1.aA.aJp j.1.aJ2 j.1.aJ3.aJ3 j.1.aJu.aKM j.1.aKE j.1.aJ6 else some (⟨al,ao,aq,(⟨C⟩:M.aA),I,ar,(⟨J⟩:M.aP),(⟨U⟩:M.aJu),ai,aj⟩:M.World)
def AQ(j:M.World)(C:Int):Option M.World:=
 (nJ j).bind λx1=>gC C fuel 0 x1.Now x1.aKF x1.aJy x1.aJ4 x1.aA.aJp x1.aJ2 x1.aJ3.aJ3 x1.aJu.aKM x1.aKE x1.aJ6
def pK(j:M.aJk)(C:M.aJk):Option Bool:=
 if !(j.aJr.toList==C.aJr.toList)then some false else if j.aKI !=C.aKI then some false else if j.aKN !=C.aKN then some false else if j.aKT !=C.aKT then some false else some true
def sC(C:List Int)(I:List Int):Nat->Int->Option Bool
 |0,_=>none
 |J+1,j=>if decide (j<(List.length C:Int))then(idx C j).bind λx7=>(idx I j).bind λU=>if x7 !=U then some false else sC C I J (i64.wrap (j+1))else some true
def AH(j:List Int)(C:List Int):Option Bool:=
 if(List.length j:Int) !=(List.length C:Int)then some false else sC j C fuel 0
def yD(j:M.aJo)(C:M.aJo):Option Bool:=
 if j.aKc !=C.aKc then some false else if j.aKS !=C.aKS then some false else if j.aJl !=C.aJl then some false else(AH j.aKa C.aKa).bind λx4=>if !x4 then some false else if !(j.aKh==C.aKh)then some false else some true
def xR(j:M.aJx)(C:M.aJx):Option Bool:=
 if !(j.aJr.toList==C.aJr.toList)then some false else if !(j.aKP.toList==C.aKP.toList)then some false else(yD j.aJo C.aJo).bind λx3=>if !x3 then some false else some true
def C2:=eqS xR
def AR(j:M.aJ0)(C:M.aJ0):Option Bool:=
 if j.aJl !=C.aJl then some false else(C2 j.aJ1 C.aJ1).bind λx2=>if !x2 then some false else some true
def DX:=eqS AR
def xT(j:M.aO)(C:M.aO):Option Bool:=
 (DX j.aJs C.aJs).bind λx1=>if !x1 then some false else some true
def Ds(j:M.Key)(C:M.Key):Option Bool:=
 if j.aJz !=C.aJz then some false else if j.N !=C.N then some false else if !(j.aKA.toList==C.aKA.toList)then some false else some true
def Av(j:M.Field)(C:M.Field):Option Bool:=
 if !(j.Name.toList==C.Name.toList)then some false else if j.N !=C.N then some false else some true
def D3:=eqS Av
def Bx(j:M.aC)(C:M.aC):Option Bool:=
 (D3 j.aJq C.aJq).bind λx1=>if !x1 then some false else some true
def BL(j:M.aJt)(C:M.aJt):Option Bool:=
 (Ds j.Key C.Key).bind λx1=>if !x1 then some false else(Bx j.aC C.aC).bind λx4=>if !x4 then some false else some true
def ER:=eqS BL
def rU(j:M.aD)(C:M.aD):Option Bool:=
 if !(j.Name.toList==C.Name.toList)then some false else(ER j.aJm C.aJm).bind λx2=>if !x2 then some false else if j.aKG !=C.aKG then some false else some true
def DD:=eqS rU
def sH(j:M.aG)(C:M.aG):Option Bool:=
 if !(j.aD.toList==C.aD.toList)then some false else if !(j.Field.toList==C.Field.toList)then some false else some true
def AY:=eqS sH
def yM(j:M.aJj)(C:M.aJj):Option Bool:=
 if !(j.Name.toList==C.Name.toList)then some false else if j.aJl !=C.aJl then some false else(DD j.aJw C.aJw).bind λx3=>if !x3 then some false else(AY j.aJ5 C.aJ5).bind λx6=>if !x6 then some false else some true
def D1(j:M.bL)(C:M.bL):Option Bool:=
 (yM j.aJ8 C.aJ8).bind λx1=>if !x1 then some false else(AH j.Log C.Log).bind λx4=>if !x4 then some false else if j.aKR !=C.aKR then some false else some true
def Az(j:M.aY)(C:M.aY):Option Bool:=
 if j.aJy !=C.aJy then some false else if j.Seq !=C.Seq then some false else(Ds j.Key C.Key).bind λx3=>if !x3 then some false else if !(j.Field.toList==C.Field.toList)then some false else if j.N !=C.N then some false else some true
def BF:=eqS Az
def BD(j:M.aM)(C:M.aM):Option Bool:=
 if j.aJy !=C.aJy then some false else if j.aKU !=C.aKU then some false else(BF j.aJ9 C.aJ9).bind λx3=>if !x3 then some false else some true
def DK(j:M.aJ7)(C:M.aJ7):Option Bool:=
 (BD j.aM C.aM).bind λx1=>if !x1 then some false else if j.aKX !=C.aKX then some false else if j.aKL !=C.aKL then some false else some true
def Ad(j:M.aE)(C:M.aE):Option Bool:=
 (rU j.aJ8 C.aJ8).bind λx1=>if !x1 then some false else if j.aKe !=C.aKe then some false else(DK j.aJ7 C.aJ7).bind λx5=>if !x5 then some false else some true
def xB(j:M.aJi)(C:M.aJi):Option Bool:=
 if !(j.aJr.toList==C.aJr.toList)then some false else if !(j.Top.toList==C.Top.toList)then some false else(pK j.aJk C.aJk).bind λx3=>if !x3 then some false else(xT j.aJs C.aJs).bind λx6=>if !x6 then some false else(D1 j.bL C.bL).bind λx9=>if !x9 then some false else(Ad j.aE C.aE).bind λI=>if !I then some false else if j.aKC !=C.aKC then some false else if !(j.aKB==C.aKB)then some false else some true
def Db:=eqS xB
def Ai(j:M.aA)(C:M.aA):Option Bool:=
 (Db j.aJp C.aJp).bind λx1=>if !x1 then some false else some true
def wQ(j:M.aJ)(C:M.aJ):Option Bool:=
 if !(j.aKP.toList==C.aKP.toList)then some false else if j.aJl !=C.aJl then some false else some true
def De:=eqS wQ
def As(j:M.Instr)(C:M.Instr):Option Bool:=
 if j.aJz !=C.aJz then some false else if j.R !=C.R then some false else if j.N !=C.N then some false else if !(j.aKA.toList==C.aKA.toList)then some false else some true
def DW:=eqS As
def tU(C:List Int)(I:List Int):Nat->Int->Option Bool
 |0,_=>none
 |J+1,j=>if decide (j<(List.length C:Int))then(idx C j).bind λx7=>(idx I j).bind λU=>if x7 !=U then some false else tU C I J (i64.wrap (j+1))else some true
def D2(j:List Int)(C:List Int):Option Bool:=
 if(List.length j:Int) !=(List.length C:Int)then some false else tU j C fuel 0
def zN(j:M.aJn)(C:M.aJn):Option Bool:=
 (DW j.aKD C.aKD).bind λx1=>if !x1 then some false else if j.Pc !=C.Pc then some false else(D2 j.aKQ C.aKQ).bind λx5=>if !x5 then some false else if j.aKW !=C.aKW then some false else if !(j.aKb==C.aKb)then some false else if !(j.aKY==C.aKY)then some false else some true
def BW(j:M.bD)(C:M.bD):Option Bool:=
 if j.Id !=C.Id then some false else if !(j.aJr.toList==C.aJr.toList)then some false else if !(j.Top.toList==C.Top.toList)then some false else if j.aJl !=C.aJl then some false else(De j.aJ C.aJ).bind λx5=>if !x5 then some false else(zN j.aJn C.aJn).bind λx8=>if !x8 then some false else some true
def EJ:=eqS BW
def Cc(j:M.eO)(C:M.eO):Option Bool:=
 if !(j.Name.toList==C.Name.toList)then some false else if j.bD !=C.bD then some false else if !(j.aKO==C.aKO)then some false else if !(j.aKj==C.aKj)then some false else some true
def ED:=eqS Cc
def vJ(j:M.aP)(C:M.aP):Option Bool:=
 (ED j.aJ3 C.aJ3).bind λx1=>if !x1 then some false else some true
def Cf(j:M.iU)(C:M.iU):Option Bool:=
 if j.To !=C.To then some false else if j.aKm !=C.aKm then some false else if j.N !=C.N then some false else some true
def EM:=eqS Cf
def Ab(j:M.aJu)(C:M.aJu):Option Bool:=
 (EM j.aKM C.aKM).bind λx1=>if !x1 then some false else some true
def nX(C:List ByteArray)(I:List ByteArray):Nat->Int->Option Bool
 |0,_=>none
 |J+1,j=>if decide (j<(List.length C:Int))then(idx C j).bind λx7=>(idx I j).bind λU=>if !(x7.toList==U.toList)then some false else nX C I J (i64.wrap (j+1))else some true
def Ah(j:List ByteArray)(C:List ByteArray):Option Bool:=
 if(List.length j:Int) !=(List.length C:Int)then some false else nX j C fuel 0
def BJ(j:M.aJr)(C:M.aJr):Option Bool:=
 if !(j.Name.toList==C.Name.toList)then some false else if j.aJl !=C.aJl then some false else(Ah j.aKJ C.aKJ).bind λx3=>if !x3 then some false else if !(j.aKO==C.aKO)then some false else some true
def EU:=eqS BJ
def tQ(j:M.aK)(C:M.aK):Option Bool:=
 if j.aJy !=C.aJy then some false else if j.Seq !=C.Seq then some false else some true
def BT:=eqS tQ
def xE(j:M.aJv)(C:M.aJv):Option Bool:=
 (rU j.aD C.aD).bind λx1=>if !x1 then some false else(BT j.aK C.aK).bind λx4=>if !x4 then some false else(BF j.aKH C.aKH).bind λx7=>if !x7 then some false else some true
def Da:=eqS xE
def rT(j:M.World)(C:M.World):Option Bool:=
 if j.Now !=C.Now then some false else if !(j.aKF==C.aKF)then some false else if j.aJy !=C.aJy then some false else(Ai j.aA C.aA).bind λx4=>if !x4 then some false else(EJ j.aJ2 C.aJ2).bind λx7=>if !x7 then some false else if j.aJ4 !=C.aJ4 then some false else(vJ j.aJ3 C.aJ3).bind λI=>if !I then some false else(Ab j.aJu C.aJu).bind λJ=>if !J then some false else(EU j.aKE C.aKE).bind λU=>if !U then some false else(Da j.aJ6 C.aJ6).bind λah=>if !ah then some false else some true
def pS  :Nat->Int->ByteArray->Option ByteArray
 |0,_,_=>none
 |I+1,j,C=>if decide (j>0)then(toStr ([IntKind.u8.wrap (i64.wrap (48+(Int.tmod j 10)))])).bind λx6=>(cat (bF ([IntKind.u8.wrap (i64.wrap (48+(Int.tmod j 10)))])) C).bind λx8=>pS I (i64.wrap (Int.tdiv j 10)) ((bF ([IntKind.u8.wrap (i64.wrap (48+(Int.tmod j 10)))]))++C)else(cat (⟨#[109]⟩:ByteArray) C).bind λJ=>some ((⟨#[109]⟩:ByteArray)++C)
def aN(j:Int):Option ByteArray:=
 if decide (j<=0)then some (⟨#[109,48]⟩:ByteArray)else pS fuel j (⟨#[]⟩:ByteArray)
def iB  :Nat->Int->Int->List Int->Option (List Int×Int)
 |0,_,_,_=>none
 |J+1,I,C,j=>if decide (C<(List.length j:Int))then(idx j C).bind λx8=>(some (List.set j C.toNat (IntKind.u8.wrap I))).bind λU=>iB J (i64.wrap (I+1)) (i64.wrap (C+1)) U else some (j,I)
def uM(j:List Int)(C:Int):Option (List Int×Int):=
 iB fuel C 0 j
def mA  :Nat->Int->Int->List M.aJx->Option (List M.aJx×Int)
 |0,_,_,_=>none
 |az+1,I,j,aj=>if decide (j<(List.length aj:Int))then(aN I).bind λx8=>(idx aj j).bind λal=>(some (List.set aj j.toNat (⟨x8,al.aKP,al.aJo⟩:M.aJx))).bind λao=>(aN (i64.wrap (I+1))).bind λba=>(idx ao j).bind λaq=>(some (List.set ao j.toNat (⟨aq.aJr,ba,aq.aJo⟩:M.aJx))).bind λar=>(idx ar j).bind λJ=>(some (List.set ar j.toNat (⟨J.aJr,J.aKP,(⟨i64.wrap ((i64.wrap (I+1))+1),J.aJo.aKS,J.aJo.aJl,J.aJo.aKa,J.aJo.aKh⟩:M.aJo)⟩:M.aJx))).bind λav=>(idx av j).bind λU=>(some (List.set av j.toNat (⟨U.aJr,U.aKP,(⟨U.aJo.aKc,i64.wrap ((i64.wrap ((i64.wrap (I+1))+1))+1),U.aJo.aJl,U.aJo.aKa,U.aJo.aKh⟩:M.aJo)⟩:M.aJx))).bind λaw=>(idx aw j).bind λah=>(some (List.set aw j.toNat (⟨ah.aJr,ah.aKP,(⟨ah.aJo.aKc,ah.aJo.aKS,i64.wrap ((i64.wrap ((i64.wrap ((i64.wrap (I+1))+1))+1))+1),ah.aJo.aKa,ah.aJo.aKh⟩:M.aJo)⟩:M.aJx))).bind λax=>(idx ax j).bind λC=>(uM C.aJo.aKa (i64.wrap ((i64.wrap ((i64.wrap ((i64.wrap ((i64.wrap (I+1))+1))+1))+1))+1))).bind λak=>(some (List.set ax j.toNat (⟨C.aJr,C.aKP,(⟨C.aJo.aKc,C.aJo.aKS,C.aJo.aJl,ak.1,C.aJo.aKh⟩:M.aJo)⟩:M.aJx))).bind λay=>(idx ay j).bind λai=>(some (List.set ay j.toNat (⟨ai.aJr,ai.aKP,(⟨ai.aJo.aKc,ai.aJo.aKS,ai.aJo.aJl,ai.aJo.aKa,(Int.tmod ak.2 3)==0⟩:M.aJo)⟩:M.aJx))).bind λbd=>mA az (i64.wrap (ak.2+1)) (i64.wrap (j+1)) bd else some (aj,I)
def AW(j:List M.aJx)(C:Int):Option (List M.aJx×Int):=
 mA fuel C 0 j
def nE  :Nat->Int->Int->List M.aJ0->Option (List M.aJ0×Int)
 |0,_,_,_=>none
 |ai+1,I,j,C=>if decide (j<(List.length C:Int))then(idx C j).bind λx8=>(some (List.set C j.toNat (⟨I,x8.aJ1⟩:M.aJ0))).bind λJ=>(idx J j).bind λU=>(AW U.aJ1 (i64.wrap (I+1))).bind λah=>(some (List.set J j.toNat (⟨U.aJl,ah.1⟩:M.aJ0))).bind λaj=>nE ai ah.2 (i64.wrap (j+1)) aj else some (C,I)
def Ci(j:List M.aJ0)(C:Int):Option (List M.aJ0×Int):=
 nE fuel C 0 j
def mW  :Nat->Int->Int->List M.Field->Option (List M.Field×Int)
 |0,_,_,_=>none
 |U+1,I,j,C=>if decide (j<(List.length C:Int))then(aN I).bind λx8=>(idx C j).bind λah=>(some (List.set C j.toNat (⟨x8,ah.N⟩:M.Field))).bind λJ=>(idx J j).bind λai=>(some (List.set J j.toNat (⟨ai.Name,i64.wrap (I+1)⟩:M.Field))).bind λaj=>mW U (i64.wrap ((i64.wrap (I+1))+1)) (i64.wrap (j+1)) aj else some (C,I)
def Ce(j:List M.Field)(C:Int):Option (List M.Field×Int):=
 mW fuel C 0 j
def oK  :Nat->Int->Int->List M.aJt->Option (List M.aJt×Int)
 |0,_,_,_=>none
 |ao+1,C,j,I=>if decide (j<(List.length I:Int))then(idx I j).bind λx8=>(some (List.set I j.toNat (⟨(⟨C,x8.Key.N,x8.Key.aKA⟩:M.Key),x8.aC⟩:M.aJt))).bind λah=>(idx ah j).bind λJ=>(some (List.set ah j.toNat (⟨(⟨J.Key.aJz,i64.wrap (C+1),J.Key.aKA⟩:M.Key),J.aC⟩:M.aJt))).bind λai=>(aN (i64.wrap ((i64.wrap (C+1))+1))).bind λaq=>(idx ai j).bind λU=>(some (List.set ai j.toNat (⟨(⟨U.Key.aJz,U.Key.N,aq⟩:M.Key),U.aC⟩:M.aJt))).bind λaj=>(idx aj j).bind λak=>(Ce ak.aC.aJq (i64.wrap ((i64.wrap ((i64.wrap (C+1))+1))+1))).bind λal=>(some (List.set aj j.toNat (⟨ak.Key,(⟨al.1⟩:M.aC)⟩:M.aJt))).bind λar=>oK ao al.2 (i64.wrap (j+1)) ar else some (I,C)
def tX(j:List M.aJt)(C:Int):Option (List M.aJt×Int):=
 oK fuel C 0 j
def nB  :Nat->Int->Int->List M.aD->Option (List M.aD×Int)
 |0,_,_,_=>none
 |al+1,U,j,C=>if decide (j<(List.length C:Int))then(aN U).bind λx8=>(idx C j).bind λah=>(some (List.set C j.toNat (⟨x8,ah.aJm,ah.aKG⟩:M.aD))).bind λai=>(idx ai j).bind λI=>(tX I.aJm (i64.wrap (U+1))).bind λJ=>(some (List.set ai j.toNat (⟨I.Name,J.1,I.aKG⟩:M.aD))).bind λaj=>(idx aj j).bind λak=>(some (List.set aj j.toNat (⟨ak.Name,ak.aJm,J.2⟩:M.aD))).bind λao=>nB al (i64.wrap (J.2+1)) (i64.wrap (j+1)) ao else some (C,U)
def BV(j:List M.aD)(C:Int):Option (List M.aD×Int):=
 nB fuel C 0 j
def iN  :Nat->Int->Int->List M.aG->Option (List M.aG×Int)
 |0,_,_,_=>none
 |U+1,I,j,C=>if decide (j<(List.length C:Int))then(aN I).bind λx8=>(idx C j).bind λah=>(some (List.set C j.toNat (⟨x8,ah.Field⟩:M.aG))).bind λJ=>(aN (i64.wrap (I+1))).bind λai=>(idx J j).bind λaj=>(some (List.set J j.toNat (⟨aj.aD,ai⟩:M.aG))).bind λak=>iN U (i64.wrap ((i64.wrap (I+1))+1)) (i64.wrap (j+1)) ak else some (C,I)
def wL(j:List M.aG)(C:Int):Option (List M.aG×Int):=
 iN fuel C 0 j
def mZ  :Nat->Int->Int->List M.aY->Option (List M.aY×Int)
 |0,_,_,_=>none
 |ax+1,C,j,ah=>if decide (j<(List.length ah:Int))then(idx ah j).bind λx8=>(some (List.set ah j.toNat (⟨C,x8.Seq,x8.Key,x8.Field,x8.N⟩:M.aY))).bind λal=>(idx al j).bind λai=>(some (List.set al j.toNat (⟨ai.aJy,i64.wrap (C+1),ai.Key,ai.Field,ai.N⟩:M.aY))).bind λao=>(idx ao j).bind λI=>(some (List.set ao j.toNat (⟨I.aJy,I.Seq,(⟨i64.wrap ((i64.wrap (C+1))+1),I.Key.N,I.Key.aKA⟩:M.Key),I.Field,I.N⟩:M.aY))).bind λaq=>(idx aq j).bind λJ=>(some (List.set aq j.toNat (⟨J.aJy,J.Seq,(⟨J.Key.aJz,i64.wrap ((i64.wrap ((i64.wrap (C+1))+1))+1),J.Key.aKA⟩:M.Key),J.Field,J.N⟩:M.aY))).bind λar=>(aN (i64.wrap ((i64.wrap ((i64.wrap ((i64.wrap (C+1))+1))+1))+1))).bind λay=>(idx ar j).bind λU=>(some (List.set ar j.toNat (⟨U.aJy,U.Seq,(⟨U.Key.aJz,U.Key.N,ay⟩:M.Key),U.Field,U.N⟩:M.aY))).bind λav=>(aN (i64.wrap ((i64.wrap ((i64.wrap ((i64.wrap ((i64.wrap (C+1))+1))+1))+1))+1))).bind λaz=>(idx av j).bind λaj=>(some (List.set av j.toNat (⟨aj.aJy,aj.Seq,aj.Key,az,aj.N⟩:M.aY))).bind λaw=>(idx aw j).bind λak=>(some (List.set aw j.toNat (⟨ak.aJy,ak.Seq,ak.Key,ak.Field,i64.wrap ((i64.wrap ((i64.wrap ((i64.wrap ((i64.wrap ((i64.wrap (C+1))+1))+1))+1))+1))+1)⟩:M.aY))).bind λba=>mZ ax (i64.wrap ((i64.wrap ((i64.wrap ((i64.wrap ((i64.wrap ((i64.wrap ((i64.wrap (C+1))+1))+1))+1))+1))+1))+1)) (i64.wrap (j+1)) ba else some (ah,C)
def xF(j:List M.aY)(C:Int):Option (List M.aY×Int):=
 mZ fuel C 0 j
def mE  :Nat->Int->Int->List M.aJi->Option (List M.aJi×Int)
 |0,_,_,_=>none
 |dx+1,v1,j,da=>if decide (j<(List.length da:Int))then(aN v1).bind λx8=>(idx da j).bind λbo=>(some (List.set da j.toNat (⟨x8,bo.Top,bo.aJk,bo.aJs,bo.bL,bo.aE,bo.aKC,bo.aKB⟩:M.aJi))).bind λdi=>(aN (i64.wrap (v1+1))).bind λdy=>(idx di j).bind λbq=>(some (List.set di j.toNat (⟨bq.aJr,dy,bq.aJk,bq.aJs,bq.bL,bq.aE,bq.aKC,bq.aKB⟩:M.aJi))).bind λdj=>(aN (i64.wrap ((i64.wrap (v1+1))+1))).bind λdz=>(idx dj j).bind λbg=>(some (List.set dj j.toNat (⟨bg.aJr,bg.Top,(⟨dz,bg.aJk.aKI,bg.aJk.aKN,bg.aJk.aKT⟩:M.aJk),bg.aJs,bg.bL,bg.aE,bg.aKC,bg.aKB⟩:M.aJi))).bind λdm=>(idx dm j).bind λbh=>(some (List.set dm j.toNat (⟨bh.aJr,bh.Top,(⟨bh.aJk.aJr,i64.wrap ((i64.wrap ((i64.wrap (v1+1))+1))+1),bh.aJk.aKN,bh.aJk.aKT⟩:M.aJk),bh.aJs,bh.bL,bh.aE,bh.aKC,bh.aKB⟩:M.aJi))).bind λdn=>(idx dn j).bind λbj=>(some (List.set dn j.toNat (⟨bj.aJr,bj.Top,(⟨bj.aJk.aJr,bj.aJk.aKI,i64.wrap ((i64.wrap ((i64.wrap ((i64.wrap (v1+1))+1))+1))+1),bj.aJk.aKT⟩:M.aJk),bj.aJs,bj.bL,bj.aE,bj.aKC,bj.aKB⟩:M.aJi))).bind λdq=>(idx dq j).bind λbl=>(some (List.set dq j.toNat (⟨bl.aJr,bl.Top,(⟨bl.aJk.aJr,bl.aJk.aKI,bl.aJk.aKN,i64.wrap ((i64.wrap ((i64.wrap ((i64.wrap ((i64.wrap (v1+1))+1))+1))+1))+1)⟩:M.aJk),bl.aJs,bl.bL,bl.aE,bl.aKC,bl.aKB⟩:M.aJi))).bind λdu=>(idx du j).bind λbn=>(Ci bn.aJs.aJs (i64.wrap ((i64.wrap ((i64.wrap ((i64.wrap ((i64.wrap ((i64.wrap (v1+1))+1))+1))+1))+1))+1))).bind λdb=>(some (List.set du j.toNat (⟨bn.aJr,bn.Top,bn.aJk,(⟨db.1⟩:M.aO),bn.bL,bn.aE,bn.aKC,bn.aKB⟩:M.aJi))).bind λdw=>(aN db.2).bind λdf=>(idx dw j).bind λaj=>(some (List.set dw j.toNat (⟨aj.aJr,aj.Top,aj.aJk,aj.aJs,(⟨(⟨df,aj.bL.aJ8.aJl,aj.bL.aJ8.aJw,aj.bL.aJ8.aJ5⟩:M.aJj),aj.bL.Log,aj.bL.aKR⟩:M.bL),aj.aE,aj.aKC,aj.aKB⟩:M.aJi))).bind λbr=>(idx br j).bind λak=>(some (List.set br j.toNat (⟨ak.aJr,ak.Top,ak.aJk,ak.aJs,(⟨(⟨ak.bL.aJ8.Name,i64.wrap (db.2+1),ak.bL.aJ8.aJw,ak.bL.aJ8.aJ5⟩:M.aJj),ak.bL.Log,ak.bL.aKR⟩:M.bL),ak.aE,ak.aKC,ak.aKB⟩:M.aJi))).bind λbt=>(idx bt j).bind λI=>(BV I.bL.aJ8.aJw (i64.wrap ((i64.wrap (db.2+1))+1))).bind λbu=>(some (List.set bt j.toNat (⟨I.aJr,I.Top,I.aJk,I.aJs,(⟨(⟨I.bL.aJ8.Name,I.bL.aJ8.aJl,bu.1,I.bL.aJ8.aJ5⟩:M.aJj),I.bL.Log,I.bL.aKR⟩:M.bL),I.aE,I.aKC,I.aKB⟩:M.aJi))).bind λbw=>(idx bw j).bind λJ=>(wL J.bL.aJ8.aJ5 bu.2).bind λbz=>(some (List.set bw j.toNat (⟨J.aJr,J.Top,J.aJk,J.aJs,(⟨(⟨J.bL.aJ8.Name,J.bL.aJ8.aJl,J.bL.aJ8.aJw,bz.1⟩:M.aJj),J.bL.Log,J.bL.aKR⟩:M.bL),J.aE,J.aKC,J.aKB⟩:M.aJi))).bind λc5=>(idx c5 j).bind λaw=>(uM aw.bL.Log bz.2).bind λbm=>(some (List.set c5 j.toNat (⟨aw.aJr,aw.Top,aw.aJk,aw.aJs,(⟨aw.bL.aJ8,bm.1,aw.bL.aKR⟩:M.bL),aw.aE,aw.aKC,aw.aKB⟩:M.aJi))).bind λca=>(idx ca j).bind λax=>(some (List.set ca j.toNat (⟨ax.aJr,ax.Top,ax.aJk,ax.aJs,(⟨ax.bL.aJ8,ax.bL.Log,bm.2⟩:M.bL),ax.aE,ax.aKC,ax.aKB⟩:M.aJi))).bind λcc=>(aN (i64.wrap (bm.2+1))).bind λdg=>(idx cc j).bind λao=>(some (List.set cc j.toNat (⟨ao.aJr,ao.Top,ao.aJk,ao.aJs,ao.bL,(⟨(⟨dg,ao.aE.aJ8.aJm,ao.aE.aJ8.aKG⟩:M.aD),ao.aE.aKe,ao.aE.aJ7⟩:M.aE),ao.aKC,ao.aKB⟩:M.aJi))).bind λcd=>(idx cd j).bind λal=>(tX al.aE.aJ8.aJm (i64.wrap ((i64.wrap (bm.2+1))+1))).bind λbd=>(some (List.set cd j.toNat (⟨al.aJr,al.Top,al.aJk,al.aJs,al.bL,(⟨(⟨al.aE.aJ8.Name,bd.1,al.aE.aJ8.aKG⟩:M.aD),al.aE.aKe,al.aE.aJ7⟩:M.aE),al.aKC,al.aKB⟩:M.aJi))).bind λcg=>(idx cg j).bind λaq=>(some (List.set cg j.toNat (⟨aq.aJr,aq.Top,aq.aJk,aq.aJs,aq.bL,(⟨(⟨aq.aE.aJ8.Name,aq.aE.aJ8.aJm,bd.2⟩:M.aD),aq.aE.aKe,aq.aE.aJ7⟩:M.aE),aq.aKC,aq.aKB⟩:M.aJi))).bind λcj=>(idx cj j).bind λay=>(some (List.set cj j.toNat (⟨ay.aJr,ay.Top,ay.aJk,ay.aJs,ay.bL,(⟨ay.aE.aJ8,i64.wrap (bd.2+1),ay.aE.aJ7⟩:M.aE),ay.aKC,ay.aKB⟩:M.aJi))).bind λck=>(idx ck j).bind λU=>(some (List.set ck j.toNat (⟨U.aJr,U.Top,U.aJk,U.aJs,U.bL,(⟨U.aE.aJ8,U.aE.aKe,(⟨(⟨i64.wrap ((i64.wrap (bd.2+1))+1),U.aE.aJ7.aM.aKU,U.aE.aJ7.aM.aJ9⟩:M.aM),U.aE.aJ7.aKX,U.aE.aJ7.aKL⟩:M.aJ7)⟩:M.aE),U.aKC,U.aKB⟩:M.aJi))).bind λcn=>(idx cn j).bind λai=>(some (List.set cn j.toNat (⟨ai.aJr,ai.Top,ai.aJk,ai.aJs,ai.bL,(⟨ai.aE.aJ8,ai.aE.aKe,(⟨(⟨ai.aE.aJ7.aM.aJy,i64.wrap ((i64.wrap ((i64.wrap (bd.2+1))+1))+1),ai.aE.aJ7.aM.aJ9⟩:M.aM),ai.aE.aJ7.aKX,ai.aE.aJ7.aKL⟩:M.aJ7)⟩:M.aE),ai.aKC,ai.aKB⟩:M.aJi))).bind λcq=>(idx cq j).bind λC=>(xF C.aE.aJ7.aM.aJ9 (i64.wrap ((i64.wrap ((i64.wrap ((i64.wrap (bd.2+1))+1))+1))+1))).bind λbf=>(some (List.set cq j.toNat (⟨C.aJr,C.Top,C.aJk,C.aJs,C.bL,(⟨C.aE.aJ8,C.aE.aKe,(⟨(⟨C.aE.aJ7.aM.aJy,C.aE.aJ7.aM.aKU,bf.1⟩:M.aM),C.aE.aJ7.aKX,C.aE.aJ7.aKL⟩:M.aJ7)⟩:M.aE),C.aKC,C.aKB⟩:M.aJi))).bind λcr=>(idx cr j).bind λar=>(some (List.set cr j.toNat (⟨ar.aJr,ar.Top,ar.aJk,ar.aJs,ar.bL,(⟨ar.aE.aJ8,ar.aE.aKe,(⟨ar.aE.aJ7.aM,bf.2,ar.aE.aJ7.aKL⟩:M.aJ7)⟩:M.aE),ar.aKC,ar.aKB⟩:M.aJi))).bind λcw=>(idx cw j).bind λav=>(some (List.set cw j.toNat (⟨av.aJr,av.Top,av.aJk,av.aJs,av.bL,(⟨av.aE.aJ8,av.aE.aKe,(⟨av.aE.aJ7.aM,av.aE.aJ7.aKX,i64.wrap (bf.2+1)⟩:M.aJ7)⟩:M.aE),av.aKC,av.aKB⟩:M.aJi))).bind λcy=>(idx cy j).bind λaz=>(some (List.set cy j.toNat (⟨az.aJr,az.Top,az.aJk,az.aJs,az.bL,az.aE,i64.wrap ((i64.wrap (bf.2+1))+1),az.aKB⟩:M.aJi))).bind λcz=>(idx cz j).bind λba=>(some (List.set cz j.toNat (⟨ba.aJr,ba.Top,ba.aJk,ba.aJs,ba.bL,ba.aE,ba.aKC,(Int.tmod (i64.wrap ((i64.wrap ((i64.wrap (bf.2+1))+1))+1)) 3)==0⟩:M.aJi))).bind λdh=>mE dx (i64.wrap ((i64.wrap ((i64.wrap ((i64.wrap (bf.2+1))+1))+1))+1)) (i64.wrap (j+1)) dh else some (da,v1)
def Ba(j:List M.aJi)(C:Int):Option (List M.aJi×Int):=
 mE fuel C 0 j
def A8(j:M.aA)(C:Int):Option (List M.aJi×Int):=
 (Ba j.aJp C).bind λx1=>some (x1.1,x1.2)
def lW  :Nat->Int->Int->List M.aJ->Option (List M.aJ×Int)
 |0,_,_,_=>none
 |U+1,I,j,C=>if decide (j<(List.length C:Int))then(aN I).bind λx8=>(idx C j).bind λah=>(some (List.set C j.toNat (⟨x8,ah.aJl⟩:M.aJ))).bind λJ=>(idx J j).bind λai=>(some (List.set J j.toNat (⟨ai.aKP,i64.wrap (I+1)⟩:M.aJ))).bind λaj=>lW U (i64.wrap ((i64.wrap (I+1))+1)) (i64.wrap (j+1)) aj else some (C,I)
def A9(j:List M.aJ)(C:Int):Option (List M.aJ×Int):=
 lW fuel C 0 j
def mV  :Nat->Int->Int->List M.Instr->Option (List M.Instr×Int)
 |0,_,_,_=>none
 |al+1,C,j,I=>if decide (j<(List.length I:Int))then(idx I j).bind λx8=>(some (List.set I j.toNat (⟨C,x8.R,x8.N,x8.aKA⟩:M.Instr))).bind λai=>(idx ai j).bind λJ=>(some (List.set ai j.toNat (⟨J.aJz,i64.wrap (C+1),J.N,J.aKA⟩:M.Instr))).bind λaj=>(idx aj j).bind λU=>(some (List.set aj j.toNat (⟨U.aJz,U.R,i64.wrap ((i64.wrap (C+1))+1),U.aKA⟩:M.Instr))).bind λak=>(aN (i64.wrap ((i64.wrap ((i64.wrap (C+1))+1))+1))).bind λao=>(idx ak j).bind λah=>(some (List.set ak j.toNat (⟨ah.aJz,ah.R,ah.N,ao⟩:M.Instr))).bind λaq=>mV al (i64.wrap ((i64.wrap ((i64.wrap ((i64.wrap (C+1))+1))+1))+1)) (i64.wrap (j+1)) aq else some (I,C)
def Cd(j:List M.Instr)(C:Int):Option (List M.Instr×Int):=
 mV fuel C 0 j
def kA  :Nat->Int->Int->List Int->Option (List Int×Int)
 |0,_,_,_=>none
 |J+1,I,C,j=>if decide (C<(List.length j:Int))then(idx j C).bind λx8=>(some (List.set j C.toNat I)).bind λU=>kA J (i64.wrap (I+1)) (i64.wrap (C+1)) U else some (j,I)
def Bq(j:List Int)(C:Int):Option (List Int×Int):=
 kA fuel C 0 j
def oE  :Nat->Int->Int->List M.bD->Option (List M.bD×Int)
 |0,_,_,_=>none
 |bo+1,v1,j,ay=>if decide (j<(List.length ay:Int))then(idx ay j).bind λx8=>(some (List.set ay j.toNat (⟨v1,x8.aJr,x8.Top,x8.aJl,x8.aJ,x8.aJn⟩:M.bD))).bind λbd=>(aN (i64.wrap (v1+1))).bind λbq=>(idx bd j).bind λao=>(some (List.set bd j.toNat (⟨ao.Id,bq,ao.Top,ao.aJl,ao.aJ,ao.aJn⟩:M.bD))).bind λbf=>(aN (i64.wrap ((i64.wrap (v1+1))+1))).bind λbr=>(idx bf j).bind λaq=>(some (List.set bf j.toNat (⟨aq.Id,aq.aJr,br,aq.aJl,aq.aJ,aq.aJn⟩:M.bD))).bind λbg=>(idx bg j).bind λar=>(some (List.set bg j.toNat (⟨ar.Id,ar.aJr,ar.Top,i64.wrap ((i64.wrap ((i64.wrap (v1+1))+1))+1),ar.aJ,ar.aJn⟩:M.bD))).bind λbh=>(idx bh j).bind λal=>(A9 al.aJ (i64.wrap ((i64.wrap ((i64.wrap ((i64.wrap (v1+1))+1))+1))+1))).bind λbj=>(some (List.set bh j.toNat (⟨al.Id,al.aJr,al.Top,al.aJl,bj.1,al.aJn⟩:M.bD))).bind λbl=>(idx bl j).bind λI=>(Cd I.aJn.aKD bj.2).bind λaz=>(some (List.set bl j.toNat (⟨I.Id,I.aJr,I.Top,I.aJl,I.aJ,(⟨az.1,I.aJn.Pc,I.aJn.aKQ,I.aJn.aKW,I.aJn.aKb,I.aJn.aKY⟩:M.aJn)⟩:M.bD))).bind λbm=>(idx bm j).bind λak=>(some (List.set bm j.toNat (⟨ak.Id,ak.aJr,ak.Top,ak.aJl,ak.aJ,(⟨ak.aJn.aKD,az.2,ak.aJn.aKQ,ak.aJn.aKW,ak.aJn.aKb,ak.aJn.aKY⟩:M.aJn)⟩:M.bD))).bind λbn=>(idx bn j).bind λC=>(Bq C.aJn.aKQ (i64.wrap (az.2+1))).bind λaj=>(some (List.set bn j.toNat (⟨C.Id,C.aJr,C.Top,C.aJl,C.aJ,(⟨C.aJn.aKD,C.aJn.Pc,aj.1,C.aJn.aKW,C.aJn.aKb,C.aJn.aKY⟩:M.aJn)⟩:M.bD))).bind λav=>(idx av j).bind λJ=>(some (List.set av j.toNat (⟨J.Id,J.aJr,J.Top,J.aJl,J.aJ,(⟨J.aJn.aKD,J.aJn.Pc,J.aJn.aKQ,aj.2,J.aJn.aKb,J.aJn.aKY⟩:M.aJn)⟩:M.bD))).bind λaw=>(idx aw j).bind λU=>(some (List.set aw j.toNat (⟨U.Id,U.aJr,U.Top,U.aJl,U.aJ,(⟨U.aJn.aKD,U.aJn.Pc,U.aJn.aKQ,U.aJn.aKW,(Int.tmod (i64.wrap (aj.2+1)) 3)==0,U.aJn.aKY⟩:M.aJn)⟩:M.bD))).bind λax=>(idx ax j).bind λah=>(some (List.set ax j.toNat (⟨ah.Id,ah.aJr,ah.Top,ah.aJl,ah.aJ,(⟨ah.aJn.aKD,ah.aJn.Pc,ah.aJn.aKQ,ah.aJn.aKW,ah.aJn.aKb,(Int.tmod (i64.wrap ((i64.wrap (aj.2+1))+1)) 3)==0⟩:M.aJn)⟩:M.bD))).bind λba=>oE bo (i64.wrap ((i64.wrap ((i64.wrap (aj.2+1))+1))+1)) (i64.wrap (j+1)) ba else some (ay,v1)
def CU(j:List M.bD)(C:Int):Option (List M.bD×Int):=
 oE fuel C 0 j
def nZ  :Nat->Int->Int->List M.eO->Option (List M.eO×Int)
 |0,_,_,_=>none
 |ao+1,C,j,I=>if decide (j<(List.length I:Int))then(aN C).bind λx8=>(idx I j).bind λJ=>(some (List.set I j.toNat (⟨x8,J.bD,J.aKO,J.aKj⟩:M.eO))).bind λaj=>(idx aj j).bind λU=>(some (List.set aj j.toNat (⟨U.Name,i64.wrap (C+1),U.aKO,U.aKj⟩:M.eO))).bind λak=>(idx ak j).bind λah=>(some (List.set ak j.toNat (⟨ah.Name,ah.bD,(Int.tmod (i64.wrap ((i64.wrap (C+1))+1)) 3)==0,ah.aKj⟩:M.eO))).bind λal=>(idx al j).bind λai=>(some (List.set al j.toNat (⟨ai.Name,ai.bD,ai.aKO,(Int.tmod (i64.wrap ((i64.wrap ((i64.wrap (C+1))+1))+1)) 3)==0⟩:M.eO))).bind λaq=>nZ ao (i64.wrap ((i64.wrap ((i64.wrap ((i64.wrap (C+1))+1))+1))+1)) (i64.wrap (j+1)) aq else some (I,C)
def C5(j:List M.eO)(C:Int):Option (List M.eO×Int):=
 nZ fuel C 0 j
def wJ(j:M.aP)(C:Int):Option (List M.eO×Int):=
 (C5 j.aJ3 C).bind λx1=>some (x1.1,x1.2)
def nT  :Nat->Int->Int->List M.iU->Option (List M.iU×Int)
 |0,_,_,_=>none
 |aj+1,C,j,I=>if decide (j<(List.length I:Int))then(idx I j).bind λx8=>(some (List.set I j.toNat (⟨C,x8.aKm,x8.N⟩:M.iU))).bind λJ=>(idx J j).bind λU=>(some (List.set J j.toNat (⟨U.To,i64.wrap (C+1),U.N⟩:M.iU))).bind λah=>(idx ah j).bind λai=>(some (List.set ah j.toNat (⟨ai.To,ai.aKm,i64.wrap ((i64.wrap (C+1))+1)⟩:M.iU))).bind λak=>nT aj (i64.wrap ((i64.wrap ((i64.wrap (C+1))+1))+1)) (i64.wrap (j+1)) ak else some (I,C)
def C6(j:List M.iU)(C:Int):Option (List M.iU×Int):=
 nT fuel C 0 j
def A3(j:M.aJu)(C:Int):Option (List M.iU×Int):=
 (C6 j.aKM C).bind λx1=>some (x1.1,x1.2)
def fR  :Nat->Int->Int->List ByteArray->Option (List ByteArray×Int)
 |0,_,_,_=>none
 |J+1,I,C,j=>if decide (C<(List.length j:Int))then(aN I).bind λx8=>(idx j C).bind λah=>(some (List.set j C.toNat x8)).bind λU=>fR J (i64.wrap (I+1)) (i64.wrap (C+1)) U else some (j,I)
def uS(j:List ByteArray)(C:Int):Option (List ByteArray×Int):=
 fR fuel C 0 j
def oL  :Nat->Int->Int->List M.aJr->Option (List M.aJr×Int)
 |0,_,_,_=>none
 |aq+1,J,j,C=>if decide (j<(List.length C:Int))then(aN J).bind λx8=>(idx C j).bind λU=>(some (List.set C j.toNat (⟨x8,U.aJl,U.aKJ,U.aKO⟩:M.aJr))).bind λak=>(idx ak j).bind λah=>(some (List.set ak j.toNat (⟨ah.Name,i64.wrap (J+1),ah.aKJ,ah.aKO⟩:M.aJr))).bind λal=>(idx al j).bind λI=>(uS I.aKJ (i64.wrap ((i64.wrap (J+1))+1))).bind λai=>(some (List.set al j.toNat (⟨I.Name,I.aJl,ai.1,I.aKO⟩:M.aJr))).bind λao=>(idx ao j).bind λaj=>(some (List.set ao j.toNat (⟨aj.Name,aj.aJl,aj.aKJ,(Int.tmod ai.2 3)==0⟩:M.aJr))).bind λar=>oL aq (i64.wrap (ai.2+1)) (i64.wrap (j+1)) ar else some (C,J)
def C1(j:List M.aJr)(C:Int):Option (List M.aJr×Int):=
 oL fuel C 0 j
def kE  :Nat->Int->Int->List M.aK->Option (List M.aK×Int)
 |0,_,_,_=>none
 |U+1,I,j,C=>if decide (j<(List.length C:Int))then(idx C j).bind λx8=>(some (List.set C j.toNat (⟨I,x8.Seq⟩:M.aK))).bind λJ=>(idx J j).bind λah=>(some (List.set J j.toNat (⟨ah.aJy,i64.wrap (I+1)⟩:M.aK))).bind λai=>kE U (i64.wrap ((i64.wrap (I+1))+1)) (i64.wrap (j+1)) ai else some (C,I)
def zC(j:List M.aK)(C:Int):Option (List M.aK×Int):=
 kE fuel C 0 j
def lK  :Nat->Int->Int->List M.aJv->Option (List M.aJv×Int)
 |0,_,_,_=>none
 |ax+1,v1,j,I=>if decide (j<(List.length I:Int))then(aN v1).bind λx8=>(idx I j).bind λJ=>(some (List.set I j.toNat (⟨(⟨x8,J.aD.aJm,J.aD.aKG⟩:M.aD),J.aK,J.aKH⟩:M.aJv))).bind λal=>(idx al j).bind λC=>(tX C.aD.aJm (i64.wrap (v1+1))).bind λai=>(some (List.set al j.toNat (⟨(⟨C.aD.Name,ai.1,C.aD.aKG⟩:M.aD),C.aK,C.aKH⟩:M.aJv))).bind λao=>(idx ao j).bind λU=>(some (List.set ao j.toNat (⟨(⟨U.aD.Name,U.aD.aJm,ai.2⟩:M.aD),U.aK,U.aKH⟩:M.aJv))).bind λaq=>(idx aq j).bind λaj=>(zC aj.aK (i64.wrap (ai.2+1))).bind λar=>(some (List.set aq j.toNat (⟨aj.aD,ar.1,aj.aKH⟩:M.aJv))).bind λav=>(idx av j).bind λak=>(xF ak.aKH ar.2).bind λaw=>(some (List.set av j.toNat (⟨ak.aD,ak.aK,aw.1⟩:M.aJv))).bind λay=>lK ax aw.2 (i64.wrap (j+1)) ay else some (I,v1)
def A4(j:List M.aJv)(C:Int):Option (List M.aJv×Int):=
 lK fuel C 0 j
def uA(j:M.World)(p1:Int):Option (List M.aJi×List M.bD×List M.eO×List M.iU×List M.aJr×List M.aJv×Int):=
 (A8 j.aA p1).bind λx1=>(CU j.aJ2 x1.2).bind λx8=>(wJ j.aJ3 x8.2).bind λC=>(A3 j.aJu C.2).bind λI=>(C1 j.aKE I.2).bind λJ=>(A4 j.aJ6 J.2).bind λU=>some (x1.1,x8.1,C.1,I.1,J.1,U.1,U.2)
def fX(j:List Int):Nat->Int->Int->Option Int
 |0,_,_=>none
 |J+1,C,I=>if decide (I<(List.length j:Int))then(idx j I).bind λx6=>if x6 !=(IntKind.u8.wrap C)then some (-1)else fX j J (i64.wrap (C+1)) (i64.wrap (I+1))else some C
def tO(j:List Int)(C:Int):Option Int:=
 fX j fuel C 0
def hU(I:List M.aJx):Nat->Int->Int->Option Int
 |0,_,_=>none
 |U+1,j,J=>if decide (J<(List.length I:Int))then(idx I J).bind λx6=>(aN j).bind λaf=>if !(x6.aJr.toList==af.toList)then some (-1)else(aN (i64.wrap (j+1))).bind λah=>if !(x6.aKP.toList==ah.toList)then some (-1)else if x6.aJo.aKc !=(i64.wrap ((i64.wrap (j+1))+1))then some (-1)else if x6.aJo.aKS !=(i64.wrap ((i64.wrap ((i64.wrap (j+1))+1))+1))then some (-1)else if x6.aJo.aJl !=(i64.wrap ((i64.wrap ((i64.wrap ((i64.wrap (j+1))+1))+1))+1))then some (-1)else(tO x6.aJo.aKa (i64.wrap ((i64.wrap ((i64.wrap ((i64.wrap ((i64.wrap (j+1))+1))+1))+1))+1))).bind λC=>if decide (C<0)then some (-1)else if !(x6.aJo.aKh==((Int.tmod C 3)==0))then some (-1)else hU I U (i64.wrap (C+1)) (i64.wrap (J+1))else some j
def AV(j:List M.aJx)(C:Int):Option Int:=
 hU j fuel C 0
def jS(j:List M.aJ0):Nat->Int->Int->Option Int
 |0,_,_=>none
 |U+1,C,I=>if decide (I<(List.length j:Int))then(idx j I).bind λx6=>if x6.aJl !=C then some (-1)else(AV x6.aJ1 (i64.wrap (C+1))).bind λJ=>if decide (J<0)then some (-1)else jS j U J (i64.wrap (I+1))else some C
def BO(j:List M.aJ0)(C:Int):Option Int:=
 jS j fuel C 0
def jV(C:List M.Field):Nat->Int->Int->Option Int
 |0,_,_=>none
 |J+1,j,I=>if decide (I<(List.length C:Int))then(idx C I).bind λx6=>(aN j).bind λU=>if !(x6.Name.toList==U.toList)then some (-1)else if x6.N !=(i64.wrap (j+1))then some (-1)else jV C J (i64.wrap ((i64.wrap (j+1))+1)) (i64.wrap (I+1))else some j
def B0(j:List M.Field)(C:Int):Option Int:=
 jV j fuel C 0
def lF(C:List M.aJt):Nat->Int->Int->Option Int
 |0,_,_=>none
 |U+1,j,I=>if decide (I<(List.length C:Int))then(idx C I).bind λx6=>if x6.Key.aJz !=j then some (-1)else if x6.Key.N !=(i64.wrap (j+1))then some (-1)else(aN (i64.wrap ((i64.wrap (j+1))+1))).bind λaf=>if !(x6.Key.aKA.toList==af.toList)then some (-1)else(B0 x6.aC.aJq (i64.wrap ((i64.wrap ((i64.wrap (j+1))+1))+1))).bind λJ=>if decide (J<0)then some (-1)else lF C U J (i64.wrap (I+1))else some j
def uD(j:List M.aJt)(C:Int):Option Int:=
 lF j fuel C 0
def jT(C:List M.aD):Nat->Int->Int->Option Int
 |0,_,_=>none
 |U+1,I,J=>if decide (J<(List.length C:Int))then(idx C J).bind λx6=>(aN I).bind λaf=>if !(x6.Name.toList==af.toList)then some (-1)else(uD x6.aJm (i64.wrap (I+1))).bind λj=>if decide (j<0)then some (-1)else if x6.aKG !=j then some (-1)else jT C U (i64.wrap (j+1)) (i64.wrap (J+1))else some I
def BH(j:List M.aD)(C:Int):Option Int:=
 jT j fuel C 0
def fS(C:List M.aG):Nat->Int->Int->Option Int
 |0,_,_=>none
 |J+1,j,I=>if decide (I<(List.length C:Int))then(idx C I).bind λx6=>(aN j).bind λU=>if !(x6.aD.toList==U.toList)then some (-1)else(aN (i64.wrap (j+1))).bind λaf=>if !(x6.Field.toList==af.toList)then some (-1)else fS C J (i64.wrap ((i64.wrap (j+1))+1)) (i64.wrap (I+1))else some j
def wK(j:List M.aG)(C:Int):Option Int:=
 fS j fuel C 0
def iX(C:List M.aY):Nat->Int->Int->Option Int
 |0,_,_=>none
 |J+1,j,I=>if decide (I<(List.length C:Int))then(idx C I).bind λx6=>if x6.aJy !=j then some (-1)else if x6.Seq !=(i64.wrap (j+1))then some (-1)else if x6.Key.aJz !=(i64.wrap ((i64.wrap (j+1))+1))then some (-1)else if x6.Key.N !=(i64.wrap ((i64.wrap ((i64.wrap (j+1))+1))+1))then some (-1)else(aN (i64.wrap ((i64.wrap ((i64.wrap ((i64.wrap (j+1))+1))+1))+1))).bind λU=>if !(x6.Key.aKA.toList==U.toList)then some (-1)else(aN (i64.wrap ((i64.wrap ((i64.wrap ((i64.wrap ((i64.wrap (j+1))+1))+1))+1))+1))).bind λaf=>if !(x6.Field.toList==af.toList)then some (-1)else if x6.N !=(i64.wrap ((i64.wrap ((i64.wrap ((i64.wrap ((i64.wrap ((i64.wrap (j+1))+1))+1))+1))+1))+1))then some (-1)else iX C J (i64.wrap ((i64.wrap ((i64.wrap ((i64.wrap ((i64.wrap ((i64.wrap ((i64.wrap (j+1))+1))+1))+1))+1))+1))+1)) (i64.wrap (I+1))else some j
def xO(j:List M.aY)(C:Int):Option Int:=
 iX j fuel C 0
def fQ(p0:List M.aJi):Nat->Int->Int->Option Int
 |0,_,_=>none
 |ak+1,j,v5=>if decide (v5<(List.length p0:Int))then(idx p0 v5).bind λx6=>(aN j).bind λal=>if !(x6.aJr.toList==al.toList)then some (-1)else(aN (i64.wrap (j+1))).bind λao=>if !(x6.Top.toList==ao.toList)then some (-1)else(aN (i64.wrap ((i64.wrap (j+1))+1))).bind λaq=>if !(x6.aJk.aJr.toList==aq.toList)then some (-1)else if x6.aJk.aKI !=(i64.wrap ((i64.wrap ((i64.wrap (j+1))+1))+1))then some (-1)else if x6.aJk.aKN !=(i64.wrap ((i64.wrap ((i64.wrap ((i64.wrap (j+1))+1))+1))+1))then some (-1)else if x6.aJk.aKT !=(i64.wrap ((i64.wrap ((i64.wrap ((i64.wrap ((i64.wrap (j+1))+1))+1))+1))+1))then some (-1)else(BO x6.aJs.aJs (i64.wrap ((i64.wrap ((i64.wrap ((i64.wrap ((i64.wrap ((i64.wrap (j+1))+1))+1))+1))+1))+1))).bind λJ=>if decide (J<0)then some (-1)else(aN J).bind λar=>if !(x6.bL.aJ8.Name.toList==ar.toList)then some (-1)else if x6.bL.aJ8.aJl !=(i64.wrap (J+1))then some (-1)else(BH x6.bL.aJ8.aJw (i64.wrap ((i64.wrap (J+1))+1))).bind λai=>if decide (ai<0)then some (-1)else(wK x6.bL.aJ8.aJ5 ai).bind λaj=>if decide (aj<0)then some (-1)else(tO x6.bL.Log aj).bind λU=>if decide (U<0)then some (-1)else if x6.bL.aKR !=U then some (-1)else(aN (i64.wrap (U+1))).bind λav=>if !(x6.aE.aJ8.Name.toList==av.toList)then some (-1)else(uD x6.aE.aJ8.aJm (i64.wrap ((i64.wrap (U+1))+1))).bind λC=>if decide (C<0)then some (-1)else if x6.aE.aJ8.aKG !=C then some (-1)else if x6.aE.aKe !=(i64.wrap (C+1))then some (-1)else if x6.aE.aJ7.aM.aJy !=(i64.wrap ((i64.wrap (C+1))+1))then some (-1)else if x6.aE.aJ7.aM.aKU !=(i64.wrap ((i64.wrap ((i64.wrap (C+1))+1))+1))then some (-1)else(xO x6.aE.aJ7.aM.aJ9 (i64.wrap ((i64.wrap ((i64.wrap ((i64.wrap (C+1))+1))+1))+1))).bind λI=>if decide (I<0)then some (-1)else if x6.aE.aJ7.aKX !=I then some (-1)else if x6.aE.aJ7.aKL !=(i64.wrap (I+1))then some (-1)else if x6.aKC !=(i64.wrap ((i64.wrap (I+1))+1))then some (-1)else if !(x6.aKB==((Int.tmod (i64.wrap ((i64.wrap ((i64.wrap (I+1))+1))+1)) 3)==0))then some (-1)else fQ p0 ak (i64.wrap ((i64.wrap ((i64.wrap ((i64.wrap (I+1))+1))+1))+1)) (i64.wrap (v5+1))else some j
def A0(j:List M.aJi)(C:Int):Option Int:=
 fQ j fuel C 0
def AZ(j:M.aA)(C:Int):Option Int:=
 (A0 j.aJp C).bind λx1=>if decide (x1<0)then some (-1)else some x1
def gZ(C:List M.aJ):Nat->Int->Int->Option Int
 |0,_,_=>none
 |J+1,j,I=>if decide (I<(List.length C:Int))then(idx C I).bind λx6=>(aN j).bind λU=>if !(x6.aKP.toList==U.toList)then some (-1)else if x6.aJl !=(i64.wrap (j+1))then some (-1)else gZ C J (i64.wrap ((i64.wrap (j+1))+1)) (i64.wrap (I+1))else some j
def A6(j:List M.aJ)(C:Int):Option Int:=
 gZ j fuel C 0
def iW(C:List M.Instr):Nat->Int->Int->Option Int
 |0,_,_=>none
 |J+1,j,I=>if decide (I<(List.length C:Int))then(idx C I).bind λx6=>if x6.aJz !=j then some (-1)else if x6.R !=(i64.wrap (j+1))then some (-1)else if x6.N !=(i64.wrap ((i64.wrap (j+1))+1))then some (-1)else(aN (i64.wrap ((i64.wrap ((i64.wrap (j+1))+1))+1))).bind λU=>if !(x6.aKA.toList==U.toList)then some (-1)else iW C J (i64.wrap ((i64.wrap ((i64.wrap ((i64.wrap (j+1))+1))+1))+1)) (i64.wrap (I+1))else some j
def B7(j:List M.Instr)(C:Int):Option Int:=
 iW j fuel C 0
def gO(j:List Int):Nat->Int->Int->Option Int
 |0,_,_=>none
 |J+1,C,I=>if decide (I<(List.length j:Int))then(idx j I).bind λx6=>if x6 !=C then some (-1)else gO j J (i64.wrap (C+1)) (i64.wrap (I+1))else some C
def Bo(j:List Int)(C:Int):Option Int:=
 gO j fuel C 0
def hH(J:List M.bD):Nat->Int->Int->Option Int
 |0,_,_=>none
 |ah+1,j,U=>if decide (U<(List.length J:Int))then(idx J U).bind λx6=>if x6.Id !=j then some (-1)else(aN (i64.wrap (j+1))).bind λai=>if !(x6.aJr.toList==ai.toList)then some (-1)else(aN (i64.wrap ((i64.wrap (j+1))+1))).bind λaj=>if !(x6.Top.toList==aj.toList)then some (-1)else if x6.aJl !=(i64.wrap ((i64.wrap ((i64.wrap (j+1))+1))+1))then some (-1)else(A6 x6.aJ (i64.wrap ((i64.wrap ((i64.wrap ((i64.wrap (j+1))+1))+1))+1))).bind λaf=>if decide (af<0)then some (-1)else(B7 x6.aJn.aKD af).bind λI=>if decide (I<0)then some (-1)else if x6.aJn.Pc !=I then some (-1)else(Bo x6.aJn.aKQ (i64.wrap (I+1))).bind λC=>if decide (C<0)then some (-1)else if x6.aJn.aKW !=C then some (-1)else if !(x6.aJn.aKb==((Int.tmod (i64.wrap (C+1)) 3)==0))then some (-1)else if !(x6.aJn.aKY==((Int.tmod (i64.wrap ((i64.wrap (C+1))+1)) 3)==0))then some (-1)else hH J ah (i64.wrap ((i64.wrap ((i64.wrap (C+1))+1))+1)) (i64.wrap (U+1))else some j
def CV(j:List M.bD)(C:Int):Option Int:=
 hH j fuel C 0
def lD(C:List M.eO):Nat->Int->Int->Option Int
 |0,_,_=>none
 |J+1,j,I=>if decide (I<(List.length C:Int))then(idx C I).bind λx6=>(aN j).bind λU=>if !(x6.Name.toList==U.toList)then some (-1)else if x6.bD !=(i64.wrap (j+1))then some (-1)else if !(x6.aKO==((Int.tmod (i64.wrap ((i64.wrap (j+1))+1)) 3)==0))then some (-1)else if !(x6.aKj==((Int.tmod (i64.wrap ((i64.wrap ((i64.wrap (j+1))+1))+1)) 3)==0))then some (-1)else lD C J (i64.wrap ((i64.wrap ((i64.wrap ((i64.wrap (j+1))+1))+1))+1)) (i64.wrap (I+1))else some j
def C4(j:List M.eO)(C:Int):Option Int:=
 lD j fuel C 0
def wM(j:M.aP)(C:Int):Option Int:=
 (C4 j.aJ3 C).bind λx1=>if decide (x1<0)then some (-1)else some x1
def lH(C:List M.iU):Nat->Int->Int->Option Int
 |0,_,_=>none
 |J+1,j,I=>if decide (I<(List.length C:Int))then(idx C I).bind λx6=>if x6.To !=j then some (-1)else if x6.aKm !=(i64.wrap (j+1))then some (-1)else if x6.N !=(i64.wrap ((i64.wrap (j+1))+1))then some (-1)else lH C J (i64.wrap ((i64.wrap ((i64.wrap (j+1))+1))+1)) (i64.wrap (I+1))else some j
def C9(j:List M.iU)(C:Int):Option Int:=
 lH j fuel C 0
def A7(j:M.aJu)(C:Int):Option Int:=
 (C9 j.aKM C).bind λx1=>if decide (x1<0)then some (-1)else some x1
def eE(j:List ByteArray):Nat->Int->Int->Option Int
 |0,_,_=>none
 |J+1,C,I=>if decide (I<(List.length j:Int))then(idx j I).bind λx6=>(aN C).bind λU=>if !(x6.toList==U.toList)then some (-1)else eE j J (i64.wrap (C+1)) (i64.wrap (I+1))else some C
def uX(j:List ByteArray)(C:Int):Option Int:=
 eE j fuel C 0
def kS(I:List M.aJr):Nat->Int->Int->Option Int
 |0,_,_=>none
 |U+1,j,J=>if decide (J<(List.length I:Int))then(idx I J).bind λx6=>(aN j).bind λaf=>if !(x6.Name.toList==af.toList)then some (-1)else if x6.aJl !=(i64.wrap (j+1))then some (-1)else(uX x6.aKJ (i64.wrap ((i64.wrap (j+1))+1))).bind λC=>if decide (C<0)then some (-1)else if !(x6.aKO==((Int.tmod C 3)==0))then some (-1)else kS I U (i64.wrap (C+1)) (i64.wrap (J+1))else some j
def Dh(j:List M.aJr)(C:Int):Option Int:=
 kS j fuel C 0
def gM(C:List M.aK):Nat->Int->Int->Option Int
 |0,_,_=>none
 |J+1,j,I=>if decide (I<(List.length C:Int))then(idx C I).bind λx6=>if x6.aJy !=j then some (-1)else if x6.Seq !=(i64.wrap (j+1))then some (-1)else gM C J (i64.wrap ((i64.wrap (j+1))+1)) (i64.wrap (I+1))else some j
def zA(j:List M.aK)(C:Int):Option Int:=
 gM j fuel C 0
def fP(C:List M.aJv):Nat->Int->Int->Option Int
 |0,_,_=>none
 |ah+1,I,J=>if decide (J<(List.length C:Int))then(idx C J).bind λx6=>(aN I).bind λai=>if !(x6.aD.Name.toList==ai.toList)then some (-1)else(uD x6.aD.aJm (i64.wrap (I+1))).bind λj=>if decide (j<0)then some (-1)else if x6.aD.aKG !=j then some (-1)else(zA x6.aK (i64.wrap (j+1))).bind λU=>if decide (U<0)then some (-1)else(xO x6.aKH U).bind λaf=>if decide (af<0)then some (-1)else fP C ah af (i64.wrap (J+1))else some I
def Bb(j:List M.aJv)(C:Int):Option Int:=
 fP j fuel C 0
def uQ(j:M.World)(U:Int):Option Int:=
 (AZ j.aA U).bind λx1=>if decide (x1<0)then some (-1)else(CV j.aJ2 x1).bind λx4=>if decide (x4<0)then some (-1)else(wM j.aJ3 x4).bind λx7=>if decide (x7<0)then some (-1)else(A7 j.aJu x7).bind λC=>if decide (C<0)then some (-1)else(Dh j.aKE C).bind λI=>if decide (I<0)then some (-1)else(Bb j.aJ6 I).bind λJ=>if decide (J<0)then some (-1)else some J
def vE(I:M.World)(J:Int):Option Bool:=
 (CD I 1048576).bind λx1=>if decide (x1<0)then some true else(rX I).bind λx4=>(Cw x4 J).bind λx6=>(rX I).bind λx8=>(AQ x8 J).bind λC=>(rT C x6).bind λai=>if !ai then some false else(rX I).bind λaj=>(rT x8 aj).bind λak=>if !ak then some false else(uA x8 1).bind λal=>if decide (al.2.2.2.2.2.2<0)then some false else(rT C x6).bind λao=>if !ao then some false else(uA C 1).bind λj=>(uQ (⟨C.Now,C.aKF,C.aJy,(⟨j.1⟩:M.aA),j.2.1,C.aJ4,(⟨j.2.2.1⟩:M.aP),(⟨j.2.2.2.1⟩:M.aJu),j.2.2.2.2.1,j.2.2.2.2.2.1⟩:M.World) 1).bind λU=>if decide (U<0)then some false else if U !=j.2.2.2.2.2.2 then some false else(rX I).bind λaq=>(AQ aq J).bind λar=>(rT ar x6).bind λav=>if !av then some false else(uQ (⟨C.Now,C.aKF,C.aJy,(⟨j.1⟩:M.aA),j.2.1,C.aJ4,(⟨j.2.2.1⟩:M.aP),(⟨j.2.2.2.1⟩:M.aJu),j.2.2.2.2.1,j.2.2.2.2.2.1⟩:M.World) 1).bind λah=>if decide (ah<0)then some false else if ah !=j.2.2.2.2.2.2 then some false else some true
