/-
  Helper text. No conditions.
-/
import Derived.Test.YtjlnkcoeghonfaaGreatStepPageShS
set_option linter.all false
namespace Go.Proofs.YtjlnkcoeghonfaaGreat.gen
open Go Go.Sh
open Go.IntKind (i64)
structure M.aJc where
 aJj:ByteArray
 aJ9:Int
 aKE:Int
 aKL:Int
def M.aJc.en(x:M.aJc):List D:=[.str x.aJj,.int .i64 x.aJ9,.int .i64 x.aKE,.int .i64 x.aKL]
theorem M.aJc.en.fl(l:List M.aJc):(List.map M.aJc.en l).all (λy=>y.all D.flat)=true:=Jb (λ_=>rfl) l
structure M.aJg where
 aKU:Int
 aKK:Int
 aJd:Int
 aKS:List Int
 aKZ:Bool
def M.aJg.en(x:M.aJg):List D:=[.int .i64 x.aKU,.int .i64 x.aKK,.int .i64 x.aJd,.sl (List.map enB x.aKS),.bool x.aKZ]
structure M.aJo where
 aJj:ByteArray
 aKG:ByteArray
 aJg:M.aJg
def M.aJo.en(x:M.aJo):List D:=[.str x.aJj,.str x.aKG,.int .i64 x.aJg.aKU,.int .i64 x.aJg.aKK,.int .i64 x.aJg.aJd,.sl (List.map enB x.aJg.aKS),.bool x.aJg.aKZ]
structure M.aJs where
 aJd:Int
 aJt:List M.aJo
def M.aJs.en(x:M.aJs):List D:=[.int .i64 x.aJd,.sl (List.map M.aJo.en x.aJt)]
structure M.aO where
 aJk:List M.aJs
def M.aO.en(x:M.aO):List D:=[.sl (List.map M.aJs.en x.aJk)]
structure M.Key where
 aJr:Int
 N:Int
 aJ2:ByteArray
def M.Key.en(x:M.Key):List D:=[.int .i64 x.aJr,.int .i64 x.N,.str x.aJ2]
theorem M.Key.en.fl(l:List M.Key):(List.map M.Key.en l).all (λy=>y.all D.flat)=true:=Jb (λ_=>rfl) l
structure M.Field where
 Name:ByteArray
 N:Int
def M.Field.en(x:M.Field):List D:=[.str x.Name,.int .i64 x.N]
theorem M.Field.en.fl(l:List M.Field):(List.map M.Field.en l).all (λy=>y.all D.flat)=true:=Jb (λ_=>rfl) l
structure M.aA where
 aJi:List M.Field
def M.aA.en(x:M.aA):List D:=[.sl (List.map M.Field.en x.aJi)]
structure M.aJl where
 Key:M.Key
 aA:M.aA
def M.aJl.en(x:M.aJl):List D:=[.int .i64 x.Key.aJr,.int .i64 x.Key.N,.str x.Key.aJ2,.sl (List.map M.Field.en x.aA.aJi)]
structure M.aD where
 Name:ByteArray
 aJe:List M.aJl
 aJ7:Int
def M.aD.en(x:M.aD):List D:=[.str x.Name,.sl (List.map M.aJl.en x.aJe),.int .i64 x.aJ7]
structure M.aG where
 aD:ByteArray
 Field:ByteArray
def M.aG.en(x:M.aG):List D:=[.str x.aD,.str x.Field]
theorem M.aG.en.fl(l:List M.aG):(List.map M.aG.en l).all (λy=>y.all D.flat)=true:=Jb (λ_=>rfl) l
structure M.aJb where
 Name:ByteArray
 aJd:Int
 aJm:List M.aD
 aJw:List M.aG
def M.aJb.en(x:M.aJb):List D:=[.str x.Name,.int .i64 x.aJd,.sl (List.map M.aD.en x.aJm),.sl (List.map M.aG.en x.aJw)]
structure M.bL where
 aJz:M.aJb
 Log:List Int
 aKJ:Int
def M.bL.en(x:M.bL):List D:=[.str x.aJz.Name,.int .i64 x.aJz.aJd,.sl (List.map M.aD.en x.aJz.aJm),.sl (List.map M.aG.en x.aJz.aJw),.sl (List.map enB x.Log),.int .i64 x.aKJ]
structure M.aW where
 aJq:Int
 Seq:Int
 Key:M.Key
 Field:ByteArray
 N:Int
def M.aW.en(x:M.aW):List D:=[.int .i64 x.aJq,.int .i64 x.Seq,.int .i64 x.Key.aJr,.int .i64 x.Key.N,.str x.Key.aJ2,.str x.Field,.int .i64 x.N]
theorem M.aW.en.fl(l:List M.aW):(List.map M.aW.en l).all (λy=>y.all D.flat)=true:=Jb (λ_=>rfl) l
structure M.aM where
 aJq:Int
 aKM:Int
 aJ1:List M.aW
def M.aM.en(x:M.aM):List D:=[.int .i64 x.aJq,.int .i64 x.aKM,.sl (List.map M.aW.en x.aJ1)]
structure M.aJx where
 aM:M.aM
 aKP:Int
 aKC:Int
def M.aJx.en(x:M.aJx):List D:=[.int .i64 x.aM.aJq,.int .i64 x.aM.aKM,.sl (List.map M.aW.en x.aM.aJ1),.int .i64 x.aKP,.int .i64 x.aKC]
structure M.aE where
 aJz:M.aD
 aKV:Int
 aJx:M.aJx
def M.aE.en(x:M.aE):List D:=[.str x.aJz.Name,.sl (List.map M.aJl.en x.aJz.aJe),.int .i64 x.aJz.aJ7,.int .i64 x.aKV,.int .i64 x.aJx.aM.aJq,.int .i64 x.aJx.aM.aKM,.sl (List.map M.aW.en x.aJx.aM.aJ1),.int .i64 x.aJx.aKP,.int .i64 x.aJx.aKC]
structure M.aJa where
 aJj:ByteArray
 Top:ByteArray
 aJc:M.aJc
 aJk:M.aO
 bL:M.bL
 aE:M.aE
 aJ4:Int
 aJ3:Bool
def M.aJa.en(x:M.aJa):List D:=[.str x.aJj,.str x.Top,.str x.aJc.aJj,.int .i64 x.aJc.aJ9,.int .i64 x.aJc.aKE,.int .i64 x.aJc.aKL,.sl (List.map M.aJs.en x.aJk.aJk),.str x.bL.aJz.Name,.int .i64 x.bL.aJz.aJd,.sl (List.map M.aD.en x.bL.aJz.aJm),.sl (List.map M.aG.en x.bL.aJz.aJw),.sl (List.map enB x.bL.Log),.int .i64 x.bL.aKJ,.str x.aE.aJz.Name,.sl (List.map M.aJl.en x.aE.aJz.aJe),.int .i64 x.aE.aJz.aJ7,.int .i64 x.aE.aKV,.int .i64 x.aE.aJx.aM.aJq,.int .i64 x.aE.aJx.aM.aKM,.sl (List.map M.aW.en x.aE.aJx.aM.aJ1),.int .i64 x.aE.aJx.aKP,.int .i64 x.aE.aJx.aKC,.int .i64 x.aJ4,.bool x.aJ3]
structure M.aC where
 aJh:List M.aJa
def M.aC.en(x:M.aC):List D:=[.sl (List.map M.aJa.en x.aJh)]
structure M.aJ where
 aKG:ByteArray
 aJd:Int
def M.aJ.en(x:M.aJ):List D:=[.str x.aKG,.int .i64 x.aJd]
theorem M.aJ.en.fl(l:List M.aJ):(List.map M.aJ.en l).all (λy=>y.all D.flat)=true:=Jb (λ_=>rfl) l
structure M.Instr where
 aJr:Int
 R:Int
 N:Int
 aJ2:ByteArray
def M.Instr.en(x:M.Instr):List D:=[.int .i64 x.aJr,.int .i64 x.R,.int .i64 x.N,.str x.aJ2]
theorem M.Instr.en.fl(l:List M.Instr):(List.map M.Instr.en l).all (λy=>y.all D.flat)=true:=Jb (λ_=>rfl) l
structure M.aJf where
 aJ5:List M.Instr
 Pc:Int
 aKH:List Int
 aKO:Int
 aKT:Bool
 aKQ:Bool
def M.aJf.en(x:M.aJf):List D:=[.sl (List.map M.Instr.en x.aJ5),.int .i64 x.Pc,.sl (List.map enI x.aKH),.int .i64 x.aKO,.bool x.aKT,.bool x.aKQ]
structure M.bD where
 Id:Int
 aJj:ByteArray
 Top:ByteArray
 aJd:Int
 aJ:List M.aJ
 aJf:M.aJf
def M.bD.en(x:M.bD):List D:=[.int .i64 x.Id,.str x.aJj,.str x.Top,.int .i64 x.aJd,.sl (List.map M.aJ.en x.aJ),.sl (List.map M.Instr.en x.aJf.aJ5),.int .i64 x.aJf.Pc,.sl (List.map enI x.aJf.aKH),.int .i64 x.aJf.aKO,.bool x.aJf.aKT,.bool x.aJf.aKQ]
structure M.fE where
 Name:ByteArray
 bD:Int
 aKF:Bool
 aKb:Bool
def M.fE.en(x:M.fE):List D:=[.str x.Name,.int .i64 x.bD,.bool x.aKF,.bool x.aKb]
theorem M.fE.en.fl(l:List M.fE):(List.map M.fE.en l).all (λy=>y.all D.flat)=true:=Jb (λ_=>rfl) l
structure M.aQ where
 aJv:List M.fE
def M.aQ.en(x:M.aQ):List D:=[.sl (List.map M.fE.en x.aJv)]
structure M.kK where
 To:Int
 aKe:Int
 N:Int
def M.kK.en(x:M.kK):List D:=[.int .i64 x.To,.int .i64 x.aKe,.int .i64 x.N]
theorem M.kK.en.fl(l:List M.kK):(List.map M.kK.en l).all (λy=>y.all D.flat)=true:=Jb (λ_=>rfl) l
structure M.aJp where
 aKI:List M.kK
def M.aJp.en(x:M.aJp):List D:=[.sl (List.map M.kK.en x.aKI)]
structure M.aJj where
 Name:ByteArray
 aJd:Int
 aKA:List ByteArray
 aKF:Bool
def M.aJj.en(x:M.aJj):List D:=[.str x.Name,.int .i64 x.aJd,.sl (List.map enS x.aKA),.bool x.aKF]
structure M.aK where
 aJq:Int
 Seq:Int
def M.aK.en(x:M.aK):List D:=[.int .i64 x.aJq,.int .i64 x.Seq]
theorem M.aK.en.fl(l:List M.aK):(List.map M.aK.en l).all (λy=>y.all D.flat)=true:=Jb (λ_=>rfl) l
structure M.aJn where
 aD:M.aD
 aK:List M.aK
 aJ8:List M.aW
def M.aJn.en(x:M.aJn):List D:=[.str x.aD.Name,.sl (List.map M.aJl.en x.aD.aJe),.int .i64 x.aD.aJ7,.sl (List.map M.aK.en x.aK),.sl (List.map M.aW.en x.aJ8)]
structure M.World where
 Now:Int
 aKB:Bool
 aJq:Int
 aC:M.aC
 aJu:List M.bD
 aJy:Int
 aJv:M.aQ
 aJp:M.aJp
 aJ6:List M.aJj
 aJ0:List M.aJn
def M.World.en(x:M.World):List D:=[.int .i64 x.Now,.bool x.aKB,.int .i64 x.aJq,.sl (List.map M.aJa.en x.aC.aJh),.sl (List.map M.bD.en x.aJu),.int .i64 x.aJy,.sl (List.map M.fE.en x.aJv.aJv),.sl (List.map M.kK.en x.aJp.aKI),.sl (List.map M.aJj.en x.aJ6),.sl (List.map M.aJn.en x.aJ0)]
structure M.Ask where
 aJr:Int
 R:Int
 N:Int
 aJ2:ByteArray
 Value:Int
def M.Ask.en(x:M.Ask):List D:=[.int .i64 x.aJr,.int .i64 x.R,.int .i64 x.N,.str x.aJ2,.int .i64 x.Value]
theorem M.Ask.en.fl(l:List M.Ask):(List.map M.Ask.en l).all (λy=>y.all D.flat)=true:=Jb (λ_=>rfl) l
structure M.Op where
 aJr:Int
 aD:ByteArray
 Key:M.Key
 aA:M.aA
 Field:ByteArray
def M.Op.en(x:M.Op):List D:=[.int .i64 x.aJr,.str x.aD,.int .i64 x.Key.aJr,.int .i64 x.Key.N,.str x.Key.aJ2,.sl (List.map M.Field.en x.aA.aJi),.str x.Field]
structure M.dE where
 aKY:Bool
 aKN:Bool
 Low:M.Key
 aKR:M.Key
def M.dE.en(x:M.dE):List D:=[.bool x.aKY,.bool x.aKN,.int .i64 x.Low.aJr,.int .i64 x.Low.N,.str x.Low.aJ2,.int .i64 x.aKR.aJr,.int .i64 x.aKR.N,.str x.aKR.aJ2]
theorem M.dE.en.fl(l:List M.dE):(List.map M.dE.en l).all (λy=>y.all D.flat)=true:=Jb (λ_=>rfl) l
def oU(j:M.aJc)(C:Int):Option Int:=
 if decide ((i64.wrap (C-(j.aJj.size:Int)))<0)then some (-1)else some (i64.wrap (C-(j.aJj.size:Int)))
def As(j:List Int)(C:Int):Option Int:=
 if decide ((i64.wrap (C-(List.length j:Int)))<0)then some (-1)else some (i64.wrap (C-(List.length j:Int)))
def xW(j:M.aJg)(C:Int):Option Int:=
 (As j.aKS C).bind λx1=>if decide (x1<0)then some (-1)else some x1
def wU(j:M.aJo)(C:Int):Option Int:=
 if decide ((i64.wrap (C-(j.aJj.size:Int)))<0)then some (-1)else if decide ((i64.wrap ((i64.wrap (C-(j.aJj.size:Int)))-(j.aKG.size:Int)))<0)then some (-1)else(xW j.aJg (i64.wrap ((i64.wrap (C-(j.aJj.size:Int)))-(j.aKG.size:Int)))).bind λx3=>if decide (x3<0)then some (-1)else some x3
def CQ:=szS wU
def AH(j:M.aJs)(C:Int):Option Int:=
 (CQ j.aJt C).bind λx1=>if decide (x1<0)then some (-1)else some x1
def D5:=szS AH
def yO(j:M.aO)(C:Int):Option Int:=
 (D5 j.aJk C).bind λx1=>if decide (x1<0)then some (-1)else some x1
def Dm(j:M.Key)(C:Int):Option Int:=
 if decide ((i64.wrap (C-(j.aJ2.size:Int)))<0)then some (-1)else some (i64.wrap (C-(j.aJ2.size:Int)))
def AD(j:M.Field)(C:Int):Option Int:=
 if decide ((i64.wrap (C-(j.Name.size:Int)))<0)then some (-1)else some (i64.wrap (C-(j.Name.size:Int)))
def Dy:=szS AD
def BA(j:M.aA)(C:Int):Option Int:=
 (Dy j.aJi C).bind λx1=>if decide (x1<0)then some (-1)else some x1
def B2(j:M.aJl)(C:Int):Option Int:=
 (Dm j.Key C).bind λx1=>if decide (x1<0)then some (-1)else(BA j.aA x1).bind λx4=>if decide (x4<0)then some (-1)else some x4
def EK:=szS B2
def rL(j:M.aD)(C:Int):Option Int:=
 if decide ((i64.wrap (C-(j.Name.size:Int)))<0)then some (-1)else(EK j.aJe (i64.wrap (C-(j.Name.size:Int)))).bind λx2=>if decide (x2<0)then some (-1)else some x2
def DP:=szS rL
def rV(j:M.aG)(C:Int):Option Int:=
 if decide ((i64.wrap (C-(j.aD.size:Int)))<0)then some (-1)else if decide ((i64.wrap ((i64.wrap (C-(j.aD.size:Int)))-(j.Field.size:Int)))<0)then some (-1)else some (i64.wrap ((i64.wrap (C-(j.aD.size:Int)))-(j.Field.size:Int)))
def AU:=szS rV
def yH(j:M.aJb)(C:Int):Option Int:=
 if decide ((i64.wrap (C-(j.Name.size:Int)))<0)then some (-1)else(DP j.aJm (i64.wrap (C-(j.Name.size:Int)))).bind λx2=>if decide (x2<0)then some (-1)else(AU j.aJw x2).bind λx5=>if decide (x5<0)then some (-1)else some x5
def Du(j:M.bL)(C:Int):Option Int:=
 (yH j.aJz C).bind λx1=>if decide (x1<0)then some (-1)else(As j.Log x1).bind λx4=>if decide (x4<0)then some (-1)else some x4
def AG(j:M.aW)(C:Int):Option Int:=
 (Dm j.Key C).bind λx1=>if decide (x1<0)then some (-1)else if decide ((i64.wrap (x1-(j.Field.size:Int)))<0)then some (-1)else some (i64.wrap (x1-(j.Field.size:Int)))
def Br:=szS AG
def Bg(j:M.aM)(C:Int):Option Int:=
 (Br j.aJ1 C).bind λx1=>if decide (x1<0)then some (-1)else some x1
def D9(j:M.aJx)(C:Int):Option Int:=
 (Bg j.aM C).bind λx1=>if decide (x1<0)then some (-1)else some x1
def Ai(j:M.aE)(C:Int):Option Int:=
 (rL j.aJz C).bind λx1=>if decide (x1<0)then some (-1)else(D9 j.aJx x1).bind λx4=>if decide (x4<0)then some (-1)else some x4
def yJ(j:M.aJa)(C:Int):Option Int:=
 if decide ((i64.wrap (C-(j.aJj.size:Int)))<0)then some (-1)else if decide ((i64.wrap ((i64.wrap (C-(j.aJj.size:Int)))-(j.Top.size:Int)))<0)then some (-1)else(oU j.aJc (i64.wrap ((i64.wrap (C-(j.aJj.size:Int)))-(j.Top.size:Int)))).bind λx3=>if decide (x3<0)then some (-1)else(yO j.aJk x3).bind λx6=>if decide (x6<0)then some (-1)else(Du j.bL x6).bind λx9=>if decide (x9<0)then some (-1)else(Ai j.aE x9).bind λI=>if decide (I<0)then some (-1)else some I
def CR:=szS yJ
def zR(j:M.aC)(C:Int):Option Int:=
 (CR j.aJh C).bind λx1=>if decide (x1<0)then some (-1)else some x1
def wV(j:M.aJ)(C:Int):Option Int:=
 if decide ((i64.wrap (C-(j.aKG.size:Int)))<0)then some (-1)else some (i64.wrap (C-(j.aKG.size:Int)))
def CS:=szS wV
def Ar(j:M.Instr)(C:Int):Option Int:=
 if decide ((i64.wrap (C-(j.aJ2.size:Int)))<0)then some (-1)else some (i64.wrap (C-(j.aJ2.size:Int)))
def DT:=szS Ar
def DZ(j:List Int)(C:Int):Option Int:=
 if decide ((i64.wrap (C-(List.length j:Int)))<0)then some (-1)else some (i64.wrap (C-(List.length j:Int)))
def Al(j:M.aJf)(C:Int):Option Int:=
 (DT j.aJ5 C).bind λx1=>if decide (x1<0)then some (-1)else(DZ j.aKH x1).bind λx4=>if decide (x4<0)then some (-1)else some x4
def B4(j:M.bD)(C:Int):Option Int:=
 if decide ((i64.wrap (C-(j.aJj.size:Int)))<0)then some (-1)else if decide ((i64.wrap ((i64.wrap (C-(j.aJj.size:Int)))-(j.Top.size:Int)))<0)then some (-1)else(CS j.aJ (i64.wrap ((i64.wrap (C-(j.aJj.size:Int)))-(j.Top.size:Int)))).bind λx3=>if decide (x3<0)then some (-1)else(Al j.aJf x3).bind λx6=>if decide (x6<0)then some (-1)else some x6
def EA:=szS B4
def Cf(j:M.fE)(C:Int):Option Int:=
 if decide ((i64.wrap (C-(j.Name.size:Int)))<0)then some (-1)else some (i64.wrap (C-(j.Name.size:Int)))
def Ez:=szS Cf
def uY(j:M.aQ)(C:Int):Option Int:=
 (Ez j.aJv C).bind λx1=>if decide (x1<0)then some (-1)else some x1
def CA(j:List M.kK)(C:Int):Option Int:=
 if decide ((i64.wrap (C-(List.length j:Int)))<0)then some (-1)else some (i64.wrap (C-(List.length j:Int)))
def Ah(j:M.aJp)(C:Int):Option Int:=
 (CA j.aKI C).bind λx1=>if decide (x1<0)then some (-1)else some x1
def zG(j:List ByteArray):Nat->Int->Int->Option Int
 |0,_,_=>none
 |J+1,C,I=>if decide (I<(List.length j:Int))then(idx j I).bind λx7=>if decide ((i64.wrap (C-(x7.size:Int)))<0)then some (-1)else zG j J (i64.wrap (C-(x7.size:Int))) (i64.wrap (I+1))else some C
def zK(j:List ByteArray)(C:Int):Option Int:=
 if decide ((i64.wrap (C-(List.length j:Int)))<0)then some (-1)else zG j fuel (i64.wrap (C-(List.length j:Int))) 0
def BI(j:M.aJj)(C:Int):Option Int:=
 if decide ((i64.wrap (C-(j.Name.size:Int)))<0)then some (-1)else(zK j.aKA (i64.wrap (C-(j.Name.size:Int)))).bind λx2=>if decide (x2<0)then some (-1)else some x2
def EL:=szS BI
def xT(j:List M.aK)(C:Int):Option Int:=
 if decide ((i64.wrap (C-(List.length j:Int)))<0)then some (-1)else some (i64.wrap (C-(List.length j:Int)))
def wR(j:M.aJn)(C:Int):Option Int:=
 (rL j.aD C).bind λx1=>if decide (x1<0)then some (-1)else(xT j.aK x1).bind λx4=>if decide (x4<0)then some (-1)else(Br j.aJ8 x4).bind λx7=>if decide (x7<0)then some (-1)else some x7
def C9:=szS wR
def Cy(j:M.World)(U:Int):Option Int:=
 (zR j.aC U).bind λx1=>if decide (x1<0)then some (-1)else(EA j.aJu x1).bind λx4=>if decide (x4<0)then some (-1)else(uY j.aJv x4).bind λx7=>if decide (x7<0)then some (-1)else(Ah j.aJp x7).bind λC=>if decide (C<0)then some (-1)else(EL j.aJ6 C).bind λI=>if decide (I<0)then some (-1)else(C9 j.aJ0 I).bind λJ=>if decide (J<0)then some (-1)else some J
def pE(j:M.aJc):Option M.aJc:=
 some j
def sB(C:List Int):Nat->Int->List Int->Option (List Int)
 |0,_,_=>none
 |J+1,j,I=>if decide (j<(List.length C:Int))then(idx C j).bind λU=>(idx I j).bind λaf=>sB C J (i64.wrap (j+1)) (List.set I j.toNat U)else some I
def AA(j:List Int):Option (List Int):=
 (mkL 1 (List.length j:Int) 0).bind λx1=>sB j fuel 0 (List.replicate (List.length j:Int).toNat 0)
def xI(j:M.aJg):Option M.aJg:=
 (AA j.aKS).bind λx1=>some (⟨j.aKU,j.aKK,j.aJd,x1,j.aKZ⟩:M.aJg)
def xL(j:M.aJo):Option M.aJo:=
 (xI j.aJg).bind λx1=>some (⟨j.aJj,j.aKG,x1⟩:M.aJo)
def C1:=toS 88 (⟨(⟨#[]⟩:ByteArray),(⟨#[]⟩:ByteArray),(⟨0,0,0,([]:List Int),false⟩:M.aJg)⟩:M.aJo) xL
def Az(j:M.aJs):Option M.aJs:=
 (C1 j.aJt).bind λx1=>some (⟨j.aJd,x1⟩:M.aJs)
def DS:=toS 32 (⟨0,([]:List M.aJo)⟩:M.aJs) Az
def xS(j:M.aO):Option M.aO:=
 (DS j.aJk).bind λx1=>some (⟨x1⟩:M.aO)
def Dk(j:M.Key):Option M.Key:=
 some j
def AK(j:M.Field):Option M.Field:=
 some j
def Eb:=toS 24 (⟨(⟨#[]⟩:ByteArray),0⟩:M.Field) AK
def Bi(j:M.aA):Option M.aA:=
 (Eb j.aJi).bind λx1=>some (⟨x1⟩:M.aA)
def BE(j:M.aJl):Option M.aJl:=
 (Dk j.Key).bind λx1=>(Bi j.aA).bind λx3=>some (⟨x1,x3⟩:M.aJl)
def Ex:=toS 56 (⟨(⟨0,0,(⟨#[]⟩:ByteArray)⟩:M.Key),(⟨([]:List M.Field)⟩:M.aA)⟩:M.aJl) BE
def rQ(j:M.aD):Option M.aD:=
 (Ex j.aJe).bind λx1=>some (⟨j.Name,x1,j.aJ7⟩:M.aD)
def DC:=toS 48 (⟨(⟨#[]⟩:ByteArray),([]:List M.aJl),0⟩:M.aD) rQ
def sE(j:M.aG):Option M.aG:=
 some j
def A0:=toS 32 (⟨(⟨#[]⟩:ByteArray),(⟨#[]⟩:ByteArray)⟩:M.aG) sE
def wL(j:M.aJb):Option M.aJb:=
 (DC j.aJm).bind λx1=>(A0 j.aJw).bind λx3=>some (⟨j.Name,j.aJd,x1,x3⟩:M.aJb)
def D7(j:M.bL):Option M.bL:=
 (wL j.aJz).bind λx1=>(AA j.Log).bind λx3=>some (⟨x1,x3,j.aKJ⟩:M.bL)
def AB(j:M.aW):Option M.aW:=
 (Dk j.Key).bind λx1=>some (⟨j.aJq,j.Seq,x1,j.Field,j.N⟩:M.aW)
def Bs:=toS 72 (⟨0,0,(⟨0,0,(⟨#[]⟩:ByteArray)⟩:M.Key),(⟨#[]⟩:ByteArray),0⟩:M.aW) AB
def Bc(j:M.aM):Option M.aM:=
 (Bs j.aJ1).bind λx1=>some (⟨j.aJq,j.aKM,x1⟩:M.aM)
def DX(j:M.aJx):Option M.aJx:=
 (Bc j.aM).bind λx1=>some (⟨x1,j.aKP,j.aKC⟩:M.aJx)
def Ac(j:M.aE):Option M.aE:=
 (rQ j.aJz).bind λx1=>(DX j.aJx).bind λx3=>some (⟨x1,j.aKV,x3⟩:M.aE)
def xX(j:M.aJa):Option M.aJa:=
 (pE j.aJc).bind λx1=>(xS j.aJk).bind λx3=>(D7 j.bL).bind λx5=>(Ac j.aE).bind λx7=>some (⟨j.aJj,j.Top,x1,x3,x5,x7,j.aJ4,j.aJ3⟩:M.aJa)
def C8:=toS 328 (⟨(⟨#[]⟩:ByteArray),(⟨#[]⟩:ByteArray),(⟨(⟨#[]⟩:ByteArray),0,0,0⟩:M.aJc),(⟨([]:List M.aJs)⟩:M.aO),(⟨(⟨(⟨#[]⟩:ByteArray),0,([]:List M.aD),([]:List M.aG)⟩:M.aJb),([]:List Int),0⟩:M.bL),(⟨(⟨(⟨#[]⟩:ByteArray),([]:List M.aJl),0⟩:M.aD),0,(⟨(⟨0,0,([]:List M.aW)⟩:M.aM),0,0⟩:M.aJx)⟩:M.aE),0,false⟩:M.aJa) xX
def zX(j:M.aC):Option M.aC:=
 (C8 j.aJh).bind λx1=>some (⟨x1⟩:M.aC)
def wM(j:M.aJ):Option M.aJ:=
 some j
def CT:=toS 24 (⟨(⟨#[]⟩:ByteArray),0⟩:M.aJ) wM
def AL(j:M.Instr):Option M.Instr:=
 some j
def Ec:=toS 40 (⟨0,0,0,(⟨#[]⟩:ByteArray)⟩:M.Instr) AL
def uI(C:List Int):Nat->Int->List Int->Option (List Int)
 |0,_,_=>none
 |J+1,j,I=>if decide (j<(List.length C:Int))then(idx C j).bind λU=>(idx I j).bind λaf=>uI C J (i64.wrap (j+1)) (List.set I j.toNat U)else some I
def DH(j:List Int):Option (List Int):=
 (mkL 8 (List.length j:Int) 0).bind λx1=>uI j fuel 0 (List.replicate (List.length j:Int).toNat 0)
def zU(j:M.aJf):Option M.aJf:=
 (Ec j.aJ5).bind λx1=>(DH j.aKH).bind λx3=>some (⟨x1,j.Pc,x3,j.aKO,j.aKT,j.aKQ⟩:M.aJf)
def BG(j:M.bD):Option M.bD:=
 (CT j.aJ).bind λx1=>(zU j.aJf).bind λx3=>some (⟨j.Id,j.aJj,j.Top,j.aJd,x1,x3⟩:M.bD)
def EB:=toS 144 (⟨0,(⟨#[]⟩:ByteArray),(⟨#[]⟩:ByteArray),0,([]:List M.aJ),(⟨([]:List M.Instr),0,([]:List Int),0,false,false⟩:M.aJf)⟩:M.bD) BG
def BQ(j:M.fE):Option M.fE:=
 some j
def Ey:=toS 32 (⟨(⟨#[]⟩:ByteArray),0,false,false⟩:M.fE) BQ
def uZ(j:M.aQ):Option M.aQ:=
 (Ey j.aJv).bind λx1=>some (⟨x1⟩:M.aQ)
def B0(j:M.kK):Option M.kK:=
 some j
def Eu:=toS 24 (⟨0,0,0⟩:M.kK) B0
def zT(j:M.aJp):Option M.aJp:=
 (Eu j.aKI).bind λx1=>some (⟨x1⟩:M.aJp)
def nS(C:List ByteArray):Nat->Int->List ByteArray->Option (List ByteArray)
 |0,_,_=>none
 |J+1,j,I=>if decide (j<(List.length C:Int))then(idx C j).bind λU=>(idx I j).bind λaf=>nS C J (i64.wrap (j+1)) (List.set I j.toNat U)else some I
def Aj(j:List ByteArray):Option (List ByteArray):=
 (mkL 16 (List.length j:Int) (⟨#[]⟩:ByteArray)).bind λx1=>nS j fuel 0 (List.replicate (List.length j:Int).toNat (⟨#[]⟩:ByteArray))
def BU(j:M.aJj):Option M.aJj:=
 (Aj j.aKA).bind λx1=>some (⟨j.Name,j.aJd,x1,j.aKF⟩:M.aJj)
def ED:=toS 56 (⟨(⟨#[]⟩:ByteArray),0,([]:List ByteArray),false⟩:M.aJj) BU
def uG(j:M.aK):Option M.aK:=
 some j
def B5:=toS 16 (⟨0,0⟩:M.aK) uG
def yE(j:M.aJn):Option M.aJn:=
 (rQ j.aD).bind λx1=>(B5 j.aK).bind λx3=>(Bs j.aJ8).bind λx5=>some (⟨x1,x3,x5⟩:M.aJn)
def CU:=toS 96 (⟨(⟨(⟨#[]⟩:ByteArray),([]:List M.aJl),0⟩:M.aD),([]:List M.aK),([]:List M.aW)⟩:M.aJn) yE
def rR(j:M.World):Option M.World:=
 (zX j.aC).bind λx1=>(EB j.aJu).bind λx3=>(uZ j.aJv).bind λx5=>(zT j.aJp).bind λx7=>(ED j.aJ6).bind λx9=>(CU j.aJ0).bind λC=>some (⟨j.Now,j.aKB,j.aJq,x1,x3,j.aJy,x5,x7,x9,C⟩:M.World)
def wA(j:M.aJg):Option M.aJg:=
 (app 1 ([]:List Int) j.aKS).bind λx1=>some j
def mG(C:M.aJs):Nat->Int->List M.aJo->Option M.aJs
 |0,_,_=>none
 |ah+1,J,I=>if decide (J<(List.length C.aJt:Int))then(idx C.aJt J).bind λj=>(wA j.aJg).bind λU=>(app 88 I ([(⟨j.aJj,j.aKG,U⟩:M.aJo)])).bind λai=>mG C ah (i64.wrap (J+1)) (I++[(⟨j.aJj,j.aKG,U⟩:M.aJo)])else some (⟨C.aJd,I⟩:M.aJs)
def Bl(j:M.aJs):Option M.aJs:=
 mG j fuel 0 ([]:List M.aJo)
def oM(C:M.aO):Nat->Int->List M.aJs->Option M.aO
 |0,_,_=>none
 |U+1,I,j=>if decide (I<(List.length C.aJk:Int))then(idx C.aJk I).bind λah=>(Bl ah).bind λJ=>(app 32 j ([J])).bind λai=>oM C U (i64.wrap (I+1)) (j++[J])else some (⟨j⟩:M.aO)
def CN(j:M.aO):Option M.aO:=
 oM j fuel 0 ([]:List M.aJs)
def cD(j:M.aA):Option M.aA:=
 (app 24 ([]:List M.Field) j.aJi).bind λx1=>some j
def yX(j:M.aJl):Option M.aJl:=
 (cD j.aA).bind λx1=>some (⟨j.Key,x1⟩:M.aJl)
def rA(j:M.aD):Nat->Int->List M.aJl->Option M.aD
 |0,_,_=>none
 |U+1,I,C=>if decide (I<(List.length j.aJe:Int))then(idx j.aJe I).bind λah=>(yX ah).bind λJ=>(app 56 C ([J])).bind λai=>rA j U (i64.wrap (I+1)) (C++[J])else some (⟨j.Name,C,j.aJ7⟩:M.aD)
def dD(j:M.aD):Option M.aD:=
 rA j fuel 0 ([]:List M.aJl)
def rC(j:M.aJb):Nat->Int->List M.aD->Option M.aJb
 |0,_,_=>none
 |U+1,I,C=>if decide (I<(List.length j.aJm:Int))then(idx j.aJm I).bind λah=>(dD ah).bind λJ=>(app 48 C ([J])).bind λai=>rC j U (i64.wrap (I+1)) (C++[J])else some (⟨j.Name,j.aJd,C,j.aJw⟩:M.aJb)
def mK(j:M.aJb):Option M.aJb:=
 (app 32 ([]:List M.aG) j.aJw).bind λx1=>rC j fuel 0 ([]:List M.aD)
def vX(j:M.bL):Option M.bL:=
 (mK j.aJz).bind λx1=>(app 1 ([]:List Int) j.Log).bind λx3=>some (⟨x1,j.Log,j.aKJ⟩:M.bL)
def wC(j:M.aM):Option M.aM:=
 (app 72 ([]:List M.aW) j.aJ1).bind λx1=>some j
def Cu(j:M.aJx):Option M.aJx:=
 (wC j.aM).bind λx1=>some (⟨x1,j.aKP,j.aKC⟩:M.aJx)
def wD(j:M.aE):Option M.aE:=
 (dD j.aJz).bind λx1=>(Cu j.aJx).bind λx3=>some (⟨x1,j.aKV,x3⟩:M.aE)
def gC(j:M.aJa):Option M.aJa:=
 (CN j.aJk).bind λx1=>(vX j.bL).bind λx3=>(wD j.aE).bind λx5=>some (⟨j.aJj,j.Top,j.aJc,x1,x3,x5,j.aJ4,j.aJ3⟩:M.aJa)
def nR(C:M.aC):Nat->Int->List M.aJa->Option M.aC
 |0,_,_=>none
 |U+1,I,j=>if decide (I<(List.length C.aJh:Int))then(idx C.aJh I).bind λah=>(gC ah).bind λJ=>(app 328 j ([J])).bind λai=>nR C U (i64.wrap (I+1)) (j++[J])else some (⟨j⟩:M.aC)
def fH(j:M.aC):Option M.aC:=
 nR j fuel 0 ([]:List M.aJa)
def zY(j:List M.Instr):Option (List M.Instr):=
 (app 40 ([]:List M.Instr) j).bind λx1=>some j
def vZ(j:M.aJf):Option M.aJf:=
 (zY j.aJ5).bind λx1=>(app 8 ([]:List Int) j.aKH).bind λx3=>some (⟨x1,j.Pc,j.aKH,j.aKO,j.aKT,j.aKQ⟩:M.aJf)
def kH(j:M.bD):Option M.bD:=
 (app 24 ([]:List M.aJ) j.aJ).bind λx1=>(vZ j.aJf).bind λC=>some (⟨j.Id,j.aJj,j.Top,j.aJd,j.aJ,C⟩:M.bD)
def AN(j:M.aQ):Option M.aQ:=
 (app 32 ([]:List M.fE) j.aJv).bind λx1=>some j
def AJ(j:M.aJp):Option M.aJp:=
 (app 24 ([]:List M.kK) j.aKI).bind λx1=>some j
def CF(j:M.aJj):Option M.aJj:=
 (app 16 ([]:List ByteArray) j.aKA).bind λx1=>some j
def Cz(j:M.aJn):Option M.aJn:=
 (dD j.aD).bind λx1=>(app 16 ([]:List M.aK) j.aK).bind λx3=>(app 72 ([]:List M.aW) j.aJ8).bind λx5=>some (⟨x1,j.aK,j.aJ8⟩:M.aJn)
def iK(j:M.World)(x1:M.aC)(U:List M.bD)(ai:M.aQ)(aj:M.aJp)(ak:List M.aJj):Nat->Int->List M.aJn->Option M.World
 |0,_,_=>none
 |al+1,I,C=>if decide (I<(List.length j.aJ0:Int))then(idx j.aJ0 I).bind λaf=>(Cz af).bind λJ=>(app 96 C ([J])).bind λao=>iK j x1 U ai aj ak al (i64.wrap (I+1)) (C++[J])else some (⟨j.Now,j.aKB,j.aJq,x1,U,j.aJy,ai,aj,ak,C⟩:M.World)
def iN(j:M.World)(x1:M.aC)(J:List M.bD)(U:M.aQ)(ah:M.aJp):Nat->Int->List M.aJj->Option M.World
 |0,_,_=>none
 |aj+1,I,C=>if decide (I<(List.length j.aJ6:Int))then(idx j.aJ6 I).bind λak=>(CF ak).bind λai=>(app 56 C ([ai])).bind λal=>iN j x1 J U ah aj (i64.wrap (I+1)) (C++[ai])else iK j x1 J U ah C fuel 0 ([]:List M.aJn)
def lS(j:M.World)(x1:M.aC):Nat->Int->List M.bD->Option M.World
 |0,_,_=>none
 |U+1,I,C=>if decide (I<(List.length j.aJu:Int))then(idx j.aJu I).bind λah=>(kH ah).bind λJ=>(app 144 C ([J])).bind λak=>lS j x1 U (i64.wrap (I+1)) (C++[J])else(AN j.aJv).bind λai=>(AJ j.aJp).bind λaj=>iN j x1 C ai aj fuel 0 ([]:List M.aJj)
def rT(j:M.World):Option M.World:=
 (fH j.aC).bind λx1=>lS j x1 fuel 0 ([]:List M.bD)
def nT(C:List M.bD)(I:Int):Nat->Int->Option Int
 |0,_=>none
 |J+1,j=>if decide (j<(List.length C:Int))then(idx C j).bind λx6=>if x6.Id==I then some j else nT C I J (i64.wrap (j+1))else some (-1)
def CI(j:List M.bD)(C:Int):Option Int:=
 nT j C fuel 0
def Ad(j:M.World)(C:Int):Option Int:=
 (CI j.aJu C).bind λx1=>some x1
def bB(j:Int)(C:Int)(I:Int):Option Bool:=
 if decide (j>=C)then some (decide (j<=I))else some false
def nI(j:ByteArray):Nat->Int->Option Bool
 |0,_=>none
 |I+1,C=>if decide (C<(j.size:Int))then(Yf j C).bind λx5=>if decide ((x5.toNat:Int)<97)then some false else if decide ((x5.toNat:Int)>122)then some false else nI j I (i64.wrap (C+1))else(bB (j.size:Int) 1 8).bind λJ=>some J
def cE(j:ByteArray):Option Bool:=
 nI j fuel 0
def kO(j:M.aJj):Nat->Int->Option Bool
 |0,_=>none
 |I+1,C=>if decide (C<(List.length j.aKA:Int))then(idx j.aKA C).bind λx6=>(cE x6).bind λJ=>if !J then some false else if decide (C>0)then(idx j.aKA (i64.wrap (C-1))).bind λU=>if !(Op.bytesLess U.toList x6.toList)then some false else kO j I (i64.wrap (C+1))else kO j I (i64.wrap (C+1))else(cE j.Name).bind λah=>if ah then(bB j.aJd 1 1000000000000).bind λai=>if ai then(bB (List.length j.aKA:Int) 1 6).bind λaj=>some aj else some false else some false
def zD(j:M.aJj):Option Bool:=
 kO j fuel 0
def xG  :Option (List ByteArray):=
 some ([(⟨#[98,97,110,107]⟩:ByteArray),(⟨#[110,101,119,115]⟩:ByteArray),(⟨#[115,104,111,112]⟩:ByteArray)])
def iE(j:ByteArray):Nat->Int->Option Bool
 |0,_=>none
 |I+1,C=>if decide (C<(j.size:Int))then(Yf j C).bind λx5=>if decide ((x5.toNat:Int)<97)then if decide ((x5.toNat:Int)<48)then some false else if decide ((x5.toNat:Int)>57)then some false else iE j I (i64.wrap (C+1))else if decide ((x5.toNat:Int)>122)then if decide ((x5.toNat:Int)<48)then some false else if decide ((x5.toNat:Int)>57)then some false else iE j I (i64.wrap (C+1))else iE j I (i64.wrap (C+1))else some (decide ((j.size:Int)<=12))
def BJ(j:ByteArray):Option Bool:=
 iE j fuel 0
def fL(j:M.Key):Option Bool:=
 (bB j.aJr 1 3).bind λx1=>if x1 then(bB j.N (-1000000000000) 1000000000000).bind λx4=>if x4 then if j.aJr !=2 then(BJ j.aJ2).bind λx8=>if x8 then if j.aJr !=1 then some true else some (j.aJ2.toList==(⟨#[]⟩:ByteArray).toList)else some false else if j.N==0 then(BJ j.aJ2).bind λC=>if C then if j.aJr !=1 then some true else some (j.aJ2.toList==(⟨#[]⟩:ByteArray).toList)else some false else some false else some false else some false
def nD(j:M.aW):Option Bool:=
 (bB j.aJq 1 1000000).bind λx1=>if x1 then(bB j.Seq 1 1000000).bind λx4=>if x4 then(fL j.Key).bind λx7=>if x7 then(cE j.Field).bind λC=>if C then(bB j.N 0 1000000000).bind λI=>some I else some false else some false else some false else some false
def gM(j:M.aA):Nat->Int->Option Bool
 |0,_=>none
 |I+1,C=>if decide (C<(List.length j.aJi:Int))then(idx j.aJi C).bind λx6=>(cE x6.Name).bind λJ=>if !J then some false else(bB x6.N 0 1000000000).bind λU=>if !U then some false else if decide (C>0)then(idx j.aJi (i64.wrap (C-1))).bind λah=>if !(Op.bytesLess ah.Name.toList x6.Name.toList)then some false else gM j I (i64.wrap (C+1))else gM j I (i64.wrap (C+1))else some (decide ((List.length j.aJi:Int)<=6))
def bS(j:M.aA):Option Bool:=
 gM j fuel 0
def BM(j:Bool)(C:Bool):Option Int:=
 if j then some (-1)else if C then some 1 else some 0
def bO(j:M.Key)(C:M.Key):Option Int:=
 (fL j).bind λx1=>if !x1 then some 0 else(fL C).bind λx4=>if !x4 then some 0 else if j.aJr !=C.aJr then(BM (decide (j.aJr<C.aJr)) true).bind λx8=>some x8 else if j.N !=C.N then(BM (decide (j.N<C.N)) true).bind λI=>some I else(BM (Op.bytesLess j.aJ2.toList C.aJ2.toList) (!(Op.bytesLess j.aJ2.toList C.aJ2.toList||j.aJ2.toList==C.aJ2.toList))).bind λJ=>some J
def iO(j:M.aD):Nat->Int->Option Bool
 |0,_=>none
 |I+1,C=>if decide (C<(List.length j.aJe:Int))then(idx j.aJe C).bind λx6=>(fL x6.Key).bind λJ=>if !J then some false else(bS x6.aA).bind λU=>if !U then some false else if decide (C>0)then(idx j.aJe (i64.wrap (C-1))).bind λah=>(bO ah.Key x6.Key).bind λai=>if decide (ai>=0)then some false else iO j I (i64.wrap (C+1))else iO j I (i64.wrap (C+1))else(cE j.Name).bind λaj=>if aj then if decide ((List.length j.aJe:Int)<=16)then(bB j.aJ7 0 1000000).bind λak=>some ak else some false else some false
def oR(j:M.aD):Option Bool:=
 iO j fuel 0
def jW(j:M.aJn):Nat->Int->Option Bool
 |0,_=>none
 |I+1,C=>if decide (C<(List.length j.aJ8:Int))then(idx j.aJ8 C).bind λJ=>(nD J).bind λU=>if !U then some false else jW j I (i64.wrap (C+1))else(oR j.aD).bind λah=>if ah then if j.aD.Name.toList==(⟨#[110,111,116,101,115]⟩:ByteArray).toList then some (decide ((List.length j.aK:Int)<=60))else some false else some false
def gO(j:M.aJn):Nat->Int->Option Bool
 |0,_=>none
 |I+1,C=>if decide (C<(List.length j.aK:Int))then(idx j.aK C).bind λx6=>(bB x6.aJq 1 1000000).bind λJ=>if !J then some false else(bB x6.Seq 0 1000000).bind λU=>if !U then some false else if decide (C>0)then(idx j.aK (i64.wrap (C-1))).bind λah=>if decide (ah.aJq>=x6.aJq)then some false else gO j I (i64.wrap (C+1))else gO j I (i64.wrap (C+1))else jW j fuel 0
def Bw(j:M.aJn):Option Bool:=
 gO j fuel 0
def pW(j:M.bD):Nat->Int->Option Bool
 |0,_=>none
 |I+1,C=>if decide (C<(List.length j.aJ:Int))then(idx j.aJ C).bind λx6=>(cE x6.aKG).bind λJ=>if !J then some false else if x6.aJd !=j.aJd then some false else pW j I (i64.wrap (C+1))else(bB j.Id 1 1000000000000).bind λU=>if U then(cE j.aJj).bind λah=>if ah then(cE j.Top).bind λai=>if ai then(bB j.aJd 1 1000000000000).bind λaj=>if aj then some (decide ((List.length j.aJ:Int)<=8))else some false else some false else some false else some false
def zJ(j:M.bD):Option Bool:=
 pW j fuel 0
def gF(C:M.aC)(I:ByteArray)(J:ByteArray):Nat->Int->Option Int
 |0,_=>none
 |U+1,j=>if decide (j<(List.length C.aJh:Int))then(idx C.aJh j).bind λx8=>if x8.aJj.toList==I.toList then if x8.Top.toList==J.toList then some j else gF C I J U (i64.wrap (j+1))else gF C I J U (i64.wrap (j+1))else some (-1)
def fF(j:M.aC)(C:ByteArray)(I:ByteArray):Option Int:=
 gF j C I fuel 0
def cJ(j:M.aJc):Nat->Int->Int->Option Bool
 |0,_,_=>none
 |J+1,U,I=>if decide (I<((3:Nat):Int))then(idx ([j.aKL,j.aKE,j.aJ9]) I).bind λC=>(bB C 0 1000000000000).bind λaf=>if !af then some false else if C !=0 then if decide (C<=U)then some false else cJ j J C (i64.wrap (I+1))else cJ j J U (i64.wrap (I+1))else(cE j.aJj).bind λah=>some ah
def lX(j:M.aJc):Option Bool:=
 cJ j fuel 0 0
def xY(j:M.aJg):Option Bool:=
 (bB j.aKU 1 4).bind λx1=>if x1 then(bB j.aKK 0 999).bind λx4=>if x4 then(bB j.aJd 0 1000000000000).bind λx7=>if x7 then some (decide ((List.length j.aKS:Int)<=60))else some false else some false else some false
def gE(I:List M.aJo)(J:Int)(x5:M.aJo)(C:Int->Option Bool):Nat->Int->Option Bool
 |0,_=>none
 |U+1,j=>if decide (j<J)then(idx I j).bind λah=>if ah.aJj.toList==x5.aJj.toList then if ah.aKG.toList==x5.aKG.toList then some false else gE I J x5 C U (i64.wrap (j+1))else gE I J x5 C U (i64.wrap (j+1))else C j
def eU(j:List M.aJo):Nat->Int->Option Bool
 |0,_=>none
 |I+1,C=>if decide (C<(List.length j:Int))then(idx j C).bind λx5=>(cE x5.aJj).bind λJ=>if !J then some false else(cE x5.aKG).bind λU=>if !U then some false else(xY x5.aJg).bind λai=>if !ai then some false else gE j C x5 (λ(aa:Int)=>eU j I (i64.wrap (C+1))) fuel 0 else some (decide ((List.length j:Int)<=12))
def rY(j:List M.aJo):Option Bool:=
 eU j fuel 0
def eT(j:M.aO):Nat->Int->Option Bool
 |0,_=>none
 |I+1,C=>if decide (C<(List.length j.aJk:Int))then(idx j.aJk C).bind λx6=>(bB x6.aJd 1 1000000000000).bind λJ=>if !J then some false else if decide (C>0)then(idx j.aJk (i64.wrap (C-1))).bind λU=>if decide (U.aJd>=x6.aJd)then some false else(rY x6.aJt).bind λah=>if !ah then some false else eT j I (i64.wrap (C+1))else(rY x6.aJt).bind λai=>if !ai then some false else eT j I (i64.wrap (C+1))else some (decide ((List.length j.aJk:Int)<=4))
def yA(j:M.aO):Option Bool:=
 eT j fuel 0
def lE(C:M.aJb)(I:ByteArray):Nat->Int->Option Int
 |0,_=>none
 |J+1,j=>if decide (j<(List.length C.aJm:Int))then(idx C.aJm j).bind λx7=>if x7.Name.toList==I.toList then some j else lE C I J (i64.wrap (j+1))else some (-1)
def nE(j:M.aJb)(C:ByteArray):Option Int:=
 lE j C fuel 0
def pM(j:M.aA)(I:ByteArray):Nat->Int->Option (Int×Bool)
 |0,_=>none
 |J+1,C=>if decide (C<(List.length j.aJi:Int))then(idx j.aJi C).bind λx7=>if x7.Name.toList==I.toList then some (x7.N,true)else pM j I J (i64.wrap (C+1))else some (0,false)
def hJ(j:M.aA)(C:ByteArray):Option (Int×Bool):=
 pM j C fuel 0
def Ee(j:M.aJl)(C:M.aJl)(I:ByteArray):Option Bool:=
 (hJ j.aA I).bind λx1=>(hJ C.aA I).bind λx3=>if decide (x1.1<x3.1)then some true else if x1.1==x3.1 then(bO j.Key C.Key).bind λx7=>some (decide (x7<0))else some false
def nP(U:ByteArray)(I:List M.aJl)(J:M.aJl)(C:Int->Option (List M.aJl)):Nat->Int->Option (List M.aJl)
 |0,_=>none
 |ai+1,j=>if decide (j>0)then(idx I (i64.wrap (j-1))).bind λaj=>(Ee J aj U).bind λak=>if ak then nP U I J C ai (i64.wrap (j-1))else C j else C j
def lM(I:M.aD)(J:ByteArray):Nat->Int->List M.aJl->Option (List M.aJl)
 |0,_,_=>none
 |ai+1,U,j=>if decide (U<(List.length I.aJe:Int))then(idx I.aJe U).bind λaf=>(hJ af.aA J).bind λaj=>if !aj.2 then lM I J ai (i64.wrap (U+1)) j else nP J j af (λ(C:Int)=>(GL j C).bind λal=>(app 56 ([]:List M.aJl) (List.take C.toNat j)).bind λao=>(yX af).bind λah=>(app 56 (List.take C.toNat j) ([ah])).bind λaq=>(app 56 ((List.take C.toNat j)++[ah]) (List.drop C.toNat j)).bind λak=>lM I J ai (i64.wrap (U+1)) (((List.take C.toNat j)++[ah])++(List.drop C.toNat j))) fuel (List.length j:Int)else some j
def CE(j:M.aD)(C:ByteArray):Option (List M.aJl):=
 lM j C fuel 0 ([]:List M.aJl)
def lV(C:ByteArray)(x1:(List M.aJl)):Nat->Int->Option (M.Key×M.Key×Bool)
 |0,_=>none
 |U+1,j=>if decide (j<(List.length x1:Int))then(idx x1 (i64.wrap (j-1))).bind λI=>(hJ I.aA C).bind λah=>(idx x1 j).bind λJ=>(hJ J.aA C).bind λai=>if ah.1==ai.1 then some (I.Key,J.Key,true)else lV C x1 U (i64.wrap (j+1))else some ((⟨0,0,(⟨#[]⟩:ByteArray)⟩:M.Key),(⟨0,0,(⟨#[]⟩:ByteArray)⟩:M.Key),false)
def uS(C:M.aD)(j:ByteArray):Option (M.Key×M.Key×Bool):=
 (CE C j).bind λx1=>lV j x1 fuel 1
def gD(U:M.aJb)(v4:Int)(C:M.aG)(I:Int->Option Bool):Nat->Int->Option Bool
 |0,_=>none
 |ai+1,j=>if decide (j<v4)then(idx U.aJw j).bind λJ=>if(J.aD.toList==C.aD.toList)&&(J.Field.toList==C.Field.toList)then some false else gD U v4 C I ai (i64.wrap (j+1))else I j
def eX(j:M.aJb):Nat->Int->Option Bool
 |0,_=>none
 |U+1,I=>if decide (I<(List.length j.aJw:Int))then(idx j.aJw I).bind λC=>(nE j C.aD).bind λJ=>if decide (J<0)then some false else(cE C.Field).bind λai=>if !ai then some false else(idx j.aJm J).bind λaj=>(uS aj C.Field).bind λak=>if ak.2.2 then some false else gD j I C (λ(af:Int)=>eX j U (i64.wrap (I+1))) fuel 0 else(cE j.Name).bind λal=>if al then(bB j.aJd 0 1000).bind λao=>if ao then if decide ((List.length j.aJm:Int)<=4)then some (decide ((List.length j.aJw:Int)<=4))else some false else some false else some false
def eW(j:M.aJb):Nat->Int->Option Bool
 |0,_=>none
 |I+1,C=>if decide (C<(List.length j.aJm:Int))then(idx j.aJm C).bind λx6=>(oR x6).bind λJ=>if !J then some false else if decide (C>0)then(idx j.aJm (i64.wrap (C-1))).bind λU=>if !(Op.bytesLess U.Name.toList x6.Name.toList)then some false else eW j I (i64.wrap (C+1))else eW j I (i64.wrap (C+1))else eX j fuel 0
def lN(j:M.aJb):Option Bool:=
 eW j fuel 0
def mH(j:M.aM):Nat->Int->Option Bool
 |0,_=>none
 |J+1,C=>if decide (C<(List.length j.aJ1:Int))then(idx j.aJ1 C).bind λI=>(nD I).bind λU=>if !U then some false else if I.aJq !=j.aJq then some false else if I.Seq !=(i64.wrap ((i64.wrap (j.aKM-(List.length j.aJ1:Int)))+C))then some false else mH j J (i64.wrap (C+1))else some true
def sV(j:M.aM):Option Bool:=
 (bB j.aJq 1 1000000).bind λx1=>if !x1 then some false else(bB j.aKM 1 1000000).bind λx4=>if !x4 then some false else if decide ((List.length j.aJ1:Int)>20)then some false else mH j fuel 0
def tR(j:M.aE):Option Bool:=
 (oR j.aJz).bind λx1=>if x1 then if j.aJz.Name.toList==(⟨#[110,111,116,101,115]⟩:ByteArray).toList then(bB j.aKV 0 1000000000000).bind λx5=>if x5 then(sV j.aJx.aM).bind λx8=>some x8 else some false else some false else some false
def xK(j:M.aJg)(C:Bool):Option Int:=
 if C then some 76 else some (i64.wrap (16+(List.length j.aKS:Int)))
def iZ(p0:M.aO)(v4:Int)(U:Int->Int->Option Int):Nat->Int->Int->Option Int
 |0,_,_=>none
 |ai+1,C,j=>(idx p0.aJk v4).bind λI=>if decide (j<(List.length I.aJt:Int))then(idx I.aJt j).bind λJ=>(xK J.aJg (J.aJg.aKU==3)).bind λaj=>iZ p0 v4 U ai (i64.wrap (C+aj)) (i64.wrap (j+1))else U C j
def eR(j:M.aO):Nat->Int->Int->Option Int
 |0,_,_=>none
 |U+1,I,C=>if decide (C<(List.length j.aJk:Int))then iZ j C (λ(J:Int) (ae:Int)=>eR j U J (i64.wrap (C+1))) fuel I 0 else some I
def xA(j:M.aO):Option Int:=
 eR j fuel 0 0
def bN(j:M.Key):Nat->Int->List Int->Option (List Int)
 |0,_,_=>none
 |J+1,I,C=>if decide (I>=0)then if j.aJr !=2 then if decide (0<=(i64.wrap (8*I)))then(app 1 C ([IntKind.u8.wrap (i64.wrap (BitVec.ofInt (IntKind.i64.bits) (Int.fdiv (i64.wrap (j.N+1000000000000)) (2^(min (i64.wrap (8*I)).toNat IntKind.i64.bits)))&&&BitVec.ofInt (IntKind.i64.bits) 255).toNat)])).bind λU=>bN j J (i64.wrap (I-1)) (C++[IntKind.u8.wrap (i64.wrap (BitVec.ofInt (IntKind.i64.bits) (Int.fdiv (i64.wrap (j.N+1000000000000)) (2^(min (i64.wrap (8*I)).toNat IntKind.i64.bits)))&&&BitVec.ofInt (IntKind.i64.bits) 255).toNat)])else none else(app 1 C (bC j.aJ2)).bind λah=>some (C++(bC j.aJ2))else(app 1 C (bC j.aJ2)).bind λai=>some (C++(bC j.aJ2))
def kM(j:M.Key):Option (List Int):=
 (fL j).bind λx1=>if !x1 then some ([]:List Int)else bN j fuel 5 ([IntKind.u8.wrap j.aJr])
def cV  :Nat->Int->List Int->Option (List Int)
 |0,_,_=>none
 |I+1,j,C=>if decide (j>127)then(app 1 C ([IntKind.u8.wrap (i64.wrap (BitVec.ofInt (IntKind.i64.bits) (i64.wrap (BitVec.ofInt (IntKind.i64.bits) j&&&BitVec.ofInt (IntKind.i64.bits) 127).toNat)|||BitVec.ofInt (IntKind.i64.bits) 128).toNat)])).bind λJ=>cV I (Int.fdiv j (2^(min (7:Int).toNat IntKind.i64.bits))) (C++[IntKind.u8.wrap (i64.wrap (BitVec.ofInt (IntKind.i64.bits) (i64.wrap (BitVec.ofInt (IntKind.i64.bits) j&&&BitVec.ofInt (IntKind.i64.bits) 127).toNat)|||BitVec.ofInt (IntKind.i64.bits) 128).toNat)])else(app 1 C ([IntKind.u8.wrap j])).bind λU=>some (C++[IntKind.u8.wrap j])
def bX(j:List Int)(C:Int):Option (List Int):=
 (app 1 ([]:List Int) j).bind λx1=>(bB C 0 1000000000000).bind λx7=>if !x7 then some j else cV fuel C j
def bW(C:List Int)(j:List Int):Option (List Int):=
 (bX C (List.length j:Int)).bind λx1=>(app 1 x1 j).bind λx3=>some (x1++j)
def cY(j:M.aA):Nat->Int->List Int->Option (List Int)
 |0,_,_=>none
 |U+1,C,I=>if decide (C<(List.length j.aJi:Int))then(idx j.aJi C).bind λJ=>(bW I (bC J.Name)).bind λah=>(bX ah J.N).bind λai=>cY j U (i64.wrap (C+1)) ai else some I
def fZ(j:M.aA):Option (List Int):=
 (bS j).bind λx1=>if !x1 then some ([]:List Int)else(bX ([]:List Int) (List.length j.aJi:Int)).bind λx4=>cY j fuel 0 x4
def kV(j:M.aD):Nat->Int->Int->Option Int
 |0,_,_=>none
 |J+1,I,C=>if decide (C<(List.length j.aJe:Int))then(idx j.aJe C).bind λx7=>(kM x7.Key).bind λU=>(fZ x7.aA).bind λaf=>kV j J (i64.wrap ((i64.wrap (I+(List.length U:Int)))+(List.length af:Int))) (i64.wrap (C+1))else some I
def uF(j:M.aD):Option Int:=
 kV j fuel 0 0
def gK(j:M.aJb):Nat->Int->Int->Option Int
 |0,_,_=>none
 |J+1,I,C=>if decide (C<(List.length j.aJm:Int))then(idx j.aJm C).bind λx7=>(uF x7).bind λU=>gK j J (i64.wrap (I+U)) (i64.wrap (C+1))else some I
def sW(j:M.aJb):Option Int:=
 gK j fuel 0 0
def D2(j:M.bL):Option Int:=
 (sW j.aJz).bind λx1=>some (i64.wrap (x1+(List.length j.Log:Int)))
def CK(j:M.aJa):Option Int:=
 (xA j.aJk).bind λx1=>(D2 j.bL).bind λx3=>(uF j.aE.aJz).bind λx5=>some (i64.wrap ((i64.wrap ((i64.wrap (x1+x3))+x5))+(i64.wrap (40*(List.length j.aE.aJx.aM.aJ1:Int)))))
def oZ(j:M.aJa):Option Bool:=
 (cE j.aJj).bind λx1=>if x1 then(cE j.Top).bind λx4=>if x4 then(lX j.aJc).bind λx7=>if x7 then if j.aJc.aJj.toList==j.aJj.toList then(yA j.aJk).bind λC=>if C then(lN j.bL.aJz).bind λI=>if I then(tR j.aE).bind λJ=>if J then(bB j.aJ4 0 1000000000000).bind λU=>if U then(CK j).bind λai=>some (decide (ai<=2500))else some false else some false else some false else some false else some false else some false else some false else some false
def Ay(j:M.aJa)(C:ByteArray)(I:ByteArray):Option Bool:=
 if Op.bytesLess j.aJj.toList C.toList then some true else if j.aJj.toList==C.toList then some (Op.bytesLess j.Top.toList I.toList)else some false
def gA(j:M.aC):Nat->Int->Option Bool
 |0,_=>none
 |I+1,C=>if decide (C<(List.length j.aJh:Int))then(idx j.aJh C).bind λx6=>(oZ x6).bind λJ=>if !J then some false else if decide (C>0)then(idx j.aJh (i64.wrap (C-1))).bind λU=>(Ay U x6.aJj x6.Top).bind λah=>if !ah then some false else gA j I (i64.wrap (C+1))else gA j I (i64.wrap (C+1))else some (decide ((List.length j.aJh:Int)<=9))
def cQ(j:M.aC):Option Bool:=
 gA j fuel 0
def dR(j:ByteArray):Nat->Int->Option Bool
 |0,_=>none
 |I+1,C=>if decide (C<(j.size:Int))then(Yf j C).bind λx5=>if decide ((x5.toNat:Int)<97)then if(x5.toNat:Int) !=47 then some false else dR j I (i64.wrap (C+1))else if decide ((x5.toNat:Int)>122)then if(x5.toNat:Int) !=47 then some false else dR j I (i64.wrap (C+1))else dR j I (i64.wrap (C+1))else(bB (j.size:Int) 1 30).bind λJ=>some J
def wK(j:ByteArray):Option Bool:=
 dR j fuel 0
def cW(I:M.aQ)(J:Int)(x6:M.fE)(C:Int->Option Bool):Nat->Int->Option Bool
 |0,_=>none
 |U+1,j=>if decide (j<J)then(idx I.aJv j).bind λah=>if x6.aKb then if ah.Name.toList==x6.Name.toList then if !ah.aKb then some false else if !x6.aKF then some false else if !ah.aKF then some false else cW I J x6 C U (i64.wrap (j+1))else cW I J x6 C U (i64.wrap (j+1))else cW I J x6 C U (i64.wrap (j+1))else C j
def fN(j:M.aQ):Nat->Int->Option Bool
 |0,_=>none
 |I+1,C=>if decide (C<(List.length j.aJv:Int))then(idx j.aJv C).bind λx6=>(wK x6.Name).bind λJ=>if !J then some false else(bB x6.bD 1 1000000000000).bind λU=>if !U then some false else cW j C x6 (λ(aa:Int)=>fN j I (i64.wrap (C+1))) fuel 0 else some (decide ((List.length j.aJv:Int)<=12))
def vV(j:M.aQ):Option Bool:=
 fN j fuel 0
def dY(j:M.World):Nat->Int->Option Bool
 |0,_=>none
 |J+1,I=>if decide (I<(List.length j.aJu:Int))then(idx j.aJu I).bind λC=>(zJ C).bind λU=>if !U then some false else if decide (C.Id>=j.aJy)then some false else if decide (I>0)then(idx j.aJu (i64.wrap (I-1))).bind λah=>if decide (ah.Id>=C.Id)then some false else(fF j.aC C.aJj C.Top).bind λai=>if decide (ai<0)then some false else dY j J (i64.wrap (I+1))else(fF j.aC C.aJj C.Top).bind λaj=>if decide (aj<0)then some false else dY j J (i64.wrap (I+1))else(bB j.Now 0 999999990000).bind λak=>if ak then(bB j.aJq 1 1000000).bind λal=>if al then(cQ j.aC).bind λao=>if ao then(bB j.aJy 1 1000000000000).bind λaq=>if aq then(vV j.aJv).bind λar=>some ar else some false else some false else some false else some false
def lQ(C:M.World):Nat->Int->Option Bool
 |0,_=>none
 |I+1,j=>if decide (j<3)then((idx C.aJ6 j).bind λx9=>((zD x9).bind λJ=>(if !J then(some false)else((xG).bind λU=>((idx U j).bind λah=>(if !(x9.Name.toList==ah.toList)then(some false)else((idx C.aJ0 j).bind λai=>((Bw ai).bind λaj=>(if !aj then(some false)else(lQ C I (i64.wrap (j+1))))))))))))else(dY C fuel 0)
def AE(j:M.World):Option Bool:=
 if(List.length j.aJ6:Int) !=3 then some false else if(List.length j.aJ0:Int) !=3 then some false else if decide ((List.length j.aJu:Int)>6)then some false else lQ j fuel 0
def Ap(j:M.Instr)(p1:Int):Option Bool:=
 (if j.aJr==5 then some true else(bB j.aJr 6 8).bind λx9=>some x9).bind λx1=>(if j.aJr==1 then some 1000 else if j.aJr==2 then some 3 else(if j.aJr==3 then some (j.aJr==3)else some (j.aJr==4)).bind λC=>if C then some p1 else(if j.aJr==6 then some (j.aJr==6)else if j.aJr==7 then some (j.aJr==7)else some (j.aJr==8)).bind λI=>if I then some 100 else some 0).bind λJ=>((bB j.aJr 1 9).bind λU=>if !U then some true else(bB j.R 0 3).bind λai=>if !ai then some true else(bB j.N 0 J).bind λaj=>some (!aj)).bind λak=>if ak then some false else(if j.aJr==4 then some (j.R !=0)else if j.aJr==9 then some (j.R !=0)else some false).bind λal=>if al then some false else(if x1 then(cE j.aJ2).bind λao=>if ao then some true else some false else some (j.aJ2.toList==(⟨#[]⟩:ByteArray).toList)).bind λaq=>some aq
def FF(j:Int)(C:Int):Option Int:=
 if decide (C<j)then some C else some j
def uM(j:Int)(C:Int):Option Int:=
 if decide (C>j)then some C else some j
def pZ(j:Int):Option Int:=
 (FF 1000 j).bind λx1=>(uM (-1) x1).bind λx3=>some x3
def vJ(C:M.aJf)(j:M.Instr):Option M.Ask:=
 if j.aJr==5 then some (⟨1,j.R,0,j.aJ2,0⟩:M.Ask)else if j.aJr==6 then some (⟨2,j.R,j.N,j.aJ2,0⟩:M.Ask)else if j.aJr==7 then(idx C.aKH j.R).bind λx4=>some (⟨3,0,j.N,j.aJ2,x4⟩:M.Ask)else if j.aJr==8 then(idx C.aKH j.R).bind λI=>some (⟨4,0,j.N,j.aJ2,I⟩:M.Ask)else some (⟨0,0,0,(⟨#[]⟩:ByteArray),0⟩:M.Ask)
def dS(x1:M.aJf):Nat->Int->Int->List Int->Option (M.aJf×M.Ask)
 |0,_,_,_=>none
 |U+1,J,I,C=>(bB J 0 (i64.wrap ((List.length x1.aJ5:Int)-1))).bind λai=>if !ai then some ((⟨x1.aJ5,J,C,I,true,x1.aKQ⟩:M.aJf),(⟨0,0,0,(⟨#[]⟩:ByteArray),0⟩:M.Ask))else(idx x1.aJ5 J).bind λj=>(Ap j (List.length x1.aJ5:Int)).bind λaj=>if !aj then some ((⟨x1.aJ5,J,C,I,true,x1.aKQ⟩:M.aJf),(⟨0,0,0,(⟨#[]⟩:ByteArray),0⟩:M.Ask))else if decide (I>=60)then some ((⟨x1.aJ5,J,C,I,true,x1.aKQ⟩:M.aJf),(⟨0,0,0,(⟨#[]⟩:ByteArray),0⟩:M.Ask))else if j.aJr==1 then(idx C j.R).bind λay=>dS x1 U (i64.wrap (J+1)) (i64.wrap (I+1)) (List.set C j.R.toNat j.N)else if j.aJr==2 then(idx C j.R).bind λak=>(pZ ak).bind λal=>(idx C j.N).bind λao=>(pZ ao).bind λaq=>(pZ (i64.wrap (al+aq))).bind λar=>dS x1 U (i64.wrap (J+1)) (i64.wrap (I+1)) (List.set C j.R.toNat ar)else if j.aJr==3 then(idx C j.R).bind λav=>if av==0 then dS x1 U j.N (i64.wrap (I+1)) C else dS x1 U (i64.wrap (J+1)) (i64.wrap (I+1)) C else if j.aJr==4 then dS x1 U j.N (i64.wrap (I+1)) C else if j.aJr==9 then some ((⟨x1.aJ5,i64.wrap (J+1),C,i64.wrap (I+1),true,x1.aKQ⟩:M.aJf),(⟨0,0,0,(⟨#[]⟩:ByteArray),0⟩:M.Ask))else if j.aJr==5 then(vJ (⟨x1.aJ5,i64.wrap (J+1),C,i64.wrap (I+1),x1.aKT,true⟩:M.aJf) j).bind λaw=>some ((⟨x1.aJ5,i64.wrap (J+1),C,i64.wrap (I+1),x1.aKT,true⟩:M.aJf),aw)else(vJ (⟨x1.aJ5,i64.wrap (J+1),C,i64.wrap (I+1),x1.aKT,j.aJr==6⟩:M.aJf) j).bind λax=>some ((⟨x1.aJ5,i64.wrap (J+1),C,i64.wrap (I+1),x1.aKT,j.aJr==6⟩:M.aJf),ax)
def yM(j:M.aJf):Option (M.aJf×M.Ask):=
 (vZ j).bind λx1=>if j.aKT then some (x1,(⟨0,0,0,(⟨#[]⟩:ByteArray),0⟩:M.Ask))else if j.aKQ then some (x1,(⟨0,0,0,(⟨#[]⟩:ByteArray),0⟩:M.Ask))else if(List.length j.aKH:Int) !=4 then some (x1,(⟨0,0,0,(⟨#[]⟩:ByteArray),0⟩:M.Ask))else if decide (j.aKO<0)then some (x1,(⟨0,0,0,(⟨#[]⟩:ByteArray),0⟩:M.Ask))else dS x1 fuel x1.Pc x1.aKO x1.aKH
def jT(C:ByteArray)(x1:(List ByteArray)):Nat->Int->Option Int
 |0,_=>none
 |I+1,j=>if decide (j<(List.length x1:Int))then(idx x1 j).bind λx9=>if x9.toList==C.toList then some j else jT C x1 I (i64.wrap (j+1))else some (-1)
def yN(j:ByteArray):Option Int:=
 (xG).bind λx1=>jT j x1 fuel 0
def cO  :Option M.aJg:=
 some (⟨4,0,0,([]:List Int),false⟩:M.aJg)
def kS(C:M.aO)(I:Int):Nat->Int->Option Int
 |0,_=>none
 |J+1,j=>if decide (j<(List.length C.aJk:Int))then(idx C.aJk j).bind λx7=>if x7.aJd==I then some j else kS C I J (i64.wrap (j+1))else some (-1)
def Ao(j:M.aO)(C:Int):Option Int:=
 kS j C fuel 0
def mA(C:M.aJs)(I:ByteArray)(J:ByteArray):Nat->Int->Option Int
 |0,_=>none
 |U+1,j=>if decide (j<(List.length C.aJt:Int))then(idx C.aJt j).bind λx8=>if x8.aJj.toList==I.toList then if x8.aKG.toList==J.toList then some j else mA C I J U (i64.wrap (j+1))else mA C I J U (i64.wrap (j+1))else some (-1)
def Co(j:M.aJs)(C:ByteArray)(I:ByteArray):Option Int:=
 mA j C I fuel 0
def xH(C:M.aO)(p1:Int)(p2:ByteArray)(p3:ByteArray):Option (M.aJg×Bool):=
 (Ao C p1).bind λx1=>(if decide (x1<0)then((cO).bind λx4=>(some (x4,false)))else((idx C.aJk x1).bind λx6=>((Co x6 p2 p3).bind λj=>(if decide (j<0)then((cO).bind λI=>(some (I,false)))else((idx x6.aJt j).bind λJ=>((wA J.aJg).bind λU=>(some (U,true))))))))
def rF(j:M.aJj)(C:Int):Option Bool:=
 (zD j).bind λx1=>if x1 then(uM 1 (i64.wrap ((i64.wrap (j.aJd-2))+1))).bind λx4=>(bB C x4 j.aJd).bind λx6=>some x6 else some false
def nX(j:M.aJj)(I:ByteArray):Nat->Int->Option Bool
 |0,_=>none
 |J+1,C=>if decide (C<(List.length j.aKA:Int))then(idx j.aKA C).bind λx7=>if x7.toList==I.toList then some true else nX j I J (i64.wrap (C+1))else some false
def Cp(j:M.aJj)(C:ByteArray):Option Bool:=
 nX j C fuel 0
def gV(j:List Int):Nat->Int->List Int->Option (List Int)
 |0,_,_=>none
 |U+1,I,C=>if decide (I<(List.length j:Int))then(idx j I).bind λJ=>(app 8 C ([i64.wrap J])).bind λaf=>gV j U (i64.wrap (I+1)) (C++[i64.wrap J])else some C
def pT(j:List Int):Option (List Int):=
 gV j fuel 0 ([(List.length j:Int)])
def GM(C:Int)(j:Int):Option Int:=
 (bB j 1 1000000000000).bind λx1=>if !x1 then some 0 else if decide (j=0)then none else some (Int.tmod (i64.wrap ((Int.tmod C j)+j)) j)
def vY(j:List Int):Nat->Int->Int->Option Int
 |0,_,_=>none
 |J+1,I,C=>if decide (C<(List.length j:Int))then(idx j C).bind λx6=>(GM x6 2147483647).bind λU=>vY j J (Int.tmod (i64.wrap ((i64.wrap ((i64.wrap (I*1000003))+U))+13)) 2147483647) (i64.wrap (C+1))else some I
def Ek(j:List Int):Option Int:=
 vY j fuel 11 0
def uA(j:Int)(C:List Int):Option Int:=
 (app 8 ([j]) C).bind λx1=>(app 8 ([j]++C) ([j])).bind λx3=>(Ek (([j]++C)++[j])).bind λx5=>some x5
def iI(j:Int)(C:ByteArray):Option Int:=
 (pT (bC C)).bind λx1=>(uA j x1).bind λx3=>(uM 1 x3).bind λx5=>some x5
def tX(x5:Int):Nat->Int->List Int->Option (List Int)
 |0,_,_=>none
 |I+1,j,C=>if decide (j>=0)then if decide (0<=(i64.wrap (8*j)))then(app 1 C ([IntKind.u8.wrap (i64.wrap (BitVec.ofInt (IntKind.i64.bits) (Int.fdiv x5 (2^(min (i64.wrap (8*j)).toNat IntKind.i64.bits)))&&&BitVec.ofInt (IntKind.i64.bits) 255).toNat)])).bind λJ=>tX x5 I (i64.wrap (j-1)) (C++[IntKind.u8.wrap (i64.wrap (BitVec.ofInt (IntKind.i64.bits) (Int.fdiv x5 (2^(min (i64.wrap (8*j)).toNat IntKind.i64.bits)))&&&BitVec.ofInt (IntKind.i64.bits) 255).toNat)])else none else some C
def DN(j:M.aJj)(C:ByteArray)(I:Int):Option (List Int):=
 (iI 107 j.Name).bind λx1=>(iI 109 C).bind λx3=>(uA (i64.wrap (1+I)) ([103,x1,x3])).bind λx5=>tX x5 fuel 5 ([]:List Int)
def Ak(j:M.aJj)(I:ByteArray)(C:Int):Option M.aJg:=
 (zD j).bind λx1=>(if !x1 then((cO).bind λx4=>(some x4))else((rF j C).bind λx6=>(if !x6 then(some (⟨1,404,j.aJd,([]:List Int),false⟩:M.aJg))else((Cp j I).bind λx9=>(if !x9 then(some (⟨1,404,j.aJd,([]:List Int),false⟩:M.aJg))else((DN j I C).bind λJ=>(some (⟨1,200,C,J,j.aKF⟩:M.aJg))))))))
def vA(J:M.aO)(j:M.aJj)(C:Int)(I:ByteArray)(U:Bool):Option M.aJg:=
 (xH J C j.Name I).bind λx1=>(if x1.2 then(some x1.1)else(if U then((Ak j I C).bind λx5=>(some x5))else((cO).bind λx7=>(some x7))))
def tV(j:M.World)(C:M.bD)(p2:ByteArray):Option M.aJg:=
 (fF j.aC C.aJj C.Top).bind λx1=>((yN C.aJj).bind λx3=>(if decide (x1<0)then((cO).bind λx6=>(some x6))else(if decide (x3<0)then((cO).bind λx9=>(some x9))else((idx j.aC.aJh x1).bind λI=>((idx j.aJ6 x3).bind λJ=>((vA I.aJk J C.aJd p2 j.aKB).bind λU=>(some U)))))))
def Bh(j:M.bD)(I:ByteArray)(C:M.aJg):Option (M.bD×Bool):=
 (kH j).bind λx1=>(app 24 x1.aJ ([(⟨I,C.aJd⟩:M.aJ)])).bind λx3=>if C.aKK !=200 then(kH j).bind λJ=>some (J,false)else if C.aJd !=j.aJd then(kH j).bind λU=>some (U,false)else(zJ j).bind λaf=>if !af then(kH j).bind λah=>some (ah,false)else(zJ (⟨x1.Id,x1.aJj,x1.Top,x1.aJd,x1.aJ++[(⟨I,C.aJd⟩:M.aJ)],x1.aJf⟩:M.bD)).bind λai=>if !ai then(kH j).bind λaj=>some (aj,false)else some ((⟨x1.Id,x1.aJj,x1.Top,x1.aJd,x1.aJ++[(⟨I,C.aJd⟩:M.aJ)],x1.aJf⟩:M.bD),true)
def mS(j:M.aJf)(C:Int)(I:Int):Option (M.aJf×Bool):=
 (vZ j).bind λx1=>if !j.aKQ then some (x1,false)else(bB C 0 (i64.wrap ((List.length j.aKH:Int)-1))).bind λx4=>if !x4 then some (x1,false)else(bB I (-1) 1000).bind λx7=>if !x7 then some (x1,false)else(idx x1.aKH C).bind λJ=>some ((⟨x1.aJ5,x1.Pc,List.set x1.aKH C.toNat I,x1.aKO,x1.aKT,false⟩:M.aJf),true)
def eG(J:List Int)(C:Int):Nat->Int->Int->Option (Int×Int×Bool)
 |0,_,_=>none
 |U+1,I,j=>if decide (j<6)then if decide (C<0)then some (0,0,false)else if decide (C>=(i64.wrap ((List.length J:Int)-j)))then some (0,0,false)else(idx J (i64.wrap (C+j))).bind λx9=>if decide (0<=(i64.wrap (7*j)))then if decide ((i64.wrap x9)<128)then if(i64.wrap x9)==0 then if decide (j>0)then some (0,0,false)else if decide ((i64.wrap (BitVec.ofInt (IntKind.i64.bits) I|||BitVec.ofInt (IntKind.i64.bits) (i64.wrap ((i64.wrap (BitVec.ofInt (IntKind.i64.bits) (i64.wrap x9)&&&BitVec.ofInt (IntKind.i64.bits) 127).toNat)*2^(min (i64.wrap (7*j)).toNat IntKind.i64.bits)))).toNat)>1000000000000)then some (0,0,false)else some (i64.wrap (BitVec.ofInt (IntKind.i64.bits) I|||BitVec.ofInt (IntKind.i64.bits) (i64.wrap ((i64.wrap (BitVec.ofInt (IntKind.i64.bits) (i64.wrap x9)&&&BitVec.ofInt (IntKind.i64.bits) 127).toNat)*2^(min (i64.wrap (7*j)).toNat IntKind.i64.bits)))).toNat,i64.wrap ((i64.wrap (C+j))+1),true)else if decide ((i64.wrap (BitVec.ofInt (IntKind.i64.bits) I|||BitVec.ofInt (IntKind.i64.bits) (i64.wrap ((i64.wrap (BitVec.ofInt (IntKind.i64.bits) (i64.wrap x9)&&&BitVec.ofInt (IntKind.i64.bits) 127).toNat)*2^(min (i64.wrap (7*j)).toNat IntKind.i64.bits)))).toNat)>1000000000000)then some (0,0,false)else some (i64.wrap (BitVec.ofInt (IntKind.i64.bits) I|||BitVec.ofInt (IntKind.i64.bits) (i64.wrap ((i64.wrap (BitVec.ofInt (IntKind.i64.bits) (i64.wrap x9)&&&BitVec.ofInt (IntKind.i64.bits) 127).toNat)*2^(min (i64.wrap (7*j)).toNat IntKind.i64.bits)))).toNat,i64.wrap ((i64.wrap (C+j))+1),true)else eG J C U (i64.wrap (BitVec.ofInt (IntKind.i64.bits) I|||BitVec.ofInt (IntKind.i64.bits) (i64.wrap ((i64.wrap (BitVec.ofInt (IntKind.i64.bits) (i64.wrap x9)&&&BitVec.ofInt (IntKind.i64.bits) 127).toNat)*2^(min (i64.wrap (7*j)).toNat IntKind.i64.bits)))).toNat) (i64.wrap (j+1))else none else some (0,0,false)
def fI(j:List Int)(C:Int):Option (Int×Int×Bool):=
 eG j C fuel 0 0
def eC(j:List Int)(C:Int)(I:Int):Option ((List Int)×Int×Bool):=
 (fI j C).bind λx1=>if !x1.2.2 then some (([]:List Int),0,false)else if decide (x1.1>I)then some (([]:List Int),0,false)else if decide (x1.1>(i64.wrap ((List.length j:Int)-x1.2.1)))then some (([]:List Int),0,false)else(QX j x1.2.1 (i64.wrap (x1.2.1+x1.1))).bind λx6=>(app 1 ([]:List Int) (List.drop x1.2.1.toNat (List.take (i64.wrap (x1.2.1+x1.1)).toNat j))).bind λx8=>some (List.drop x1.2.1.toNat (List.take (i64.wrap (x1.2.1+x1.1)).toNat j),i64.wrap (x1.2.1+x1.1),true)
def wY(j:Int)(C:List Int):Option Int:=
 (pT C).bind λx1=>(app 8 ([101,j]) x1).bind λx3=>(Ek ([101,j]++x1)).bind λx5=>some x5
def sC(J:List Int):Nat->Int->List (List Int)->Option ((List (List Int))×Int)
 |0,_,_=>none
 |ah+1,C,j=>if decide (C<(List.length J:Int))then(eC J C 4000).bind λI=>if !I.2.2 then some (j,C)else(fI J I.2.1).bind λU=>if !U.2.2 then some (j,C)else(wY (List.length j:Int) I.1).bind λai=>if U.1 !=ai then some (j,C)else(app 24 j ([I.1])).bind λaj=>sC J ah U.2.1 (j++[I.1])else some (j,C)
def Cr(j:List Int):Option ((List (List Int))×Int):=
 sC j fuel 0 ([]:List (List Int))
def kR(j:List Int)(x2:Int):Nat->Int->Int->Option (M.Key×Bool)
 |0,_,_=>none
 |J+1,C,I=>if decide (I<7)then(idx j I).bind λU=>kR j x2 J (i64.wrap (BitVec.ofInt (IntKind.i64.bits) (i64.wrap (C*2^(min (8:Int).toNat IntKind.i64.bits)))|||BitVec.ofInt (IntKind.i64.bits) (i64.wrap U)).toNat) (i64.wrap (I+1))else(D3 j 7).bind λah=>(toStr (List.drop (7:Int).toNat j)).bind λai=>(fL (⟨i64.wrap x2,i64.wrap (C-1000000000000),bF (List.drop (7:Int).toNat j)⟩:M.Key)).bind λaf=>if !af then some ((⟨0,0,(⟨#[]⟩:ByteArray)⟩:M.Key),false)else some ((⟨i64.wrap x2,i64.wrap (C-1000000000000),bF (List.drop (7:Int).toNat j)⟩:M.Key),true)
def tJ(j:List Int):Option (M.Key×Bool):=
 if(List.length j:Int)==0 then some ((⟨0,0,(⟨#[]⟩:ByteArray)⟩:M.Key),false)else(idx j 0).bind λx2=>if(i64.wrap x2) !=2 then if decide ((List.length j:Int)<7)then some ((⟨0,0,(⟨#[]⟩:ByteArray)⟩:M.Key),false)else kR j x2 fuel 0 1 else(D3 j 1).bind λI=>(toStr (List.drop (1:Int).toNat j)).bind λJ=>(fL (⟨i64.wrap x2,0,bF (List.drop (1:Int).toNat j)⟩:M.Key)).bind λC=>if !C then some ((⟨0,0,(⟨#[]⟩:ByteArray)⟩:M.Key),false)else some ((⟨i64.wrap x2,0,bF (List.drop (1:Int).toNat j)⟩:M.Key),true)
def pX(U:List Int)(x1:(Int×Int×Bool)):Nat->Int->Int->List M.Field->Option (M.aA×Int×Bool)
 |0,_,_,_=>none
 |ah+1,v8,C,I=>if decide (C<x1.1)then(eC U v8 8).bind λj=>if !j.2.2 then some ((⟨([]:List M.Field)⟩:M.aA),0,false)else(fI U j.2.1).bind λJ=>if !J.2.2 then some ((⟨([]:List M.Field)⟩:M.aA),0,false)else(toStr j.1).bind λaj=>(app 24 I ([(⟨bF j.1,J.1⟩:M.Field)])).bind λak=>pX U x1 ah J.2.1 (i64.wrap (C+1)) (I++[(⟨bF j.1,J.1⟩:M.Field)])else(bS (⟨I⟩:M.aA)).bind λai=>some ((⟨I⟩:M.aA),v8,ai)
def Fq(j:List Int)(C:Int):Option (M.aA×Int×Bool):=
 (fI j C).bind λx1=>if !x1.2.2 then some ((⟨([]:List M.Field)⟩:M.aA),0,false)else if decide (x1.1>6)then some ((⟨([]:List M.Field)⟩:M.aA),0,false)else pX j x1 fuel x1.2.1 0 ([]:List M.Field)
def oJ(j:List Int):Option (M.aA×Bool):=
 (Fq j 0).bind λx1=>if !x1.2.2 then some ((⟨([]:List M.Field)⟩:M.aA),false)else if x1.2.1 !=(List.length j:Int)then some ((⟨([]:List M.Field)⟩:M.aA),false)else some (x1.1,true)
def Dw(j:List Int)(J:Int):Option (M.Op×Int×Bool):=
 (fI j J).bind λx1=>(eC j x1.2.1 100).bind λx3=>(eC j x3.2.1 100).bind λx5=>(eC j x5.2.1 200).bind λx7=>(eC j x7.2.1 100).bind λx9=>if !x1.2.2 then some ((⟨0,(⟨#[]⟩:ByteArray),(⟨0,0,(⟨#[]⟩:ByteArray)⟩:M.Key),(⟨([]:List M.Field)⟩:M.aA),(⟨#[]⟩:ByteArray)⟩:M.Op),0,false)else if !x3.2.2 then some ((⟨0,(⟨#[]⟩:ByteArray),(⟨0,0,(⟨#[]⟩:ByteArray)⟩:M.Key),(⟨([]:List M.Field)⟩:M.aA),(⟨#[]⟩:ByteArray)⟩:M.Op),0,false)else if !x5.2.2 then some ((⟨0,(⟨#[]⟩:ByteArray),(⟨0,0,(⟨#[]⟩:ByteArray)⟩:M.Key),(⟨([]:List M.Field)⟩:M.aA),(⟨#[]⟩:ByteArray)⟩:M.Op),0,false)else if !x7.2.2 then some ((⟨0,(⟨#[]⟩:ByteArray),(⟨0,0,(⟨#[]⟩:ByteArray)⟩:M.Key),(⟨([]:List M.Field)⟩:M.aA),(⟨#[]⟩:ByteArray)⟩:M.Op),0,false)else if !x9.2.2 then some ((⟨0,(⟨#[]⟩:ByteArray),(⟨0,0,(⟨#[]⟩:ByteArray)⟩:M.Key),(⟨([]:List M.Field)⟩:M.aA),(⟨#[]⟩:ByteArray)⟩:M.Op),0,false)else(toStr x3.1).bind λU=>(toStr x9.1).bind λah=>(tJ x5.1).bind λC=>(oJ x7.1).bind λI=>some ((⟨x1.1,bF x3.1,C.1,I.1,bF x9.1⟩:M.Op),x9.2.1,true)
def Eo(j:M.Op):Option Bool:=
 (bB j.aJr 1 6).bind λx1=>if x1 then(cE j.aD).bind λx4=>if x4 then if j.aJr==5 then(bS j.aA).bind λx8=>if x8 then if j.aJr==6 then(cE j.Field).bind λC=>if C then some true else if j.aJr !=6 then some (j.Field.toList==(⟨#[]⟩:ByteArray).toList)else some false else if j.aJr !=6 then some (j.Field.toList==(⟨#[]⟩:ByteArray).toList)else some false else some false else(fL j.Key).bind λI=>if I then(bS j.aA).bind λJ=>if J then if j.aJr==6 then(cE j.Field).bind λU=>if U then some true else if j.aJr !=6 then some (j.Field.toList==(⟨#[]⟩:ByteArray).toList)else some false else if j.aJr !=6 then some (j.Field.toList==(⟨#[]⟩:ByteArray).toList)else some false else some false else some false else some false else some false
def oC(C:List M.Op):Nat->Int->List Int->Option (List Int)
 |0,_,_=>none
 |U+1,I,J=>if decide (I<(List.length C:Int))then(idx C I).bind λj=>(Eo j).bind λah=>if !ah then some ([]:List Int)else(bX J j.aJr).bind λai=>(bW ai (bC j.aD)).bind λaj=>(kM j.Key).bind λak=>(bW aj ak).bind λal=>(fZ j.aA).bind λao=>(bW al ao).bind λaq=>(bW aq (bC j.Field)).bind λar=>oC C U (i64.wrap (I+1)) ar else if decide ((List.length C:Int)>6)then some ([]:List Int)else some J
def tL(j:List M.Op):Option (List Int):=
 (bX ([]:List Int) (List.length j:Int)).bind λx1=>oC j fuel 0 x1
def xO(j:List Int)(C:List Int):Option Bool:=
 (toStr j).bind λx1=>(toStr C).bind λx3=>some ((bF j).toList==(bF C).toList)
def kX(I:List Int)(x1:(Int×Int×Bool)):Nat->Int->Int->List M.Op->Option ((List M.Op)×Bool)
 |0,_,_,_=>none
 |U+1,v5,J,j=>if decide (J<x1.1)then(Dw I v5).bind λC=>if !C.2.2 then some (([]:List M.Op),false)else(app 96 j ([C.1])).bind λaj=>kX I x1 U C.2.1 (i64.wrap (J+1)) (j++[C.1])else(tL j).bind λah=>(xO ah I).bind λai=>if !ai then some (([]:List M.Op),false)else some (j,true)
def tH(j:List Int):Option ((List M.Op)×Bool):=
 (fI j 0).bind λx1=>if !x1.2.2 then some (([]:List M.Op),false)else if decide (x1.1>6)then some (([]:List M.Op),false)else kX j x1 fuel x1.2.1 0 ([]:List M.Op)
def mR(I:M.aD)(j:M.Key):Nat->Int->Option Int
 |0,_=>none
 |J+1,C=>if decide (C<(List.length I.aJe:Int))then(idx I.aJe C).bind λx8=>if(x8.Key.aJr==j.aJr)&&((x8.Key.N==j.N)&&(x8.Key.aJ2.toList==j.aJ2.toList))then some C else mR I j J (i64.wrap (C+1))else some (-1)
def gX(j:M.aD)(C:M.Key):Option Int:=
 mR j C fuel 0
def oI(p0:M.aD)(I:M.Key)(p2:M.aA)(C:M.aD):Nat->Int->Option (M.aD×Bool)
 |0,_=>none
 |aj+1,j=>if decide (j<(List.length p0.aJe:Int))then(idx p0.aJe j).bind λak=>(bO ak.Key I).bind λal=>if decide (al<0)then oI p0 I p2 C aj (i64.wrap (j+1))else(GL C.aJe j).bind λaw=>(app 56 ([]:List M.aJl) (List.take j.toNat C.aJe)).bind λax=>(cD p2).bind λU=>(app 56 (List.take j.toNat C.aJe) ([(⟨I,U⟩:M.aJl)])).bind λay=>(app 56 ((List.take j.toNat C.aJe)++[(⟨I,U⟩:M.aJl)]) (List.drop j.toNat C.aJe)).bind λaz=>if I.aJr==1 then(bB I.N (i64.wrap (p0.aJ7+1)) 1000000).bind λah=>if ah then some ((⟨C.Name,((List.take j.toNat C.aJe)++[(⟨I,U⟩:M.aJl)])++(List.drop j.toNat C.aJe),I.N⟩:M.aD),true)else some ((⟨C.Name,((List.take j.toNat C.aJe)++[(⟨I,U⟩:M.aJl)])++(List.drop j.toNat C.aJe),C.aJ7⟩:M.aD),true)else some ((⟨C.Name,((List.take j.toNat C.aJe)++[(⟨I,U⟩:M.aJl)])++(List.drop j.toNat C.aJe),C.aJ7⟩:M.aD),true)else(GL C.aJe j).bind λao=>(app 56 ([]:List M.aJl) (List.take j.toNat C.aJe)).bind λaq=>(cD p2).bind λJ=>(app 56 (List.take j.toNat C.aJe) ([(⟨I,J⟩:M.aJl)])).bind λar=>(app 56 ((List.take j.toNat C.aJe)++[(⟨I,J⟩:M.aJl)]) (List.drop j.toNat C.aJe)).bind λav=>if I.aJr==1 then(bB I.N (i64.wrap (p0.aJ7+1)) 1000000).bind λai=>if ai then some ((⟨C.Name,((List.take j.toNat C.aJe)++[(⟨I,J⟩:M.aJl)])++(List.drop j.toNat C.aJe),I.N⟩:M.aD),true)else some ((⟨C.Name,((List.take j.toNat C.aJe)++[(⟨I,J⟩:M.aJl)])++(List.drop j.toNat C.aJe),C.aJ7⟩:M.aD),true)else some ((⟨C.Name,((List.take j.toNat C.aJe)++[(⟨I,J⟩:M.aJl)])++(List.drop j.toNat C.aJe),C.aJ7⟩:M.aD),true)
def iC(j:M.aD)(J:M.Key)(U:M.aA):Option (M.aD×Bool):=
 (oR j).bind λx1=>if !x1 then(dD j).bind λx4=>some (x4,false)else(fL J).bind λx6=>if !x6 then(dD j).bind λx9=>some (x9,false)else(bS U).bind λaf=>if !af then(dD j).bind λah=>some (ah,false)else(dD j).bind λC=>(gX j J).bind λI=>if decide (I>=0)then(cD U).bind λai=>(idx C.aJe I).bind λaj=>some ((⟨C.Name,List.set C.aJe I.toNat (⟨aj.Key,ai⟩:M.aJl),C.aJ7⟩:M.aD),true)else if decide ((List.length j.aJe:Int)>=16)then some (C,false)else oI j J U C fuel 0
def Cw(j:M.aD)(C:M.Key)(I:M.aA):Option (M.aD×Bool):=
 (gX j C).bind λx1=>if decide (x1>=0)then(dD j).bind λx4=>some (x4,false)else(iC j C I).bind λx6=>some (x6.1,x6.2)
def Ae(C:M.Key)(j:M.dE):Option Bool:=
 (fL C).bind λx1=>if !x1 then some false else if j.aKY then(fL j.Low).bind λx5=>if !x5 then some false else if j.aKN then(fL j.aKR).bind λx9=>if !x9 then some false else if !j.aKY then if !j.aKN then some true else(bO C j.aKR).bind λI=>some (decide (I<=0))else(bO j.Low C).bind λJ=>if decide (J<=0)then if !j.aKN then some true else(bO C j.aKR).bind λU=>some (decide (U<=0))else some false else if !j.aKY then if !j.aKN then some true else(bO C j.aKR).bind λah=>some (decide (ah<=0))else(bO j.Low C).bind λai=>if decide (ai<=0)then if !j.aKN then some true else(bO C j.aKR).bind λaj=>some (decide (aj<=0))else some false else if j.aKN then(fL j.aKR).bind λak=>if !ak then some false else if !j.aKY then if !j.aKN then some true else(bO C j.aKR).bind λal=>some (decide (al<=0))else(bO j.Low C).bind λao=>if decide (ao<=0)then if !j.aKN then some true else(bO C j.aKR).bind λaq=>some (decide (aq<=0))else some false else if !j.aKY then if !j.aKN then some true else(bO C j.aKR).bind λar=>some (decide (ar<=0))else(bO j.Low C).bind λav=>if decide (av<=0)then if !j.aKN then some true else(bO C j.aKR).bind λaw=>some (decide (aw<=0))else some false
def hH(j:M.aD)(J:M.dE):Nat->Int->List M.aJl->Option (M.aD×Int)
 |0,_,_=>none
 |U+1,I,C=>if decide (I<(List.length j.aJe:Int))then(idx j.aJe I).bind λaf=>(Ae af.Key J).bind λai=>if !ai then(yX af).bind λah=>(app 56 C ([ah])).bind λaj=>hH j J U (i64.wrap (I+1)) (C++[ah])else hH j J U (i64.wrap (I+1)) C else some ((⟨j.Name,C,j.aJ7⟩:M.aD),i64.wrap ((List.length j.aJe:Int)-(List.length C:Int)))
def pU(j:M.aD)(C:M.dE):Option (M.aD×Int):=
 (oR j).bind λx1=>if !x1 then(dD j).bind λx4=>some (x4,0)else hH j C fuel 0 ([]:List M.aJl)
def mE(j:M.aA)(I:ByteArray)(J:Int)(x1:M.aA):Nat->Int->Option (M.aA×Bool)
 |0,_=>none
 |af+1,C=>if decide (C<(List.length j.aJi:Int))then(idx j.aJi C).bind λU=>if Op.bytesLess U.Name.toList I.toList then mE j I J x1 af (i64.wrap (C+1))else if U.Name.toList==I.toList then(idx x1.aJi C).bind λae=>(bS j).bind λah=>if !ah then(cD j).bind λai=>some (ai,false)else(bS (⟨List.set x1.aJi C.toNat (⟨ae.Name,J⟩:M.Field)⟩:M.aA)).bind λaj=>if !aj then(cD j).bind λak=>some (ak,false)else some ((⟨List.set x1.aJi C.toNat (⟨ae.Name,J⟩:M.Field)⟩:M.aA),true)else(GL j.aJi C).bind λaz=>(app 24 ([]:List M.Field) (List.take C.toNat j.aJi)).bind λba=>(app 24 (List.take C.toNat j.aJi) ([(⟨I,J⟩:M.Field)])).bind λbd=>(D3 j.aJi C).bind λbf=>(app 24 ((List.take C.toNat j.aJi)++[(⟨I,J⟩:M.Field)]) (List.drop C.toNat j.aJi)).bind λbg=>(bS j).bind λal=>if !al then(cD j).bind λao=>some (ao,false)else(bS (⟨((List.take C.toNat j.aJi)++[(⟨I,J⟩:M.Field)])++(List.drop C.toNat j.aJi)⟩:M.aA)).bind λaq=>if !aq then(cD j).bind λar=>some (ar,false)else some ((⟨((List.take C.toNat j.aJi)++[(⟨I,J⟩:M.Field)])++(List.drop C.toNat j.aJi)⟩:M.aA),true)else(GL j.aJi C).bind λbh=>(app 24 ([]:List M.Field) (List.take C.toNat j.aJi)).bind λbj=>(app 24 (List.take C.toNat j.aJi) ([(⟨I,J⟩:M.Field)])).bind λbl=>(D3 j.aJi C).bind λbm=>(app 24 ((List.take C.toNat j.aJi)++[(⟨I,J⟩:M.Field)]) (List.drop C.toNat j.aJi)).bind λbn=>(bS j).bind λav=>if !av then(cD j).bind λaw=>some (aw,false)else(bS (⟨((List.take C.toNat j.aJi)++[(⟨I,J⟩:M.Field)])++(List.drop C.toNat j.aJi)⟩:M.aA)).bind λax=>if !ax then(cD j).bind λay=>some (ay,false)else some ((⟨((List.take C.toNat j.aJi)++[(⟨I,J⟩:M.Field)])++(List.drop C.toNat j.aJi)⟩:M.aA),true)
def mQ(j:M.aA)(C:ByteArray)(I:Int):Option (M.aA×Bool):=
 (cD j).bind λx1=>mE j C I x1 fuel 0
def EO(j:M.aD)(p1:M.Key)(C:ByteArray):Option (M.aD×Int×Bool):=
 (gX j p1).bind λx1=>if decide (x1>=0)then(idx j.aJe x1).bind λx4=>(hJ x4.aA C).bind λx9=>(mQ x4.aA C (i64.wrap (x9.1+1))).bind λah=>(iC j p1 ah.1).bind λI=>if ah.2 then some (I.1,i64.wrap (x9.1+1),I.2)else some (I.1,i64.wrap (x9.1+1),false)else(hJ (⟨([]:List M.Field)⟩:M.aA) C).bind λJ=>(mQ (⟨([]:List M.Field)⟩:M.aA) C (i64.wrap (J.1+1))).bind λai=>(iC j p1 ai.1).bind λU=>if ai.2 then some (U.1,i64.wrap (J.1+1),U.2)else some (U.1,i64.wrap (J.1+1),false)
def CC(C:M.aD)(j:M.Op):Option (M.aD×Int×Bool):=
 if j.aJr==1 then(iC C j.Key j.aA).bind λx2=>some (x2.1,1,x2.2)else if j.aJr==2 then(Cw C j.Key j.aA).bind λx5=>some (x5.1,1,x5.2)else if j.aJr==3 then(pU C (⟨true,true,j.Key,j.Key⟩:M.dE)).bind λx8=>some (x8.1,x8.2,true)else if j.aJr==4 then(gX C j.Key).bind λJ=>if decide (J<0)then(dD C).bind λah=>some (ah,-1,true)else(dD C).bind λai=>(idx C.aJe J).bind λaj=>some (ai,(List.length aj.aA.aJi:Int),true)else if j.aJr==5 then(pU C (⟨false,false,(⟨0,0,(⟨#[]⟩:ByteArray)⟩:M.Key),(⟨0,0,(⟨#[]⟩:ByteArray)⟩:M.Key)⟩:M.dE)).bind λU=>some (U.1,U.2,true)else(EO C j.Key j.Field).bind λI=>some (I.1,I.2.1,I.2.2)
def Dg(j:M.aJb)(I:M.Op):Option (M.aJb×Int×Bool):=
 (mK j).bind λx1=>(nE j I.aD).bind λx3=>(lN j).bind λx5=>if !x5 then some (x1,0,false)else(Eo I).bind λx8=>if !x8 then some (x1,0,false)else if decide (x3<0)then some (x1,0,false)else(idx j.aJm x3).bind λJ=>(CC J I).bind λC=>(idx x1.aJm x3).bind λaj=>if !C.2.2 then(mK j).bind λU=>some (U,0,false)else(lN (⟨x1.Name,x1.aJd,List.set x1.aJm x3.toNat C.1,x1.aJw⟩:M.aJb)).bind λah=>if !ah then(mK j).bind λai=>some (ai,0,false)else some ((⟨x1.Name,x1.aJd,List.set x1.aJm x3.toNat C.1,x1.aJw⟩:M.aJb),C.2.1,true)
def tQ(p0:M.aJb)(I:List M.Op):Nat->Int->ByteArray->Int->List Int->List M.aD->List M.aG->Option (M.aJb×(List Int)×Bool)
 |0,_,_,_,_,_,_=>none
 |ak+1,J,ah,ai,C,U,ae=>if decide (J<(List.length I:Int))then(idx I J).bind λal=>(Dg (⟨ah,ai,U,ae⟩:M.aJb) al).bind λj=>if !j.2.2 then(mK p0).bind λao=>some (ao,([]:List Int),false)else(app 8 C ([j.2.1])).bind λaq=>tQ p0 I ak (i64.wrap (J+1)) j.1.Name j.1.aJd (C++[j.2.1]) j.1.aJm j.1.aJw else some ((⟨ah,ai,U,ae⟩:M.aJb),C,true)
def zI(j:M.aJb)(C:List M.Op):Option (M.aJb×(List Int)×Bool):=
 (mK j).bind λx1=>(lN j).bind λI=>if !I then some (x1,([]:List Int),false)else if decide ((List.length C:Int)>6)then some (x1,([]:List Int),false)else tQ j C fuel 0 x1.Name x1.aJd ([]:List Int) x1.aJm x1.aJw
def pO(x3:((List (List Int))×Int)):Nat->Int->ByteArray->Int->List M.aD->List M.aG->Option (M.aJb×Int)
 |0,_,_,_,_,_=>none
 |ak+1,C,U,ah,I,J=>if decide (C<(List.length x3.1:Int))then(idx x3.1 C).bind λal=>(tH al).bind λaj=>if !aj.2 then some ((⟨U,ah,I,J⟩:M.aJb),C)else(zI (⟨U,ah,I,J⟩:M.aJb) aj.1).bind λj=>pO x3 ak (i64.wrap (C+1)) j.1.Name j.1.aJd j.1.aJm j.1.aJw else some ((⟨U,ah,I,J⟩:M.aJb),(List.length x3.1:Int))
def xJ(j:M.bL):Option (M.aJb×Int):=
 (mK j.aJz).bind λx1=>(Cr j.Log).bind λx3=>pO x3 fuel 0 x1.Name x1.aJd x1.aJm x1.aJw
def vC(j:Int):Option M.Key:=
 some (⟨1,j,(⟨#[]⟩:ByteArray)⟩:M.Key)
def uJ(U:M.aJa)(p1:Int):Option (M.aA×Bool):=
 (xJ U.bL).bind λx1=>(nE x1.1 (⟨#[110,111,116,101,115]⟩:ByteArray)).bind λx3=>if decide (x3<0)then some ((⟨([]:List M.Field)⟩:M.aA),false)else(idx x1.1.aJm x3).bind λx6=>(vC p1).bind λC=>(gX x6 C).bind λj=>if decide (j<0)then some ((⟨([]:List M.Field)⟩:M.aA),true)else(idx x6.aJe j).bind λI=>(cD I.aA).bind λJ=>some (J,true)
def xE(C:M.World)(I:M.bD)(U:Int)(p3:ByteArray):Option Int:=
 (fF C.aC I.aJj I.Top).bind λx1=>if decide (x1<0)then some (-1)else(idx C.aC.aJh x1).bind λx4=>(uJ x4 U).bind λx9=>(hJ x9.1 p3).bind λj=>if !j.2 then some (-1)else(FF 1000 j.1).bind λJ=>some J
def zV(j:List Int)(I:Int)(J:List Int):Option ((List Int)×Bool):=
 (app 1 ([]:List Int) j).bind λx1=>(bW j J).bind λx8=>(wY I J).bind λU=>(bX x8 U).bind λC=>if decide (I<0)then some (j,false)else if decide ((List.length C:Int)>4000)then some (j,false)else some (C,true)
def wP(j:M.bL)(I:List M.Op):Option (M.bL×Bool):=
 (vX j).bind λx1=>(xJ j).bind λx3=>(zI x3.1 I).bind λx5=>(tL I).bind λx7=>if !x5.2.2 then some (x1,false)else if(List.length x7:Int)==0 then some (x1,false)else if x3.2 !=j.aKJ then some (x1,false)else(zV j.Log j.aKJ x7).bind λC=>if !C.2 then some (x1,false)else some ((⟨x1.aJz,C.1,i64.wrap (j.aKJ+1)⟩:M.bL),true)
def nH(j:M.aJa)(C:M.aJa):Option (M.aJa×Bool):=
 (oZ j).bind λx1=>if !x1 then(gC j).bind λx4=>some (x4,false)else(oZ C).bind λx6=>if !x6 then(gC j).bind λx9=>some (x9,false)else some (C,true)
def vQ(j:M.aJa)(C:M.bL):Option (M.aJa×Bool):=
 (gC j).bind λx1=>(vX C).bind λx3=>(nH j (⟨x1.aJj,x1.Top,x1.aJc,x1.aJk,x3,x1.aE,x1.aJ4,x1.aJ3⟩:M.aJa)).bind λx5=>if x5.2 then some ((⟨x1.aJj,x1.Top,x1.aJc,x1.aJk,x3,x1.aE,x1.aJ4,x1.aJ3⟩:M.aJa),true)else some (x5.1,false)
def lA(C:M.aC)(I:M.aJa)(x1:M.aC):Nat->Int->Option (M.aC×Bool)
 |0,_=>none
 |al+1,j=>if decide (j<(List.length C.aJh:Int))then(idx C.aJh j).bind λao=>(Ay ao I.aJj I.Top).bind λaq=>if aq then lA C I x1 al (i64.wrap (j+1))else(GL x1.aJh j).bind λbd=>(app 328 ([]:List M.aJa) (List.take j.toNat x1.aJh)).bind λbf=>(gC I).bind λU=>(app 328 (List.take j.toNat x1.aJh) ([U])).bind λbg=>(app 328 ((List.take j.toNat x1.aJh)++[U]) (List.drop j.toNat x1.aJh)).bind λbh=>(cQ C).bind λar=>if !ar then(fH C).bind λav=>some (av,false)else(cQ (⟨((List.take j.toNat x1.aJh)++[U])++(List.drop j.toNat x1.aJh)⟩:M.aC)).bind λaw=>if !aw then(fH C).bind λaf=>some (af,false)else some ((⟨((List.take j.toNat x1.aJh)++[U])++(List.drop j.toNat x1.aJh)⟩:M.aC),true)else(GL x1.aJh j).bind λax=>(app 328 ([]:List M.aJa) (List.take j.toNat x1.aJh)).bind λay=>(gC I).bind λJ=>(app 328 (List.take j.toNat x1.aJh) ([J])).bind λaz=>(app 328 ((List.take j.toNat x1.aJh)++[J]) (List.drop j.toNat x1.aJh)).bind λba=>(cQ C).bind λah=>if !ah then(fH C).bind λai=>some (ai,false)else(cQ (⟨((List.take j.toNat x1.aJh)++[J])++(List.drop j.toNat x1.aJh)⟩:M.aC)).bind λaj=>if !aj then(fH C).bind λak=>some (ak,false)else some ((⟨((List.take j.toNat x1.aJh)++[J])++(List.drop j.toNat x1.aJh)⟩:M.aC),true)
def zO(j:M.aC)(C:M.aJa):Option (M.aC×Bool):=
 (fH j).bind λx1=>(fF j C.aJj C.Top).bind λx3=>if decide (x3>=0)then(gC C).bind λx6=>(idx x1.aJh x3).bind λx8=>(cQ j).bind λI=>if !I then(fH j).bind λJ=>some (J,false)else(cQ (⟨List.set x1.aJh x3.toNat x6⟩:M.aC)).bind λU=>if !U then(fH j).bind λah=>some (ah,false)else some ((⟨List.set x1.aJh x3.toNat x6⟩:M.aC),true)else lA j C x1 fuel 0
def oQ(j:M.World)(C:M.aJa)(I:Bool):Option (M.World×Bool):=
 (rT j).bind λx1=>(zO j.aC C).bind λx3=>if !I then some (x1,false)else if !x3.2 then some (x1,false)else some ((⟨x1.Now,x1.aKB,x1.aJq,x3.1,x1.aJu,x1.aJy,x1.aJv,x1.aJp,x1.aJ6,x1.aJ0⟩:M.World),true)
def tK(j:M.World)(p1:M.bD)(p2:Int)(p3:ByteArray)(p4:Int):Option (M.World×Bool):=
 (fF j.aC p1.aJj p1.Top).bind λx1=>if decide (x1<0)then(rT j).bind λx4=>some (x4,false)else(idx j.aC.aJh x1).bind λx6=>(uJ x6 p2).bind λI=>(mQ I.1 p3 p4).bind λJ=>(vC p2).bind λao=>(wP x6.bL ([(⟨1,(⟨#[110,111,116,101,115]⟩:ByteArray),ao,J.1,(⟨#[]⟩:ByteArray)⟩:M.Op)])).bind λU=>(vQ x6 U.1).bind λC=>if I.2 then if J.2 then if U.2 then(oQ j C.1 C.2).bind λai=>some (ai.1,ai.2)else(oQ j C.1 false).bind λaj=>some (aj.1,aj.2)else(oQ j C.1 false).bind λak=>some (ak.1,ak.2)else(oQ j C.1 false).bind λal=>some (al.1,al.2)
def sS(j:M.aM)(C:M.Key)(I:ByteArray)(J:Int):Option (M.aM×Bool):=
 (wC j).bind λx1=>(sV j).bind λx3=>if !x3 then some (x1,false)else(app 72 x1.aJ1 ([(⟨j.aJq,j.aKM,C,I,J⟩:M.aW)])).bind λx6=>(sV (⟨x1.aJq,i64.wrap (j.aKM+1),x1.aJ1++[(⟨j.aJq,j.aKM,C,I,J⟩:M.aW)]⟩:M.aM)).bind λU=>if !U then(wC j).bind λae=>some (ae,false)else some ((⟨x1.aJq,i64.wrap (j.aKM+1),x1.aJ1++[(⟨j.aJq,j.aKM,C,I,J⟩:M.aW)]⟩:M.aM),true)
def nO(C:M.aD)(j:M.aW):Option (M.aD×Bool):=
 (gX C j.Key).bind λx1=>if decide (x1>=0)then(idx C.aJe x1).bind λx4=>(mQ x4.aA j.Field j.N).bind λx9=>if !x9.2 then(dD C).bind λah=>some (ah,false)else(iC C j.Key x9.1).bind λI=>some (I.1,I.2)else(mQ (⟨([]:List M.Field)⟩:M.aA) j.Field j.N).bind λJ=>if !J.2 then(dD C).bind λai=>some (ai,false)else(iC C j.Key J.1).bind λU=>some (U.1,U.2)
def jY(C:List M.aW):Nat->Int->ByteArray->Int->List M.aJl->Option M.aD
 |0,_,_,_,_=>none
 |ai+1,I,U,af,J=>if decide (I<(List.length C:Int))then(idx C I).bind λaj=>(nO (⟨U,J,af⟩:M.aD) aj).bind λj=>if j.2 then jY C ai (i64.wrap (I+1)) j.1.Name j.1.aJ7 j.1.aJe else jY C ai (i64.wrap (I+1)) U af J else some (⟨U,J,af⟩:M.aD)
def Bq(j:M.aD)(C:List M.aW):Option M.aD:=
 (dD j).bind λx1=>jY C fuel 0 x1.Name x1.aJ7 x1.aJe
def Cc(j:M.aE):Option M.aD:=
 (Bq j.aJz j.aJx.aM.aJ1).bind λx1=>some x1
def xU(j:M.aE)(C:M.Key)(I:ByteArray)(J:Int):Option (M.aE×Bool):=
 (wD j).bind λx1=>(sS j.aJx.aM C I J).bind λx3=>(Cc j).bind λx5=>(nO x5 (⟨0,0,C,I,J⟩:M.aW)).bind λx7=>(tR j).bind λx9=>if !x9 then some (x1,false)else if !x3.2 then some (x1,false)else if !x7.2 then some (x1,false)else some ((⟨x1.aJz,x1.aKV,(⟨x3.1,x1.aJx.aKP,x1.aJx.aKC⟩:M.aJx)⟩:M.aE),true)
def pA(j:M.aJa)(C:M.aE):Option (M.aJa×Bool):=
 (gC j).bind λx1=>(wD C).bind λx3=>(nH j (⟨x1.aJj,x1.Top,x1.aJc,x1.aJk,x1.bL,x3,x1.aJ4,x1.aJ3⟩:M.aJa)).bind λx5=>if x5.2 then some ((⟨x1.aJj,x1.Top,x1.aJc,x1.aJk,x1.bL,x3,x1.aJ4,x1.aJ3⟩:M.aJa),true)else some (x5.1,false)
def wO(j:M.World)(p1:M.bD)(p2:Int)(p3:ByteArray)(p4:Int):Option (M.World×Bool):=
 (fF j.aC p1.aJj p1.Top).bind λx1=>if decide (x1<0)then(rT j).bind λx4=>some (x4,false)else(idx j.aC.aJh x1).bind λx6=>(vC p2).bind λai=>(xU x6.aE ai p3 p4).bind λI=>(pA x6 I.1).bind λC=>if I.2 then(oQ j C.1 C.2).bind λJ=>some (J.1,J.2)else(oQ j C.1 false).bind λU=>some (U.1,U.2)
def wW(U:M.World)(p1:Int):Option (M.World×Int):=
 (rT U).bind λx1=>(Ad U p1).bind λx3=>(AE U).bind λx5=>if !x5 then some (x1,-1)else if decide (x3<0)then some (x1,-1)else(idx U.aJu x3).bind λx9=>(yM x9.aJf).bind λC=>(kH x9).bind λj=>if C.2.aJr==1 then(tV U (⟨j.Id,j.aJj,j.Top,j.aJd,j.aJ,C.1⟩:M.bD) C.2.aJ2).bind λak=>(Bh (⟨j.Id,j.aJj,j.Top,j.aJd,j.aJ,C.1⟩:M.bD) C.2.aJ2 ak).bind λai=>(mS ai.1.aJf C.2.R ak.aKK).bind λal=>(idx x1.aJu x3).bind λay=>some ((⟨x1.Now,x1.aKB,x1.aJq,x1.aC,List.set x1.aJu x3.toNat (⟨ai.1.Id,ai.1.aJj,ai.1.Top,ai.1.aJd,ai.1.aJ,al.1⟩:M.bD),x1.aJy,x1.aJv,x1.aJp,x1.aJ6,x1.aJ0⟩:M.World),C.2.aJr)else if C.2.aJr==2 then(xE U (⟨j.Id,j.aJj,j.Top,j.aJd,j.aJ,C.1⟩:M.bD) C.2.N C.2.aJ2).bind λao=>(mS C.1 C.2.R ao).bind λaq=>(idx x1.aJu x3).bind λaz=>some ((⟨x1.Now,x1.aKB,x1.aJq,x1.aC,List.set x1.aJu x3.toNat (⟨j.Id,j.aJj,j.Top,j.aJd,j.aJ,aq.1⟩:M.bD),x1.aJy,x1.aJv,x1.aJp,x1.aJ6,x1.aJ0⟩:M.World),C.2.aJr)else if C.2.aJr==3 then(uM 0 C.2.Value).bind λar=>(tK U (⟨j.Id,j.aJj,j.Top,j.aJd,j.aJ,C.1⟩:M.bD) C.2.N C.2.aJ2 ar).bind λJ=>(idx J.1.aJu x3).bind λav=>some ((⟨J.1.Now,J.1.aKB,J.1.aJq,J.1.aC,List.set J.1.aJu x3.toNat (⟨j.Id,j.aJj,j.Top,j.aJd,j.aJ,C.1⟩:M.bD),J.1.aJy,J.1.aJv,J.1.aJp,J.1.aJ6,J.1.aJ0⟩:M.World),C.2.aJr)else if C.2.aJr==4 then(uM 0 C.2.Value).bind λaj=>(wO U (⟨j.Id,j.aJj,j.Top,j.aJd,j.aJ,C.1⟩:M.bD) C.2.N C.2.aJ2 aj).bind λI=>(idx I.1.aJu x3).bind λaw=>some ((⟨I.1.Now,I.1.aKB,I.1.aJq,I.1.aC,List.set I.1.aJu x3.toNat (⟨j.Id,j.aJj,j.Top,j.aJd,j.aJ,C.1⟩:M.bD),I.1.aJy,I.1.aJv,I.1.aJp,I.1.aJ6,I.1.aJ0⟩:M.World),C.2.aJr)else(idx x1.aJu x3).bind λax=>some ((⟨x1.Now,x1.aKB,x1.aJq,x1.aC,List.set x1.aJu x3.toNat (⟨j.Id,j.aJj,j.Top,j.aJd,j.aJ,C.1⟩:M.bD),x1.aJy,x1.aJv,x1.aJp,x1.aJ6,x1.aJ0⟩:M.World),C.2.aJr)
def dK(j:List Int):Option (List Int):=
 (app 1 ([]:List Int) j).bind λx1=>some j
def kY(j:M.aJg):Option M.aJg:=
 (dK j.aKS).bind λx1=>some (⟨j.aKU,j.aKK,j.aJd,x1,j.aKZ⟩:M.aJg)
def gG(J:M.aJs)(U:Int->List M.aJo->Option M.aO):Nat->Int->List M.aJo->Option M.aO
 |0,_,_=>none
 |ak+1,C,I=>if decide (C<(List.length J.aJt:Int))then(idx J.aJt C).bind λj=>(kY j.aJg).bind λaj=>(app 88 I ([(⟨j.aJj,j.aKG,aj⟩:M.aJo)])).bind λal=>gG J U ak (i64.wrap (C+1)) (I++[(⟨j.aJj,j.aKG,aj⟩:M.aJo)])else U C I
def eQ(J:M.aO):Nat->Int->List M.aJs->Option M.aO
 |0,_,_=>none
 |aj+1,C,j=>if decide (C<(List.length J.aJk:Int))then(idx J.aJk C).bind λI=>gG I (λ(ai:Int) (U:List M.aJo)=>(app 32 j ([(⟨I.aJd,U⟩:M.aJs)])).bind λak=>eQ J aj (i64.wrap (C+1)) (j++[(⟨I.aJd,U⟩:M.aJs)])) fuel 0 ([]:List M.aJo)else some (⟨j⟩:M.aO)
def sQ(j:M.aO):Option M.aO:=
 eQ j fuel 0 ([]:List M.aJs)
def bQ(j:M.aA):Option M.aA:=
 (app 24 ([]:List M.Field) j.aJi).bind λx1=>some j
def yD(j:M.aJl):Option M.aJl:=
 (bQ j.aA).bind λx1=>some (⟨j.Key,x1⟩:M.aJl)
def kT(j:M.aD):Nat->Int->List M.aJl->Option M.aD
 |0,_,_=>none
 |U+1,I,C=>if decide (I<(List.length j.aJe:Int))then(idx j.aJe I).bind λai=>(yD ai).bind λJ=>(app 56 C ([J])).bind λaj=>kT j U (i64.wrap (I+1)) (C++[J])else some (⟨j.Name,C,j.aJ7⟩:M.aD)
def aY(j:M.aD):Option M.aD:=
 kT j fuel 0 ([]:List M.aJl)
def gI(j:M.aJb):Nat->Int->List M.aD->Option M.aJb
 |0,_,_=>none
 |U+1,I,C=>if decide (I<(List.length j.aJm:Int))then(idx j.aJm I).bind λai=>(aY ai).bind λJ=>(app 48 C ([J])).bind λaj=>gI j U (i64.wrap (I+1)) (C++[J])else some (⟨j.Name,j.aJd,C,j.aJw⟩:M.aJb)
def dN(j:M.aJb):Option M.aJb:=
 (app 32 ([]:List M.aG) j.aJw).bind λx1=>gI j fuel 0 ([]:List M.aD)
def xF(j:M.bL):Option M.bL:=
 (dN j.aJz).bind λx1=>(dK j.Log).bind λx3=>some (⟨x1,x3,j.aKJ⟩:M.bL)
def lZ(j:M.aM):Option M.aM:=
 (app 72 ([]:List M.aW) j.aJ1).bind λx1=>some j
def Bu(j:M.aJx):Option M.aJx:=
 (lZ j.aM).bind λx1=>some (⟨x1,j.aKP,j.aKC⟩:M.aJx)
def pP(j:M.aE):Option M.aE:=
 (aY j.aJz).bind λx1=>(Bu j.aJx).bind λx3=>some (⟨x1,j.aKV,x3⟩:M.aE)
def eB(j:M.aJa):Option M.aJa:=
 (sQ j.aJk).bind λx1=>(xF j.bL).bind λx3=>(pP j.aE).bind λx5=>some (⟨j.aJj,j.Top,j.aJc,x1,x3,x5,j.aJ4,j.aJ3⟩:M.aJa)
def gU(I:M.aC):Nat->Int->List M.aJa->Option M.aC
 |0,_,_=>none
 |U+1,j,C=>if decide (j<(List.length I.aJh:Int))then(idx I.aJh j).bind λah=>(eB ah).bind λJ=>(app 328 C ([J])).bind λai=>gU I U (i64.wrap (j+1)) (C++[J])else some (⟨C⟩:M.aC)
def cN(j:M.aC):Option M.aC:=
 gU j fuel 0 ([]:List M.aJa)
def mO(j:M.aJf):Option M.aJf:=
 (app 40 ([]:List M.Instr) j.aJ5).bind λx1=>(app 8 ([]:List Int) j.aKH).bind λC=>some j
def iA(j:M.bD):Option M.bD:=
 (app 24 ([]:List M.aJ) j.aJ).bind λx1=>(mO j.aJf).bind λx9=>some (⟨j.Id,j.aJj,j.Top,j.aJd,j.aJ,x9⟩:M.bD)
def lC(j:List M.bD):Nat->Int->List M.bD->Option (List M.bD)
 |0,_,_=>none
 |U+1,I,C=>if decide (I<(List.length j:Int))then(idx j I).bind λaf=>(iA af).bind λJ=>(app 144 C ([J])).bind λah=>lC j U (i64.wrap (I+1)) (C++[J])else some C
def zN(j:List M.bD):Option (List M.bD):=
 lC j fuel 0 ([]:List M.bD)
def zQ(j:M.aQ):Option M.aQ:=
 (app 32 ([]:List M.fE) j.aJv).bind λx1=>some j
def vN(j:M.aJp):Option M.aJp:=
 (app 24 ([]:List M.kK) j.aKI).bind λx1=>some j
def Bp(j:M.aJj):Option M.aJj:=
 (app 16 ([]:List ByteArray) j.aKA).bind λx1=>some j
def xQ(j:M.aJn):Option M.aJn:=
 (aY j.aD).bind λx1=>(app 16 ([]:List M.aK) j.aK).bind λx3=>(app 72 ([]:List M.aW) j.aJ8).bind λx5=>some (⟨x1,j.aK,j.aJ8⟩:M.aJn)
def fU(j:M.World)(x1:M.aC)(x3:(List M.bD))(x5:M.aQ)(x7:M.aJp)(J:List M.aJj):Nat->Int->List M.aJn->Option M.World
 |0,_,_=>none
 |ai+1,I,C=>if decide (I<(List.length j.aJ0:Int))then(idx j.aJ0 I).bind λaj=>(xQ aj).bind λU=>(app 96 C ([U])).bind λak=>fU j x1 x3 x5 x7 J ai (i64.wrap (I+1)) (C++[U])else some (⟨j.Now,j.aKB,j.aJq,x1,x3,j.aJy,x5,x7,J,C⟩:M.World)
def hU(j:M.World)(x1:M.aC)(x3:(List M.bD))(x5:M.aQ)(x7:M.aJp):Nat->Int->List M.aJj->Option M.World
 |0,_,_=>none
 |U+1,I,C=>if decide (I<(List.length j.aJ6:Int))then(idx j.aJ6 I).bind λai=>(Bp ai).bind λJ=>(app 56 C ([J])).bind λaj=>hU j x1 x3 x5 x7 U (i64.wrap (I+1)) (C++[J])else fU j x1 x3 x5 x7 C fuel 0 ([]:List M.aJn)
def pY(j:M.World):Option M.World:=
 (cN j.aC).bind λx1=>(zN j.aJu).bind λx3=>(zQ j.aJv).bind λx5=>(vN j.aJp).bind λx7=>hU j x1 x3 x5 x7 fuel 0 ([]:List M.aJj)
def vO(C:M.bD)(j:Int):Option Bool:=
 some (C.Id==j)
def dX(C:List M.bD)(I:M.bD->Option Bool):Nat->Int->Option Int
 |0,_=>none
 |J+1,j=>if decide (j<(List.length C:Int))then(idx C j).bind λx7=>(I x7).bind λU=>if U then some j else dX C I J (i64.wrap (j+1))else some (-1)
def mP(j:List M.bD)(C:M.bD->Option Bool):Option Int:=
 dX j C fuel 0
def An(j:M.World)(C:Int):Option Int:=
 (mP j.aJu (λI=>vO I C)).bind λx1=>some x1
def aV(j:Int)(C:Int)(I:Int):Option Bool:=
 if decide (C<=j)then some (decide (j<=I))else some false
def iG(j:ByteArray)(J:Int)(C:Bool):Nat->Int->Option Bool
 |0,_=>none
 |U+1,I=>if decide (I<(j.size:Int))then(Yf j I).bind λx7=>if decide ((x7.toNat:Int)>=97)then if decide ((x7.toNat:Int)<=122)then iG j J C U (i64.wrap (I+1))else if C then if !((x7.toNat:Int)==47)then some false else iG j J C U (i64.wrap (I+1))else some false else if C then if !((x7.toNat:Int)==47)then some false else iG j J C U (i64.wrap (I+1))else some false else(aV (j.size:Int) 1 J).bind λae=>some ae
def BL(j:ByteArray)(C:Int)(I:Bool):Option Bool:=
 iG j C I fuel 0
def bV(j:ByteArray):Option Bool:=
 (BL j 8 false).bind λx1=>some x1
def dQ(C:M.aJc):Nat->Int->Int->Option Bool
 |0,_,_=>none
 |U+1,I,J=>if decide (J<((3:Nat):Int))then(idx ([C.aKL,C.aKE,C.aJ9]) J).bind λj=>(aV j 0 1000000000000).bind λah=>if !ah then some false else if j !=0 then if decide (j<=I)then some false else dQ C U (if j>I then j else I) (i64.wrap (J+1))else dQ C U (if j>I then j else I) (i64.wrap (J+1))else(bV C.aJj).bind λai=>some ai
def vU(j:M.aJc):Option Bool:=
 dQ j fuel 0 0
def tU(j:M.aJo)(C:ByteArray)(c1:ByteArray):Option Bool:=
 if j.aJj.toList==C.toList then some (j.aKG.toList==c1.toList)else some false
def dC(C:List M.aJo)(I:M.aJo->Option Bool):Nat->Int->Option Int
 |0,_=>none
 |J+1,j=>if decide (j<(List.length C:Int))then(idx C j).bind λx7=>(I x7).bind λU=>if U then some j else dC C I J (i64.wrap (j+1))else some (-1)
def kJ(j:List M.aJo)(C:M.aJo->Option Bool):Option Int:=
 dC j C fuel 0
def oP(j:M.aJs)(C:ByteArray)(I:ByteArray):Option Int:=
 (kJ j.aJt (λJ=>tU J C I)).bind λx1=>some x1
def rX(j:M.aJg):Option Bool:=
 (aV j.aKU 1 4).bind λx1=>if x1 then(aV j.aKK 0 999).bind λx4=>if x4 then(aV j.aJd 0 1000000000000).bind λx7=>if x7 then some (decide ((List.length j.aKS:Int)<=60))else some false else some false else some false
def fB(x8:M.aJs)(I:Int->Option Bool):Nat->Int->Option Bool
 |0,_=>none
 |J+1,j=>if decide (j<(List.length x8.aJt:Int))then(idx x8.aJt j).bind λC=>(bV C.aJj).bind λU=>if !U then some false else(bV C.aKG).bind λaj=>if !aj then some false else(oP x8 C.aJj C.aKG).bind λak=>if ak !=j then some false else(rX C.aJg).bind λal=>if !al then some false else fB x8 I J (i64.wrap (j+1))else I j
def eS(x8:M.aJs)(I:Int->Option Bool):Nat->Int->Option Bool
 |0,_=>none
 |J+1,j=>if decide (j<(List.length x8.aJt:Int))then(idx x8.aJt j).bind λC=>(bV C.aJj).bind λU=>if !U then some false else(bV C.aKG).bind λaj=>if !aj then some false else(oP x8 C.aJj C.aKG).bind λak=>if ak !=j then some false else(rX C.aJg).bind λal=>if !al then some false else eS x8 I J (i64.wrap (j+1))else I j
def fA(C:M.aO):Nat->Int->Option Bool
 |0,_=>none
 |I+1,j=>if decide (j<(List.length C.aJk:Int))then(idx C.aJk j).bind λx8=>(aV x8.aJd 1 1000000000000).bind λJ=>if !J then some false else if decide (j>0)then(idx C.aJk (i64.wrap (j-1))).bind λU=>if decide (x8.aJd<=U.aJd)then some false else if decide ((List.length x8.aJt:Int)>12)then some false else fB x8 (λ(aa:Int)=>fA C I (i64.wrap (j+1))) fuel 0 else if decide ((List.length x8.aJt:Int)>12)then some false else eS x8 (λ(ae:Int)=>fA C I (i64.wrap (j+1))) fuel 0 else some (decide ((List.length C.aJk:Int)<=4))
def wS(j:M.aO):Option Bool:=
 fA j fuel 0
def eJ(j:ByteArray):Nat->Int->Option Bool
 |0,_=>none
 |I+1,C=>if decide (C<(j.size:Int))then(Yf j C).bind λx5=>if decide ((x5.toNat:Int)>=97)then if decide ((x5.toNat:Int)<=122)then eJ j I (i64.wrap (C+1))else if decide ((x5.toNat:Int)>=48)then if !(decide ((x5.toNat:Int)<=57))then some false else eJ j I (i64.wrap (C+1))else some false else if decide ((x5.toNat:Int)>=48)then if !(decide ((x5.toNat:Int)<=57))then some false else eJ j I (i64.wrap (C+1))else some false else some (decide ((j.size:Int)<=12))
def zP(j:ByteArray):Option Bool:=
 eJ j fuel 0
def gW(j:M.Key):Option Bool:=
 (aV j.aJr 1 3).bind λx1=>if !x1 then some false else(aV j.N (-1000000000000) 1000000000000).bind λx4=>if !x4 then some false else(zP j.aJ2).bind λx7=>if !x7 then some false else if j.aJr==2 then if !(j.N !=0)then if j.aJr==1 then some (!(!(j.aJ2.toList==(⟨#[]⟩:ByteArray).toList)))else some true else some false else if j.aJr==1 then some (!(!(j.aJ2.toList==(⟨#[]⟩:ByteArray).toList)))else some true
def gR(j:M.aA):Nat->Int->Option Bool
 |0,_=>none
 |I+1,C=>if decide (C<(List.length j.aJi:Int))then(idx j.aJi C).bind λx8=>(bV x8.Name).bind λU=>if !U then some false else(aV x8.N 0 1000000000).bind λah=>if !ah then some false else if decide (C>0)then(idx j.aJi (i64.wrap (C-1))).bind λJ=>if Op.bytesLess x8.Name.toList J.Name.toList||x8.Name.toList==J.Name.toList then some false else gR j I (i64.wrap (C+1))else gR j I (i64.wrap (C+1))else some (decide ((List.length j.aJi:Int)<=6))
def cM(j:M.aA):Option Bool:=
 gR j fuel 0
def uU(j:Int)(C:Int):Option Int:=
 if decide (j<C)then some (-1)else if decide (j>C)then some 1 else some 0
def nL(j:ByteArray)(C:ByteArray):Option Int:=some (Lib.compareBytes j.data.toList C.data.toList)
def BN(j:ByteArray)(C:ByteArray):Option Int:=
 (nL j C).bind λx1=>some x1
def eF(j:M.Key)(C:M.Key):Option Int:=
 (gW j).bind λx1=>if !x1 then some 0 else(gW C).bind λx4=>if !x4 then some 0 else(uU j.aJr C.aJr).bind λx7=>if x7 !=0 then some x7 else(uU j.N C.N).bind λI=>if I !=0 then some I else(BN j.aJ2 C.aJ2).bind λJ=>some J
def iP(j:M.aD):Nat->Int->Option Bool
 |0,_=>none
 |I+1,C=>if decide (C<(List.length j.aJe:Int))then(idx j.aJe C).bind λx8=>(gW x8.Key).bind λJ=>if !J then some false else(cM x8.aA).bind λU=>if !U then some false else if decide (C>0)then(idx j.aJe (i64.wrap (C-1))).bind λah=>(eF ah.Key x8.Key).bind λai=>if decide (ai>=0)then some false else iP j I (i64.wrap (C+1))else iP j I (i64.wrap (C+1))else(bV j.Name).bind λaj=>if aj then if decide ((List.length j.aJe:Int)<=16)then(aV j.aJ7 0 1000000).bind λak=>some ak else some false else some false
def bT(j:M.aD):Option Bool:=
 iP j fuel 0
def uX(C:M.aD)(j:ByteArray):Option Bool:=
 some (C.Name.toList==j.toList)
def dO(C:List M.aD)(I:M.aD->Option Bool):Nat->Int->Option Int
 |0,_=>none
 |J+1,j=>if decide (j<(List.length C:Int))then(idx C j).bind λx7=>(I x7).bind λU=>if U then some j else dO C I J (i64.wrap (j+1))else some (-1)
def lR(j:List M.aD)(C:M.aD->Option Bool):Option Int:=
 dO j C fuel 0
def nF(j:M.aJb)(C:ByteArray):Option Int:=
 (lR j.aJm (λI=>uX I C)).bind λx1=>some x1
def dV(C:List M.aG)(I:M.aG):Nat->Int->Option Int
 |0,_=>none
 |J+1,j=>if decide (j<(List.length C:Int))then(idx C j).bind λx8=>if(I.aD.toList==x8.aD.toList)&&(I.Field.toList==x8.Field.toList)then some j else dV C I J (i64.wrap (j+1))else some (-1)
def mJ(j:List M.aG)(C:M.aG):Option Int:=
 dV j C fuel 0
def iS(j:List M.aG)(C:M.aG):Option Bool:=
 (mJ j C).bind λx1=>some (decide (x1>=0))
def tE(C:M.Field)(j:ByteArray):Option Bool:=
 some (C.Name.toList==j.toList)
def dL(C:List M.Field)(I:M.Field->Option Bool):Nat->Int->Option Int
 |0,_=>none
 |J+1,j=>if decide (j<(List.length C:Int))then(idx C j).bind λx7=>(I x7).bind λU=>if U then some j else dL C I J (i64.wrap (j+1))else some (-1)
def lW(j:List M.Field)(C:M.Field->Option Bool):Option Int:=
 dL j C fuel 0
def AP(j:M.aA)(C:ByteArray):Option Int:=
 (lW j.aJi (λI=>tE I C)).bind λx1=>some x1
def gB(j:M.aA)(C:ByteArray):Option (Int×Bool):=
 (AP j C).bind λx1=>if decide (x1<0)then some (0,false)else(idx j.aJi x1).bind λx4=>some (x4.N,true)
def vG(j:M.aJl)(C:M.aJl)(I:ByteArray):Option Bool:=
 (gB j.aA I).bind λx1=>(gB C.aA I).bind λx3=>if decide (x1.1<x3.1)then some true else if x1.1==x3.1 then(eF j.Key C.Key).bind λx7=>some (decide (x7<0))else some false
def oF(U:ByteArray)(I:List M.aJl)(J:M.aJl)(C:Int->Option (List M.aJl)):Nat->Int->Option (List M.aJl)
 |0,_=>none
 |ai+1,j=>if decide (j>0)then(idx I (i64.wrap (j-1))).bind λaj=>(vG J aj U).bind λak=>if ak then oF U I J C ai (i64.wrap (j-1))else C j else C j
def lK(I:M.aD)(J:ByteArray):Nat->Int->List M.aJl->Option (List M.aJl)
 |0,_,_=>none
 |ai+1,C,j=>if decide (C<(List.length I.aJe:Int))then(idx I.aJe C).bind λah=>(gB ah.aA J).bind λak=>if !ak.2 then lK I J ai (i64.wrap (C+1)) j else oF J j ah (λ(U:Int)=>(yD ah).bind λaj=>(KI 56 j U ([aj])).bind λal=>lK I J ai (i64.wrap (C+1)) (List.take U.toNat j++([aj]++List.drop U.toNat j))) fuel (List.length j:Int)else some j
def Ct(j:M.aD)(C:ByteArray):Option (List M.aJl):=
 lK j C fuel 0 ([]:List M.aJl)
def fM(C:ByteArray)(x1:(List M.aJl)):Nat->Int->Option (M.Key×M.Key×Bool)
 |0,_=>none
 |U+1,j=>if decide (j<(List.length x1:Int))then(idx x1 (i64.wrap (j-1))).bind λI=>(gB I.aA C).bind λah=>(idx x1 j).bind λJ=>(gB J.aA C).bind λai=>if ah.1==ai.1 then some (I.Key,J.Key,true)else fM C x1 U (i64.wrap (j+1))else some ((⟨0,0,(⟨#[]⟩:ByteArray)⟩:M.Key),(⟨0,0,(⟨#[]⟩:ByteArray)⟩:M.Key),false)
def kA(C:M.aD)(j:ByteArray):Option (M.Key×M.Key×Bool):=
 (Ct C j).bind λx1=>fM j x1 fuel 1
def eZ(j:M.aJb):Nat->Int->Option Bool
 |0,_=>none
 |U+1,C=>if decide (C<(List.length j.aJw:Int))then(idx j.aJw C).bind λI=>(nF j I.aD).bind λJ=>if decide (J<0)then some false else(bV I.Field).bind λai=>if !ai then some false else(GL j.aJw C).bind λao=>(iS (List.take C.toNat j.aJw) I).bind λaj=>if aj then some false else(idx j.aJm J).bind λak=>(kA ak I.Field).bind λal=>if al.2.2 then some false else eZ j U (i64.wrap (C+1))else some true
def eV(C:M.aJb):Nat->Int->Option Bool
 |0,_=>none
 |J+1,j=>if decide (j<(List.length C.aJm:Int))then(idx C.aJm j).bind λI=>(bT I).bind λai=>if !ai then some false else if decide (j>0)then(idx C.aJm (i64.wrap (j-1))).bind λU=>if Op.bytesLess I.Name.toList U.Name.toList||I.Name.toList==U.Name.toList then some false else eV C J (i64.wrap (j+1))else eV C J (i64.wrap (j+1))else eZ C fuel 0
def lJ(j:M.aJb):Option Bool:=
 (bV j.Name).bind λx1=>if !x1 then some false else(aV j.aJd 0 1000).bind λx4=>if !x4 then some false else if decide ((List.length j.aJm:Int)>4)then some false else if decide ((List.length j.aJw:Int)>4)then some false else eV j fuel 0
def mV(j:M.aW):Option Bool:=
 (aV j.aJq 1 1000000).bind λx1=>if x1 then(aV j.Seq 1 1000000).bind λx4=>if x4 then(gW j.Key).bind λx7=>if x7 then(bV j.Field).bind λC=>if C then(aV j.N 0 1000000000).bind λI=>some I else some false else some false else some false else some false
def mI(j:M.aM):Nat->Int->Option Bool
 |0,_=>none
 |I+1,C=>if decide (C<(List.length j.aJ1:Int))then(idx j.aJ1 C).bind λx9=>(mV x9).bind λJ=>if !J then some false else if x9.aJq !=j.aJq then some false else if x9.Seq !=(i64.wrap ((i64.wrap (j.aKM-(List.length j.aJ1:Int)))+C))then some false else mI j I (i64.wrap (C+1))else(aV j.aJq 1 1000000).bind λU=>if U then(aV j.aKM 1 1000000).bind λai=>if ai then some (decide ((List.length j.aJ1:Int)<=20))else some false else some false
def sP(j:M.aM):Option Bool:=
 mI j fuel 0
def uL(j:M.aE):Option Bool:=
 (bT j.aJz).bind λx1=>if x1 then if j.aJz.Name.toList==(⟨#[110,111,116,101,115]⟩:ByteArray).toList then(aV j.aKV 0 1000000000000).bind λx5=>if x5 then(sP j.aJx.aM).bind λx8=>some x8 else some false else some false else some false
def yI(j:M.aJg)(C:Bool):Option Int:=
 if C then some 76 else some (i64.wrap (16+(List.length j.aKS:Int)))
def iW(x7:M.aJs)(I:Int->Int->Option Int):Nat->Int->Int->Option Int
 |0,_,_=>none
 |U+1,C,j=>if decide (j<(List.length x7.aJt:Int))then(idx x7.aJt j).bind λJ=>(yI J.aJg (J.aJg.aKU==3)).bind λaj=>iW x7 I U (i64.wrap (C+aj)) (i64.wrap (j+1))else I C j
def eY(C:M.aO):Nat->Int->Int->Option Int
 |0,_,_=>none
 |U+1,I,j=>if decide (j<(List.length C.aJk:Int))then(idx C.aJk j).bind λx7=>iW x7 (λ(J:Int) (ae:Int)=>eY C U J (i64.wrap (j+1))) fuel I 0 else some I
def xZ(j:M.aO):Option Int:=
 eY j fuel 0 0
def cC(j:M.Key):Nat->Int->List Int->Option (List Int)
 |0,_,_=>none
 |J+1,C,I=>if decide (C>=0)then if decide (0<=(i64.wrap (8*C)))then(app 1 I ([IntKind.u8.wrap (Int.fdiv (i64.wrap (j.N+1000000000000)) (2^(min (i64.wrap (8*C)).toNat IntKind.i64.bits)))])).bind λU=>cC j J (i64.wrap (C-1)) (I++[IntKind.u8.wrap (Int.fdiv (i64.wrap (j.N+1000000000000)) (2^(min (i64.wrap (8*C)).toNat IntKind.i64.bits)))])else none else(app 1 I (bC j.aJ2)).bind λah=>some (I++bC j.aJ2)
def iF(j:M.Key):Option (List Int):=
 (gW j).bind λx1=>if !x1 then some ([]:List Int)else if j.aJr !=2 then cC j fuel 5 ([IntKind.u8.wrap j.aJr])else(app 1 ([IntKind.u8.wrap j.aJr]) (bC j.aJ2)).bind λC=>some ([IntKind.u8.wrap j.aJr]++bC j.aJ2)
def cU  :Nat->Int->List Int->Option (List Int)
 |0,_,_=>none
 |I+1,j,C=>if decide (j>=128)then(app 1 C ([IntKind.u8.wrap (i64.wrap ((Int.tmod j 128)+128))])).bind λJ=>cU I (i64.wrap (Int.tdiv j 128)) (C++[IntKind.u8.wrap (i64.wrap ((Int.tmod j 128)+128))])else(app 1 C ([IntKind.u8.wrap j])).bind λU=>some (C++[IntKind.u8.wrap j])
def cF(C:List Int)(j:Int):Option (List Int):=
 (dK C).bind λx1=>(aV j 0 1000000000000).bind λx3=>if !x3 then some x1 else cU fuel j x1
def gP(C:List Int)(j:List Int):Option (List Int):=
 (cF C (List.length j:Int)).bind λx1=>(app 1 x1 j).bind λx3=>some (x1++j)
def cZ(C:M.aA):Nat->Int->List Int->Option (List Int)
 |0,_,_=>none
 |U+1,j,I=>if decide (j<(List.length C.aJi:Int))then(idx C.aJi j).bind λJ=>(gP I (bC J.Name)).bind λai=>(cF ai J.N).bind λaj=>cZ C U (i64.wrap (j+1)) aj else some I
def fT(j:M.aA):Option (List Int):=
 (cM j).bind λx1=>if !x1 then some ([]:List Int)else(cF ([]:List Int) (List.length j.aJi:Int)).bind λx4=>cZ j fuel 0 x4
def kP(j:M.aD):Nat->Int->Int->Option Int
 |0,_,_=>none
 |J+1,I,C=>if decide (C<(List.length j.aJe:Int))then(idx j.aJe C).bind λx7=>(iF x7.Key).bind λU=>(fT x7.aA).bind λaf=>kP j J (i64.wrap (I+(i64.wrap ((List.length U:Int)+(List.length af:Int))))) (i64.wrap (C+1))else some I
def tY(j:M.aD):Option Int:=
 kP j fuel 0 0
def gH(j:M.aJb):Nat->Int->Int->Option Int
 |0,_,_=>none
 |J+1,I,C=>if decide (C<(List.length j.aJm:Int))then(idx j.aJm C).bind λx7=>(tY x7).bind λU=>gH j J (i64.wrap (I+U)) (i64.wrap (C+1))else some I
def sN(j:M.aJb):Option Int:=
 gH j fuel 0 0
def DJ(j:M.bL):Option Int:=
 (sN j.aJz).bind λx1=>some (i64.wrap (x1+(List.length j.Log:Int)))
def Cs(j:M.aJa):Option Int:=
 (xZ j.aJk).bind λx1=>(DJ j.bL).bind λx3=>(tY j.aE.aJz).bind λx5=>some (i64.wrap ((i64.wrap ((i64.wrap (x1+x3))+x5))+(i64.wrap (40*(List.length j.aE.aJx.aM.aJ1:Int)))))
def oY(j:M.aJa):Option Bool:=
 (bV j.aJj).bind λx1=>if x1 then(bV j.Top).bind λx4=>if x4 then(vU j.aJc).bind λx7=>if x7 then if j.aJc.aJj.toList==j.aJj.toList then(wS j.aJk).bind λC=>if C then(lJ j.bL.aJz).bind λI=>if I then(uL j.aE).bind λJ=>if J then(aV j.aJ4 0 1000000000000).bind λU=>if U then(Cs j).bind λai=>some (decide (ai<=2500))else some false else some false else some false else some false else some false else some false else some false else some false
def oK(j:M.aJa)(C:M.aJa):Option Bool:=
 if Op.bytesLess j.aJj.toList C.aJj.toList then some true else if j.aJj.toList==C.aJj.toList then some (Op.bytesLess j.Top.toList C.Top.toList)else some false
def fW(j:M.aC):Nat->Int->Option Bool
 |0,_=>none
 |I+1,C=>if decide (C<(List.length j.aJh:Int))then(idx j.aJh C).bind λx8=>(oY x8).bind λJ=>if !J then some false else if decide (C>0)then(idx j.aJh (i64.wrap (C-1))).bind λU=>(oK U x8).bind λah=>if !ah then some false else fW j I (i64.wrap (C+1))else fW j I (i64.wrap (C+1))else some (decide ((List.length j.aJh:Int)<=9))
def cR(j:M.aC):Option Bool:=
 fW j fuel 0
def wT(j:ByteArray):Option Bool:=
 (BL j 30 true).bind λx1=>some x1
def cX(I:M.aQ)(j:Int)(x8:M.fE)(J:Int->Option Bool):Nat->Int->Option Bool
 |0,_=>none
 |U+1,C=>if decide (C<(List.length (List.take j.toNat I.aJv):Int))then(idx (List.take j.toNat I.aJv) C).bind λah=>if ah.Name.toList==x8.Name.toList then if x8.aKb then if !ah.aKb then some false else if !x8.aKF then some false else if !ah.aKF then some false else cX I j x8 J U (i64.wrap (C+1))else cX I j x8 J U (i64.wrap (C+1))else cX I j x8 J U (i64.wrap (C+1))else J C
def fO(C:M.aQ):Nat->Int->Option Bool
 |0,_=>none
 |I+1,j=>if decide (j<(List.length C.aJv:Int))then(idx C.aJv j).bind λx8=>(wT x8.Name).bind λJ=>if !J then some false else(aV x8.bD 1 1000000000000).bind λU=>if !U then some false else(GL C.aJv j).bind λai=>cX C j x8 (λ(aa:Int)=>fO C I (i64.wrap (j+1))) fuel 0 else some (decide ((List.length C.aJv:Int)<=12))
def uT(j:M.aQ):Option Bool:=
 fO j fuel 0
def rD(j:M.bD):Nat->Int->Option Bool
 |0,_=>none
 |I+1,C=>if decide (C<(List.length j.aJ:Int))then(idx j.aJ C).bind λx8=>(bV x8.aKG).bind λJ=>if !J then some false else if x8.aJd !=j.aJd then some false else rD j I (i64.wrap (C+1))else(aV j.Id 1 1000000000000).bind λU=>if U then(bV j.aJj).bind λah=>if ah then(bV j.Top).bind λai=>if ai then(aV j.aJd 1 1000000000000).bind λaj=>if aj then some (decide ((List.length j.aJ:Int)<=8))else some false else some false else some false else some false
def zH(j:M.bD):Option Bool:=
 rD j fuel 0
def sL(j:M.aJa)(C:ByteArray)(c1:ByteArray):Option Bool:=
 if j.aJj.toList==C.toList then some (j.Top.toList==c1.toList)else some false
def dB(C:List M.aJa)(I:M.aJa->Option Bool):Nat->Int->Option Int
 |0,_=>none
 |J+1,j=>if decide (j<(List.length C:Int))then(idx C j).bind λx7=>(I x7).bind λU=>if U then some j else dB C I J (i64.wrap (j+1))else some (-1)
def kE(j:List M.aJa)(C:M.aJa->Option Bool):Option Int:=
 dB j C fuel 0
def lL(j:M.aC)(C:ByteArray)(I:ByteArray):Option Int:=
 (kE j.aJh (λJ=>sL J C I)).bind λx1=>some x1
def kN(j:M.aJj):Nat->Int->Option Bool
 |0,_=>none
 |I+1,C=>if decide (C<(List.length j.aKA:Int))then(idx j.aKA C).bind λx8=>(bV x8).bind λU=>if !U then some false else if decide (C>0)then(idx j.aKA (i64.wrap (C-1))).bind λJ=>if Op.bytesLess x8.toList J.toList||x8.toList==J.toList then some false else kN j I (i64.wrap (C+1))else kN j I (i64.wrap (C+1))else(bV j.Name).bind λah=>if ah then(aV j.aJd 1 1000000000000).bind λai=>if ai then(aV (List.length j.aKA:Int) 1 6).bind λaj=>some aj else some false else some false
def yZ(j:M.aJj):Option Bool:=
 kN j fuel 0
def cH(C:List ByteArray)(I:ByteArray):Nat->Int->Option Int
 |0,_=>none
 |J+1,j=>if decide (j<(List.length C:Int))then(idx C j).bind λx7=>if I.toList==x7.toList then some j else cH C I J (i64.wrap (j+1))else some (-1)
def lT(j:List ByteArray)(C:ByteArray):Option Int:=
 cH j C fuel 0
def nV(j:ByteArray):Option Int:=
 (lT ([(⟨#[98,97,110,107]⟩:ByteArray),(⟨#[110,101,119,115]⟩:ByteArray),(⟨#[115,104,111,112]⟩:ByteArray)]) j).bind λx1=>some x1
def jZ(j:M.aJn):Nat->Int->Option Bool
 |0,_=>none
 |I+1,C=>if decide (C<(List.length j.aJ8:Int))then(idx j.aJ8 C).bind λJ=>(mV J).bind λU=>if !U then some false else jZ j I (i64.wrap (C+1))else(bT j.aD).bind λai=>if ai then if j.aD.Name.toList==(⟨#[110,111,116,101,115]⟩:ByteArray).toList then some (decide ((List.length j.aK:Int)<=60))else some false else some false
def gQ(C:M.aJn):Nat->Int->Option Bool
 |0,_=>none
 |I+1,j=>if decide (j<(List.length C.aK:Int))then(idx C.aK j).bind λx8=>(aV x8.aJq 1 1000000).bind λJ=>if !J then some false else(aV x8.Seq 0 1000000).bind λU=>if !U then some false else if decide (j>0)then(idx C.aK (i64.wrap (j-1))).bind λah=>if decide (x8.aJq<=ah.aJq)then some false else gQ C I (i64.wrap (j+1))else gQ C I (i64.wrap (j+1))else jZ C fuel 0
def Bo(j:M.aJn):Option Bool:=
 gQ j fuel 0
def iJ(C:M.World):Nat->Int->Option Bool
 |0,_=>none
 |J+1,j=>if decide (j<(List.length C.aJ6:Int))then(idx C.aJ6 j).bind λI=>(yZ I).bind λU=>if !U then some false else(nV I.Name).bind λai=>if ai !=j then some false else(idx C.aJ0 j).bind λaj=>(Bo aj).bind λak=>if !ak then some false else iJ C J (i64.wrap (j+1))else some true
def fD(j:M.World):Nat->Int->Option Bool
 |0,_=>none
 |J+1,I=>if decide (I<(List.length j.aJu:Int))then(idx j.aJu I).bind λC=>(zH C).bind λU=>if !U then some false else if decide (C.Id>=j.aJy)then some false else if decide (I>0)then(idx j.aJu (i64.wrap (I-1))).bind λai=>if decide (C.Id<=ai.Id)then some false else(lL j.aC C.aJj C.Top).bind λaj=>if decide (aj<0)then some false else fD j J (i64.wrap (I+1))else(lL j.aC C.aJj C.Top).bind λak=>if decide (ak<0)then some false else fD j J (i64.wrap (I+1))else iJ j fuel 0
def Au(j:M.World):Option Bool:=
 (aV j.Now 0 999999990000).bind λx1=>if !x1 then some false else(aV j.aJq 1 1000000).bind λx4=>if !x4 then some false else(cR j.aC).bind λx7=>if !x7 then some false else if decide ((List.length j.aJu:Int)>6)then some false else(aV j.aJy 1 1000000000000).bind λC=>if !C then some false else(uT j.aJv).bind λI=>if !I then some false else if(List.length j.aJ6:Int) !=3 then some false else if(List.length j.aJ0:Int) !=3 then some false else fD j fuel 0
def rM(j:M.Instr)(p1:Int):Option Bool:=
 ((aV j.aJr 1 9).bind λx8=>if !x8 then some true else(aV j.R 0 3).bind λC=>if !C then some true else if j.aJr==4 then some (j.R !=0)else if j.aJr==9 then some (j.R !=0)else some false).bind λx1=>if x1 then some false else(if j.aJr==5 then some true else if j.aJr==6 then some true else if j.aJr==7 then some true else some (j.aJr==8)).bind λI=>(if I then(bV j.aJ2).bind λJ=>if !J then some true else some false else some (!(j.aJ2.toList==(⟨#[]⟩:ByteArray).toList))).bind λU=>if U then some false else if j.aJr==1 then(aV j.N 0 1000).bind λai=>some ai else if j.aJr==2 then(aV j.N 0 3).bind λaj=>some aj else(if j.aJr==3 then some (j.aJr==3)else some (j.aJr==4)).bind λak=>if ak then(aV j.N 0 p1).bind λal=>some al else(if j.aJr==6 then some (j.aJr==6)else if j.aJr==7 then some (j.aJr==7)else some (j.aJr==8)).bind λao=>if ao then(aV j.N 0 100).bind λaq=>some aq else some (j.N==0)
def yC(j:Int):Option Int:=
 some (if(if j<1000 then j else 1000)>(-1)then if j<1000 then j else 1000 else -1)
def dA(x1:M.aJf):Nat->Int->Int->List Int->Option (M.aJf×M.Ask)
 |0,_,_,_=>none
 |U+1,I,J,C=>if decide (I<0)then some ((⟨x1.aJ5,I,C,J,true,x1.aKQ⟩:M.aJf),(⟨0,0,0,(⟨#[]⟩:ByteArray),0⟩:M.Ask))else if decide (I>=(List.length x1.aJ5:Int))then some ((⟨x1.aJ5,I,C,J,true,x1.aKQ⟩:M.aJf),(⟨0,0,0,(⟨#[]⟩:ByteArray),0⟩:M.Ask))else(idx x1.aJ5 I).bind λj=>(rM j (List.length x1.aJ5:Int)).bind λak=>if !ak then some ((⟨x1.aJ5,I,C,J,true,x1.aKQ⟩:M.aJf),(⟨0,0,0,(⟨#[]⟩:ByteArray),0⟩:M.Ask))else if decide (J>=60)then some ((⟨x1.aJ5,I,C,J,true,x1.aKQ⟩:M.aJf),(⟨0,0,0,(⟨#[]⟩:ByteArray),0⟩:M.Ask))else if j.aJr==1 then(idx C j.R).bind λax=>dA x1 U (i64.wrap (I+1)) (i64.wrap (J+1)) (List.set C j.R.toNat j.N)else if j.aJr==2 then(idx C j.R).bind λal=>(yC al).bind λao=>(idx C j.N).bind λaq=>(yC aq).bind λar=>(yC (i64.wrap (ao+ar))).bind λav=>dA x1 U (i64.wrap (I+1)) (i64.wrap (J+1)) (List.set C j.R.toNat av)else if j.aJr==3 then(idx C j.R).bind λaw=>if aw==0 then dA x1 U j.N (i64.wrap (J+1)) C else dA x1 U (i64.wrap (I+1)) (i64.wrap (J+1)) C else if j.aJr==4 then dA x1 U j.N (i64.wrap (J+1)) C else if j.aJr==5 then some ((⟨x1.aJ5,i64.wrap (I+1),C,i64.wrap (J+1),x1.aKT,true⟩:M.aJf),(⟨1,j.R,0,j.aJ2,0⟩:M.Ask))else if j.aJr==6 then some ((⟨x1.aJ5,i64.wrap (I+1),C,i64.wrap (J+1),x1.aKT,true⟩:M.aJf),(⟨2,j.R,j.N,j.aJ2,0⟩:M.Ask))else if j.aJr==7 then(idx C j.R).bind λai=>some ((⟨x1.aJ5,i64.wrap (I+1),C,i64.wrap (J+1),x1.aKT,x1.aKQ⟩:M.aJf),(⟨3,0,j.N,j.aJ2,ai⟩:M.Ask))else if j.aJr==8 then(idx C j.R).bind λaj=>some ((⟨x1.aJ5,i64.wrap (I+1),C,i64.wrap (J+1),x1.aKT,x1.aKQ⟩:M.aJf),(⟨4,0,j.N,j.aJ2,aj⟩:M.Ask))else if j.aJr==9 then some ((⟨x1.aJ5,i64.wrap (I+1),C,i64.wrap (J+1),true,x1.aKQ⟩:M.aJf),(⟨0,0,0,(⟨#[]⟩:ByteArray),0⟩:M.Ask))else dA x1 U (i64.wrap (I+1)) (i64.wrap (J+1)) C
def dZ(j:M.aJf):Option (M.aJf×M.Ask):=
 (mO j).bind λx1=>if j.aKT then some (x1,(⟨0,0,0,(⟨#[]⟩:ByteArray),0⟩:M.Ask))else if j.aKQ then some (x1,(⟨0,0,0,(⟨#[]⟩:ByteArray),0⟩:M.Ask))else if(List.length j.aKH:Int) !=4 then some (x1,(⟨0,0,0,(⟨#[]⟩:ByteArray),0⟩:M.Ask))else if decide (j.aKO<0)then some (x1,(⟨0,0,0,(⟨#[]⟩:ByteArray),0⟩:M.Ask))else dA x1 fuel x1.Pc x1.aKO x1.aKH
def kG(j:M.World)(C:ByteArray)(I:ByteArray):Option (M.aJa×Bool):=
 (lL j.aC C I).bind λx1=>if decide (x1<0)then some ((⟨(⟨#[]⟩:ByteArray),(⟨#[]⟩:ByteArray),(⟨(⟨#[]⟩:ByteArray),0,0,0⟩:M.aJc),(⟨([]:List M.aJs)⟩:M.aO),(⟨(⟨(⟨#[]⟩:ByteArray),0,([]:List M.aD),([]:List M.aG)⟩:M.aJb),([]:List Int),0⟩:M.bL),(⟨(⟨(⟨#[]⟩:ByteArray),([]:List M.aJl),0⟩:M.aD),0,(⟨(⟨0,0,([]:List M.aW)⟩:M.aM),0,0⟩:M.aJx)⟩:M.aE),0,false⟩:M.aJa),false)else(idx j.aC.aJh x1).bind λx4=>some (x4,true)
def cP  :Option M.aJg:=
 some (⟨4,0,0,([]:List Int),false⟩:M.aJg)
def FA(j:M.World)(C:ByteArray):Option M.aJj:=
 (nV C).bind λx1=>if decide (x1<0)then some (⟨(⟨#[]⟩:ByteArray),0,([]:List ByteArray),false⟩:M.aJj)else if decide (x1>=(List.length j.aJ6:Int))then some (⟨(⟨#[]⟩:ByteArray),0,([]:List ByteArray),false⟩:M.aJj)else(idx j.aJ6 x1).bind λx5=>some x5
def vE(C:M.aJs)(j:Int):Option Bool:=
 some (C.aJd==j)
def dM(C:List M.aJs)(I:M.aJs->Option Bool):Nat->Int->Option Int
 |0,_=>none
 |J+1,j=>if decide (j<(List.length C:Int))then(idx C j).bind λx7=>(I x7).bind λU=>if U then some j else dM C I J (i64.wrap (j+1))else some (-1)
def lP(j:List M.aJs)(C:M.aJs->Option Bool):Option Int:=
 dM j C fuel 0
def Am(j:M.aO)(C:Int):Option Int:=
 (lP j.aJk (λI=>vE I C)).bind λx1=>some x1
def yG(C:M.aO)(p1:Int)(p2:ByteArray)(p3:ByteArray):Option (M.aJg×Bool):=
 (Am C p1).bind λx1=>(if decide (x1<0)then((cP).bind λx4=>(some (x4,false)))else((idx C.aJk x1).bind λx6=>((oP x6 p2 p3).bind λj=>(if decide (j<0)then((cP).bind λI=>(some (I,false)))else((idx x6.aJt j).bind λJ=>((kY J.aJg).bind λU=>(some (U,true))))))))
def rG(j:M.aJj)(C:Int):Option Bool:=
 (yZ j).bind λx1=>if x1 then if decide (C>(i64.wrap (j.aJd-2)))then if decide (C<=j.aJd)then some (decide (C>=1))else some false else some false else some false
def pK(j:List ByteArray)(C:ByteArray):Option Bool:=
 (lT j C).bind λx1=>some (decide (x1>=0))
def Cv(j:M.aJj)(C:ByteArray):Option Bool:=
 (pK j.aKA C).bind λx1=>some x1
def hP(C:List Int):Nat->Int->List Int->Option (List Int)
 |0,_,_=>none
 |U+1,j,I=>if decide (j<(List.length C:Int))then(idx C j).bind λJ=>(app 8 I ([i64.wrap J])).bind λaf=>hP C U (i64.wrap (j+1)) (I++[i64.wrap J])else some I
def pQ(j:List Int):Option (List Int):=
 hP j fuel 0 ([(List.length j:Int)])
def Hc(C:Int)(j:Int):Option Int:=
 (aV j 1 1000000000000).bind λx1=>if !x1 then some 0 else if decide (j=0)then none else if decide ((Int.tmod C j)<0)then some (i64.wrap ((Int.tmod C j)+j))else some (Int.tmod C j)
def wB(j:List Int):Nat->Int->Int->Option Int
 |0,_,_=>none
 |J+1,I,C=>if decide (C<(List.length j:Int))then(idx j C).bind λx7=>(Hc x7 2147483647).bind λU=>wB j J (Int.tmod (i64.wrap ((i64.wrap ((i64.wrap (I*1000003))+U))+13)) 2147483647) (i64.wrap (C+1))else some I
def Ep(j:List Int):Option Int:=
 wB j fuel 11 0
def uB(j:Int)(C:List Int):Option Int:=
 (app 8 ([j]) C).bind λx1=>(app 8 ([j]++C) ([j])).bind λx3=>(Ep (([j]++C)++[j])).bind λx5=>some x5
def iQ(j:Int)(C:ByteArray):Option Int:=
 (pQ (bC C)).bind λx1=>(uB j x1).bind λx3=>if x3==0 then some 1 else some x3
def fC(x5:Int):Nat->Int->List Int->Option (List Int)
 |0,_,_=>none
 |I+1,j,C=>if decide (j>=0)then if decide (0<=(i64.wrap (8*j)))then(app 1 C ([IntKind.u8.wrap (Int.fdiv x5 (2^(min (i64.wrap (8*j)).toNat IntKind.i64.bits)))])).bind λJ=>fC x5 I (i64.wrap (j-1)) (C++[IntKind.u8.wrap (Int.fdiv x5 (2^(min (i64.wrap (8*j)).toNat IntKind.i64.bits)))])else none else some C
def D1(j:M.aJj)(C:ByteArray)(I:Int):Option (List Int):=
 (iQ 107 j.Name).bind λx1=>(iQ 109 C).bind λx3=>(uB (i64.wrap (1+I)) ([103,x1,x3])).bind λx5=>fC x5 fuel 5 ([]:List Int)
def zW(j:M.aJj)(I:ByteArray)(C:Int):Option M.aJg:=
 (yZ j).bind λx1=>(if !x1 then((cP).bind λx4=>(some x4))else((rG j C).bind λx6=>(if !x6 then(some (⟨1,404,j.aJd,([]:List Int),false⟩:M.aJg))else((Cv j I).bind λx9=>(if !x9 then(some (⟨1,404,j.aJd,([]:List Int),false⟩:M.aJg))else((D1 j I C).bind λJ=>(some (⟨1,200,C,J,j.aKF⟩:M.aJg))))))))
def vM(J:M.aO)(j:M.aJj)(C:Int)(I:ByteArray)(U:Bool):Option M.aJg:=
 (yG J C j.Name I).bind λx1=>(if x1.2 then(some x1.1)else(if U then((zW j I C).bind λx5=>(some x5))else((cP).bind λx7=>(some x7))))
def BC(C:M.World)(j:M.bD)(U:ByteArray):Option M.aJg:=
 (kG C j.aJj j.Top).bind λx1=>(if !x1.2 then((cP).bind λx4=>(some x4))else((nV j.aJj).bind λx6=>(if decide (x6<0)then((cP).bind λx9=>(some x9))else((FA C j.aJj).bind λI=>((vM x1.1.aJk I j.aJd U C.aKB).bind λJ=>(some J))))))
def Bv(j:M.bD)(I:ByteArray)(C:M.aJg):Option (M.bD×Bool):=
 (iA j).bind λx1=>(app 24 x1.aJ ([(⟨I,C.aJd⟩:M.aJ)])).bind λx3=>if C.aKK !=200 then(iA j).bind λJ=>some (J,false)else if C.aJd !=j.aJd then(iA j).bind λU=>some (U,false)else(zH j).bind λaf=>if !af then(iA j).bind λah=>some (ah,false)else(zH (⟨x1.Id,x1.aJj,x1.Top,x1.aJd,x1.aJ++[(⟨I,C.aJd⟩:M.aJ)],x1.aJf⟩:M.bD)).bind λai=>if !ai then(iA j).bind λaj=>some (aj,false)else some ((⟨x1.Id,x1.aJj,x1.Top,x1.aJd,x1.aJ++[(⟨I,C.aJd⟩:M.aJ)],x1.aJf⟩:M.bD),true)
def nB(C:M.aJf)(j:Int)(I:Int):Option (M.aJf×Bool):=
 (mO C).bind λx1=>if !C.aKQ then some (x1,false)else if decide (j<0)then some (x1,false)else if decide (j>=(List.length C.aKH:Int))then some (x1,false)else(aV I (-1) 1000).bind λx6=>if !x6 then some (x1,false)else(idx x1.aKH j).bind λx9=>some ((⟨x1.aJ5,x1.Pc,List.set x1.aKH j.toNat I,x1.aKO,x1.aKT,false⟩:M.aJf),true)
def hY(U:List Int)(I:Int):Nat->Int->Int->Option (Int×Int×Bool)
 |0,_,_=>none
 |ae+1,J,j=>if decide (j<6)then if decide ((i64.wrap (I+j))<(List.length U:Int))then(idx U (i64.wrap (I+j))).bind λC=>if decide (0<=(i64.wrap (7*j)))then if decide ((i64.wrap C)<128)then if decide (j>0)then if(i64.wrap C)==0 then some (0,0,false)else if decide ((i64.wrap (J+(i64.wrap ((Int.tmod (i64.wrap C) 128)*2^(min (i64.wrap (7*j)).toNat IntKind.i64.bits)))))>1000000000000)then some (0,0,false)else some (i64.wrap (J+(i64.wrap ((Int.tmod (i64.wrap C) 128)*2^(min (i64.wrap (7*j)).toNat IntKind.i64.bits)))),i64.wrap ((i64.wrap (I+j))+1),true)else if decide ((i64.wrap (J+(i64.wrap ((Int.tmod (i64.wrap C) 128)*2^(min (i64.wrap (7*j)).toNat IntKind.i64.bits)))))>1000000000000)then some (0,0,false)else some (i64.wrap (J+(i64.wrap ((Int.tmod (i64.wrap C) 128)*2^(min (i64.wrap (7*j)).toNat IntKind.i64.bits)))),i64.wrap ((i64.wrap (I+j))+1),true)else hY U I ae (i64.wrap (J+(i64.wrap ((Int.tmod (i64.wrap C) 128)*2^(min (i64.wrap (7*j)).toNat IntKind.i64.bits))))) (i64.wrap (j+1))else none else some (0,0,false)else some (0,0,false)
def fJ(C:List Int)(j:Int):Option (Int×Int×Bool):=
 if decide (j<0)then some (0,0,false)else if decide (j>=(List.length C:Int))then some (0,0,false)else hY C j fuel 0 0
def eA(j:List Int)(C:Int)(I:Int):Option ((List Int)×Int×Bool):=
 (fJ j C).bind λx1=>if !x1.2.2 then some (([]:List Int),0,false)else if decide (x1.1>I)then some (([]:List Int),0,false)else if decide (x1.1>(i64.wrap ((List.length j:Int)-x1.2.1)))then some (([]:List Int),0,false)else(QX j x1.2.1 (i64.wrap (x1.2.1+x1.1))).bind λx6=>(dK (List.drop x1.2.1.toNat (List.take (i64.wrap (x1.2.1+x1.1)).toNat j))).bind λx8=>some (x8,i64.wrap (x1.2.1+x1.1),true)
def yF(j:Int)(C:List Int):Option Int:=
 (pQ C).bind λx1=>(app 8 ([101,j]) x1).bind λx3=>(Ep ([101,j]++x1)).bind λx5=>some x5
def sA(U:List Int):Nat->Int->List (List Int)->Option ((List (List Int))×Int)
 |0,_,_=>none
 |ah+1,I,j=>(eA U I 4000).bind λC=>if !C.2.2 then some (j,I)else(fJ U C.2.1).bind λJ=>if !J.2.2 then some (j,I)else(yF (List.length j:Int) C.1).bind λai=>if J.1 !=ai then some (j,I)else(app 24 j ([C.1])).bind λaj=>sA U ah J.2.1 (j++[C.1])
def CB(j:List Int):Option ((List (List Int))×Int):=
 sA j fuel 0 ([]:List (List Int))
def kC(C:List Int)(I:List Int):Nat->Int->Option Bool
 |0,_=>none
 |J+1,j=>if decide (j<(List.length C:Int))then(idx C j).bind λx8=>(idx I j).bind λU=>if x8 !=U then some false else kC C I J (i64.wrap (j+1))else some true
def sX(j:List Int)(C:List Int):Option Bool:=
 if(List.length j:Int) !=(List.length C:Int)then some false else kC j C fuel 0
def lH(j:List Int)(C:List Int):Option Bool:=
 (sX j C).bind λx1=>some x1
def kU(j:List Int)(x2:Int):Nat->Int->Int->Option (M.Key×Bool)
 |0,_,_=>none
 |I+1,C,v30=>if(decide (v30<(List.length (List.take (6:Int).toNat (List.drop (1:Int).toNat j)):Int)))=true then(idx (List.take (6:Int).toNat (List.drop (1:Int).toNat j)) v30).bind λJ=>kU j x2 I (i64.wrap ((i64.wrap (C*2^(min (8:Int).toNat IntKind.i64.bits)))+(i64.wrap J))) (i64.wrap (v30+1))else(D3 (List.drop (1:Int).toNat j) 6).bind λai=>(toStr (List.drop (6:Int).toNat (List.drop (1:Int).toNat j))).bind λaj=>(iF (⟨i64.wrap x2,i64.wrap (C-1000000000000),bF (List.drop (6:Int).toNat (List.drop (1:Int).toNat j))⟩:M.Key)).bind λU=>(lH U j).bind λah=>if !ah then some ((⟨0,0,(⟨#[]⟩:ByteArray)⟩:M.Key),false)else some ((⟨i64.wrap x2,i64.wrap (C-1000000000000),bF (List.drop (6:Int).toNat (List.drop (1:Int).toNat j))⟩:M.Key),true)
def uN(j:List Int):Option (M.Key×Bool):=
 if(List.length j:Int)==0 then some ((⟨0,0,(⟨#[]⟩:ByteArray)⟩:M.Key),false)else(idx j 0).bind λx2=>(D3 j 1).bind λx7=>if(i64.wrap x2) !=2 then if(decide ((List.length (List.drop (1:Int).toNat j):Int)<6))=true then some ((⟨0,0,(⟨#[]⟩:ByteArray)⟩:M.Key),false)else(GL (List.drop (1:Int).toNat j) 6).bind λJ=>kU j x2 fuel 0 0 else(toStr (List.drop (1:Int).toNat j)).bind λU=>(iF (⟨i64.wrap x2,0,bF (List.drop (1:Int).toNat j)⟩:M.Key)).bind λC=>(lH C j).bind λI=>if !I then some ((⟨0,0,(⟨#[]⟩:ByteArray)⟩:M.Key),false)else some ((⟨i64.wrap x2,0,bF (List.drop (1:Int).toNat j)⟩:M.Key),true)
def gJ(J:List Int)(x1:(Int×Int×Bool)):Nat->Int->Int->List M.Field->Option (M.aA×Bool)
 |0,_,_,_=>none
 |ah+1,v5,U,C=>if decide (U<x1.1)then(eA J v5 8).bind λj=>(fJ J j.2.1).bind λI=>if !j.2.2 then some ((⟨([]:List M.Field)⟩:M.aA),false)else if !I.2.2 then some ((⟨([]:List M.Field)⟩:M.aA),false)else(toStr j.1).bind λak=>(app 24 C ([(⟨bF j.1,I.1⟩:M.Field)])).bind λal=>gJ J x1 ah I.2.1 (i64.wrap (U+1)) (C++[(⟨bF j.1,I.1⟩:M.Field)])else(fT (⟨C⟩:M.aA)).bind λai=>(lH ai J).bind λaj=>if !aj then some ((⟨([]:List M.Field)⟩:M.aA),false)else some ((⟨C⟩:M.aA),true)
def nZ(j:List Int):Option (M.aA×Bool):=
 (fJ j 0).bind λx1=>if !x1.2.2 then some ((⟨([]:List M.Field)⟩:M.aA),false)else if decide (x1.1>6)then some ((⟨([]:List M.Field)⟩:M.aA),false)else gJ j x1 fuel x1.2.1 0 ([]:List M.Field)
def Ei(j:M.Op):Option Bool:=
 (aV j.aJr 1 6).bind λx1=>if !x1 then some false else(bV j.aD).bind λx4=>if !x4 then some false else if j.aJr !=5 then(gW j.Key).bind λx8=>if !x8 then some false else(cM j.aA).bind λC=>if !C then some false else if j.aJr==6 then(bV j.Field).bind λI=>some I else some (j.Field.toList==(⟨#[]⟩:ByteArray).toList)else(cM j.aA).bind λJ=>if !J then some false else if j.aJr==6 then(bV j.Field).bind λU=>some U else some (j.Field.toList==(⟨#[]⟩:ByteArray).toList)
def uE(j:List M.Op):Nat->Int->Option Bool
 |0,_=>none
 |I+1,C=>if decide (C<(List.length j:Int))then(idx j C).bind λx7=>(Ei x7).bind λJ=>if !J then some false else uE j I (i64.wrap (C+1))else some (decide ((List.length j:Int)<=6))
def DD(j:List M.Op):Option Bool:=
 uE j fuel 0
def fY(C:M.Op)(J:(List Int))(U:(List Int))(aj:Int->List Int->Option (List Int)):Nat->Int->List Int->Option (List Int)
 |0,_,_=>none
 |ak+1,j,I=>if decide (j<((4:Nat):Int))then(idx ([bC C.aD,J,U,bC C.Field]) j).bind λal=>(gP I al).bind λao=>fY C J U aj ak (i64.wrap (j+1)) ao else aj j I
def eM(I:List M.Op):Nat->Int->List Int->Option (List Int)
 |0,_,_=>none
 |aj+1,C,J=>if decide (C<(List.length I:Int))then(idx I C).bind λj=>(cF J j.aJr).bind λak=>(iF j.Key).bind λal=>(fT j.aA).bind λao=>fY j al ao (λ(ai:Int) (U:List Int)=>eM I aj (i64.wrap (C+1)) U) fuel 0 ak else some J
def uP(j:List M.Op):Option (List Int):=
 (DD j).bind λx1=>if !x1 then some ([]:List Int)else(cF ([]:List Int) (List.length j:Int)).bind λx4=>eM j fuel 0 x4
def fV(j:List Int)(x1:(Int×Int×Bool)):Nat->Int->Int->List M.Op->Option ((List M.Op)×Bool)
 |0,_,_,_=>none
 |ar+1,v5,v8,J=>if decide (v8<x1.1)then(fJ j v5).bind λU=>if U.2.2 then(eA j U.2.1 (List.length j:Int)).bind λC=>if C.2.2 then(eA j C.2.1 (List.length j:Int)).bind λak=>if ak.2.2 then(eA j ak.2.1 (List.length j:Int)).bind λal=>if al.2.2 then(eA j al.2.1 (List.length j:Int)).bind λI=>if !I.2.2 then some (([]:List M.Op),false)else(toStr C.1).bind λav=>(uN ak.1).bind λaf=>(nZ al.1).bind λah=>(toStr I.1).bind λaw=>(app 96 J ([(⟨U.1,bF C.1,af.1,ah.1,bF I.1⟩:M.Op)])).bind λax=>fV j x1 ar I.2.1 (i64.wrap (v8+1)) (J++[(⟨U.1,bF C.1,af.1,ah.1,bF I.1⟩:M.Op)])else some (([]:List M.Op),false)else some (([]:List M.Op),false)else some (([]:List M.Op),false)else some (([]:List M.Op),false)else(uP J).bind λao=>(lH ao j).bind λaq=>if !aq then some (([]:List M.Op),false)else some (J,true)
def uD(j:List Int):Option ((List M.Op)×Bool):=
 (fJ j 0).bind λx1=>if !x1.2.2 then some (([]:List M.Op),false)else if decide (x1.1>6)then some (([]:List M.Op),false)else fV j x1 fuel x1.2.1 0 ([]:List M.Op)
def yL(C:M.aJl)(j:M.Key):Option Bool:=
 some ((C.Key.aJr==j.aJr)&&((C.Key.N==j.N)&&(C.Key.aJ2.toList==j.aJ2.toList)))
def dW(C:List M.aJl)(I:M.aJl->Option Bool):Nat->Int->Option Int
 |0,_=>none
 |J+1,j=>if decide (j<(List.length C:Int))then(idx C j).bind λx7=>(I x7).bind λU=>if U then some j else dW C I J (i64.wrap (j+1))else some (-1)
def iM(j:List M.aJl)(C:M.aJl->Option Bool):Option Int:=
 dW j C fuel 0
def kF(j:M.aD)(C:M.Key):Option Int:=
 (iM j.aJe (λI=>yL I C)).bind λx1=>some x1
def nY(p0:M.aD)(I:M.Key)(p2:M.aA)(C:M.aD):Nat->Int->Option (M.aD×Bool)
 |0,_=>none
 |av+1,j=>if decide (j<(List.length C.aJe:Int))then(idx C.aJe j).bind λaw=>(eF aw.Key I).bind λax=>if decide (ax<0)then nY p0 I p2 C av (i64.wrap (j+1))else(bQ p2).bind λJ=>(KI 56 C.aJe j ([(⟨I,J⟩:M.aJl)])).bind λbl=>if I.aJr==1 then if decide (I.N>C.aJ7)then if decide (I.N<=1000000)then(bT (⟨C.Name,List.take j.toNat C.aJe++([(⟨I,J⟩:M.aJl)]++List.drop j.toNat C.aJe),I.N⟩:M.aD)).bind λay=>if !ay then(aY p0).bind λaz=>some (az,false)else some ((⟨C.Name,List.take j.toNat C.aJe++([(⟨I,J⟩:M.aJl)]++List.drop j.toNat C.aJe),I.N⟩:M.aD),true)else(bT (⟨C.Name,List.take j.toNat C.aJe++([(⟨I,J⟩:M.aJl)]++List.drop j.toNat C.aJe),C.aJ7⟩:M.aD)).bind λba=>if !ba then(aY p0).bind λbd=>some (bd,false)else some ((⟨C.Name,List.take j.toNat C.aJe++([(⟨I,J⟩:M.aJl)]++List.drop j.toNat C.aJe),C.aJ7⟩:M.aD),true)else(bT (⟨C.Name,List.take j.toNat C.aJe++([(⟨I,J⟩:M.aJl)]++List.drop j.toNat C.aJe),C.aJ7⟩:M.aD)).bind λbf=>if !bf then(aY p0).bind λbg=>some (bg,false)else some ((⟨C.Name,List.take j.toNat C.aJe++([(⟨I,J⟩:M.aJl)]++List.drop j.toNat C.aJe),C.aJ7⟩:M.aD),true)else(bT (⟨C.Name,List.take j.toNat C.aJe++([(⟨I,J⟩:M.aJl)]++List.drop j.toNat C.aJe),C.aJ7⟩:M.aD)).bind λbh=>if !bh then(aY p0).bind λbj=>some (bj,false)else some ((⟨C.Name,List.take j.toNat C.aJe++([(⟨I,J⟩:M.aJl)]++List.drop j.toNat C.aJe),C.aJ7⟩:M.aD),true)else(bQ p2).bind λU=>(KI 56 C.aJe j ([(⟨I,U⟩:M.aJl)])).bind λbm=>if I.aJr==1 then if decide (I.N>C.aJ7)then if decide (I.N<=1000000)then(bT (⟨C.Name,List.take j.toNat C.aJe++([(⟨I,U⟩:M.aJl)]++List.drop j.toNat C.aJe),I.N⟩:M.aD)).bind λah=>if !ah then(aY p0).bind λai=>some (ai,false)else some ((⟨C.Name,List.take j.toNat C.aJe++([(⟨I,U⟩:M.aJl)]++List.drop j.toNat C.aJe),I.N⟩:M.aD),true)else(bT (⟨C.Name,List.take j.toNat C.aJe++([(⟨I,U⟩:M.aJl)]++List.drop j.toNat C.aJe),C.aJ7⟩:M.aD)).bind λaj=>if !aj then(aY p0).bind λak=>some (ak,false)else some ((⟨C.Name,List.take j.toNat C.aJe++([(⟨I,U⟩:M.aJl)]++List.drop j.toNat C.aJe),C.aJ7⟩:M.aD),true)else(bT (⟨C.Name,List.take j.toNat C.aJe++([(⟨I,U⟩:M.aJl)]++List.drop j.toNat C.aJe),C.aJ7⟩:M.aD)).bind λal=>if !al then(aY p0).bind λao=>some (ao,false)else some ((⟨C.Name,List.take j.toNat C.aJe++([(⟨I,U⟩:M.aJl)]++List.drop j.toNat C.aJe),C.aJ7⟩:M.aD),true)else(bT (⟨C.Name,List.take j.toNat C.aJe++([(⟨I,U⟩:M.aJl)]++List.drop j.toNat C.aJe),C.aJ7⟩:M.aD)).bind λaq=>if !aq then(aY p0).bind λar=>some (ar,false)else some ((⟨C.Name,List.take j.toNat C.aJe++([(⟨I,U⟩:M.aJl)]++List.drop j.toNat C.aJe),C.aJ7⟩:M.aD),true)
def iH(C:M.aD)(J:M.Key)(p2:M.aA):Option (M.aD×Bool):=
 (bT C).bind λx1=>if !x1 then(aY C).bind λx4=>some (x4,false)else(gW J).bind λx6=>if !x6 then(aY C).bind λx9=>some (x9,false)else(aY C).bind λj=>(kF C J).bind λI=>if decide (I>=0)then(bQ p2).bind λU=>(idx j.aJe I).bind λah=>(bT (⟨j.Name,List.set j.aJe I.toNat (⟨ah.Key,U⟩:M.aJl),j.aJ7⟩:M.aD)).bind λai=>if !ai then(aY C).bind λaj=>some (aj,false)else some ((⟨j.Name,List.set j.aJe I.toNat (⟨ah.Key,U⟩:M.aJl),j.aJ7⟩:M.aD),true)else nY C J p2 j fuel 0
def CH(j:M.aD)(C:M.Key)(I:M.aA):Option (M.aD×Bool):=
 (kF j C).bind λx1=>if decide (x1>=0)then(aY j).bind λx4=>some (x4,false)else(iH j C I).bind λx6=>some (x6.1,x6.2)
def zS(C:M.Key)(j:M.dE):Option Bool:=
 (gW C).bind λx1=>if !x1 then some false else if j.aKY then(gW j.Low).bind λx5=>if !x5 then some false else if j.aKN then(gW j.aKR).bind λx9=>if !x9 then some false else(eF C j.Low).bind λI=>if !(decide (I<0))then(eF C j.aKR).bind λJ=>some (!(decide (J>0)))else some false else(eF C j.Low).bind λU=>if !(decide (U<0))then some true else some false else if j.aKN then(gW j.aKR).bind λah=>if !ah then some false else(eF C j.aKR).bind λai=>some (!(decide (ai>0)))else some true
def iV(C:M.aJl)(j:M.dE):Option Bool:=
 (zS C.Key j).bind λx1=>some x1
def eI(J:M.aD)(U:M.dE)(x1:M.aD):Nat->Int->Int->List M.aJl->Option (M.aD×Int)
 |0,_,_,_=>none
 |aa+1,C,I,j=>if decide (I<(List.length j:Int))then(idx j I).bind λae=>(iV ae U).bind λaf=>if !af then(idx j C).bind λah=>eI J U x1 aa (i64.wrap (C+1)) (i64.wrap (I+1)) (List.set j C.toNat ae)else eI J U x1 aa C (i64.wrap (I+1)) j else(D3 j C).bind λai=>some ((⟨x1.Name,List.take C.toNat j,x1.aJ7⟩:M.aD),i64.wrap ((List.length J.aJe:Int)-(List.length (List.take C.toNat j):Int)))
def pH(j:M.aD)(I:M.dE):Option (M.aD×Int):=
 (aY j).bind λx1=>(bT j).bind λx3=>if !x3 then some (x1,0)else(iM x1.aJe (λJ=>iV J I)).bind λC=>if C==(-1)then some (x1,i64.wrap ((List.length j.aJe:Int)-(List.length x1.aJe:Int)))else eI j I x1 fuel C (i64.wrap (C+1)) x1.aJe
def mN(I:M.aA)(C:ByteArray)(J:Int)(x1:M.aA):Nat->Int->Option (M.aA×Bool)
 |0,_=>none
 |U+1,j=>if decide (j<(List.length x1.aJi:Int))then(idx x1.aJi j).bind λae=>if Op.bytesLess ae.Name.toList C.toList then mN I C J x1 U (i64.wrap (j+1))else(KI 24 x1.aJi j ([(⟨C,J⟩:M.Field)])).bind λar=>(cM I).bind λaf=>if !af then(bQ I).bind λah=>some (ah,false)else(cM (⟨List.take j.toNat x1.aJi++([(⟨C,J⟩:M.Field)]++List.drop j.toNat x1.aJi)⟩:M.aA)).bind λai=>if !ai then(bQ I).bind λaj=>some (aj,false)else some ((⟨List.take j.toNat x1.aJi++([(⟨C,J⟩:M.Field)]++List.drop j.toNat x1.aJi)⟩:M.aA),true)else(KI 24 x1.aJi j ([(⟨C,J⟩:M.Field)])).bind λav=>(cM I).bind λak=>if !ak then(bQ I).bind λal=>some (al,false)else(cM (⟨List.take j.toNat x1.aJi++([(⟨C,J⟩:M.Field)]++List.drop j.toNat x1.aJi)⟩:M.aA)).bind λao=>if !ao then(bQ I).bind λaq=>some (aq,false)else some ((⟨List.take j.toNat x1.aJi++([(⟨C,J⟩:M.Field)]++List.drop j.toNat x1.aJi)⟩:M.aA),true)
def mF(j:M.aA)(I:ByteArray)(C:Int):Option (M.aA×Bool):=
 (bQ j).bind λx1=>(AP j I).bind λx3=>if decide (x3>=0)then(idx x1.aJi x3).bind λx6=>(cM j).bind λJ=>if !J then(bQ j).bind λU=>some (U,false)else(cM (⟨List.set x1.aJi x3.toNat (⟨x6.Name,C⟩:M.Field)⟩:M.aA)).bind λaf=>if !af then(bQ j).bind λah=>some (ah,false)else some ((⟨List.set x1.aJi x3.toNat (⟨x6.Name,C⟩:M.Field)⟩:M.aA),true)else mN j I C x1 fuel 0
def F5(C:M.aD)(j:M.Op):Option (M.aD×Int×Bool):=
 (kF C j.Key).bind λx1=>if j.aJr==1 then(iH C j.Key j.aA).bind λx4=>some (x4.1,1,x4.2)else if j.aJr==2 then(CH C j.Key j.aA).bind λx7=>some (x7.1,1,x7.2)else if j.aJr==3 then(pH C (⟨true,true,j.Key,j.Key⟩:M.dE)).bind λI=>some (I.1,I.2,true)else if j.aJr==5 then(pH C (⟨false,false,(⟨0,0,(⟨#[]⟩:ByteArray)⟩:M.Key),(⟨0,0,(⟨#[]⟩:ByteArray)⟩:M.Key)⟩:M.dE)).bind λJ=>some (J.1,J.2,true)else if j.aJr==4 then if decide (x1<0)then some (C,-1,true)else(idx C.aJe x1).bind λaq=>some (C,(List.length aq.aA.aJi:Int),true)else if decide (x1>=0)then(idx C.aJe x1).bind λU=>(gB U.aA j.Field).bind λah=>(mF U.aA j.Field (i64.wrap (ah.1+1))).bind λai=>if !ai.2 then some (C,0,false)else(iH C j.Key ai.1).bind λaj=>some (aj.1,i64.wrap (ah.1+1),aj.2)else(gB (⟨([]:List M.Field)⟩:M.aA) j.Field).bind λak=>(mF (⟨([]:List M.Field)⟩:M.aA) j.Field (i64.wrap (ak.1+1))).bind λal=>if !al.2 then some (C,0,false)else(iH C j.Key al.1).bind λao=>some (ao.1,i64.wrap (ak.1+1),ao.2)
def Di(j:M.aJb)(I:M.Op):Option (M.aJb×Int×Bool):=
 (dN j).bind λx1=>(nF j I.aD).bind λx3=>(lJ j).bind λx5=>if !x5 then some (x1,0,false)else(Ei I).bind λx8=>if !x8 then some (x1,0,false)else if decide (x3<0)then some (x1,0,false)else(idx x1.aJm x3).bind λJ=>(F5 J I).bind λC=>if !C.2.2 then(dN j).bind λU=>some (U,0,false)else(lJ (⟨x1.Name,x1.aJd,List.set x1.aJm x3.toNat C.1,x1.aJw⟩:M.aJb)).bind λah=>if !ah then(dN j).bind λai=>some (ai,0,false)else some ((⟨x1.Name,x1.aJd,List.set x1.aJm x3.toNat C.1,x1.aJw⟩:M.aJb),C.2.1,true)
def pV(p0:M.aJb)(J:List M.Op):Nat->Int->ByteArray->Int->List Int->List M.aD->List M.aG->Option (M.aJb×(List Int)×Bool)
 |0,_,_,_,_,_,_=>none
 |al+1,C,U,af,I,ah,ai=>if decide (C<(List.length J:Int))then(idx J C).bind λao=>(Di (⟨U,af,ah,ai⟩:M.aJb) ao).bind λj=>if !j.2.2 then(dN p0).bind λaq=>some (aq,([]:List Int),false)else(app 8 I ([j.2.1])).bind λar=>pV p0 J al (i64.wrap (C+1)) j.1.Name j.1.aJd (I++[j.2.1]) j.1.aJm j.1.aJw else some ((⟨U,af,ah,ai⟩:M.aJb),I,true)
def yT(j:M.aJb)(C:List M.Op):Option (M.aJb×(List Int)×Bool):=
 (dN j).bind λx1=>(lJ j).bind λI=>if !I then some (x1,([]:List Int),false)else if decide ((List.length C:Int)>6)then some (x1,([]:List Int),false)else pV j C fuel 0 x1.Name x1.aJd ([]:List Int) x1.aJm x1.aJw
def mM(x3:((List (List Int))×Int)):Nat->Int->ByteArray->Int->List M.aD->List M.aG->Option (M.aJb×Int)
 |0,_,_,_,_,_=>none
 |al+1,j,I,J,U,ah=>if decide (j<(List.length x3.1:Int))then(idx x3.1 j).bind λao=>(uD ao).bind λak=>if !ak.2 then some ((⟨I,J,U,ah⟩:M.aJb),j)else(yT (⟨I,J,U,ah⟩:M.aJb) ak.1).bind λC=>mM x3 al (i64.wrap (j+1)) C.1.Name C.1.aJd C.1.aJm C.1.aJw else some ((⟨I,J,U,ah⟩:M.aJb),(List.length x3.1:Int))
def sK(j:M.bL):Option (M.aJb×Int):=
 (dN j.aJz).bind λx1=>(CB j.Log).bind λx3=>mM x3 fuel 0 x1.Name x1.aJd x1.aJm x1.aJw
def nG(j:Int):Option M.Key:=
 some (⟨1,j,(⟨#[]⟩:ByteArray)⟩:M.Key)
def B6(C:M.aJb)(J:Int):Option (M.aA×Bool×Bool):=
 (nF C (⟨#[110,111,116,101,115]⟩:ByteArray)).bind λx1=>if decide (x1<0)then some ((⟨([]:List M.Field)⟩:M.aA),false,false)else(idx C.aJm x1).bind λx4=>(nG J).bind λx9=>(kF x4 x9).bind λj=>if decide (j<0)then some ((⟨([]:List M.Field)⟩:M.aA),false,true)else(idx x4.aJe j).bind λI=>some (I.aA,true,true)
def Bx(C:M.World)(j:M.bD)(I:Int)(J:ByteArray):Option Int:=
 (kG C j.aJj j.Top).bind λx1=>if !x1.2 then some (-1)else(sK x1.1.bL).bind λx4=>(B6 x4.1 I).bind λx6=>(gB x6.1 J).bind λx8=>if !x8.2 then some (-1)else some (if 1000<x8.1 then 1000 else x8.1)
def Aa(j:List Int)(C:Int)(I:List Int):Option ((List Int)×Bool):=
 (gP j I).bind λx1=>(yF C I).bind λx3=>(cF x1 x3).bind λx5=>if decide (C<0)then(dK j).bind λx8=>some (x8,false)else if decide ((List.length x5:Int)>4000)then(dK j).bind λJ=>some (J,false)else some (x5,true)
def xV(j:M.bL)(C:List M.Op):Option (M.bL×Bool):=
 (xF j).bind λx1=>(sK j).bind λx3=>(yT x3.1 C).bind λx5=>(uP C).bind λx7=>(Aa j.Log j.aKJ x7).bind λx9=>if !x5.2.2 then some (x1,false)else if(List.length x7:Int)==0 then some (x1,false)else if !x9.2 then some (x1,false)else if j.aKJ !=x3.2 then some (x1,false)else some ((⟨x1.aJz,x9.1,i64.wrap (x1.aKJ+1)⟩:M.bL),true)
def nA(j:M.aJa)(C:M.aJa):Option (M.aJa×Bool):=
 (oY j).bind λx1=>if !x1 then(eB j).bind λx4=>some (x4,false)else(oY C).bind λx6=>if !x6 then(eB j).bind λx9=>some (x9,false)else(eB C).bind λI=>some (I,true)
def uW(j:M.aJa)(C:M.bL):Option (M.aJa×Bool):=
 (nA j (⟨j.aJj,j.Top,j.aJc,j.aJk,C,j.aE,j.aJ4,j.aJ3⟩:M.aJa)).bind λx1=>some (x1.1,x1.2)
def kW(C:M.aC)(I:M.aJa)(x1:M.aC):Nat->Int->Option (M.aC×Bool)
 |0,_=>none
 |af+1,j=>if decide (j<(List.length x1.aJh:Int))then(idx x1.aJh j).bind λah=>(oK ah I).bind λai=>if ai then kW C I x1 af (i64.wrap (j+1))else(eB I).bind λJ=>(KI 328 x1.aJh j ([J])).bind λax=>(cR C).bind λaj=>if !aj then(cN C).bind λak=>some (ak,false)else(cR (⟨List.take j.toNat x1.aJh++([J]++List.drop j.toNat x1.aJh)⟩:M.aC)).bind λal=>if !al then(cN C).bind λao=>some (ao,false)else some ((⟨List.take j.toNat x1.aJh++([J]++List.drop j.toNat x1.aJh)⟩:M.aC),true)else(eB I).bind λU=>(KI 328 x1.aJh j ([U])).bind λay=>(cR C).bind λaq=>if !aq then(cN C).bind λar=>some (ar,false)else(cR (⟨List.take j.toNat x1.aJh++([U]++List.drop j.toNat x1.aJh)⟩:M.aC)).bind λav=>if !av then(cN C).bind λaw=>some (aw,false)else some ((⟨List.take j.toNat x1.aJh++([U]++List.drop j.toNat x1.aJh)⟩:M.aC),true)
def tO(j:M.aC)(C:M.aJa):Option (M.aC×Bool):=
 (cN j).bind λx1=>(lL j C.aJj C.Top).bind λx3=>if decide (x3>=0)then(eB C).bind λx6=>(idx x1.aJh x3).bind λx8=>(cR j).bind λI=>if !I then(cN j).bind λJ=>some (J,false)else(cR (⟨List.set x1.aJh x3.toNat x6⟩:M.aC)).bind λU=>if !U then(cN j).bind λah=>some (ah,false)else some ((⟨List.set x1.aJh x3.toNat x6⟩:M.aC),true)else kW j C x1 fuel 0
def zM(j:M.World)(p1:M.bD)(p2:Int)(p3:ByteArray)(p4:Int):Option (M.World×Bool):=
 (pY j).bind λx1=>(kG j p1.aJj p1.Top).bind λx3=>if !x3.2 then some (x1,false)else(sK x3.1.bL).bind λx6=>(B6 x6.1 p2).bind λx8=>(mF x8.1 p3 p4).bind λC=>if !x8.2.2 then some (x1,false)else if !C.2 then some (x1,false)else(nG p2).bind λai=>(xV x3.1.bL ([(⟨1,(⟨#[110,111,116,101,115]⟩:ByteArray),ai,C.1,(⟨#[]⟩:ByteArray)⟩:M.Op)])).bind λI=>(uW x3.1 I.1).bind λJ=>(tO j.aC J.1).bind λU=>if !I.2 then some (x1,false)else if !J.2 then some (x1,false)else if !U.2 then some (x1,false)else some ((⟨x1.Now,x1.aKB,x1.aJq,U.1,x1.aJu,x1.aJy,x1.aJv,x1.aJp,x1.aJ6,x1.aJ0⟩:M.World),true)
def sY(j:M.aM)(C:M.Key)(I:ByteArray)(J:Int):Option (M.aM×Bool):=
 (lZ j).bind λx1=>(app 72 x1.aJ1 ([(⟨j.aJq,j.aKM,C,I,J⟩:M.aW)])).bind λx3=>(sP j).bind λU=>if !U then(lZ j).bind λae=>some (ae,false)else(sP (⟨x1.aJq,i64.wrap (x1.aKM+1),x1.aJ1++[(⟨j.aJq,j.aKM,C,I,J⟩:M.aW)]⟩:M.aM)).bind λaf=>if !af then(lZ j).bind λah=>some (ah,false)else some ((⟨x1.aJq,i64.wrap (x1.aKM+1),x1.aJ1++[(⟨j.aJq,j.aKM,C,I,J⟩:M.aW)]⟩:M.aM),true)
def oL(C:M.aD)(j:M.aW):Option (M.aD×Bool):=
 (kF C j.Key).bind λx1=>if decide (x1>=0)then(idx C.aJe x1).bind λx4=>(mF x4.aA j.Field j.N).bind λx9=>if !x9.2 then(aY C).bind λah=>some (ah,false)else(iH C j.Key x9.1).bind λI=>some (I.1,I.2)else(mF (⟨([]:List M.Field)⟩:M.aA) j.Field j.N).bind λJ=>if !J.2 then(aY C).bind λai=>some (ai,false)else(iH C j.Key J.1).bind λU=>some (U.1,U.2)
def oD(I:List M.aW):Nat->Int->ByteArray->Int->List M.aJl->Option M.aD
 |0,_,_,_,_=>none
 |aj+1,j,U,af,J=>if decide (j<(List.length I:Int))then(idx I j).bind λak=>(oL (⟨U,J,af⟩:M.aD) ak).bind λC=>oD I aj (i64.wrap (j+1)) C.1.Name C.1.aJ7 C.1.aJe else some (⟨U,J,af⟩:M.aD)
def CG(j:M.aD)(C:List M.aW):Option M.aD:=
 (aY j).bind λx1=>oD C fuel 0 x1.Name x1.aJ7 x1.aJe
def BZ(j:M.aE):Option M.aD:=
 (CG j.aJz j.aJx.aM.aJ1).bind λx1=>some x1
def wQ(j:M.aE)(C:M.Key)(I:ByteArray)(J:Int):Option (M.aE×Bool):=
 (pP j).bind λx1=>(sY j.aJx.aM C I J).bind λx3=>(BZ j).bind λx5=>(oL x5 (⟨j.aJx.aM.aJq,j.aJx.aM.aKM,C,I,J⟩:M.aW)).bind λx7=>(uL j).bind λx9=>if !x9 then some (x1,false)else if !x3.2 then some (x1,false)else if !x7.2 then some (x1,false)else some ((⟨x1.aJz,x1.aKV,(⟨x3.1,x1.aJx.aKP,x1.aJx.aKC⟩:M.aJx)⟩:M.aE),true)
def oV(j:M.aJa)(C:M.aE):Option (M.aJa×Bool):=
 (nA j (⟨j.aJj,j.Top,j.aJc,j.aJk,j.bL,C,j.aJ4,j.aJ3⟩:M.aJa)).bind λx1=>some (x1.1,x1.2)
def Ba(j:M.World)(J:M.bD)(U:Int)(p3:ByteArray)(p4:Int):Option (M.World×Bool):=
 (pY j).bind λx1=>(kG j J.aJj J.Top).bind λx3=>if !x3.2 then some (x1,false)else(nG U).bind λx6=>(wQ x3.1.aE x6 p3 p4).bind λx8=>(oV x3.1 x8.1).bind λC=>(tO j.aC C.1).bind λI=>if !x8.2 then some (x1,false)else if !C.2 then some (x1,false)else if !I.2 then some (x1,false)else some ((⟨x1.Now,x1.aKB,x1.aJq,I.1,x1.aJu,x1.aJy,x1.aJv,x1.aJp,x1.aJ6,x1.aJ0⟩:M.World),true)
def sR(U:M.World)(p1:Int):Option (M.World×Int):=
 (pY U).bind λx1=>(An U p1).bind λx3=>(Au U).bind λx5=>if !x5 then some (x1,-1)else if decide (x3<0)then some (x1,-1)else(idx U.aJu x3).bind λx9=>(iA x9).bind λC=>(dZ C.aJf).bind λj=>if j.2.aJr==1 then(BC U C j.2.aJ2).bind λaj=>(Bv C j.2.aJ2 aj).bind λai=>(nB j.1 j.2.R aj.aKK).bind λak=>(idx x1.aJu x3).bind λav=>some ((⟨x1.Now,x1.aKB,x1.aJq,x1.aC,List.set x1.aJu x3.toNat (⟨ai.1.Id,ai.1.aJj,ai.1.Top,ai.1.aJd,ai.1.aJ,ak.1⟩:M.bD),x1.aJy,x1.aJv,x1.aJp,x1.aJ6,x1.aJ0⟩:M.World),j.2.aJr)else if j.2.aJr==2 then(Bx U C j.2.N j.2.aJ2).bind λal=>(nB j.1 j.2.R al).bind λao=>(idx x1.aJu x3).bind λaw=>some ((⟨x1.Now,x1.aKB,x1.aJq,x1.aC,List.set x1.aJu x3.toNat (⟨C.Id,C.aJj,C.Top,C.aJd,C.aJ,ao.1⟩:M.bD),x1.aJy,x1.aJv,x1.aJp,x1.aJ6,x1.aJ0⟩:M.World),j.2.aJr)else if j.2.aJr==3 then(zM x1 C j.2.N j.2.aJ2 (if j.2.Value>0 then j.2.Value else 0)).bind λI=>(idx I.1.aJu x3).bind λax=>some ((⟨I.1.Now,I.1.aKB,I.1.aJq,I.1.aC,List.set I.1.aJu x3.toNat (⟨C.Id,C.aJj,C.Top,C.aJd,C.aJ,j.1⟩:M.bD),I.1.aJy,I.1.aJv,I.1.aJp,I.1.aJ6,I.1.aJ0⟩:M.World),j.2.aJr)else if j.2.aJr==4 then(Ba x1 C j.2.N j.2.aJ2 (if j.2.Value>0 then j.2.Value else 0)).bind λJ=>(idx J.1.aJu x3).bind λaq=>some ((⟨J.1.Now,J.1.aKB,J.1.aJq,J.1.aC,List.set J.1.aJu x3.toNat (⟨C.Id,C.aJj,C.Top,C.aJd,C.aJ,j.1⟩:M.bD),J.1.aJy,J.1.aJv,J.1.aJp,J.1.aJ6,J.1.aJ0⟩:M.World),j.2.aJr)else(idx x1.aJu x3).bind λar=>some ((⟨x1.Now,x1.aKB,x1.aJq,x1.aC,List.set x1.aJu x3.toNat (⟨C.Id,C.aJj,C.Top,C.aJd,C.aJ,j.1⟩:M.bD),x1.aJy,x1.aJv,x1.aJp,x1.aJ6,x1.aJ0⟩:M.World),j.2.aJr)
def pF(j:M.aJc)(C:M.aJc):Option Bool:=
 if !(j.aJj.toList==C.aJj.toList)then some false else if j.aJ9 !=C.aJ9 then some false else if j.aKE !=C.aKE then some false else if j.aKL !=C.aKL then some false else some true
def rZ(C:List Int)(I:List Int):Nat->Int->Option Bool
 |0,_=>none
 |J+1,j=>if decide (j<(List.length C:Int))then(idx C j).bind λx7=>(idx I j).bind λU=>if x7 !=U then some false else rZ C I J (i64.wrap (j+1))else some true
def AF(j:List Int)(C:List Int):Option Bool:=
 if(List.length j:Int) !=(List.length C:Int)then some false else rZ j C fuel 0
def yB(j:M.aJg)(C:M.aJg):Option Bool:=
 if j.aKU !=C.aKU then some false else if j.aKK !=C.aKK then some false else if j.aJd !=C.aJd then some false else(AF j.aKS C.aKS).bind λx4=>if !x4 then some false else if !(j.aKZ==C.aKZ)then some false else some true
def xP(j:M.aJo)(C:M.aJo):Option Bool:=
 if !(j.aJj.toList==C.aJj.toList)then some false else if !(j.aKG.toList==C.aKG.toList)then some false else(yB j.aJg C.aJg).bind λx3=>if !x3 then some false else some true
def CW:=eqS xP
def AO(j:M.aJs)(C:M.aJs):Option Bool:=
 if j.aJd !=C.aJd then some false else(CW j.aJt C.aJt).bind λx2=>if !x2 then some false else some true
def DR:=eqS AO
def xR(j:M.aO)(C:M.aO):Option Bool:=
 (DR j.aJk C.aJk).bind λx1=>if !x1 then some false else some true
def Dl(j:M.Key)(C:M.Key):Option Bool:=
 if j.aJr !=C.aJr then some false else if j.N !=C.N then some false else if !(j.aJ2.toList==C.aJ2.toList)then some false else some true
def At(j:M.Field)(C:M.Field):Option Bool:=
 if !(j.Name.toList==C.Name.toList)then some false else if j.N !=C.N then some false else some true
def DW:=eqS At
def Bt(j:M.aA)(C:M.aA):Option Bool:=
 (DW j.aJi C.aJi).bind λx1=>if !x1 then some false else some true
def BH(j:M.aJl)(C:M.aJl):Option Bool:=
 (Dl j.Key C.Key).bind λx1=>if !x1 then some false else(Bt j.aA C.aA).bind λx4=>if !x4 then some false else some true
def EJ:=eqS BH
def rP(j:M.aD)(C:M.aD):Option Bool:=
 if !(j.Name.toList==C.Name.toList)then some false else(EJ j.aJe C.aJe).bind λx2=>if !x2 then some false else if j.aJ7 !=C.aJ7 then some false else some true
def Dx:=eqS rP
def sD(j:M.aG)(C:M.aG):Option Bool:=
 if !(j.aD.toList==C.aD.toList)then some false else if !(j.Field.toList==C.Field.toList)then some false else some true
def AV:=eqS sD
def yK(j:M.aJb)(C:M.aJb):Option Bool:=
 if !(j.Name.toList==C.Name.toList)then some false else if j.aJd !=C.aJd then some false else(Dx j.aJm C.aJm).bind λx3=>if !x3 then some false else(AV j.aJw C.aJw).bind λx6=>if !x6 then some false else some true
def DU(j:M.bL)(C:M.bL):Option Bool:=
 (yK j.aJz C.aJz).bind λx1=>if !x1 then some false else(AF j.Log C.Log).bind λx4=>if !x4 then some false else if j.aKJ !=C.aKJ then some false else some true
def Ax(j:M.aW)(C:M.aW):Option Bool:=
 if j.aJq !=C.aJq then some false else if j.Seq !=C.Seq then some false else(Dl j.Key C.Key).bind λx3=>if !x3 then some false else if !(j.Field.toList==C.Field.toList)then some false else if j.N !=C.N then some false else some true
def BB:=eqS Ax
def Bz(j:M.aM)(C:M.aM):Option Bool:=
 if j.aJq !=C.aJq then some false else if j.aKM !=C.aKM then some false else(BB j.aJ1 C.aJ1).bind λx3=>if !x3 then some false else some true
def DE(j:M.aJx)(C:M.aJx):Option Bool:=
 (Bz j.aM C.aM).bind λx1=>if !x1 then some false else if j.aKP !=C.aKP then some false else if j.aKC !=C.aKC then some false else some true
def Ab(j:M.aE)(C:M.aE):Option Bool:=
 (rP j.aJz C.aJz).bind λx1=>if !x1 then some false else if j.aKV !=C.aKV then some false else(DE j.aJx C.aJx).bind λx5=>if !x5 then some false else some true
def wZ(j:M.aJa)(C:M.aJa):Option Bool:=
 if !(j.aJj.toList==C.aJj.toList)then some false else if !(j.Top.toList==C.Top.toList)then some false else(pF j.aJc C.aJc).bind λx3=>if !x3 then some false else(xR j.aJk C.aJk).bind λx6=>if !x6 then some false else(DU j.bL C.bL).bind λx9=>if !x9 then some false else(Ab j.aE C.aE).bind λI=>if !I then some false else if j.aJ4 !=C.aJ4 then some false else if !(j.aJ3==C.aJ3)then some false else some true
def C5:=eqS wZ
def Ag(j:M.aC)(C:M.aC):Option Bool:=
 (C5 j.aJh C.aJh).bind λx1=>if !x1 then some false else some true
def wN(j:M.aJ)(C:M.aJ):Option Bool:=
 if !(j.aKG.toList==C.aKG.toList)then some false else if j.aJd !=C.aJd then some false else some true
def C7:=eqS wN
def Aq(j:M.Instr)(C:M.Instr):Option Bool:=
 if j.aJr !=C.aJr then some false else if j.R !=C.R then some false else if j.N !=C.N then some false else if !(j.aJ2.toList==C.aJ2.toList)then some false else some true
def DQ:=eqS Aq
def tT(C:List Int)(I:List Int):Nat->Int->Option Bool
 |0,_=>none
 |J+1,j=>if decide (j<(List.length C:Int))then(idx C j).bind λx7=>(idx I j).bind λU=>if x7 !=U then some false else tT C I J (i64.wrap (j+1))else some true
def DV(j:List Int)(C:List Int):Option Bool:=
 if(List.length j:Int) !=(List.length C:Int)then some false else tT j C fuel 0
def zL(j:M.aJf)(C:M.aJf):Option Bool:=
 (DQ j.aJ5 C.aJ5).bind λx1=>if !x1 then some false else if j.Pc !=C.Pc then some false else(DV j.aKH C.aKH).bind λx5=>if !x5 then some false else if j.aKO !=C.aKO then some false else if !(j.aKT==C.aKT)then some false else if !(j.aKQ==C.aKQ)then some false else some true
def BS(j:M.bD)(C:M.bD):Option Bool:=
 if j.Id !=C.Id then some false else if !(j.aJj.toList==C.aJj.toList)then some false else if !(j.Top.toList==C.Top.toList)then some false else if j.aJd !=C.aJd then some false else(C7 j.aJ C.aJ).bind λx5=>if !x5 then some false else(zL j.aJf C.aJf).bind λx8=>if !x8 then some false else some true
def EC:=eqS BS
def B8(j:M.fE)(C:M.fE):Option Bool:=
 if !(j.Name.toList==C.Name.toList)then some false else if j.bD !=C.bD then some false else if !(j.aKF==C.aKF)then some false else if !(j.aKb==C.aKb)then some false else some true
def Ew:=eqS B8
def vF(j:M.aQ)(C:M.aQ):Option Bool:=
 (Ew j.aJv C.aJv).bind λx1=>if !x1 then some false else some true
def Cb(j:M.kK)(C:M.kK):Option Bool:=
 if j.To !=C.To then some false else if j.aKe !=C.aKe then some false else if j.N !=C.N then some false else some true
def EF:=eqS Cb
def zZ(j:M.aJp)(C:M.aJp):Option Bool:=
 (EF j.aKI C.aKI).bind λx1=>if !x1 then some false else some true
def nU(C:List ByteArray)(I:List ByteArray):Nat->Int->Option Bool
 |0,_=>none
 |J+1,j=>if decide (j<(List.length C:Int))then(idx C j).bind λx7=>(idx I j).bind λU=>if !(x7.toList==U.toList)then some false else nU C I J (i64.wrap (j+1))else some true
def Af(j:List ByteArray)(C:List ByteArray):Option Bool:=
 if(List.length j:Int) !=(List.length C:Int)then some false else nU j C fuel 0
def BF(j:M.aJj)(C:M.aJj):Option Bool:=
 if !(j.Name.toList==C.Name.toList)then some false else if j.aJd !=C.aJd then some false else(Af j.aKA C.aKA).bind λx3=>if !x3 then some false else if !(j.aKF==C.aKF)then some false else some true
def EM:=eqS BF
def tP(j:M.aK)(C:M.aK):Option Bool:=
 if j.aJq !=C.aJq then some false else if j.Seq !=C.Seq then some false else some true
def BP:=eqS tP
def xC(j:M.aJn)(C:M.aJn):Option Bool:=
 (rP j.aD C.aD).bind λx1=>if !x1 then some false else(BP j.aK C.aK).bind λx4=>if !x4 then some false else(BB j.aJ8 C.aJ8).bind λx7=>if !x7 then some false else some true
def C4:=eqS xC
def rO(j:M.World)(C:M.World):Option Bool:=
 if j.Now !=C.Now then some false else if !(j.aKB==C.aKB)then some false else if j.aJq !=C.aJq then some false else(Ag j.aC C.aC).bind λx4=>if !x4 then some false else(EC j.aJu C.aJu).bind λx7=>if !x7 then some false else if j.aJy !=C.aJy then some false else(vF j.aJv C.aJv).bind λI=>if !I then some false else(zZ j.aJp C.aJp).bind λJ=>if !J then some false else(EM j.aJ6 C.aJ6).bind λU=>if !U then some false else(C4 j.aJ0 C.aJ0).bind λah=>if !ah then some false else some true
def pN  :Nat->Int->ByteArray->Option ByteArray
 |0,_,_=>none
 |I+1,j,C=>if decide (j>0)then(toStr ([IntKind.u8.wrap (i64.wrap (48+(Int.tmod j 10)))])).bind λx6=>(cat (bF ([IntKind.u8.wrap (i64.wrap (48+(Int.tmod j 10)))])) C).bind λx8=>pN I (i64.wrap (Int.tdiv j 10)) ((bF ([IntKind.u8.wrap (i64.wrap (48+(Int.tmod j 10)))]))++C)else(cat (⟨#[109]⟩:ByteArray) C).bind λJ=>some ((⟨#[109]⟩:ByteArray)++C)
def aN(j:Int):Option ByteArray:=
 if decide (j<=0)then some (⟨#[109,48]⟩:ByteArray)else pN fuel j (⟨#[]⟩:ByteArray)
def hZ  :Nat->Int->Int->List Int->Option (List Int×Int)
 |0,_,_,_=>none
 |J+1,I,C,j=>if decide (C<(List.length j:Int))then(idx j C).bind λx8=>(some (List.set j C.toNat (IntKind.u8.wrap I))).bind λU=>hZ J (i64.wrap (I+1)) (i64.wrap (C+1)) U else some (j,I)
def uK(j:List Int)(C:Int):Option (List Int×Int):=
 hZ fuel C 0 j
def lY  :Nat->Int->Int->List M.aJo->Option (List M.aJo×Int)
 |0,_,_,_=>none
 |az+1,I,j,aj=>if decide (j<(List.length aj:Int))then(aN I).bind λx8=>(idx aj j).bind λal=>(some (List.set aj j.toNat (⟨x8,al.aKG,al.aJg⟩:M.aJo))).bind λao=>(aN (i64.wrap (I+1))).bind λba=>(idx ao j).bind λaq=>(some (List.set ao j.toNat (⟨aq.aJj,ba,aq.aJg⟩:M.aJo))).bind λar=>(idx ar j).bind λJ=>(some (List.set ar j.toNat (⟨J.aJj,J.aKG,(⟨i64.wrap ((i64.wrap (I+1))+1),J.aJg.aKK,J.aJg.aJd,J.aJg.aKS,J.aJg.aKZ⟩:M.aJg)⟩:M.aJo))).bind λav=>(idx av j).bind λU=>(some (List.set av j.toNat (⟨U.aJj,U.aKG,(⟨U.aJg.aKU,i64.wrap ((i64.wrap ((i64.wrap (I+1))+1))+1),U.aJg.aJd,U.aJg.aKS,U.aJg.aKZ⟩:M.aJg)⟩:M.aJo))).bind λaw=>(idx aw j).bind λah=>(some (List.set aw j.toNat (⟨ah.aJj,ah.aKG,(⟨ah.aJg.aKU,ah.aJg.aKK,i64.wrap ((i64.wrap ((i64.wrap ((i64.wrap (I+1))+1))+1))+1),ah.aJg.aKS,ah.aJg.aKZ⟩:M.aJg)⟩:M.aJo))).bind λax=>(idx ax j).bind λC=>(uK C.aJg.aKS (i64.wrap ((i64.wrap ((i64.wrap ((i64.wrap ((i64.wrap (I+1))+1))+1))+1))+1))).bind λak=>(some (List.set ax j.toNat (⟨C.aJj,C.aKG,(⟨C.aJg.aKU,C.aJg.aKK,C.aJg.aJd,ak.1,C.aJg.aKZ⟩:M.aJg)⟩:M.aJo))).bind λay=>(idx ay j).bind λai=>(some (List.set ay j.toNat (⟨ai.aJj,ai.aKG,(⟨ai.aJg.aKU,ai.aJg.aKK,ai.aJg.aJd,ai.aJg.aKS,(Int.tmod ak.2 3)==0⟩:M.aJg)⟩:M.aJo))).bind λbd=>lY az (i64.wrap (ak.2+1)) (i64.wrap (j+1)) bd else some (aj,I)
def AS(j:List M.aJo)(C:Int):Option (List M.aJo×Int):=
 lY fuel C 0 j
def nC  :Nat->Int->Int->List M.aJs->Option (List M.aJs×Int)
 |0,_,_,_=>none
 |ai+1,I,j,C=>if decide (j<(List.length C:Int))then(idx C j).bind λx8=>(some (List.set C j.toNat (⟨I,x8.aJt⟩:M.aJs))).bind λJ=>(idx J j).bind λU=>(AS U.aJt (i64.wrap (I+1))).bind λah=>(some (List.set J j.toNat (⟨U.aJd,ah.1⟩:M.aJs))).bind λaj=>nC ai ah.2 (i64.wrap (j+1)) aj else some (C,I)
def Ce(j:List M.aJs)(C:Int):Option (List M.aJs×Int):=
 nC fuel C 0 j
def mU  :Nat->Int->Int->List M.Field->Option (List M.Field×Int)
 |0,_,_,_=>none
 |U+1,I,j,C=>if decide (j<(List.length C:Int))then(aN I).bind λx8=>(idx C j).bind λah=>(some (List.set C j.toNat (⟨x8,ah.N⟩:M.Field))).bind λJ=>(idx J j).bind λai=>(some (List.set J j.toNat (⟨ai.Name,i64.wrap (I+1)⟩:M.Field))).bind λaj=>mU U (i64.wrap ((i64.wrap (I+1))+1)) (i64.wrap (j+1)) aj else some (C,I)
def Ca(j:List M.Field)(C:Int):Option (List M.Field×Int):=
 mU fuel C 0 j
def oG  :Nat->Int->Int->List M.aJl->Option (List M.aJl×Int)
 |0,_,_,_=>none
 |ao+1,C,j,I=>if decide (j<(List.length I:Int))then(idx I j).bind λx8=>(some (List.set I j.toNat (⟨(⟨C,x8.Key.N,x8.Key.aJ2⟩:M.Key),x8.aA⟩:M.aJl))).bind λah=>(idx ah j).bind λJ=>(some (List.set ah j.toNat (⟨(⟨J.Key.aJr,i64.wrap (C+1),J.Key.aJ2⟩:M.Key),J.aA⟩:M.aJl))).bind λai=>(aN (i64.wrap ((i64.wrap (C+1))+1))).bind λaq=>(idx ai j).bind λU=>(some (List.set ai j.toNat (⟨(⟨U.Key.aJr,U.Key.N,aq⟩:M.Key),U.aA⟩:M.aJl))).bind λaj=>(idx aj j).bind λak=>(Ca ak.aA.aJi (i64.wrap ((i64.wrap ((i64.wrap (C+1))+1))+1))).bind λal=>(some (List.set aj j.toNat (⟨ak.Key,(⟨al.1⟩:M.aA)⟩:M.aJl))).bind λar=>oG ao al.2 (i64.wrap (j+1)) ar else some (I,C)
def tW(j:List M.aJl)(C:Int):Option (List M.aJl×Int):=
 oG fuel C 0 j
def mZ  :Nat->Int->Int->List M.aD->Option (List M.aD×Int)
 |0,_,_,_=>none
 |al+1,U,j,C=>if decide (j<(List.length C:Int))then(aN U).bind λx8=>(idx C j).bind λah=>(some (List.set C j.toNat (⟨x8,ah.aJe,ah.aJ7⟩:M.aD))).bind λai=>(idx ai j).bind λI=>(tW I.aJe (i64.wrap (U+1))).bind λJ=>(some (List.set ai j.toNat (⟨I.Name,J.1,I.aJ7⟩:M.aD))).bind λaj=>(idx aj j).bind λak=>(some (List.set aj j.toNat (⟨ak.Name,ak.aJe,J.2⟩:M.aD))).bind λao=>mZ al (i64.wrap (J.2+1)) (i64.wrap (j+1)) ao else some (C,U)
def BR(j:List M.aD)(C:Int):Option (List M.aD×Int):=
 mZ fuel C 0 j
def iL  :Nat->Int->Int->List M.aG->Option (List M.aG×Int)
 |0,_,_,_=>none
 |U+1,I,j,C=>if decide (j<(List.length C:Int))then(aN I).bind λx8=>(idx C j).bind λah=>(some (List.set C j.toNat (⟨x8,ah.Field⟩:M.aG))).bind λJ=>(aN (i64.wrap (I+1))).bind λai=>(idx J j).bind λaj=>(some (List.set J j.toNat (⟨aj.aD,ai⟩:M.aG))).bind λak=>iL U (i64.wrap ((i64.wrap (I+1))+1)) (i64.wrap (j+1)) ak else some (C,I)
def wI(j:List M.aG)(C:Int):Option (List M.aG×Int):=
 iL fuel C 0 j
def mX  :Nat->Int->Int->List M.aW->Option (List M.aW×Int)
 |0,_,_,_=>none
 |ax+1,C,j,ah=>if decide (j<(List.length ah:Int))then(idx ah j).bind λx8=>(some (List.set ah j.toNat (⟨C,x8.Seq,x8.Key,x8.Field,x8.N⟩:M.aW))).bind λal=>(idx al j).bind λai=>(some (List.set al j.toNat (⟨ai.aJq,i64.wrap (C+1),ai.Key,ai.Field,ai.N⟩:M.aW))).bind λao=>(idx ao j).bind λI=>(some (List.set ao j.toNat (⟨I.aJq,I.Seq,(⟨i64.wrap ((i64.wrap (C+1))+1),I.Key.N,I.Key.aJ2⟩:M.Key),I.Field,I.N⟩:M.aW))).bind λaq=>(idx aq j).bind λJ=>(some (List.set aq j.toNat (⟨J.aJq,J.Seq,(⟨J.Key.aJr,i64.wrap ((i64.wrap ((i64.wrap (C+1))+1))+1),J.Key.aJ2⟩:M.Key),J.Field,J.N⟩:M.aW))).bind λar=>(aN (i64.wrap ((i64.wrap ((i64.wrap ((i64.wrap (C+1))+1))+1))+1))).bind λay=>(idx ar j).bind λU=>(some (List.set ar j.toNat (⟨U.aJq,U.Seq,(⟨U.Key.aJr,U.Key.N,ay⟩:M.Key),U.Field,U.N⟩:M.aW))).bind λav=>(aN (i64.wrap ((i64.wrap ((i64.wrap ((i64.wrap ((i64.wrap (C+1))+1))+1))+1))+1))).bind λaz=>(idx av j).bind λaj=>(some (List.set av j.toNat (⟨aj.aJq,aj.Seq,aj.Key,az,aj.N⟩:M.aW))).bind λaw=>(idx aw j).bind λak=>(some (List.set aw j.toNat (⟨ak.aJq,ak.Seq,ak.Key,ak.Field,i64.wrap ((i64.wrap ((i64.wrap ((i64.wrap ((i64.wrap ((i64.wrap (C+1))+1))+1))+1))+1))+1)⟩:M.aW))).bind λba=>mX ax (i64.wrap ((i64.wrap ((i64.wrap ((i64.wrap ((i64.wrap ((i64.wrap ((i64.wrap (C+1))+1))+1))+1))+1))+1))+1)) (i64.wrap (j+1)) ba else some (ah,C)
def xD(j:List M.aW)(C:Int):Option (List M.aW×Int):=
 mX fuel C 0 j
def mC  :Nat->Int->Int->List M.aJa->Option (List M.aJa×Int)
 |0,_,_,_=>none
 |dx+1,v1,j,da=>if decide (j<(List.length da:Int))then(aN v1).bind λx8=>(idx da j).bind λbo=>(some (List.set da j.toNat (⟨x8,bo.Top,bo.aJc,bo.aJk,bo.bL,bo.aE,bo.aJ4,bo.aJ3⟩:M.aJa))).bind λdi=>(aN (i64.wrap (v1+1))).bind λdy=>(idx di j).bind λbq=>(some (List.set di j.toNat (⟨bq.aJj,dy,bq.aJc,bq.aJk,bq.bL,bq.aE,bq.aJ4,bq.aJ3⟩:M.aJa))).bind λdj=>(aN (i64.wrap ((i64.wrap (v1+1))+1))).bind λdz=>(idx dj j).bind λbg=>(some (List.set dj j.toNat (⟨bg.aJj,bg.Top,(⟨dz,bg.aJc.aJ9,bg.aJc.aKE,bg.aJc.aKL⟩:M.aJc),bg.aJk,bg.bL,bg.aE,bg.aJ4,bg.aJ3⟩:M.aJa))).bind λdm=>(idx dm j).bind λbh=>(some (List.set dm j.toNat (⟨bh.aJj,bh.Top,(⟨bh.aJc.aJj,i64.wrap ((i64.wrap ((i64.wrap (v1+1))+1))+1),bh.aJc.aKE,bh.aJc.aKL⟩:M.aJc),bh.aJk,bh.bL,bh.aE,bh.aJ4,bh.aJ3⟩:M.aJa))).bind λdn=>(idx dn j).bind λbj=>(some (List.set dn j.toNat (⟨bj.aJj,bj.Top,(⟨bj.aJc.aJj,bj.aJc.aJ9,i64.wrap ((i64.wrap ((i64.wrap ((i64.wrap (v1+1))+1))+1))+1),bj.aJc.aKL⟩:M.aJc),bj.aJk,bj.bL,bj.aE,bj.aJ4,bj.aJ3⟩:M.aJa))).bind λdq=>(idx dq j).bind λbl=>(some (List.set dq j.toNat (⟨bl.aJj,bl.Top,(⟨bl.aJc.aJj,bl.aJc.aJ9,bl.aJc.aKE,i64.wrap ((i64.wrap ((i64.wrap ((i64.wrap ((i64.wrap (v1+1))+1))+1))+1))+1)⟩:M.aJc),bl.aJk,bl.bL,bl.aE,bl.aJ4,bl.aJ3⟩:M.aJa))).bind λdu=>(idx du j).bind λbn=>(Ce bn.aJk.aJk (i64.wrap ((i64.wrap ((i64.wrap ((i64.wrap ((i64.wrap ((i64.wrap (v1+1))+1))+1))+1))+1))+1))).bind λdb=>(some (List.set du j.toNat (⟨bn.aJj,bn.Top,bn.aJc,(⟨db.1⟩:M.aO),bn.bL,bn.aE,bn.aJ4,bn.aJ3⟩:M.aJa))).bind λdw=>(aN db.2).bind λdf=>(idx dw j).bind λaj=>(some (List.set dw j.toNat (⟨aj.aJj,aj.Top,aj.aJc,aj.aJk,(⟨(⟨df,aj.bL.aJz.aJd,aj.bL.aJz.aJm,aj.bL.aJz.aJw⟩:M.aJb),aj.bL.Log,aj.bL.aKJ⟩:M.bL),aj.aE,aj.aJ4,aj.aJ3⟩:M.aJa))).bind λbr=>(idx br j).bind λak=>(some (List.set br j.toNat (⟨ak.aJj,ak.Top,ak.aJc,ak.aJk,(⟨(⟨ak.bL.aJz.Name,i64.wrap (db.2+1),ak.bL.aJz.aJm,ak.bL.aJz.aJw⟩:M.aJb),ak.bL.Log,ak.bL.aKJ⟩:M.bL),ak.aE,ak.aJ4,ak.aJ3⟩:M.aJa))).bind λbt=>(idx bt j).bind λI=>(BR I.bL.aJz.aJm (i64.wrap ((i64.wrap (db.2+1))+1))).bind λbu=>(some (List.set bt j.toNat (⟨I.aJj,I.Top,I.aJc,I.aJk,(⟨(⟨I.bL.aJz.Name,I.bL.aJz.aJd,bu.1,I.bL.aJz.aJw⟩:M.aJb),I.bL.Log,I.bL.aKJ⟩:M.bL),I.aE,I.aJ4,I.aJ3⟩:M.aJa))).bind λbw=>(idx bw j).bind λJ=>(wI J.bL.aJz.aJw bu.2).bind λbz=>(some (List.set bw j.toNat (⟨J.aJj,J.Top,J.aJc,J.aJk,(⟨(⟨J.bL.aJz.Name,J.bL.aJz.aJd,J.bL.aJz.aJm,bz.1⟩:M.aJb),J.bL.Log,J.bL.aKJ⟩:M.bL),J.aE,J.aJ4,J.aJ3⟩:M.aJa))).bind λc5=>(idx c5 j).bind λaw=>(uK aw.bL.Log bz.2).bind λbm=>(some (List.set c5 j.toNat (⟨aw.aJj,aw.Top,aw.aJc,aw.aJk,(⟨aw.bL.aJz,bm.1,aw.bL.aKJ⟩:M.bL),aw.aE,aw.aJ4,aw.aJ3⟩:M.aJa))).bind λca=>(idx ca j).bind λax=>(some (List.set ca j.toNat (⟨ax.aJj,ax.Top,ax.aJc,ax.aJk,(⟨ax.bL.aJz,ax.bL.Log,bm.2⟩:M.bL),ax.aE,ax.aJ4,ax.aJ3⟩:M.aJa))).bind λcc=>(aN (i64.wrap (bm.2+1))).bind λdg=>(idx cc j).bind λao=>(some (List.set cc j.toNat (⟨ao.aJj,ao.Top,ao.aJc,ao.aJk,ao.bL,(⟨(⟨dg,ao.aE.aJz.aJe,ao.aE.aJz.aJ7⟩:M.aD),ao.aE.aKV,ao.aE.aJx⟩:M.aE),ao.aJ4,ao.aJ3⟩:M.aJa))).bind λcd=>(idx cd j).bind λal=>(tW al.aE.aJz.aJe (i64.wrap ((i64.wrap (bm.2+1))+1))).bind λbd=>(some (List.set cd j.toNat (⟨al.aJj,al.Top,al.aJc,al.aJk,al.bL,(⟨(⟨al.aE.aJz.Name,bd.1,al.aE.aJz.aJ7⟩:M.aD),al.aE.aKV,al.aE.aJx⟩:M.aE),al.aJ4,al.aJ3⟩:M.aJa))).bind λcg=>(idx cg j).bind λaq=>(some (List.set cg j.toNat (⟨aq.aJj,aq.Top,aq.aJc,aq.aJk,aq.bL,(⟨(⟨aq.aE.aJz.Name,aq.aE.aJz.aJe,bd.2⟩:M.aD),aq.aE.aKV,aq.aE.aJx⟩:M.aE),aq.aJ4,aq.aJ3⟩:M.aJa))).bind λcj=>(idx cj j).bind λay=>(some (List.set cj j.toNat (⟨ay.aJj,ay.Top,ay.aJc,ay.aJk,ay.bL,(⟨ay.aE.aJz,i64.wrap (bd.2+1),ay.aE.aJx⟩:M.aE),ay.aJ4,ay.aJ3⟩:M.aJa))).bind λck=>(idx ck j).bind λU=>(some (List.set ck j.toNat (⟨U.aJj,U.Top,U.aJc,U.aJk,U.bL,(⟨U.aE.aJz,U.aE.aKV,(⟨(⟨i64.wrap ((i64.wrap (bd.2+1))+1),U.aE.aJx.aM.aKM,U.aE.aJx.aM.aJ1⟩:M.aM),U.aE.aJx.aKP,U.aE.aJx.aKC⟩:M.aJx)⟩:M.aE),U.aJ4,U.aJ3⟩:M.aJa))).bind λcn=>(idx cn j).bind λai=>(some (List.set cn j.toNat (⟨ai.aJj,ai.Top,ai.aJc,ai.aJk,ai.bL,(⟨ai.aE.aJz,ai.aE.aKV,(⟨(⟨ai.aE.aJx.aM.aJq,i64.wrap ((i64.wrap ((i64.wrap (bd.2+1))+1))+1),ai.aE.aJx.aM.aJ1⟩:M.aM),ai.aE.aJx.aKP,ai.aE.aJx.aKC⟩:M.aJx)⟩:M.aE),ai.aJ4,ai.aJ3⟩:M.aJa))).bind λcq=>(idx cq j).bind λC=>(xD C.aE.aJx.aM.aJ1 (i64.wrap ((i64.wrap ((i64.wrap ((i64.wrap (bd.2+1))+1))+1))+1))).bind λbf=>(some (List.set cq j.toNat (⟨C.aJj,C.Top,C.aJc,C.aJk,C.bL,(⟨C.aE.aJz,C.aE.aKV,(⟨(⟨C.aE.aJx.aM.aJq,C.aE.aJx.aM.aKM,bf.1⟩:M.aM),C.aE.aJx.aKP,C.aE.aJx.aKC⟩:M.aJx)⟩:M.aE),C.aJ4,C.aJ3⟩:M.aJa))).bind λcr=>(idx cr j).bind λar=>(some (List.set cr j.toNat (⟨ar.aJj,ar.Top,ar.aJc,ar.aJk,ar.bL,(⟨ar.aE.aJz,ar.aE.aKV,(⟨ar.aE.aJx.aM,bf.2,ar.aE.aJx.aKC⟩:M.aJx)⟩:M.aE),ar.aJ4,ar.aJ3⟩:M.aJa))).bind λcw=>(idx cw j).bind λav=>(some (List.set cw j.toNat (⟨av.aJj,av.Top,av.aJc,av.aJk,av.bL,(⟨av.aE.aJz,av.aE.aKV,(⟨av.aE.aJx.aM,av.aE.aJx.aKP,i64.wrap (bf.2+1)⟩:M.aJx)⟩:M.aE),av.aJ4,av.aJ3⟩:M.aJa))).bind λcy=>(idx cy j).bind λaz=>(some (List.set cy j.toNat (⟨az.aJj,az.Top,az.aJc,az.aJk,az.bL,az.aE,i64.wrap ((i64.wrap (bf.2+1))+1),az.aJ3⟩:M.aJa))).bind λcz=>(idx cz j).bind λba=>(some (List.set cz j.toNat (⟨ba.aJj,ba.Top,ba.aJc,ba.aJk,ba.bL,ba.aE,ba.aJ4,(Int.tmod (i64.wrap ((i64.wrap ((i64.wrap (bf.2+1))+1))+1)) 3)==0⟩:M.aJa))).bind λdh=>mC dx (i64.wrap ((i64.wrap ((i64.wrap ((i64.wrap (bf.2+1))+1))+1))+1)) (i64.wrap (j+1)) dh else some (da,v1)
def A7(j:List M.aJa)(C:Int):Option (List M.aJa×Int):=
 mC fuel C 0 j
def A5(j:M.aC)(C:Int):Option (List M.aJa×Int):=
 (A7 j.aJh C).bind λx1=>some (x1.1,x1.2)
def lU  :Nat->Int->Int->List M.aJ->Option (List M.aJ×Int)
 |0,_,_,_=>none
 |U+1,I,j,C=>if decide (j<(List.length C:Int))then(aN I).bind λx8=>(idx C j).bind λah=>(some (List.set C j.toNat (⟨x8,ah.aJd⟩:M.aJ))).bind λJ=>(idx J j).bind λai=>(some (List.set J j.toNat (⟨ai.aKG,i64.wrap (I+1)⟩:M.aJ))).bind λaj=>lU U (i64.wrap ((i64.wrap (I+1))+1)) (i64.wrap (j+1)) aj else some (C,I)
def A6(j:List M.aJ)(C:Int):Option (List M.aJ×Int):=
 lU fuel C 0 j
def mT  :Nat->Int->Int->List M.Instr->Option (List M.Instr×Int)
 |0,_,_,_=>none
 |al+1,C,j,I=>if decide (j<(List.length I:Int))then(idx I j).bind λx8=>(some (List.set I j.toNat (⟨C,x8.R,x8.N,x8.aJ2⟩:M.Instr))).bind λai=>(idx ai j).bind λJ=>(some (List.set ai j.toNat (⟨J.aJr,i64.wrap (C+1),J.N,J.aJ2⟩:M.Instr))).bind λaj=>(idx aj j).bind λU=>(some (List.set aj j.toNat (⟨U.aJr,U.R,i64.wrap ((i64.wrap (C+1))+1),U.aJ2⟩:M.Instr))).bind λak=>(aN (i64.wrap ((i64.wrap ((i64.wrap (C+1))+1))+1))).bind λao=>(idx ak j).bind λah=>(some (List.set ak j.toNat (⟨ah.aJr,ah.R,ah.N,ao⟩:M.Instr))).bind λaq=>mT al (i64.wrap ((i64.wrap ((i64.wrap ((i64.wrap (C+1))+1))+1))+1)) (i64.wrap (j+1)) aq else some (I,C)
def B9(j:List M.Instr)(C:Int):Option (List M.Instr×Int):=
 mT fuel C 0 j
def jX  :Nat->Int->Int->List Int->Option (List Int×Int)
 |0,_,_,_=>none
 |J+1,I,C,j=>if decide (C<(List.length j:Int))then(idx j C).bind λx8=>(some (List.set j C.toNat I)).bind λU=>jX J (i64.wrap (I+1)) (i64.wrap (C+1)) U else some (j,I)
def Bm(j:List Int)(C:Int):Option (List Int×Int):=
 jX fuel C 0 j
def oA  :Nat->Int->Int->List M.bD->Option (List M.bD×Int)
 |0,_,_,_=>none
 |bo+1,v1,j,ay=>if decide (j<(List.length ay:Int))then(idx ay j).bind λx8=>(some (List.set ay j.toNat (⟨v1,x8.aJj,x8.Top,x8.aJd,x8.aJ,x8.aJf⟩:M.bD))).bind λbd=>(aN (i64.wrap (v1+1))).bind λbq=>(idx bd j).bind λao=>(some (List.set bd j.toNat (⟨ao.Id,bq,ao.Top,ao.aJd,ao.aJ,ao.aJf⟩:M.bD))).bind λbf=>(aN (i64.wrap ((i64.wrap (v1+1))+1))).bind λbr=>(idx bf j).bind λaq=>(some (List.set bf j.toNat (⟨aq.Id,aq.aJj,br,aq.aJd,aq.aJ,aq.aJf⟩:M.bD))).bind λbg=>(idx bg j).bind λar=>(some (List.set bg j.toNat (⟨ar.Id,ar.aJj,ar.Top,i64.wrap ((i64.wrap ((i64.wrap (v1+1))+1))+1),ar.aJ,ar.aJf⟩:M.bD))).bind λbh=>(idx bh j).bind λal=>(A6 al.aJ (i64.wrap ((i64.wrap ((i64.wrap ((i64.wrap (v1+1))+1))+1))+1))).bind λbj=>(some (List.set bh j.toNat (⟨al.Id,al.aJj,al.Top,al.aJd,bj.1,al.aJf⟩:M.bD))).bind λbl=>(idx bl j).bind λI=>(B9 I.aJf.aJ5 bj.2).bind λaz=>(some (List.set bl j.toNat (⟨I.Id,I.aJj,I.Top,I.aJd,I.aJ,(⟨az.1,I.aJf.Pc,I.aJf.aKH,I.aJf.aKO,I.aJf.aKT,I.aJf.aKQ⟩:M.aJf)⟩:M.bD))).bind λbm=>(idx bm j).bind λak=>(some (List.set bm j.toNat (⟨ak.Id,ak.aJj,ak.Top,ak.aJd,ak.aJ,(⟨ak.aJf.aJ5,az.2,ak.aJf.aKH,ak.aJf.aKO,ak.aJf.aKT,ak.aJf.aKQ⟩:M.aJf)⟩:M.bD))).bind λbn=>(idx bn j).bind λC=>(Bm C.aJf.aKH (i64.wrap (az.2+1))).bind λaj=>(some (List.set bn j.toNat (⟨C.Id,C.aJj,C.Top,C.aJd,C.aJ,(⟨C.aJf.aJ5,C.aJf.Pc,aj.1,C.aJf.aKO,C.aJf.aKT,C.aJf.aKQ⟩:M.aJf)⟩:M.bD))).bind λav=>(idx av j).bind λJ=>(some (List.set av j.toNat (⟨J.Id,J.aJj,J.Top,J.aJd,J.aJ,(⟨J.aJf.aJ5,J.aJf.Pc,J.aJf.aKH,aj.2,J.aJf.aKT,J.aJf.aKQ⟩:M.aJf)⟩:M.bD))).bind λaw=>(idx aw j).bind λU=>(some (List.set aw j.toNat (⟨U.Id,U.aJj,U.Top,U.aJd,U.aJ,(⟨U.aJf.aJ5,U.aJf.Pc,U.aJf.aKH,U.aJf.aKO,(Int.tmod (i64.wrap (aj.2+1)) 3)==0,U.aJf.aKQ⟩:M.aJf)⟩:M.bD))).bind λax=>(idx ax j).bind λah=>(some (List.set ax j.toNat (⟨ah.Id,ah.aJj,ah.Top,ah.aJd,ah.aJ,(⟨ah.aJf.aJ5,ah.aJf.Pc,ah.aJf.aKH,ah.aJf.aKO,ah.aJf.aKT,(Int.tmod (i64.wrap ((i64.wrap (aj.2+1))+1)) 3)==0⟩:M.aJf)⟩:M.bD))).bind λba=>oA bo (i64.wrap ((i64.wrap ((i64.wrap (aj.2+1))+1))+1)) (i64.wrap (j+1)) ba else some (ay,v1)
def CO(j:List M.bD)(C:Int):Option (List M.bD×Int):=
 oA fuel C 0 j
def nW  :Nat->Int->Int->List M.fE->Option (List M.fE×Int)
 |0,_,_,_=>none
 |ao+1,C,j,I=>if decide (j<(List.length I:Int))then(aN C).bind λx8=>(idx I j).bind λJ=>(some (List.set I j.toNat (⟨x8,J.bD,J.aKF,J.aKb⟩:M.fE))).bind λaj=>(idx aj j).bind λU=>(some (List.set aj j.toNat (⟨U.Name,i64.wrap (C+1),U.aKF,U.aKb⟩:M.fE))).bind λak=>(idx ak j).bind λah=>(some (List.set ak j.toNat (⟨ah.Name,ah.bD,(Int.tmod (i64.wrap ((i64.wrap (C+1))+1)) 3)==0,ah.aKb⟩:M.fE))).bind λal=>(idx al j).bind λai=>(some (List.set al j.toNat (⟨ai.Name,ai.bD,ai.aKF,(Int.tmod (i64.wrap ((i64.wrap ((i64.wrap (C+1))+1))+1)) 3)==0⟩:M.fE))).bind λaq=>nW ao (i64.wrap ((i64.wrap ((i64.wrap ((i64.wrap (C+1))+1))+1))+1)) (i64.wrap (j+1)) aq else some (I,C)
def CZ(j:List M.fE)(C:Int):Option (List M.fE×Int):=
 nW fuel C 0 j
def wG(j:M.aQ)(C:Int):Option (List M.fE×Int):=
 (CZ j.aJv C).bind λx1=>some (x1.1,x1.2)
def nQ  :Nat->Int->Int->List M.kK->Option (List M.kK×Int)
 |0,_,_,_=>none
 |aj+1,C,j,I=>if decide (j<(List.length I:Int))then(idx I j).bind λx8=>(some (List.set I j.toNat (⟨C,x8.aKe,x8.N⟩:M.kK))).bind λJ=>(idx J j).bind λU=>(some (List.set J j.toNat (⟨U.To,i64.wrap (C+1),U.N⟩:M.kK))).bind λah=>(idx ah j).bind λai=>(some (List.set ah j.toNat (⟨ai.To,ai.aKe,i64.wrap ((i64.wrap (C+1))+1)⟩:M.kK))).bind λak=>nQ aj (i64.wrap ((i64.wrap ((i64.wrap (C+1))+1))+1)) (i64.wrap (j+1)) ak else some (I,C)
def C0(j:List M.kK)(C:Int):Option (List M.kK×Int):=
 nQ fuel C 0 j
def AY(j:M.aJp)(C:Int):Option (List M.kK×Int):=
 (C0 j.aKI C).bind λx1=>some (x1.1,x1.2)
def fR  :Nat->Int->Int->List ByteArray->Option (List ByteArray×Int)
 |0,_,_,_=>none
 |J+1,I,C,j=>if decide (C<(List.length j:Int))then(aN I).bind λx8=>(idx j C).bind λah=>(some (List.set j C.toNat x8)).bind λU=>fR J (i64.wrap (I+1)) (i64.wrap (C+1)) U else some (j,I)
def uQ(j:List ByteArray)(C:Int):Option (List ByteArray×Int):=
 fR fuel C 0 j
def oH  :Nat->Int->Int->List M.aJj->Option (List M.aJj×Int)
 |0,_,_,_=>none
 |aq+1,J,j,C=>if decide (j<(List.length C:Int))then(aN J).bind λx8=>(idx C j).bind λU=>(some (List.set C j.toNat (⟨x8,U.aJd,U.aKA,U.aKF⟩:M.aJj))).bind λak=>(idx ak j).bind λah=>(some (List.set ak j.toNat (⟨ah.Name,i64.wrap (J+1),ah.aKA,ah.aKF⟩:M.aJj))).bind λal=>(idx al j).bind λI=>(uQ I.aKA (i64.wrap ((i64.wrap (J+1))+1))).bind λai=>(some (List.set al j.toNat (⟨I.Name,I.aJd,ai.1,I.aKF⟩:M.aJj))).bind λao=>(idx ao j).bind λaj=>(some (List.set ao j.toNat (⟨aj.Name,aj.aJd,aj.aKA,(Int.tmod ai.2 3)==0⟩:M.aJj))).bind λar=>oH aq (i64.wrap (ai.2+1)) (i64.wrap (j+1)) ar else some (C,J)
def CV(j:List M.aJj)(C:Int):Option (List M.aJj×Int):=
 oH fuel C 0 j
def kB  :Nat->Int->Int->List M.aK->Option (List M.aK×Int)
 |0,_,_,_=>none
 |U+1,I,j,C=>if decide (j<(List.length C:Int))then(idx C j).bind λx8=>(some (List.set C j.toNat (⟨I,x8.Seq⟩:M.aK))).bind λJ=>(idx J j).bind λah=>(some (List.set J j.toNat (⟨ah.aJq,i64.wrap (I+1)⟩:M.aK))).bind λai=>kB U (i64.wrap ((i64.wrap (I+1))+1)) (i64.wrap (j+1)) ai else some (C,I)
def zA(j:List M.aK)(C:Int):Option (List M.aK×Int):=
 kB fuel C 0 j
def lI  :Nat->Int->Int->List M.aJn->Option (List M.aJn×Int)
 |0,_,_,_=>none
 |ax+1,v1,j,I=>if decide (j<(List.length I:Int))then(aN v1).bind λx8=>(idx I j).bind λJ=>(some (List.set I j.toNat (⟨(⟨x8,J.aD.aJe,J.aD.aJ7⟩:M.aD),J.aK,J.aJ8⟩:M.aJn))).bind λal=>(idx al j).bind λC=>(tW C.aD.aJe (i64.wrap (v1+1))).bind λai=>(some (List.set al j.toNat (⟨(⟨C.aD.Name,ai.1,C.aD.aJ7⟩:M.aD),C.aK,C.aJ8⟩:M.aJn))).bind λao=>(idx ao j).bind λU=>(some (List.set ao j.toNat (⟨(⟨U.aD.Name,U.aD.aJe,ai.2⟩:M.aD),U.aK,U.aJ8⟩:M.aJn))).bind λaq=>(idx aq j).bind λaj=>(zA aj.aK (i64.wrap (ai.2+1))).bind λar=>(some (List.set aq j.toNat (⟨aj.aD,ar.1,aj.aJ8⟩:M.aJn))).bind λav=>(idx av j).bind λak=>(xD ak.aJ8 ar.2).bind λaw=>(some (List.set av j.toNat (⟨ak.aD,ak.aK,aw.1⟩:M.aJn))).bind λay=>lI ax aw.2 (i64.wrap (j+1)) ay else some (I,v1)
def AZ(j:List M.aJn)(C:Int):Option (List M.aJn×Int):=
 lI fuel C 0 j
def tZ(j:M.World)(p1:Int):Option (List M.aJa×List M.bD×List M.fE×List M.kK×List M.aJj×List M.aJn×Int):=
 (A5 j.aC p1).bind λx1=>(CO j.aJu x1.2).bind λx8=>(wG j.aJv x8.2).bind λC=>(AY j.aJp C.2).bind λI=>(CV j.aJ6 I.2).bind λJ=>(AZ j.aJ0 J.2).bind λU=>some (x1.1,x8.1,C.1,I.1,J.1,U.1,U.2)
def fX(j:List Int):Nat->Int->Int->Option Int
 |0,_,_=>none
 |J+1,C,I=>if decide (I<(List.length j:Int))then(idx j I).bind λx6=>if x6 !=(IntKind.u8.wrap C)then some (-1)else fX j J (i64.wrap (C+1)) (i64.wrap (I+1))else some C
def tN(j:List Int)(C:Int):Option Int:=
 fX j fuel C 0
def hM(I:List M.aJo):Nat->Int->Int->Option Int
 |0,_,_=>none
 |U+1,j,J=>if decide (J<(List.length I:Int))then(idx I J).bind λx6=>(aN j).bind λaf=>if !(x6.aJj.toList==af.toList)then some (-1)else(aN (i64.wrap (j+1))).bind λah=>if !(x6.aKG.toList==ah.toList)then some (-1)else if x6.aJg.aKU !=(i64.wrap ((i64.wrap (j+1))+1))then some (-1)else if x6.aJg.aKK !=(i64.wrap ((i64.wrap ((i64.wrap (j+1))+1))+1))then some (-1)else if x6.aJg.aJd !=(i64.wrap ((i64.wrap ((i64.wrap ((i64.wrap (j+1))+1))+1))+1))then some (-1)else(tN x6.aJg.aKS (i64.wrap ((i64.wrap ((i64.wrap ((i64.wrap ((i64.wrap (j+1))+1))+1))+1))+1))).bind λC=>if decide (C<0)then some (-1)else if !(x6.aJg.aKZ==((Int.tmod C 3)==0))then some (-1)else hM I U (i64.wrap (C+1)) (i64.wrap (J+1))else some j
def AR(j:List M.aJo)(C:Int):Option Int:=
 hM j fuel C 0
def iX(j:List M.aJs):Nat->Int->Int->Option Int
 |0,_,_=>none
 |U+1,C,I=>if decide (I<(List.length j:Int))then(idx j I).bind λx6=>if x6.aJd !=C then some (-1)else(AR x6.aJt (i64.wrap (C+1))).bind λJ=>if decide (J<0)then some (-1)else iX j U J (i64.wrap (I+1))else some C
def BK(j:List M.aJs)(C:Int):Option Int:=
 iX j fuel C 0
def jS(C:List M.Field):Nat->Int->Int->Option Int
 |0,_,_=>none
 |J+1,j,I=>if decide (I<(List.length C:Int))then(idx C I).bind λx6=>(aN j).bind λU=>if !(x6.Name.toList==U.toList)then some (-1)else if x6.N !=(i64.wrap (j+1))then some (-1)else jS C J (i64.wrap ((i64.wrap (j+1))+1)) (i64.wrap (I+1))else some j
def BV(j:List M.Field)(C:Int):Option Int:=
 jS j fuel C 0
def lD(C:List M.aJl):Nat->Int->Int->Option Int
 |0,_,_=>none
 |U+1,j,I=>if decide (I<(List.length C:Int))then(idx C I).bind λx6=>if x6.Key.aJr !=j then some (-1)else if x6.Key.N !=(i64.wrap (j+1))then some (-1)else(aN (i64.wrap ((i64.wrap (j+1))+1))).bind λaf=>if !(x6.Key.aJ2.toList==af.toList)then some (-1)else(BV x6.aA.aJi (i64.wrap ((i64.wrap ((i64.wrap (j+1))+1))+1))).bind λJ=>if decide (J<0)then some (-1)else lD C U J (i64.wrap (I+1))else some j
def uC(j:List M.aJl)(C:Int):Option Int:=
 lD j fuel C 0
def iY(C:List M.aD):Nat->Int->Int->Option Int
 |0,_,_=>none
 |U+1,I,J=>if decide (J<(List.length C:Int))then(idx C J).bind λx6=>(aN I).bind λaf=>if !(x6.Name.toList==af.toList)then some (-1)else(uC x6.aJe (i64.wrap (I+1))).bind λj=>if decide (j<0)then some (-1)else if x6.aJ7 !=j then some (-1)else iY C U (i64.wrap (j+1)) (i64.wrap (J+1))else some I
def BD(j:List M.aD)(C:Int):Option Int:=
 iY j fuel C 0
def fS(C:List M.aG):Nat->Int->Int->Option Int
 |0,_,_=>none
 |J+1,j,I=>if decide (I<(List.length C:Int))then(idx C I).bind λx6=>(aN j).bind λU=>if !(x6.aD.toList==U.toList)then some (-1)else(aN (i64.wrap (j+1))).bind λaf=>if !(x6.Field.toList==af.toList)then some (-1)else fS C J (i64.wrap ((i64.wrap (j+1))+1)) (i64.wrap (I+1))else some j
def wH(j:List M.aG)(C:Int):Option Int:=
 fS j fuel C 0
def iU(C:List M.aW):Nat->Int->Int->Option Int
 |0,_,_=>none
 |J+1,j,I=>if decide (I<(List.length C:Int))then(idx C I).bind λx6=>if x6.aJq !=j then some (-1)else if x6.Seq !=(i64.wrap (j+1))then some (-1)else if x6.Key.aJr !=(i64.wrap ((i64.wrap (j+1))+1))then some (-1)else if x6.Key.N !=(i64.wrap ((i64.wrap ((i64.wrap (j+1))+1))+1))then some (-1)else(aN (i64.wrap ((i64.wrap ((i64.wrap ((i64.wrap (j+1))+1))+1))+1))).bind λU=>if !(x6.Key.aJ2.toList==U.toList)then some (-1)else(aN (i64.wrap ((i64.wrap ((i64.wrap ((i64.wrap ((i64.wrap (j+1))+1))+1))+1))+1))).bind λaf=>if !(x6.Field.toList==af.toList)then some (-1)else if x6.N !=(i64.wrap ((i64.wrap ((i64.wrap ((i64.wrap ((i64.wrap ((i64.wrap (j+1))+1))+1))+1))+1))+1))then some (-1)else iU C J (i64.wrap ((i64.wrap ((i64.wrap ((i64.wrap ((i64.wrap ((i64.wrap ((i64.wrap (j+1))+1))+1))+1))+1))+1))+1)) (i64.wrap (I+1))else some j
def xM(j:List M.aW)(C:Int):Option Int:=
 iU j fuel C 0
def fQ(p0:List M.aJa):Nat->Int->Int->Option Int
 |0,_,_=>none
 |ak+1,j,v5=>if decide (v5<(List.length p0:Int))then(idx p0 v5).bind λx6=>(aN j).bind λal=>if !(x6.aJj.toList==al.toList)then some (-1)else(aN (i64.wrap (j+1))).bind λao=>if !(x6.Top.toList==ao.toList)then some (-1)else(aN (i64.wrap ((i64.wrap (j+1))+1))).bind λaq=>if !(x6.aJc.aJj.toList==aq.toList)then some (-1)else if x6.aJc.aJ9 !=(i64.wrap ((i64.wrap ((i64.wrap (j+1))+1))+1))then some (-1)else if x6.aJc.aKE !=(i64.wrap ((i64.wrap ((i64.wrap ((i64.wrap (j+1))+1))+1))+1))then some (-1)else if x6.aJc.aKL !=(i64.wrap ((i64.wrap ((i64.wrap ((i64.wrap ((i64.wrap (j+1))+1))+1))+1))+1))then some (-1)else(BK x6.aJk.aJk (i64.wrap ((i64.wrap ((i64.wrap ((i64.wrap ((i64.wrap ((i64.wrap (j+1))+1))+1))+1))+1))+1))).bind λJ=>if decide (J<0)then some (-1)else(aN J).bind λar=>if !(x6.bL.aJz.Name.toList==ar.toList)then some (-1)else if x6.bL.aJz.aJd !=(i64.wrap (J+1))then some (-1)else(BD x6.bL.aJz.aJm (i64.wrap ((i64.wrap (J+1))+1))).bind λai=>if decide (ai<0)then some (-1)else(wH x6.bL.aJz.aJw ai).bind λaj=>if decide (aj<0)then some (-1)else(tN x6.bL.Log aj).bind λU=>if decide (U<0)then some (-1)else if x6.bL.aKJ !=U then some (-1)else(aN (i64.wrap (U+1))).bind λav=>if !(x6.aE.aJz.Name.toList==av.toList)then some (-1)else(uC x6.aE.aJz.aJe (i64.wrap ((i64.wrap (U+1))+1))).bind λC=>if decide (C<0)then some (-1)else if x6.aE.aJz.aJ7 !=C then some (-1)else if x6.aE.aKV !=(i64.wrap (C+1))then some (-1)else if x6.aE.aJx.aM.aJq !=(i64.wrap ((i64.wrap (C+1))+1))then some (-1)else if x6.aE.aJx.aM.aKM !=(i64.wrap ((i64.wrap ((i64.wrap (C+1))+1))+1))then some (-1)else(xM x6.aE.aJx.aM.aJ1 (i64.wrap ((i64.wrap ((i64.wrap ((i64.wrap (C+1))+1))+1))+1))).bind λI=>if decide (I<0)then some (-1)else if x6.aE.aJx.aKP !=I then some (-1)else if x6.aE.aJx.aKC !=(i64.wrap (I+1))then some (-1)else if x6.aJ4 !=(i64.wrap ((i64.wrap (I+1))+1))then some (-1)else if !(x6.aJ3==((Int.tmod (i64.wrap ((i64.wrap ((i64.wrap (I+1))+1))+1)) 3)==0))then some (-1)else fQ p0 ak (i64.wrap ((i64.wrap ((i64.wrap ((i64.wrap (I+1))+1))+1))+1)) (i64.wrap (v5+1))else some j
def AX(j:List M.aJa)(C:Int):Option Int:=
 fQ j fuel C 0
def AW(j:M.aC)(C:Int):Option Int:=
 (AX j.aJh C).bind λx1=>if decide (x1<0)then some (-1)else some x1
def gY(C:List M.aJ):Nat->Int->Int->Option Int
 |0,_,_=>none
 |J+1,j,I=>if decide (I<(List.length C:Int))then(idx C I).bind λx6=>(aN j).bind λU=>if !(x6.aKG.toList==U.toList)then some (-1)else if x6.aJd !=(i64.wrap (j+1))then some (-1)else gY C J (i64.wrap ((i64.wrap (j+1))+1)) (i64.wrap (I+1))else some j
def A3(j:List M.aJ)(C:Int):Option Int:=
 gY j fuel C 0
def iT(C:List M.Instr):Nat->Int->Int->Option Int
 |0,_,_=>none
 |J+1,j,I=>if decide (I<(List.length C:Int))then(idx C I).bind λx6=>if x6.aJr !=j then some (-1)else if x6.R !=(i64.wrap (j+1))then some (-1)else if x6.N !=(i64.wrap ((i64.wrap (j+1))+1))then some (-1)else(aN (i64.wrap ((i64.wrap ((i64.wrap (j+1))+1))+1))).bind λU=>if !(x6.aJ2.toList==U.toList)then some (-1)else iT C J (i64.wrap ((i64.wrap ((i64.wrap ((i64.wrap (j+1))+1))+1))+1)) (i64.wrap (I+1))else some j
def B3(j:List M.Instr)(C:Int):Option Int:=
 iT j fuel C 0
def gN(j:List Int):Nat->Int->Int->Option Int
 |0,_,_=>none
 |J+1,C,I=>if decide (I<(List.length j:Int))then(idx j I).bind λx6=>if x6 !=C then some (-1)else gN j J (i64.wrap (C+1)) (i64.wrap (I+1))else some C
def Bk(j:List Int)(C:Int):Option Int:=
 gN j fuel C 0
def gZ(J:List M.bD):Nat->Int->Int->Option Int
 |0,_,_=>none
 |ah+1,j,U=>if decide (U<(List.length J:Int))then(idx J U).bind λx6=>if x6.Id !=j then some (-1)else(aN (i64.wrap (j+1))).bind λai=>if !(x6.aJj.toList==ai.toList)then some (-1)else(aN (i64.wrap ((i64.wrap (j+1))+1))).bind λaj=>if !(x6.Top.toList==aj.toList)then some (-1)else if x6.aJd !=(i64.wrap ((i64.wrap ((i64.wrap (j+1))+1))+1))then some (-1)else(A3 x6.aJ (i64.wrap ((i64.wrap ((i64.wrap ((i64.wrap (j+1))+1))+1))+1))).bind λaf=>if decide (af<0)then some (-1)else(B3 x6.aJf.aJ5 af).bind λI=>if decide (I<0)then some (-1)else if x6.aJf.Pc !=I then some (-1)else(Bk x6.aJf.aKH (i64.wrap (I+1))).bind λC=>if decide (C<0)then some (-1)else if x6.aJf.aKO !=C then some (-1)else if !(x6.aJf.aKT==((Int.tmod (i64.wrap (C+1)) 3)==0))then some (-1)else if !(x6.aJf.aKQ==((Int.tmod (i64.wrap ((i64.wrap (C+1))+1)) 3)==0))then some (-1)else gZ J ah (i64.wrap ((i64.wrap ((i64.wrap (C+1))+1))+1)) (i64.wrap (U+1))else some j
def CP(j:List M.bD)(C:Int):Option Int:=
 gZ j fuel C 0
def lB(C:List M.fE):Nat->Int->Int->Option Int
 |0,_,_=>none
 |J+1,j,I=>if decide (I<(List.length C:Int))then(idx C I).bind λx6=>(aN j).bind λU=>if !(x6.Name.toList==U.toList)then some (-1)else if x6.bD !=(i64.wrap (j+1))then some (-1)else if !(x6.aKF==((Int.tmod (i64.wrap ((i64.wrap (j+1))+1)) 3)==0))then some (-1)else if !(x6.aKb==((Int.tmod (i64.wrap ((i64.wrap ((i64.wrap (j+1))+1))+1)) 3)==0))then some (-1)else lB C J (i64.wrap ((i64.wrap ((i64.wrap ((i64.wrap (j+1))+1))+1))+1)) (i64.wrap (I+1))else some j
def CY(j:List M.fE)(C:Int):Option Int:=
 lB j fuel C 0
def wJ(j:M.aQ)(C:Int):Option Int:=
 (CY j.aJv C).bind λx1=>if decide (x1<0)then some (-1)else some x1
def lF(C:List M.kK):Nat->Int->Int->Option Int
 |0,_,_=>none
 |J+1,j,I=>if decide (I<(List.length C:Int))then(idx C I).bind λx6=>if x6.To !=j then some (-1)else if x6.aKe !=(i64.wrap (j+1))then some (-1)else if x6.N !=(i64.wrap ((i64.wrap (j+1))+1))then some (-1)else lF C J (i64.wrap ((i64.wrap ((i64.wrap (j+1))+1))+1)) (i64.wrap (I+1))else some j
def C3(j:List M.kK)(C:Int):Option Int:=
 lF j fuel C 0
def A4(j:M.aJp)(C:Int):Option Int:=
 (C3 j.aKI C).bind λx1=>if decide (x1<0)then some (-1)else some x1
def eE(j:List ByteArray):Nat->Int->Int->Option Int
 |0,_,_=>none
 |J+1,C,I=>if decide (I<(List.length j:Int))then(idx j I).bind λx6=>(aN C).bind λU=>if !(x6.toList==U.toList)then some (-1)else eE j J (i64.wrap (C+1)) (i64.wrap (I+1))else some C
def uV(j:List ByteArray)(C:Int):Option Int:=
 eE j fuel C 0
def kQ(I:List M.aJj):Nat->Int->Int->Option Int
 |0,_,_=>none
 |U+1,j,J=>if decide (J<(List.length I:Int))then(idx I J).bind λx6=>(aN j).bind λaf=>if !(x6.Name.toList==af.toList)then some (-1)else if x6.aJd !=(i64.wrap (j+1))then some (-1)else(uV x6.aKA (i64.wrap ((i64.wrap (j+1))+1))).bind λC=>if decide (C<0)then some (-1)else if !(x6.aKF==((Int.tmod C 3)==0))then some (-1)else kQ I U (i64.wrap (C+1)) (i64.wrap (J+1))else some j
def Da(j:List M.aJj)(C:Int):Option Int:=
 kQ j fuel C 0
def gL(C:List M.aK):Nat->Int->Int->Option Int
 |0,_,_=>none
 |J+1,j,I=>if decide (I<(List.length C:Int))then(idx C I).bind λx6=>if x6.aJq !=j then some (-1)else if x6.Seq !=(i64.wrap (j+1))then some (-1)else gL C J (i64.wrap ((i64.wrap (j+1))+1)) (i64.wrap (I+1))else some j
def yY(j:List M.aK)(C:Int):Option Int:=
 gL j fuel C 0
def fP(C:List M.aJn):Nat->Int->Int->Option Int
 |0,_,_=>none
 |ah+1,I,J=>if decide (J<(List.length C:Int))then(idx C J).bind λx6=>(aN I).bind λai=>if !(x6.aD.Name.toList==ai.toList)then some (-1)else(uC x6.aD.aJe (i64.wrap (I+1))).bind λj=>if decide (j<0)then some (-1)else if x6.aD.aJ7 !=j then some (-1)else(yY x6.aK (i64.wrap (j+1))).bind λU=>if decide (U<0)then some (-1)else(xM x6.aJ8 U).bind λaf=>if decide (af<0)then some (-1)else fP C ah af (i64.wrap (J+1))else some I
def A8(j:List M.aJn)(C:Int):Option Int:=
 fP j fuel C 0
def uO(j:M.World)(U:Int):Option Int:=
 (AW j.aC U).bind λx1=>if decide (x1<0)then some (-1)else(CP j.aJu x1).bind λx4=>if decide (x4<0)then some (-1)else(wJ j.aJv x4).bind λx7=>if decide (x7<0)then some (-1)else(A4 j.aJp x7).bind λC=>if decide (C<0)then some (-1)else(Da j.aJ6 C).bind λI=>if decide (I<0)then some (-1)else(A8 j.aJ0 I).bind λJ=>if decide (J<0)then some (-1)else some J
def sZ(I:M.World)(J:Int):Option Bool:=
 (Cy I 1048576).bind λx1=>if decide (x1<0)then some true else(rR I).bind λx4=>(wW x4 J).bind λx6=>(rR I).bind λx8=>(sR x8 J).bind λC=>(rO C.1 x6.1).bind λaj=>if !aj then some false else if C.2 !=x6.2 then some false else(rR I).bind λak=>(rO x8 ak).bind λal=>if !al then some false else(tZ x8 1).bind λao=>if decide (ao.2.2.2.2.2.2<0)then some false else(rO C.1 x6.1).bind λaq=>if !aq then some false else(tZ C.1 1).bind λj=>(uO (⟨C.1.Now,C.1.aKB,C.1.aJq,(⟨j.1⟩:M.aC),j.2.1,C.1.aJy,(⟨j.2.2.1⟩:M.aQ),(⟨j.2.2.2.1⟩:M.aJp),j.2.2.2.2.1,j.2.2.2.2.2.1⟩:M.World) 1).bind λU=>if decide (U<0)then some false else if U !=j.2.2.2.2.2.2 then some false else(rR I).bind λar=>(sR ar J).bind λah=>(rO ah.1 x6.1).bind λav=>if !av then some false else if ah.2 !=x6.2 then some false else(uO (⟨C.1.Now,C.1.aKB,C.1.aJq,(⟨j.1⟩:M.aC),j.2.1,C.1.aJy,(⟨j.2.2.1⟩:M.aQ),(⟨j.2.2.2.1⟩:M.aJp),j.2.2.2.2.1,j.2.2.2.2.2.1⟩:M.World) 1).bind λai=>if decide (ai<0)then some false else if ai !=j.2.2.2.2.2.2 then some false else some true
