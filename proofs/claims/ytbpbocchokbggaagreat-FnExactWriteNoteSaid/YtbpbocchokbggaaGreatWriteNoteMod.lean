/-
  Helper text. No conditions.
-/
import Derived.Test.YtbpbocchokbggaaGreatWriteNoteShS
set_option linter.all false
namespace Go.Proofs.YtbpbocchokbggaaGreat.gen
open Go Go.Sh
open Go.IntKind (i64)
structure M.aEL where
 aET:ByteArray
 aEn:Int
 aEw:Int
 aE0:Int
def M.aEL.en(x:M.aEL):List D:=[.str x.aET,.int .i64 x.aEn,.int .i64 x.aEw,.int .i64 x.aE0]
theorem M.aEL.en.fl(l:List M.aEL):(List.map M.aEL.en l).all (λy=>y.all D.flat)=true:=Gu (λ_=>rfl) l
structure M.aEQ where
 aE8:Int
 aE5:Int
 aER:Int
 aFA:List Int
 aFE:Bool
def M.aEQ.en(x:M.aEQ):List D:=[.int .i64 x.aE8,.int .i64 x.aE5,.int .i64 x.aER,.sl (List.map enB x.aFA),.bool x.aFE]
structure M.aEW where
 aET:ByteArray
 aEy:ByteArray
 aEQ:M.aEQ
def M.aEW.en(x:M.aEW):List D:=[.str x.aET,.str x.aEy,.int .i64 x.aEQ.aE8,.int .i64 x.aEQ.aE5,.int .i64 x.aEQ.aER,.sl (List.map enB x.aEQ.aFA),.bool x.aEQ.aFE]
structure M.aEZ where
 aER:Int
 aEa:List M.aEW
def M.aEZ.en(x:M.aEZ):List D:=[.int .i64 x.aER,.sl (List.map M.aEW.en x.aEa)]
structure M.aP where
 aEV:List M.aEZ
def M.aP.en(x:M.aP):List D:=[.sl (List.map M.aEZ.en x.aEV)]
structure M.Key where
 aEc:Int
 N:Int
 aEj:ByteArray
def M.Key.en(x:M.Key):List D:=[.int .i64 x.aEc,.int .i64 x.N,.str x.aEj]
theorem M.Key.en.fl(l:List M.Key):(List.map M.Key.en l).all (λy=>y.all D.flat)=true:=Gu (λ_=>rfl) l
structure M.Field where
 Name:ByteArray
 N:Int
def M.Field.en(x:M.Field):List D:=[.str x.Name,.int .i64 x.N]
theorem M.Field.en.fl(l:List M.Field):(List.map M.Field.en l).all (λy=>y.all D.flat)=true:=Gu (λ_=>rfl) l
structure M.aA where
 aEN:List M.Field
def M.aA.en(x:M.aA):List D:=[.sl (List.map M.Field.en x.aEN)]
structure M.aES where
 Key:M.Key
 aA:M.aA
def M.aES.en(x:M.aES):List D:=[.int .i64 x.Key.aEc,.int .i64 x.Key.N,.str x.Key.aEj,.sl (List.map M.Field.en x.aA.aEN)]
structure M.aC where
 Name:ByteArray
 aEM:List M.aES
 aEo:Int
def M.aC.en(x:M.aC):List D:=[.str x.Name,.sl (List.map M.aES.en x.aEM),.int .i64 x.aEo]
structure M.aG where
 aC:ByteArray
 Field:ByteArray
def M.aG.en(x:M.aG):List D:=[.str x.aC,.str x.Field]
theorem M.aG.en.fl(l:List M.aG):(List.map M.aG.en l).all (λy=>y.all D.flat)=true:=Gu (λ_=>rfl) l
structure M.aEK where
 Name:ByteArray
 aER:Int
 aEU:List M.aC
 aEb:List M.aG
def M.aEK.en(x:M.aEK):List D:=[.str x.Name,.int .i64 x.aER,.sl (List.map M.aC.en x.aEU),.sl (List.map M.aG.en x.aEb)]
structure M.bK where
 aEe:M.aEK
 Log:List Int
 aEx:Int
def M.bK.en(x:M.bK):List D:=[.str x.aEe.Name,.int .i64 x.aEe.aER,.sl (List.map M.aC.en x.aEe.aEU),.sl (List.map M.aG.en x.aEe.aEb),.sl (List.map enB x.Log),.int .i64 x.aEx]
structure M.bB where
 aEd:Int
 Seq:Int
 Key:M.Key
 Field:ByteArray
 N:Int
def M.bB.en(x:M.bB):List D:=[.int .i64 x.aEd,.int .i64 x.Seq,.int .i64 x.Key.aEc,.int .i64 x.Key.N,.str x.Key.aEj,.str x.Field,.int .i64 x.N]
theorem M.bB.en.fl(l:List M.bB):(List.map M.bB.en l).all (λy=>y.all D.flat)=true:=Gu (λ_=>rfl) l
structure M.aU where
 aEd:Int
 aFB:Int
 aEm:List M.bB
def M.aU.en(x:M.aU):List D:=[.int .i64 x.aEd,.int .i64 x.aFB,.sl (List.map M.bB.en x.aEm)]
structure M.aEf where
 aU:M.aU
 aE9:Int
 aEt:Int
def M.aEf.en(x:M.aEf):List D:=[.int .i64 x.aU.aEd,.int .i64 x.aU.aFB,.sl (List.map M.bB.en x.aU.aEm),.int .i64 x.aE9,.int .i64 x.aEt]
structure M.aF where
 aEe:M.aC
 aFF:Int
 aEf:M.aEf
def M.aF.en(x:M.aF):List D:=[.str x.aEe.Name,.sl (List.map M.aES.en x.aEe.aEM),.int .i64 x.aEe.aEo,.int .i64 x.aFF,.int .i64 x.aEf.aU.aEd,.int .i64 x.aEf.aU.aFB,.sl (List.map M.bB.en x.aEf.aU.aEm),.int .i64 x.aEf.aE9,.int .i64 x.aEf.aEt]
structure M.aEJ where
 aET:ByteArray
 Top:ByteArray
 aEL:M.aEL
 aEV:M.aP
 bK:M.bK
 aF:M.aF
 aEk:Int
 aEg:Bool
def M.aEJ.en(x:M.aEJ):List D:=[.str x.aET,.str x.Top,.str x.aEL.aET,.int .i64 x.aEL.aEn,.int .i64 x.aEL.aEw,.int .i64 x.aEL.aE0,.sl (List.map M.aEZ.en x.aEV.aEV),.str x.bK.aEe.Name,.int .i64 x.bK.aEe.aER,.sl (List.map M.aC.en x.bK.aEe.aEU),.sl (List.map M.aG.en x.bK.aEe.aEb),.sl (List.map enB x.bK.Log),.int .i64 x.bK.aEx,.str x.aF.aEe.Name,.sl (List.map M.aES.en x.aF.aEe.aEM),.int .i64 x.aF.aEe.aEo,.int .i64 x.aF.aFF,.int .i64 x.aF.aEf.aU.aEd,.int .i64 x.aF.aEf.aU.aFB,.sl (List.map M.bB.en x.aF.aEf.aU.aEm),.int .i64 x.aF.aEf.aE9,.int .i64 x.aF.aEf.aEt,.int .i64 x.aEk,.bool x.aEg]
structure M.aD where
 aEP:List M.aEJ
def M.aD.en(x:M.aD):List D:=[.sl (List.map M.aEJ.en x.aEP)]
structure M.aK where
 aEy:ByteArray
 aER:Int
def M.aK.en(x:M.aK):List D:=[.str x.aEy,.int .i64 x.aER]
theorem M.aK.en.fl(l:List M.aK):(List.map M.aK.en l).all (λy=>y.all D.flat)=true:=Gu (λ_=>rfl) l
structure M.Instr where
 aEc:Int
 R:Int
 N:Int
 aEj:ByteArray
def M.Instr.en(x:M.Instr):List D:=[.int .i64 x.aEc,.int .i64 x.R,.int .i64 x.N,.str x.aEj]
theorem M.Instr.en.fl(l:List M.Instr):(List.map M.Instr.en l).all (λy=>y.all D.flat)=true:=Gu (λ_=>rfl) l
structure M.aEO where
 aEp:List M.Instr
 Pc:Int
 aE3:List Int
 aE2:Int
 aFG:Bool
 aFH:Bool
def M.aEO.en(x:M.aEO):List D:=[.sl (List.map M.Instr.en x.aEp),.int .i64 x.Pc,.sl (List.map enI x.aE3),.int .i64 x.aE2,.bool x.aFG,.bool x.aFH]
structure M.bS where
 Id:Int
 aET:ByteArray
 Top:ByteArray
 aER:Int
 aK:List M.aK
 aEO:M.aEO
def M.bS.en(x:M.bS):List D:=[.int .i64 x.Id,.str x.aET,.str x.Top,.int .i64 x.aER,.sl (List.map M.aK.en x.aK),.sl (List.map M.Instr.en x.aEO.aEp),.int .i64 x.aEO.Pc,.sl (List.map enI x.aEO.aE3),.int .i64 x.aEO.aE2,.bool x.aEO.aFG,.bool x.aEO.aFH]
structure M.eV where
 Name:ByteArray
 bS:Int
 aE4:Bool
 aFM:Bool
def M.eV.en(x:M.eV):List D:=[.str x.Name,.int .i64 x.bS,.bool x.aE4,.bool x.aFM]
theorem M.eV.en.fl(l:List M.eV):(List.map M.eV.en l).all (λy=>y.all D.flat)=true:=Gu (λ_=>rfl) l
structure M.aR where
 aEh:List M.eV
def M.aR.en(x:M.aR):List D:=[.sl (List.map M.eV.en x.aEh)]
structure M.gT where
 To:Int
 aFL:Int
 N:Int
def M.gT.en(x:M.gT):List D:=[.int .i64 x.To,.int .i64 x.aFL,.int .i64 x.N]
theorem M.gT.en.fl(l:List M.gT):(List.map M.gT.en l).all (λy=>y.all D.flat)=true:=Gu (λ_=>rfl) l
structure M.aEY where
 aEv:List M.gT
def M.aEY.en(x:M.aEY):List D:=[.sl (List.map M.gT.en x.aEv)]
structure M.aET where
 Name:ByteArray
 aER:Int
 aE6:List ByteArray
 aE4:Bool
def M.aET.en(x:M.aET):List D:=[.str x.Name,.int .i64 x.aER,.sl (List.map enS x.aE6),.bool x.aE4]
structure M.aQ where
 aEd:Int
 Seq:Int
def M.aQ.en(x:M.aQ):List D:=[.int .i64 x.aEd,.int .i64 x.Seq]
theorem M.aQ.en.fl(l:List M.aQ):(List.map M.aQ.en l).all (λy=>y.all D.flat)=true:=Gu (λ_=>rfl) l
structure M.aEX where
 aC:M.aC
 aQ:List M.aQ
 aEu:List M.bB
def M.aEX.en(x:M.aEX):List D:=[.str x.aC.Name,.sl (List.map M.aES.en x.aC.aEM),.int .i64 x.aC.aEo,.sl (List.map M.aQ.en x.aQ),.sl (List.map M.bB.en x.aEu)]
structure M.World where
 Now:Int
 aEs:Bool
 aEd:Int
 aD:M.aD
 aEq:List M.bS
 aEl:Int
 aEh:M.aR
 aEY:M.aEY
 aEr:List M.aET
 aEi:List M.aEX
def M.World.en(x:M.World):List D:=[.int .i64 x.Now,.bool x.aEs,.int .i64 x.aEd,.sl (List.map M.aEJ.en x.aD.aEP),.sl (List.map M.bS.en x.aEq),.int .i64 x.aEl,.sl (List.map M.eV.en x.aEh.aEh),.sl (List.map M.gT.en x.aEY.aEv),.sl (List.map M.aET.en x.aEr),.sl (List.map M.aEX.en x.aEi)]
structure M.Op where
 aEc:Int
 aC:ByteArray
 Key:M.Key
 aA:M.aA
 Field:ByteArray
def M.Op.en(x:M.Op):List D:=[.int .i64 x.aEc,.str x.aC,.int .i64 x.Key.aEc,.int .i64 x.Key.N,.str x.Key.aEj,.sl (List.map M.Field.en x.aA.aEN),.str x.Field]
structure M.cP where
 aFD:Bool
 aE1:Bool
 Low:M.Key
 aE7:M.Key
def M.cP.en(x:M.cP):List D:=[.bool x.aFD,.bool x.aE1,.int .i64 x.Low.aEc,.int .i64 x.Low.N,.str x.Low.aEj,.int .i64 x.aE7.aEc,.int .i64 x.aE7.N,.str x.aE7.aEj]
theorem M.cP.en.fl(l:List M.cP):(List.map M.cP.en l).all (λy=>y.all D.flat)=true:=Gu (λ_=>rfl) l
def mA(j:M.aEL)(C:Int):Option Int:=
 if(decide ((i64.wrap (C-(j.aET.size:Int)))<0))=true then some (-1)else some (i64.wrap (C-(j.aET.size:Int)))
def wN(j:List Int)(C:Int):Option Int:=
 if(decide ((i64.wrap (C-(List.length j:Int)))<0))=true then some (-1)else some (i64.wrap (C-(List.length j:Int)))
def tQ(j:M.aEQ)(C:Int):Option Int:=
 (wN j.aFA C).bind λx1=>if(decide (x1<0))=true then some (-1)else some x1
def sN(j:M.aEW)(C:Int):Option Int:=
 if(decide ((i64.wrap (C-(j.aET.size:Int)))<0))=true then some (-1)else if(decide ((i64.wrap ((i64.wrap (C-(j.aET.size:Int)))-(j.aEy.size:Int)))<0))=true then some (-1)else(tQ j.aEQ (i64.wrap ((i64.wrap (C-(j.aET.size:Int)))-(j.aEy.size:Int)))).bind λx3=>if(decide (x3<0))=true then some (-1)else some x3
def AL:=szS sN
def wZ(j:M.aEZ)(C:Int):Option Int:=
 (AL j.aEa C).bind λx1=>if(decide (x1<0))=true then some (-1)else some x1
def B5:=szS wZ
def uH(j:M.aP)(C:Int):Option Int:=
 (B5 j.aEV C).bind λx1=>if(decide (x1<0))=true then some (-1)else some x1
def Bl(j:M.Key)(C:Int):Option Int:=
 if(decide ((i64.wrap (C-(j.aEj.size:Int)))<0))=true then some (-1)else some (i64.wrap (C-(j.aEj.size:Int)))
def wW(j:M.Field)(C:Int):Option Int:=
 if(decide ((i64.wrap (C-(j.Name.size:Int)))<0))=true then some (-1)else some (i64.wrap (C-(j.Name.size:Int)))
def Bv:=szS wW
def yR(j:M.aA)(C:Int):Option Int:=
 (Bv j.aEN C).bind λx1=>if(decide (x1<0))=true then some (-1)else some x1
def zQ(j:M.aES)(C:Int):Option Int:=
 (Bl j.Key C).bind λx1=>if(decide (x1<0))=true then some (-1)else(yR j.aA x1).bind λx4=>if(decide (x4<0))=true then some (-1)else some x4
def CD:=szS zQ
def nG(j:M.aC)(C:Int):Option Int:=
 if(decide ((i64.wrap (C-(j.Name.size:Int)))<0))=true then some (-1)else(CD j.aEM (i64.wrap (C-(j.Name.size:Int)))).bind λx2=>if(decide (x2<0))=true then some (-1)else some x2
def BP:=szS nG
def nQ(j:M.aG)(C:Int):Option Int:=
 if(decide ((i64.wrap (C-(j.aC.size:Int)))<0))=true then some (-1)else if(decide ((i64.wrap ((i64.wrap (C-(j.aC.size:Int)))-(j.Field.size:Int)))<0))=true then some (-1)else some (i64.wrap ((i64.wrap (C-(j.aC.size:Int)))-(j.Field.size:Int)))
def xK:=szS nQ
def uC(j:M.aEK)(C:Int):Option Int:=
 if(decide ((i64.wrap (C-(j.Name.size:Int)))<0))=true then some (-1)else(BP j.aEU (i64.wrap (C-(j.Name.size:Int)))).bind λx2=>if(decide (x2<0))=true then some (-1)else(xK j.aEb x2).bind λx5=>if(decide (x5<0))=true then some (-1)else some x5
def Br(j:M.bK)(C:Int):Option Int:=
 (uC j.aEe C).bind λx1=>if(decide (x1<0))=true then some (-1)else(wN j.Log x1).bind λx4=>if(decide (x4<0))=true then some (-1)else some x4
def wY(j:M.bB)(C:Int):Option Int:=
 (Bl j.Key C).bind λx1=>if(decide (x1<0))=true then some (-1)else if(decide ((i64.wrap (x1-(j.Field.size:Int)))<0))=true then some (-1)else some (i64.wrap (x1-(j.Field.size:Int)))
def yL:=szS wY
def yE(j:M.aU)(C:Int):Option Int:=
 (yL j.aEm C).bind λx1=>if(decide (x1<0))=true then some (-1)else some x1
def B9(j:M.aEf)(C:Int):Option Int:=
 (yE j.aU C).bind λx1=>if(decide (x1<0))=true then some (-1)else some x1
def wG(j:M.aF)(C:Int):Option Int:=
 (nG j.aEe C).bind λx1=>if(decide (x1<0))=true then some (-1)else(B9 j.aEf x1).bind λx4=>if(decide (x4<0))=true then some (-1)else some x4
def uE(j:M.aEJ)(C:Int):Option Int:=
 if(decide ((i64.wrap (C-(j.aET.size:Int)))<0))=true then some (-1)else if(decide ((i64.wrap ((i64.wrap (C-(j.aET.size:Int)))-(j.Top.size:Int)))<0))=true then some (-1)else(mA j.aEL (i64.wrap ((i64.wrap (C-(j.aET.size:Int)))-(j.Top.size:Int)))).bind λx3=>if(decide (x3<0))=true then some (-1)else(uH j.aEV x3).bind λx6=>if(decide (x6<0))=true then some (-1)else(Br j.bK x6).bind λx9=>if(decide (x9<0))=true then some (-1)else(wG j.aF x9).bind λI=>if(decide (I<0))=true then some (-1)else some I
def AM:=szS uE
def vH(j:M.aD)(C:Int):Option Int:=
 (AM j.aEP C).bind λx1=>if(decide (x1<0))=true then some (-1)else some x1
def sO(j:M.aK)(C:Int):Option Int:=
 if(decide ((i64.wrap (C-(j.aEy.size:Int)))<0))=true then some (-1)else some (i64.wrap (C-(j.aEy.size:Int)))
def AN:=szS sO
def wM(j:M.Instr)(C:Int):Option Int:=
 if(decide ((i64.wrap (C-(j.aEj.size:Int)))<0))=true then some (-1)else some (i64.wrap (C-(j.aEj.size:Int)))
def BT:=szS wM
def BZ(j:List Int)(C:Int):Option Int:=
 if(decide ((i64.wrap (C-(List.length j:Int)))<0))=true then some (-1)else some (i64.wrap (C-(List.length j:Int)))
def wJ(j:M.aEO)(C:Int):Option Int:=
 (BT j.aEp C).bind λx1=>if(decide (x1<0))=true then some (-1)else(BZ j.aE3 x1).bind λx4=>if(decide (x4<0))=true then some (-1)else some x4
def uV(j:M.bS)(C:Int):Option Int:=
 if(decide ((i64.wrap (C-(j.aET.size:Int)))<0))=true then some (-1)else if(decide ((i64.wrap ((i64.wrap (C-(j.aET.size:Int)))-(j.Top.size:Int)))<0))=true then some (-1)else(AN j.aK (i64.wrap ((i64.wrap (C-(j.aET.size:Int)))-(j.Top.size:Int)))).bind λx3=>if(decide (x3<0))=true then some (-1)else(wJ j.aEO x3).bind λx6=>if(decide (x6<0))=true then some (-1)else some x6
def Ct:=szS uV
def zZ(j:M.eV)(C:Int):Option Int:=
 if(decide ((i64.wrap (C-(j.Name.size:Int)))<0))=true then some (-1)else some (i64.wrap (C-(j.Name.size:Int)))
def Cs:=szS zZ
def rA(j:M.aR)(C:Int):Option Int:=
 (Cs j.aEh C).bind λx1=>if(decide (x1<0))=true then some (-1)else some x1
def As(j:List M.gT)(C:Int):Option Int:=
 if(decide ((i64.wrap (C-(List.length j:Int)))<0))=true then some (-1)else some (i64.wrap (C-(List.length j:Int)))
def wF(j:M.aEY)(C:Int):Option Int:=
 (As j.aEv C).bind λx1=>if(decide (x1<0))=true then some (-1)else some x1
def uY(j:List ByteArray):Nat->Int->Int->Option Int
 |0,_,_=>none
 |J+1,C,I=>if(decide (I<(List.length j:Int)))=true then(idx j I).bind λx7=>if(decide ((i64.wrap (C-(x7.size:Int)))<0))=true then some (-1)else uY j J (i64.wrap (C-(x7.size:Int))) (i64.wrap (I+1))else some C
def vA(j:List ByteArray)(C:Int):Option Int:=
 if(decide ((i64.wrap (C-(List.length j:Int)))<0))=true then some (-1)else uY j fuel (i64.wrap (C-(List.length j:Int))) 0
def yZ(j:M.aET)(C:Int):Option Int:=
 if(decide ((i64.wrap (C-(j.Name.size:Int)))<0))=true then some (-1)else(vA j.aE6 (i64.wrap (C-(j.Name.size:Int)))).bind λx2=>if(decide (x2<0))=true then some (-1)else some x2
def CF:=szS yZ
def tO(j:List M.aQ)(C:Int):Option Int:=
 if(decide ((i64.wrap (C-(List.length j:Int)))<0))=true then some (-1)else some (i64.wrap (C-(List.length j:Int)))
def sL(j:M.aEX)(C:Int):Option Int:=
 (nG j.aC C).bind λx1=>if(decide (x1<0))=true then some (-1)else(tO j.aQ x1).bind λx4=>if(decide (x4<0))=true then some (-1)else(yL j.aEu x4).bind λx7=>if(decide (x7<0))=true then some (-1)else some x7
def A7:=szS sL
def Aq(j:M.World)(U:Int):Option Int:=
 (vH j.aD U).bind λx1=>if(decide (x1<0))=true then some (-1)else(Ct j.aEq x1).bind λx4=>if(decide (x4<0))=true then some (-1)else(rA j.aEh x4).bind λx7=>if(decide (x7<0))=true then some (-1)else(wF j.aEY x7).bind λC=>if(decide (C<0))=true then some (-1)else(CF j.aEr C).bind λI=>if(decide (I<0))=true then some (-1)else(A7 j.aEi I).bind λJ=>if(decide (J<0))=true then some (-1)else some J
def mE(j:M.aEL):Option M.aEL:=
 some j
def nW(C:List Int):Nat->Int->List Int->Option (List Int)
 |0,_,_=>none
 |J+1,j,I=>if(decide (j<(List.length C:Int)))=true then(idx C j).bind λU=>(idx I j).bind λaf=>nW C J (i64.wrap (j+1)) (List.set I j.toNat U)else some I
def wU(j:List Int):Option (List Int):=
 (mkL 1 (List.length j:Int) 0).bind λx1=>nW j fuel 0 (List.replicate (List.length j:Int).toNat 0)
def tA(j:M.aEQ):Option M.aEQ:=
 (wU j.aFA).bind λx1=>some (⟨j.aE8,j.aE5,j.aER,x1,j.aFE⟩:M.aEQ)
def tD(j:M.aEW):Option M.aEW:=
 (tA j.aEQ).bind λx1=>some (⟨j.aET,j.aEy,x1⟩:M.aEW)
def AY:=toS 88 (⟨(⟨#[]⟩:ByteArray),(⟨#[]⟩:ByteArray),(⟨0,0,0,([]:List Int),false⟩:M.aEQ)⟩:M.aEW) tD
def wS(j:M.aEZ):Option M.aEZ:=
 (AY j.aEa).bind λx1=>some (⟨j.aER,x1⟩:M.aEZ)
def BS:=toS 32 (⟨0,([]:List M.aEW)⟩:M.aEZ) wS
def tM(j:M.aP):Option M.aP:=
 (BS j.aEV).bind λx1=>some (⟨x1⟩:M.aP)
def Bj(j:M.Key):Option M.Key:=
 some j
def xB(j:M.Field):Option M.Field:=
 some j
def Cb:=toS 24 (⟨(⟨#[]⟩:ByteArray),0⟩:M.Field) xB
def yF(j:M.aA):Option M.aA:=
 (Cb j.aEN).bind λx1=>some (⟨x1⟩:M.aA)
def yW(j:M.aES):Option M.aES:=
 (Bj j.Key).bind λx1=>(yF j.aA).bind λx3=>some (⟨x1,x3⟩:M.aES)
def Cq:=toS 56 (⟨(⟨0,0,(⟨#[]⟩:ByteArray)⟩:M.Key),(⟨([]:List M.Field)⟩:M.aA)⟩:M.aES) yW
def nO(j:M.aC):Option M.aC:=
 (Cq j.aEM).bind λx1=>some (⟨j.Name,x1,j.aEo⟩:M.aC)
def BB:=toS 48 (⟨(⟨#[]⟩:ByteArray),([]:List M.aES),0⟩:M.aC) nO
def oA(j:M.aG):Option M.aG:=
 some j
def xR:=toS 32 (⟨(⟨#[]⟩:ByteArray),(⟨#[]⟩:ByteArray)⟩:M.aG) oA
def sH(j:M.aEK):Option M.aEK:=
 (BB j.aEU).bind λx1=>(xR j.aEb).bind λx3=>some (⟨j.Name,j.aER,x1,x3⟩:M.aEK)
def B7(j:M.bK):Option M.bK:=
 (sH j.aEe).bind λx1=>(wU j.Log).bind λx3=>some (⟨x1,x3,j.aEx⟩:M.bK)
def wV(j:M.bB):Option M.bB:=
 (Bj j.Key).bind λx1=>some (⟨j.aEd,j.Seq,x1,j.Field,j.N⟩:M.bB)
def yM:=toS 72 (⟨0,0,(⟨0,0,(⟨#[]⟩:ByteArray)⟩:M.Key),(⟨#[]⟩:ByteArray),0⟩:M.bB) wV
def xZ(j:M.aU):Option M.aU:=
 (yM j.aEm).bind λx1=>some (⟨j.aEd,j.aFB,x1⟩:M.aU)
def BX(j:M.aEf):Option M.aEf:=
 (xZ j.aU).bind λx1=>some (⟨x1,j.aE9,j.aEt⟩:M.aEf)
def wB(j:M.aF):Option M.aF:=
 (nO j.aEe).bind λx1=>(BX j.aEf).bind λx3=>some (⟨x1,j.aFF,x3⟩:M.aF)
def tR(j:M.aEJ):Option M.aEJ:=
 (mE j.aEL).bind λx1=>(tM j.aEV).bind λx3=>(B7 j.bK).bind λx5=>(wB j.aF).bind λx7=>some (⟨j.aET,j.Top,x1,x3,x5,x7,j.aEk,j.aEg⟩:M.aEJ)
def A6:=toS 328 (⟨(⟨#[]⟩:ByteArray),(⟨#[]⟩:ByteArray),(⟨(⟨#[]⟩:ByteArray),0,0,0⟩:M.aEL),(⟨([]:List M.aEZ)⟩:M.aP),(⟨(⟨(⟨#[]⟩:ByteArray),0,([]:List M.aC),([]:List M.aG)⟩:M.aEK),([]:List Int),0⟩:M.bK),(⟨(⟨(⟨#[]⟩:ByteArray),([]:List M.aES),0⟩:M.aC),0,(⟨(⟨0,0,([]:List M.bB)⟩:M.aU),0,0⟩:M.aEf)⟩:M.aF),0,false⟩:M.aEJ) tR
def vV(j:M.aD):Option M.aD:=
 (A6 j.aEP).bind λx1=>some (⟨x1⟩:M.aD)
def sI(j:M.aK):Option M.aK:=
 some j
def AO:=toS 24 (⟨(⟨#[]⟩:ByteArray),0⟩:M.aK) sI
def xC(j:M.Instr):Option M.Instr:=
 some j
def Cc:=toS 40 (⟨0,0,0,(⟨#[]⟩:ByteArray)⟩:M.Instr) xC
def pP(C:List Int):Nat->Int->List Int->Option (List Int)
 |0,_,_=>none
 |J+1,j,I=>if(decide (j<(List.length C:Int)))=true then(idx C j).bind λU=>(idx I j).bind λaf=>pP C J (i64.wrap (j+1)) (List.set I j.toNat U)else some I
def BG(j:List Int):Option (List Int):=
 (mkL 8 (List.length j:Int) 0).bind λx1=>pP j fuel 0 (List.replicate (List.length j:Int).toNat 0)
def vO(j:M.aEO):Option M.aEO:=
 (Cc j.aEp).bind λx1=>(BG j.aE3).bind λx3=>some (⟨x1,j.Pc,x3,j.aE2,j.aFG,j.aFH⟩:M.aEO)
def lY(j:M.bS):Option M.bS:=
 (AO j.aK).bind λx1=>(vO j.aEO).bind λx3=>some (⟨j.Id,j.aET,j.Top,j.aER,x1,x3⟩:M.bS)
def Cu:=toS 144 (⟨0,(⟨#[]⟩:ByteArray),(⟨#[]⟩:ByteArray),0,([]:List M.aK),(⟨([]:List M.Instr),0,([]:List Int),0,false,false⟩:M.aEO)⟩:M.bS) lY
def zG(j:M.eV):Option M.eV:=
 some j
def Cr:=toS 32 (⟨(⟨#[]⟩:ByteArray),0,false,false⟩:M.eV) zG
def rC(j:M.aR):Option M.aR:=
 (Cr j.aEh).bind λx1=>some (⟨x1⟩:M.aR)
def zO(j:M.gT):Option M.gT:=
 some j
def Cm:=toS 24 (⟨0,0,0⟩:M.gT) zO
def vM(j:M.aEY):Option M.aEY:=
 (Cm j.aEv).bind λx1=>some (⟨x1⟩:M.aEY)
def lI(C:List ByteArray):Nat->Int->List ByteArray->Option (List ByteArray)
 |0,_,_=>none
 |J+1,j,I=>if(decide (j<(List.length C:Int)))=true then(idx C j).bind λU=>(idx I j).bind λaf=>lI C J (i64.wrap (j+1)) (List.set I j.toNat U)else some I
def wI(j:List ByteArray):Option (List ByteArray):=
 (mkL 16 (List.length j:Int) (⟨#[]⟩:ByteArray)).bind λx1=>lI j fuel 0 (List.replicate (List.length j:Int).toNat (⟨#[]⟩:ByteArray))
def zK(j:M.aET):Option M.aET:=
 (wI j.aE6).bind λx1=>some (⟨j.Name,j.aER,x1,j.aE4⟩:M.aET)
def Cx:=toS 56 (⟨(⟨#[]⟩:ByteArray),0,([]:List ByteArray),false⟩:M.aET) zK
def pN(j:M.aQ):Option M.aQ:=
 some j
def zS:=toS 16 (⟨0,0⟩:M.aQ) pN
def uA(j:M.aEX):Option M.aEX:=
 (nO j.aC).bind λx1=>(zS j.aQ).bind λx3=>(yM j.aEu).bind λx5=>some (⟨x1,x3,x5⟩:M.aEX)
def AP:=toS 96 (⟨(⟨(⟨#[]⟩:ByteArray),([]:List M.aES),0⟩:M.aC),([]:List M.aQ),([]:List M.bB)⟩:M.aEX) uA
def nP(j:M.World):Option M.World:=
 (vV j.aD).bind λx1=>(Cu j.aEq).bind λx3=>(rC j.aEh).bind λx5=>(vM j.aEY).bind λx7=>(Cx j.aEr).bind λx9=>(AP j.aEi).bind λC=>some (⟨j.Now,j.aEs,j.aEd,x1,x3,j.aEl,x5,x7,x9,C⟩:M.World)
def fD(C:M.aD)(I:ByteArray)(J:ByteArray):Nat->Int->Option Int
 |0,_=>none
 |U+1,j=>if(decide (j<(List.length C.aEP:Int)))=true then(idx C.aEP j).bind λx8=>if(x8.aET.toList==I.toList)=true then if(x8.Top.toList==J.toList)=true then some j else fD C I J U (i64.wrap (j+1))else fD C I J U (i64.wrap (j+1))else some (-1)
def nZ(j:M.aD)(C:ByteArray)(I:ByteArray):Option Int:=
 fD j C I fuel 0
def Ax(j:M.aEQ):Option M.aEQ:=
 (app 1 ([]:List Int) j.aFA).bind λx1=>some j
def kF(C:M.aEZ):Nat->Int->List M.aEW->Option M.aEZ
 |0,_,_=>none
 |ah+1,J,I=>if(decide (J<(List.length C.aEa:Int)))=true then(idx C.aEa J).bind λj=>(Ax j.aEQ).bind λU=>(app 88 I ([(⟨j.aET,j.aEy,U⟩:M.aEW)])).bind λai=>kF C ah (i64.wrap (J+1)) (I++[(⟨j.aET,j.aEy,U⟩:M.aEW)])else some (⟨C.aER,I⟩:M.aEZ)
def yJ(j:M.aEZ):Option M.aEZ:=
 kF j fuel 0 ([]:List M.aEW)
def lW(C:M.aP):Nat->Int->List M.aEZ->Option M.aP
 |0,_,_=>none
 |U+1,I,j=>if(decide (I<(List.length C.aEV:Int)))=true then(idx C.aEV I).bind λah=>(yJ ah).bind λJ=>(app 32 j ([J])).bind λai=>lW C U (i64.wrap (I+1)) (j++[J])else some (⟨j⟩:M.aP)
def AH(j:M.aP):Option M.aP:=
 lW j fuel 0 ([]:List M.aEZ)
def bY(j:M.aA):Option M.aA:=
 (app 24 ([]:List M.Field) j.aEN).bind λx1=>some j
def uP(j:M.aES):Option M.aES:=
 (bY j.aA).bind λx1=>some (⟨j.Key,x1⟩:M.aES)
def mU(j:M.aC):Nat->Int->List M.aES->Option M.aC
 |0,_,_=>none
 |U+1,I,C=>if(decide (I<(List.length j.aEM:Int)))=true then(idx j.aEM I).bind λah=>(uP ah).bind λJ=>(app 56 C ([J])).bind λai=>mU j U (i64.wrap (I+1)) (C++[J])else some (⟨j.Name,C,j.aEo⟩:M.aC)
def eR(j:M.aC):Option M.aC:=
 mU j fuel 0 ([]:List M.aES)
def mW(j:M.aEK):Nat->Int->List M.aC->Option M.aEK
 |0,_,_=>none
 |U+1,I,C=>if(decide (I<(List.length j.aEU:Int)))=true then(idx j.aEU I).bind λah=>(eR ah).bind λJ=>(app 48 C ([J])).bind λai=>mW j U (i64.wrap (I+1)) (C++[J])else some (⟨j.Name,j.aER,C,j.aEb⟩:M.aEK)
def kK(j:M.aEK):Option M.aEK:=
 (app 32 ([]:List M.aG) j.aEb).bind λx1=>mW j fuel 0 ([]:List M.aC)
def rX(j:M.bK):Option M.bK:=
 (kK j.aEe).bind λx1=>(app 1 ([]:List Int) j.Log).bind λx3=>some (⟨x1,j.Log,j.aEx⟩:M.bK)
def AA(j:M.aU):Option M.aU:=
 (app 72 ([]:List M.bB) j.aEm).bind λx1=>some j
def An(j:M.aEf):Option M.aEf:=
 (AA j.aU).bind λx1=>some (⟨x1,j.aE9,j.aEt⟩:M.aEf)
def AG(j:M.aF):Option M.aF:=
 (eR j.aEe).bind λx1=>(An j.aEf).bind λx3=>some (⟨x1,j.aFF,x3⟩:M.aF)
def gH(j:M.aEJ):Option M.aEJ:=
 (AH j.aEV).bind λx1=>(rX j.bK).bind λx3=>(AG j.aF).bind λx5=>some (⟨j.aET,j.Top,j.aEL,x1,x3,x5,j.aEk,j.aEg⟩:M.aEJ)
def lH(C:M.aD):Nat->Int->List M.aEJ->Option M.aD
 |0,_,_=>none
 |U+1,I,j=>if(decide (I<(List.length C.aEP:Int)))=true then(idx C.aEP I).bind λah=>(gH ah).bind λJ=>(app 328 j ([J])).bind λai=>lH C U (i64.wrap (I+1)) (j++[J])else some (⟨j⟩:M.aD)
def eF(j:M.aD):Option M.aD:=
 lH j fuel 0 ([]:List M.aEJ)
def vW(j:List M.Instr):Option (List M.Instr):=
 (app 40 ([]:List M.Instr) j).bind λx1=>some j
def Av(j:M.aEO):Option M.aEO:=
 (vW j.aEp).bind λx1=>(app 8 ([]:List Int) j.aE3).bind λx3=>some (⟨x1,j.Pc,j.aE3,j.aE2,j.aFG,j.aFH⟩:M.aEO)
def Ao(j:M.bS):Option M.bS:=
 (app 24 ([]:List M.aK) j.aK).bind λx1=>(Av j.aEO).bind λC=>some (⟨j.Id,j.aET,j.Top,j.aER,j.aK,C⟩:M.bS)
def xD(j:M.aR):Option M.aR:=
 (app 32 ([]:List M.eV) j.aEh).bind λx1=>some j
def xA(j:M.aEY):Option M.aEY:=
 (app 24 ([]:List M.gT) j.aEv).bind λx1=>some j
def Ay(j:M.aET):Option M.aET:=
 (app 16 ([]:List ByteArray) j.aE6).bind λx1=>some j
def Ar(j:M.aEX):Option M.aEX:=
 (eR j.aC).bind λx1=>(app 16 ([]:List M.aQ) j.aQ).bind λx3=>(app 72 ([]:List M.bB) j.aEu).bind λx5=>some (⟨x1,j.aQ,j.aEu⟩:M.aEX)
def gM(j:M.World)(x1:M.aD)(U:List M.bS)(ai:M.aR)(aj:M.aEY)(ak:List M.aET):Nat->Int->List M.aEX->Option M.World
 |0,_,_=>none
 |al+1,I,C=>if(decide (I<(List.length j.aEi:Int)))=true then(idx j.aEi I).bind λaf=>(Ar af).bind λJ=>(app 96 C ([J])).bind λao=>gM j x1 U ai aj ak al (i64.wrap (I+1)) (C++[J])else some (⟨j.Now,j.aEs,j.aEd,x1,U,j.aEl,ai,aj,ak,C⟩:M.World)
def gQ(j:M.World)(x1:M.aD)(J:List M.bS)(U:M.aR)(ah:M.aEY):Nat->Int->List M.aET->Option M.World
 |0,_,_=>none
 |aj+1,I,C=>if(decide (I<(List.length j.aEr:Int)))=true then(idx j.aEr I).bind λak=>(Ay ak).bind λai=>(app 56 C ([ai])).bind λal=>gQ j x1 J U ah aj (i64.wrap (I+1)) (C++[ai])else gM j x1 J U ah C fuel 0 ([]:List M.aEX)
def jW(j:M.World)(x1:M.aD):Nat->Int->List M.bS->Option M.World
 |0,_,_=>none
 |U+1,I,C=>if(decide (I<(List.length j.aEq:Int)))=true then(idx j.aEq I).bind λah=>(Ao ah).bind λJ=>(app 144 C ([J])).bind λak=>jW j x1 U (i64.wrap (I+1)) (C++[J])else(xD j.aEh).bind λai=>(xA j.aEY).bind λaj=>gQ j x1 C ai aj fuel 0 ([]:List M.aET)
def xH(j:M.World):Option M.World:=
 (eF j.aD).bind λx1=>jW j x1 fuel 0 ([]:List M.bS)
def dJ(J:List Int)(C:Int):Nat->Int->Int->Option (Int×Int×Bool)
 |0,_,_=>none
 |U+1,I,j=>if(decide (j<6))=true then if(decide (C<0))=true then some (0,0,false)else if(decide (C>=(i64.wrap ((List.length J:Int)-j))))=true then some (0,0,false)else(idx J (i64.wrap (C+j))).bind λx9=>if(decide (0<=(i64.wrap (7*j))))=true then if(decide ((i64.wrap x9)<128))=true then if((i64.wrap x9)==0)=true then if(decide (j>0))=true then some (0,0,false)else if(decide ((i64.wrap (BitVec.ofInt (IntKind.i64.bits) I|||BitVec.ofInt (IntKind.i64.bits) (i64.wrap ((i64.wrap (BitVec.ofInt (IntKind.i64.bits) (i64.wrap x9)&&&BitVec.ofInt (IntKind.i64.bits) 127).toNat)*2^(min (i64.wrap (7*j)).toNat IntKind.i64.bits)))).toNat)>1000000000000))=true then some (0,0,false)else some (i64.wrap (BitVec.ofInt (IntKind.i64.bits) I|||BitVec.ofInt (IntKind.i64.bits) (i64.wrap ((i64.wrap (BitVec.ofInt (IntKind.i64.bits) (i64.wrap x9)&&&BitVec.ofInt (IntKind.i64.bits) 127).toNat)*2^(min (i64.wrap (7*j)).toNat IntKind.i64.bits)))).toNat,i64.wrap ((i64.wrap (C+j))+1),true)else if(decide ((i64.wrap (BitVec.ofInt (IntKind.i64.bits) I|||BitVec.ofInt (IntKind.i64.bits) (i64.wrap ((i64.wrap (BitVec.ofInt (IntKind.i64.bits) (i64.wrap x9)&&&BitVec.ofInt (IntKind.i64.bits) 127).toNat)*2^(min (i64.wrap (7*j)).toNat IntKind.i64.bits)))).toNat)>1000000000000))=true then some (0,0,false)else some (i64.wrap (BitVec.ofInt (IntKind.i64.bits) I|||BitVec.ofInt (IntKind.i64.bits) (i64.wrap ((i64.wrap (BitVec.ofInt (IntKind.i64.bits) (i64.wrap x9)&&&BitVec.ofInt (IntKind.i64.bits) 127).toNat)*2^(min (i64.wrap (7*j)).toNat IntKind.i64.bits)))).toNat,i64.wrap ((i64.wrap (C+j))+1),true)else dJ J C U (i64.wrap (BitVec.ofInt (IntKind.i64.bits) I|||BitVec.ofInt (IntKind.i64.bits) (i64.wrap ((i64.wrap (BitVec.ofInt (IntKind.i64.bits) (i64.wrap x9)&&&BitVec.ofInt (IntKind.i64.bits) 127).toNat)*2^(min (i64.wrap (7*j)).toNat IntKind.i64.bits)))).toNat) (i64.wrap (j+1))else none else some (0,0,false)
def eG(j:List Int)(C:Int):Option (Int×Int×Bool):=
 dJ j C fuel 0 0
def dF(j:List Int)(C:Int)(I:Int):Option ((List Int)×Int×Bool):=
 (eG j C).bind λx1=>if(!x1.2.2)=true then some (([]:List Int),0,false)else if(decide (x1.1>I))=true then some (([]:List Int),0,false)else if(decide (x1.1>(i64.wrap ((List.length j:Int)-x1.2.1))))=true then some (([]:List Int),0,false)else(Nm j x1.2.1 (i64.wrap (x1.2.1+x1.1))).bind λx6=>(app 1 ([]:List Int) (List.drop x1.2.1.toNat (List.take (i64.wrap (x1.2.1+x1.1)).toNat j))).bind λx8=>some (List.drop x1.2.1.toNat (List.take (i64.wrap (x1.2.1+x1.1)).toNat j),i64.wrap (x1.2.1+x1.1),true)
def fV(j:List Int):Nat->Int->List Int->Option (List Int)
 |0,_,_=>none
 |U+1,I,C=>if(decide (I<(List.length j:Int)))=true then(idx j I).bind λJ=>(app 8 C ([i64.wrap J])).bind λaf=>fV j U (i64.wrap (I+1)) (C++[i64.wrap J])else some C
def rU(j:List Int):Option (List Int):=
 fV j fuel 0 ([(List.length j:Int)])
def bZ(j:Int)(C:Int)(I:Int):Option Bool:=
 if(decide (j>=C))=true then some (decide (j<=I))else some false
def D0(C:Int)(j:Int):Option Int:=
 (bZ j 1 1000000000000).bind λx1=>if(!x1)=true then some 0 else if(decide (j=0))=true then none else some (Int.tmod (i64.wrap ((Int.tmod C j)+j)) j)
def rZ(j:List Int):Nat->Int->Int->Option Int
 |0,_,_=>none
 |J+1,I,C=>if(decide (C<(List.length j:Int)))=true then(idx j C).bind λx6=>(D0 x6 2147483647).bind λU=>rZ j J (Int.tmod (i64.wrap ((i64.wrap ((i64.wrap (I*1000003))+U))+13)) 2147483647) (i64.wrap (C+1))else some I
def Dr(j:List Int):Option Int:=
 rZ j fuel 11 0
def sR(j:Int)(C:List Int):Option Int:=
 (rU C).bind λx1=>(app 8 ([101,j]) x1).bind λx3=>(Dr ([101,j]++x1)).bind λx5=>some x5
def nX(J:List Int):Nat->Int->List (List Int)->Option ((List (List Int))×Int)
 |0,_,_=>none
 |ah+1,C,j=>if(decide (C<(List.length J:Int)))=true then(dF J C 4000).bind λI=>if(!I.2.2)=true then some (j,C)else(eG J I.2.1).bind λU=>if(!U.2.2)=true then some (j,C)else(sR (List.length j:Int) I.1).bind λai=>if(U.1 !=ai)=true then some (j,C)else(app 24 j ([I.1])).bind λaj=>nX J ah U.2.1 (j++[I.1])else some (j,C)
def Aj(j:List Int):Option ((List (List Int))×Int):=
 nX j fuel 0 ([]:List (List Int))
def gI(j:ByteArray):Nat->Int->Option Bool
 |0,_=>none
 |I+1,C=>if(decide (C<(j.size:Int)))=true then(UQ j C).bind λx5=>if(decide ((x5.toNat:Int)<97))=true then if(decide ((x5.toNat:Int)<48))=true then some false else if(decide ((x5.toNat:Int)>57))=true then some false else gI j I (i64.wrap (C+1))else if(decide ((x5.toNat:Int)>122))=true then if(decide ((x5.toNat:Int)<48))=true then some false else if(decide ((x5.toNat:Int)>57))=true then some false else gI j I (i64.wrap (C+1))else gI j I (i64.wrap (C+1))else some (decide ((j.size:Int)<=12))
def zA(j:ByteArray):Option Bool:=
 gI j fuel 0
def eJ(j:M.Key):Option Bool:=
 (bZ j.aEc 1 3).bind λx1=>if x1=true then(bZ j.N (-1000000000000) 1000000000000).bind λx4=>if x4=true then if(j.aEc !=2)=true then(zA j.aEj).bind λx8=>if x8=true then if(j.aEc !=1)=true then some true else some (j.aEj.toList==(⟨#[]⟩:ByteArray).toList)else some false else if(j.N==0)=true then(zA j.aEj).bind λC=>if C=true then if(j.aEc !=1)=true then some true else some (j.aEj.toList==(⟨#[]⟩:ByteArray).toList)else some false else some false else some false else some false
def iK(j:List Int)(x2:Int):Nat->Int->Int->Option (M.Key×Bool)
 |0,_,_=>none
 |J+1,C,I=>if(decide (I<7))=true then(idx j I).bind λU=>iK j x2 J (i64.wrap (BitVec.ofInt (IntKind.i64.bits) (i64.wrap (C*2^(min (8:Int).toNat IntKind.i64.bits)))|||BitVec.ofInt (IntKind.i64.bits) (i64.wrap U)).toNat) (i64.wrap (I+1))else(B4 j 7).bind λah=>(toStr (List.drop (7:Int).toNat j)).bind λai=>(eJ (⟨i64.wrap x2,i64.wrap (C-1000000000000),aY (List.drop (7:Int).toNat j)⟩:M.Key)).bind λaf=>if(!af)=true then some ((⟨0,0,(⟨#[]⟩:ByteArray)⟩:M.Key),false)else some ((⟨i64.wrap x2,i64.wrap (C-1000000000000),aY (List.drop (7:Int).toNat j)⟩:M.Key),true)
def oY(j:List Int):Option (M.Key×Bool):=
 if((List.length j:Int)==0)=true then some ((⟨0,0,(⟨#[]⟩:ByteArray)⟩:M.Key),false)else(idx j 0).bind λx2=>if((i64.wrap x2) !=2)=true then if(decide ((List.length j:Int)<7))=true then some ((⟨0,0,(⟨#[]⟩:ByteArray)⟩:M.Key),false)else iK j x2 fuel 0 1 else(B4 j 1).bind λI=>(toStr (List.drop (1:Int).toNat j)).bind λJ=>(eJ (⟨i64.wrap x2,0,aY (List.drop (1:Int).toNat j)⟩:M.Key)).bind λC=>if(!C)=true then some ((⟨0,0,(⟨#[]⟩:ByteArray)⟩:M.Key),false)else some ((⟨i64.wrap x2,0,aY (List.drop (1:Int).toNat j)⟩:M.Key),true)
def lB(j:ByteArray):Nat->Int->Option Bool
 |0,_=>none
 |I+1,C=>if(decide (C<(j.size:Int)))=true then(UQ j C).bind λx5=>if(decide ((x5.toNat:Int)<97))=true then some false else if(decide ((x5.toNat:Int)>122))=true then some false else lB j I (i64.wrap (C+1))else(bZ (j.size:Int) 1 8).bind λJ=>some J
def dK(j:ByteArray):Option Bool:=
 lB j fuel 0
def fL(j:M.aA):Nat->Int->Option Bool
 |0,_=>none
 |I+1,C=>if(decide (C<(List.length j.aEN:Int)))=true then(idx j.aEN C).bind λx6=>(dK x6.Name).bind λJ=>if(!J)=true then some false else(bZ x6.N 0 1000000000).bind λU=>if(!U)=true then some false else if(decide (C>0))=true then(idx j.aEN (i64.wrap (C-1))).bind λah=>if(!(Op.bytesLess ah.Name.toList x6.Name.toList))=true then some false else fL j I (i64.wrap (C+1))else fL j I (i64.wrap (C+1))else some (decide ((List.length j.aEN:Int)<=6))
def bM(j:M.aA):Option Bool:=
 fL j fuel 0
def mT(U:List Int)(x1:(Int×Int×Bool)):Nat->Int->Int->List M.Field->Option (M.aA×Int×Bool)
 |0,_,_,_=>none
 |ah+1,v8,C,I=>if(decide (C<x1.1))=true then(dF U v8 8).bind λj=>if(!j.2.2)=true then some ((⟨([]:List M.Field)⟩:M.aA),0,false)else(eG U j.2.1).bind λJ=>if(!J.2.2)=true then some ((⟨([]:List M.Field)⟩:M.aA),0,false)else(toStr j.1).bind λaj=>(app 24 I ([(⟨aY j.1,J.1⟩:M.Field)])).bind λak=>mT U x1 ah J.2.1 (i64.wrap (C+1)) (I++[(⟨aY j.1,J.1⟩:M.Field)])else(bM (⟨I⟩:M.aA)).bind λai=>some ((⟨I⟩:M.aA),v8,ai)
def C8(j:List Int)(C:Int):Option (M.aA×Int×Bool):=
 (eG j C).bind λx1=>if(!x1.2.2)=true then some ((⟨([]:List M.Field)⟩:M.aA),0,false)else if(decide (x1.1>6))=true then some ((⟨([]:List M.Field)⟩:M.aA),0,false)else mT j x1 fuel x1.2.1 0 ([]:List M.Field)
def lU(j:List Int):Option (M.aA×Bool):=
 (C8 j 0).bind λx1=>if(!x1.2.2)=true then some ((⟨([]:List M.Field)⟩:M.aA),false)else if(x1.2.1 !=(List.length j:Int))=true then some ((⟨([]:List M.Field)⟩:M.aA),false)else some (x1.1,true)
def Bt(j:List Int)(J:Int):Option (M.Op×Int×Bool):=
 (eG j J).bind λx1=>(dF j x1.2.1 100).bind λx3=>(dF j x3.2.1 100).bind λx5=>(dF j x5.2.1 200).bind λx7=>(dF j x7.2.1 100).bind λx9=>if(!x1.2.2)=true then some ((⟨0,(⟨#[]⟩:ByteArray),(⟨0,0,(⟨#[]⟩:ByteArray)⟩:M.Key),(⟨([]:List M.Field)⟩:M.aA),(⟨#[]⟩:ByteArray)⟩:M.Op),0,false)else if(!x3.2.2)=true then some ((⟨0,(⟨#[]⟩:ByteArray),(⟨0,0,(⟨#[]⟩:ByteArray)⟩:M.Key),(⟨([]:List M.Field)⟩:M.aA),(⟨#[]⟩:ByteArray)⟩:M.Op),0,false)else if(!x5.2.2)=true then some ((⟨0,(⟨#[]⟩:ByteArray),(⟨0,0,(⟨#[]⟩:ByteArray)⟩:M.Key),(⟨([]:List M.Field)⟩:M.aA),(⟨#[]⟩:ByteArray)⟩:M.Op),0,false)else if(!x7.2.2)=true then some ((⟨0,(⟨#[]⟩:ByteArray),(⟨0,0,(⟨#[]⟩:ByteArray)⟩:M.Key),(⟨([]:List M.Field)⟩:M.aA),(⟨#[]⟩:ByteArray)⟩:M.Op),0,false)else if(!x9.2.2)=true then some ((⟨0,(⟨#[]⟩:ByteArray),(⟨0,0,(⟨#[]⟩:ByteArray)⟩:M.Key),(⟨([]:List M.Field)⟩:M.aA),(⟨#[]⟩:ByteArray)⟩:M.Op),0,false)else(toStr x3.1).bind λU=>(toStr x9.1).bind λah=>(oY x5.1).bind λC=>(lU x7.1).bind λI=>some ((⟨x1.1,aY x3.1,C.1,I.1,aY x9.1⟩:M.Op),x9.2.1,true)
def cG  :Nat->Int->List Int->Option (List Int)
 |0,_,_=>none
 |I+1,j,C=>if(decide (j>127))=true then(app 1 C ([IntKind.u8.wrap (i64.wrap (BitVec.ofInt (IntKind.i64.bits) (i64.wrap (BitVec.ofInt (IntKind.i64.bits) j&&&BitVec.ofInt (IntKind.i64.bits) 127).toNat)|||BitVec.ofInt (IntKind.i64.bits) 128).toNat)])).bind λJ=>cG I (Int.fdiv j (2^(min (7:Int).toNat IntKind.i64.bits))) (C++[IntKind.u8.wrap (i64.wrap (BitVec.ofInt (IntKind.i64.bits) (i64.wrap (BitVec.ofInt (IntKind.i64.bits) j&&&BitVec.ofInt (IntKind.i64.bits) 127).toNat)|||BitVec.ofInt (IntKind.i64.bits) 128).toNat)])else(app 1 C ([IntKind.u8.wrap j])).bind λU=>some (C++[IntKind.u8.wrap j])
def bU(j:List Int)(C:Int):Option (List Int):=
 (app 1 ([]:List Int) j).bind λx1=>(bZ C 0 1000000000000).bind λx7=>if(!x7)=true then some j else cG fuel C j
def Cj(j:M.Op):Option Bool:=
 (bZ j.aEc 1 6).bind λx1=>if x1=true then(dK j.aC).bind λx4=>if x4=true then if(j.aEc==5)=true then(bM j.aA).bind λx8=>if x8=true then if(j.aEc==6)=true then(dK j.Field).bind λC=>if C=true then some true else if(j.aEc !=6)=true then some (j.Field.toList==(⟨#[]⟩:ByteArray).toList)else some false else if(j.aEc !=6)=true then some (j.Field.toList==(⟨#[]⟩:ByteArray).toList)else some false else some false else(eJ j.Key).bind λI=>if I=true then(bM j.aA).bind λJ=>if J=true then if(j.aEc==6)=true then(dK j.Field).bind λU=>if U=true then some true else if(j.aEc !=6)=true then some (j.Field.toList==(⟨#[]⟩:ByteArray).toList)else some false else if(j.aEc !=6)=true then some (j.Field.toList==(⟨#[]⟩:ByteArray).toList)else some false else some false else some false else some false else some false
def bT(C:List Int)(j:List Int):Option (List Int):=
 (bU C (List.length j:Int)).bind λx1=>(app 1 x1 j).bind λx3=>some (x1++j)
def bE(j:M.Key):Nat->Int->List Int->Option (List Int)
 |0,_,_=>none
 |J+1,I,C=>if(decide (I>=0))=true then if(j.aEc !=2)=true then if(decide (0<=(i64.wrap (8*I))))=true then(app 1 C ([IntKind.u8.wrap (i64.wrap (BitVec.ofInt (IntKind.i64.bits) (Int.fdiv (i64.wrap (j.N+1000000000000)) (2^(min (i64.wrap (8*I)).toNat IntKind.i64.bits)))&&&BitVec.ofInt (IntKind.i64.bits) 255).toNat)])).bind λU=>bE j J (i64.wrap (I-1)) (C++[IntKind.u8.wrap (i64.wrap (BitVec.ofInt (IntKind.i64.bits) (Int.fdiv (i64.wrap (j.N+1000000000000)) (2^(min (i64.wrap (8*I)).toNat IntKind.i64.bits)))&&&BitVec.ofInt (IntKind.i64.bits) 255).toNat)])else none else(app 1 C (bC j.aEj)).bind λah=>some (C++(bC j.aEj))else(app 1 C (bC j.aEj)).bind λai=>some (C++(bC j.aEj))
def iH(j:M.Key):Option (List Int):=
 (eJ j).bind λx1=>if(!x1)=true then some ([]:List Int)else bE j fuel 5 ([IntKind.u8.wrap j.aEc])
def cH(j:M.aA):Nat->Int->List Int->Option (List Int)
 |0,_,_=>none
 |U+1,C,I=>if(decide (C<(List.length j.aEN:Int)))=true then(idx j.aEN C).bind λJ=>(bT I (bC J.Name)).bind λah=>(bU ah J.N).bind λai=>cH j U (i64.wrap (C+1)) ai else some I
def eX(j:M.aA):Option (List Int):=
 (bM j).bind λx1=>if(!x1)=true then some ([]:List Int)else(bU ([]:List Int) (List.length j.aEN:Int)).bind λx4=>cH j fuel 0 x4
def lO(C:List M.Op):Nat->Int->List Int->Option (List Int)
 |0,_,_=>none
 |U+1,I,J=>if(decide (I<(List.length C:Int)))=true then(idx C I).bind λj=>(Cj j).bind λah=>if(!ah)=true then some ([]:List Int)else(bU J j.aEc).bind λai=>(bT ai (bC j.aC)).bind λaj=>(iH j.Key).bind λak=>(bT aj ak).bind λal=>(eX j.aA).bind λao=>(bT al ao).bind λaq=>(bT aq (bC j.Field)).bind λar=>lO C U (i64.wrap (I+1)) ar else if(decide ((List.length C:Int)>6))=true then some ([]:List Int)else some J
def oZ(j:List M.Op):Option (List Int):=
 (bU ([]:List Int) (List.length j:Int)).bind λx1=>lO j fuel 0 x1
def tH(j:List Int)(C:List Int):Option Bool:=
 (toStr j).bind λx1=>(toStr C).bind λx3=>some ((aY j).toList==(aY C).toList)
def iP(I:List Int)(x1:(Int×Int×Bool)):Nat->Int->Int->List M.Op->Option ((List M.Op)×Bool)
 |0,_,_,_=>none
 |U+1,v5,J,j=>if(decide (J<x1.1))=true then(Bt I v5).bind λC=>if(!C.2.2)=true then some (([]:List M.Op),false)else(app 96 j ([C.1])).bind λaj=>iP I x1 U C.2.1 (i64.wrap (J+1)) (j++[C.1])else(oZ j).bind λah=>(tH ah I).bind λai=>if(!ai)=true then some (([]:List M.Op),false)else some (j,true)
def oV(j:List Int):Option ((List M.Op)×Bool):=
 (eG j 0).bind λx1=>if(!x1.2.2)=true then some (([]:List M.Op),false)else if(decide (x1.1>6))=true then some (([]:List M.Op),false)else iP j x1 fuel x1.2.1 0 ([]:List M.Op)
def zC(j:Bool)(C:Bool):Option Int:=
 if j=true then some (-1)else if C=true then some 1 else some 0
def bF(j:M.Key)(C:M.Key):Option Int:=
 (eJ j).bind λx1=>if(!x1)=true then some 0 else(eJ C).bind λx4=>if(!x4)=true then some 0 else if(j.aEc !=C.aEc)=true then(zC (decide (j.aEc<C.aEc)) true).bind λx8=>some x8 else if(j.N !=C.N)=true then(zC (decide (j.N<C.N)) true).bind λI=>some I else(zC (Op.bytesLess j.aEj.toList C.aEj.toList) (!(Op.bytesLess j.aEj.toList C.aEj.toList||j.aEj.toList==C.aEj.toList))).bind λJ=>some J
def gR(j:M.aC):Nat->Int->Option Bool
 |0,_=>none
 |I+1,C=>if(decide (C<(List.length j.aEM:Int)))=true then(idx j.aEM C).bind λx6=>(eJ x6.Key).bind λJ=>if(!J)=true then some false else(bM x6.aA).bind λU=>if(!U)=true then some false else if(decide (C>0))=true then(idx j.aEM (i64.wrap (C-1))).bind λah=>(bF ah.Key x6.Key).bind λai=>if(decide (ai>=0))=true then some false else gR j I (i64.wrap (C+1))else gR j I (i64.wrap (C+1))else(dK j.Name).bind λaj=>if aj=true then if(decide ((List.length j.aEM:Int)<=16))=true then(bZ j.aEo 0 1000000).bind λak=>some ak else some false else some false
def nJ(j:M.aC):Option Bool:=
 gR j fuel 0
def iV(C:M.aEK)(I:ByteArray):Nat->Int->Option Int
 |0,_=>none
 |J+1,j=>if(decide (j<(List.length C.aEU:Int)))=true then(idx C.aEU j).bind λx7=>if(x7.Name.toList==I.toList)=true then some j else iV C I J (i64.wrap (j+1))else some (-1)
def kX(j:M.aEK)(C:ByteArray):Option Int:=
 iV j C fuel 0
def mL(j:M.aA)(I:ByteArray):Nat->Int->Option (Int×Bool)
 |0,_=>none
 |J+1,C=>if(decide (C<(List.length j.aEN:Int)))=true then(idx j.aEN C).bind λx7=>if(x7.Name.toList==I.toList)=true then some (x7.N,true)else mL j I J (i64.wrap (C+1))else some (0,false)
def iF(j:M.aA)(C:ByteArray):Option (Int×Bool):=
 mL j C fuel 0
def Cd(j:M.aES)(C:M.aES)(I:ByteArray):Option Bool:=
 (iF j.aA I).bind λx1=>(iF C.aA I).bind λx3=>if(decide (x1.1<x3.1))=true then some true else if(x1.1==x3.1)=true then(bF j.Key C.Key).bind λx7=>some (decide (x7<0))else some false
def lF(U:ByteArray)(I:List M.aES)(J:M.aES)(C:Int->Option (List M.aES)):Nat->Int->Option (List M.aES)
 |0,_=>none
 |ai+1,j=>if(decide (j>0))=true then(idx I (i64.wrap (j-1))).bind λaj=>(Cd J aj U).bind λak=>if ak=true then lF U I J C ai (i64.wrap (j-1))else C j else C j
def jT(I:M.aC)(J:ByteArray):Nat->Int->List M.aES->Option (List M.aES)
 |0,_,_=>none
 |ai+1,U,j=>if(decide (U<(List.length I.aEM:Int)))=true then(idx I.aEM U).bind λaf=>(iF af.aA J).bind λaj=>if(!aj.2)=true then jT I J ai (i64.wrap (U+1)) j else lF J j af (λ(C:Int)=>(Ek j C).bind λal=>(app 56 ([]:List M.aES) (List.take C.toNat j)).bind λao=>(uP af).bind λah=>(app 56 (List.take C.toNat j) ([ah])).bind λaq=>(app 56 ((List.take C.toNat j)++[ah]) (List.drop C.toNat j)).bind λak=>jT I J ai (i64.wrap (U+1)) (((List.take C.toNat j)++[ah])++(List.drop C.toNat j))) fuel (List.length j:Int)else some j
def Aw(j:M.aC)(C:ByteArray):Option (List M.aES):=
 jT j C fuel 0 ([]:List M.aES)
def jY(C:ByteArray)(x1:(List M.aES)):Nat->Int->Option (M.Key×M.Key×Bool)
 |0,_=>none
 |U+1,j=>if(decide (j<(List.length x1:Int)))=true then(idx x1 (i64.wrap (j-1))).bind λI=>(iF I.aA C).bind λah=>(idx x1 j).bind λJ=>(iF J.aA C).bind λai=>if(ah.1==ai.1)=true then some (I.Key,J.Key,true)else jY C x1 U (i64.wrap (j+1))else some ((⟨0,0,(⟨#[]⟩:ByteArray)⟩:M.Key),(⟨0,0,(⟨#[]⟩:ByteArray)⟩:M.Key),false)
def pV(C:M.aC)(j:ByteArray):Option (M.Key×M.Key×Bool):=
 (Aw C j).bind λx1=>jY j x1 fuel 1
def fB(U:M.aEK)(v4:Int)(C:M.aG)(I:Int->Option Bool):Nat->Int->Option Bool
 |0,_=>none
 |ai+1,j=>if(decide (j<v4))=true then(idx U.aEb j).bind λJ=>if((J.aC.toList==C.aC.toList)&&(J.Field.toList==C.Field.toList))=true then some false else fB U v4 C I ai (i64.wrap (j+1))else I j
def dZ(j:M.aEK):Nat->Int->Option Bool
 |0,_=>none
 |U+1,I=>if(decide (I<(List.length j.aEb:Int)))=true then(idx j.aEb I).bind λC=>(kX j C.aC).bind λJ=>if(decide (J<0))=true then some false else(dK C.Field).bind λai=>if(!ai)=true then some false else(idx j.aEU J).bind λaj=>(pV aj C.Field).bind λak=>if ak.2.2=true then some false else fB j I C (λ(af:Int)=>dZ j U (i64.wrap (I+1))) fuel 0 else(dK j.Name).bind λal=>if al=true then(bZ j.aER 0 1000).bind λao=>if ao=true then if(decide ((List.length j.aEU:Int)<=4))=true then some (decide ((List.length j.aEb:Int)<=4))else some false else some false else some false
def dY(j:M.aEK):Nat->Int->Option Bool
 |0,_=>none
 |I+1,C=>if(decide (C<(List.length j.aEU:Int)))=true then(idx j.aEU C).bind λx6=>(nJ x6).bind λJ=>if(!J)=true then some false else if(decide (C>0))=true then(idx j.aEU (i64.wrap (C-1))).bind λU=>if(!(Op.bytesLess U.Name.toList x6.Name.toList))=true then some false else dY j I (i64.wrap (C+1))else dY j I (i64.wrap (C+1))else dZ j fuel 0
def jU(j:M.aEK):Option Bool:=
 dY j fuel 0
def kP(I:M.aC)(j:M.Key):Nat->Int->Option Int
 |0,_=>none
 |J+1,C=>if(decide (C<(List.length I.aEM:Int)))=true then(idx I.aEM C).bind λx8=>if((x8.Key.aEc==j.aEc)&&((x8.Key.N==j.N)&&(x8.Key.aEj.toList==j.aEj.toList)))=true then some C else kP I j J (i64.wrap (C+1))else some (-1)
def iC(j:M.aC)(C:M.Key):Option Int:=
 kP j C fuel 0
def lT(p0:M.aC)(I:M.Key)(p2:M.aA)(C:M.aC):Nat->Int->Option (M.aC×Bool)
 |0,_=>none
 |aj+1,j=>if(decide (j<(List.length p0.aEM:Int)))=true then(idx p0.aEM j).bind λak=>(bF ak.Key I).bind λal=>if(decide (al<0))=true then lT p0 I p2 C aj (i64.wrap (j+1))else(Ek C.aEM j).bind λaw=>(app 56 ([]:List M.aES) (List.take j.toNat C.aEM)).bind λax=>(bY p2).bind λU=>(app 56 (List.take j.toNat C.aEM) ([(⟨I,U⟩:M.aES)])).bind λay=>(app 56 ((List.take j.toNat C.aEM)++[(⟨I,U⟩:M.aES)]) (List.drop j.toNat C.aEM)).bind λaz=>if(I.aEc==1)=true then(bZ I.N (i64.wrap (p0.aEo+1)) 1000000).bind λah=>if ah=true then some ((⟨C.Name,((List.take j.toNat C.aEM)++[(⟨I,U⟩:M.aES)])++(List.drop j.toNat C.aEM),I.N⟩:M.aC),true)else some ((⟨C.Name,((List.take j.toNat C.aEM)++[(⟨I,U⟩:M.aES)])++(List.drop j.toNat C.aEM),C.aEo⟩:M.aC),true)else some ((⟨C.Name,((List.take j.toNat C.aEM)++[(⟨I,U⟩:M.aES)])++(List.drop j.toNat C.aEM),C.aEo⟩:M.aC),true)else(Ek C.aEM j).bind λao=>(app 56 ([]:List M.aES) (List.take j.toNat C.aEM)).bind λaq=>(bY p2).bind λJ=>(app 56 (List.take j.toNat C.aEM) ([(⟨I,J⟩:M.aES)])).bind λar=>(app 56 ((List.take j.toNat C.aEM)++[(⟨I,J⟩:M.aES)]) (List.drop j.toNat C.aEM)).bind λav=>if(I.aEc==1)=true then(bZ I.N (i64.wrap (p0.aEo+1)) 1000000).bind λai=>if ai=true then some ((⟨C.Name,((List.take j.toNat C.aEM)++[(⟨I,J⟩:M.aES)])++(List.drop j.toNat C.aEM),I.N⟩:M.aC),true)else some ((⟨C.Name,((List.take j.toNat C.aEM)++[(⟨I,J⟩:M.aES)])++(List.drop j.toNat C.aEM),C.aEo⟩:M.aC),true)else some ((⟨C.Name,((List.take j.toNat C.aEM)++[(⟨I,J⟩:M.aES)])++(List.drop j.toNat C.aEM),C.aEo⟩:M.aC),true)
def nH(j:M.aC)(J:M.Key)(U:M.aA):Option (M.aC×Bool):=
 (nJ j).bind λx1=>if(!x1)=true then(eR j).bind λx4=>some (x4,false)else(eJ J).bind λx6=>if(!x6)=true then(eR j).bind λx9=>some (x9,false)else(bM U).bind λaf=>if(!af)=true then(eR j).bind λah=>some (ah,false)else(eR j).bind λC=>(iC j J).bind λI=>if(decide (I>=0))=true then(bY U).bind λai=>(idx C.aEM I).bind λaj=>some ((⟨C.Name,List.set C.aEM I.toNat (⟨aj.Key,ai⟩:M.aES),C.aEo⟩:M.aC),true)else if(decide ((List.length j.aEM:Int)>=16))=true then some (C,false)else lT j J U C fuel 0
def Ap(j:M.aC)(C:M.Key)(I:M.aA):Option (M.aC×Bool):=
 (iC j C).bind λx1=>if(decide (x1>=0))=true then(eR j).bind λx4=>some (x4,false)else(nH j C I).bind λx6=>some (x6.1,x6.2)
def wC(C:M.Key)(j:M.cP):Option Bool:=
 (eJ C).bind λx1=>if(!x1)=true then some false else if j.aFD=true then(eJ j.Low).bind λx5=>if(!x5)=true then some false else if j.aE1=true then(eJ j.aE7).bind λx9=>if(!x9)=true then some false else if(!j.aFD)=true then if(!j.aE1)=true then some true else(bF C j.aE7).bind λI=>some (decide (I<=0))else(bF j.Low C).bind λJ=>if(decide (J<=0))=true then if(!j.aE1)=true then some true else(bF C j.aE7).bind λU=>some (decide (U<=0))else some false else if(!j.aFD)=true then if(!j.aE1)=true then some true else(bF C j.aE7).bind λah=>some (decide (ah<=0))else(bF j.Low C).bind λai=>if(decide (ai<=0))=true then if(!j.aE1)=true then some true else(bF C j.aE7).bind λaj=>some (decide (aj<=0))else some false else if j.aE1=true then(eJ j.aE7).bind λak=>if(!ak)=true then some false else if(!j.aFD)=true then if(!j.aE1)=true then some true else(bF C j.aE7).bind λal=>some (decide (al<=0))else(bF j.Low C).bind λao=>if(decide (ao<=0))=true then if(!j.aE1)=true then some true else(bF C j.aE7).bind λaq=>some (decide (aq<=0))else some false else if(!j.aFD)=true then if(!j.aE1)=true then some true else(bF C j.aE7).bind λar=>some (decide (ar<=0))else(bF j.Low C).bind λav=>if(decide (av<=0))=true then if(!j.aE1)=true then some true else(bF C j.aE7).bind λaw=>some (decide (aw<=0))else some false
def gB(j:M.aC)(J:M.cP):Nat->Int->List M.aES->Option (M.aC×Int)
 |0,_,_=>none
 |U+1,I,C=>if(decide (I<(List.length j.aEM:Int)))=true then(idx j.aEM I).bind λaf=>(wC af.Key J).bind λai=>if(!ai)=true then(uP af).bind λah=>(app 56 C ([ah])).bind λaj=>gB j J U (i64.wrap (I+1)) (C++[ah])else gB j J U (i64.wrap (I+1)) C else some ((⟨j.Name,C,j.aEo⟩:M.aC),i64.wrap ((List.length j.aEM:Int)-(List.length C:Int)))
def mQ(j:M.aC)(C:M.cP):Option (M.aC×Int):=
 (nJ j).bind λx1=>if(!x1)=true then(eR j).bind λx4=>some (x4,0)else gB j C fuel 0 ([]:List M.aES)
def kE(j:M.aA)(I:ByteArray)(J:Int)(x1:M.aA):Nat->Int->Option (M.aA×Bool)
 |0,_=>none
 |af+1,C=>if(decide (C<(List.length j.aEN:Int)))=true then(idx j.aEN C).bind λU=>if(Op.bytesLess U.Name.toList I.toList)=true then kE j I J x1 af (i64.wrap (C+1))else if(U.Name.toList==I.toList)=true then(idx x1.aEN C).bind λae=>(bM j).bind λah=>if(!ah)=true then(bY j).bind λai=>some (ai,false)else(bM (⟨List.set x1.aEN C.toNat (⟨ae.Name,J⟩:M.Field)⟩:M.aA)).bind λaj=>if(!aj)=true then(bY j).bind λak=>some (ak,false)else some ((⟨List.set x1.aEN C.toNat (⟨ae.Name,J⟩:M.Field)⟩:M.aA),true)else(Ek j.aEN C).bind λaz=>(app 24 ([]:List M.Field) (List.take C.toNat j.aEN)).bind λba=>(app 24 (List.take C.toNat j.aEN) ([(⟨I,J⟩:M.Field)])).bind λbd=>(B4 j.aEN C).bind λbf=>(app 24 ((List.take C.toNat j.aEN)++[(⟨I,J⟩:M.Field)]) (List.drop C.toNat j.aEN)).bind λbg=>(bM j).bind λal=>if(!al)=true then(bY j).bind λao=>some (ao,false)else(bM (⟨((List.take C.toNat j.aEN)++[(⟨I,J⟩:M.Field)])++(List.drop C.toNat j.aEN)⟩:M.aA)).bind λaq=>if(!aq)=true then(bY j).bind λar=>some (ar,false)else some ((⟨((List.take C.toNat j.aEN)++[(⟨I,J⟩:M.Field)])++(List.drop C.toNat j.aEN)⟩:M.aA),true)else(Ek j.aEN C).bind λbh=>(app 24 ([]:List M.Field) (List.take C.toNat j.aEN)).bind λbj=>(app 24 (List.take C.toNat j.aEN) ([(⟨I,J⟩:M.Field)])).bind λbl=>(B4 j.aEN C).bind λbm=>(app 24 ((List.take C.toNat j.aEN)++[(⟨I,J⟩:M.Field)]) (List.drop C.toNat j.aEN)).bind λbn=>(bM j).bind λav=>if(!av)=true then(bY j).bind λaw=>some (aw,false)else(bM (⟨((List.take C.toNat j.aEN)++[(⟨I,J⟩:M.Field)])++(List.drop C.toNat j.aEN)⟩:M.aA)).bind λax=>if(!ax)=true then(bY j).bind λay=>some (ay,false)else some ((⟨((List.take C.toNat j.aEN)++[(⟨I,J⟩:M.Field)])++(List.drop C.toNat j.aEN)⟩:M.aA),true)
def oN(j:M.aA)(C:ByteArray)(I:Int):Option (M.aA×Bool):=
 (bY j).bind λx1=>kE j C I x1 fuel 0
def CI(j:M.aC)(p1:M.Key)(C:ByteArray):Option (M.aC×Int×Bool):=
 (iC j p1).bind λx1=>if(decide (x1>=0))=true then(idx j.aEM x1).bind λx4=>(iF x4.aA C).bind λx9=>(oN x4.aA C (i64.wrap (x9.1+1))).bind λah=>(nH j p1 ah.1).bind λI=>if ah.2=true then some (I.1,i64.wrap (x9.1+1),I.2)else some (I.1,i64.wrap (x9.1+1),false)else(iF (⟨([]:List M.Field)⟩:M.aA) C).bind λJ=>(oN (⟨([]:List M.Field)⟩:M.aA) C (i64.wrap (J.1+1))).bind λai=>(nH j p1 ai.1).bind λU=>if ai.2=true then some (U.1,i64.wrap (J.1+1),U.2)else some (U.1,i64.wrap (J.1+1),false)
def Au(C:M.aC)(j:M.Op):Option (M.aC×Int×Bool):=
 if(j.aEc==1)=true then(nH C j.Key j.aA).bind λx2=>some (x2.1,1,x2.2)else if(j.aEc==2)=true then(Ap C j.Key j.aA).bind λx5=>some (x5.1,1,x5.2)else if(j.aEc==3)=true then(mQ C (⟨true,true,j.Key,j.Key⟩:M.cP)).bind λx8=>some (x8.1,x8.2,true)else if(j.aEc==4)=true then(iC C j.Key).bind λJ=>if(decide (J<0))=true then(eR C).bind λah=>some (ah,-1,true)else(eR C).bind λai=>(idx C.aEM J).bind λaj=>some (ai,(List.length aj.aA.aEN:Int),true)else if(j.aEc==5)=true then(mQ C (⟨false,false,(⟨0,0,(⟨#[]⟩:ByteArray)⟩:M.Key),(⟨0,0,(⟨#[]⟩:ByteArray)⟩:M.Key)⟩:M.cP)).bind λU=>some (U.1,U.2,true)else(CI C j.Key j.Field).bind λI=>some (I.1,I.2.1,I.2.2)
def Be(j:M.aEK)(I:M.Op):Option (M.aEK×Int×Bool):=
 (kK j).bind λx1=>(kX j I.aC).bind λx3=>(jU j).bind λx5=>if(!x5)=true then some (x1,0,false)else(Cj I).bind λx8=>if(!x8)=true then some (x1,0,false)else if(decide (x3<0))=true then some (x1,0,false)else(idx j.aEU x3).bind λJ=>(Au J I).bind λC=>(idx x1.aEU x3).bind λaj=>if(!C.2.2)=true then(kK j).bind λU=>some (U,0,false)else(jU (⟨x1.Name,x1.aER,List.set x1.aEU x3.toNat C.1,x1.aEb⟩:M.aEK)).bind λah=>if(!ah)=true then(kK j).bind λai=>some (ai,0,false)else some ((⟨x1.Name,x1.aER,List.set x1.aEU x3.toNat C.1,x1.aEb⟩:M.aEK),C.2.1,true)
def pD(p0:M.aEK)(I:List M.Op):Nat->Int->ByteArray->Int->List Int->List M.aC->List M.aG->Option (M.aEK×(List Int)×Bool)
 |0,_,_,_,_,_,_=>none
 |ak+1,J,ah,ai,C,U,ae=>if(decide (J<(List.length I:Int)))=true then(idx I J).bind λal=>(Be (⟨ah,ai,U,ae⟩:M.aEK) al).bind λj=>if(!j.2.2)=true then(kK p0).bind λao=>some (ao,([]:List Int),false)else(app 8 C ([j.2.1])).bind λaq=>pD p0 I ak (i64.wrap (J+1)) j.1.Name j.1.aER (C++[j.2.1]) j.1.aEU j.1.aEb else some ((⟨ah,ai,U,ae⟩:M.aEK),C,true)
def uZ(j:M.aEK)(C:List M.Op):Option (M.aEK×(List Int)×Bool):=
 (kK j).bind λx1=>(jU j).bind λI=>if(!I)=true then some (x1,([]:List Int),false)else if(decide ((List.length C:Int)>6))=true then some (x1,([]:List Int),false)else pD j C fuel 0 x1.Name x1.aER ([]:List Int) x1.aEU x1.aEb
def mN(x3:((List (List Int))×Int)):Nat->Int->ByteArray->Int->List M.aC->List M.aG->Option (M.aEK×Int)
 |0,_,_,_,_,_=>none
 |ak+1,C,U,ah,I,J=>if(decide (C<(List.length x3.1:Int)))=true then(idx x3.1 C).bind λal=>(oV al).bind λaj=>if(!aj.2)=true then some ((⟨U,ah,I,J⟩:M.aEK),C)else(uZ (⟨U,ah,I,J⟩:M.aEK) aj.1).bind λj=>mN x3 ak (i64.wrap (C+1)) j.1.Name j.1.aER j.1.aEU j.1.aEb else some ((⟨U,ah,I,J⟩:M.aEK),(List.length x3.1:Int))
def tB(j:M.bK):Option (M.aEK×Int):=
 (kK j.aEe).bind λx1=>(Aj j.Log).bind λx3=>mN x3 fuel 0 x1.Name x1.aER x1.aEU x1.aEb
def zI(j:Int):Option M.Key:=
 some (⟨1,j,(⟨#[]⟩:ByteArray)⟩:M.Key)
def wH(U:M.aEJ)(p1:Int):Option (M.aA×Bool):=
 (tB U.bK).bind λx1=>(kX x1.1 (⟨#[110,111,116,101,115]⟩:ByteArray)).bind λx3=>if(decide (x3<0))=true then some ((⟨([]:List M.Field)⟩:M.aA),false)else(idx x1.1.aEU x3).bind λx6=>(zI p1).bind λC=>(iC x6 C).bind λj=>if(decide (j<0))=true then some ((⟨([]:List M.Field)⟩:M.aA),true)else(idx x6.aEM j).bind λI=>(bY I.aA).bind λJ=>some (J,true)
def vU(j:List Int)(I:Int)(J:List Int):Option ((List Int)×Bool):=
 (app 1 ([]:List Int) j).bind λx1=>(bT j J).bind λx8=>(sR I J).bind λU=>(bU x8 U).bind λC=>if(decide (I<0))=true then some (j,false)else if(decide ((List.length C:Int)>4000))=true then some (j,false)else some (C,true)
def sK(j:M.bK)(I:List M.Op):Option (M.bK×Bool):=
 (rX j).bind λx1=>(tB j).bind λx3=>(uZ x3.1 I).bind λx5=>(oZ I).bind λx7=>if(!x5.2.2)=true then some (x1,false)else if((List.length x7:Int)==0)=true then some (x1,false)else if(x3.2 !=j.aEx)=true then some (x1,false)else(vU j.Log j.aEx x7).bind λC=>if(!C.2)=true then some (x1,false)else some ((⟨x1.aEe,C.1,i64.wrap (j.aEx+1)⟩:M.bK),true)
def cC(j:M.aEL):Nat->Int->Int->Option Bool
 |0,_,_=>none
 |J+1,U,I=>if(decide (I<((3:Nat):Int)))=true then(idx ([j.aE0,j.aEw,j.aEn]) I).bind λC=>(bZ C 0 1000000000000).bind λaf=>if(!af)=true then some false else if(C !=0)=true then if(decide (C<=U))=true then some false else cC j J C (i64.wrap (I+1))else cC j J U (i64.wrap (I+1))else(dK j.aET).bind λah=>some ah
def kA(j:M.aEL):Option Bool:=
 cC j fuel 0 0
def tT(j:M.aEQ):Option Bool:=
 (bZ j.aE8 1 4).bind λx1=>if x1=true then(bZ j.aE5 0 999).bind λx4=>if x4=true then(bZ j.aER 0 1000000000000).bind λx7=>if x7=true then some (decide ((List.length j.aFA:Int)<=60))else some false else some false else some false
def fC(I:List M.aEW)(J:Int)(x5:M.aEW)(C:Int->Option Bool):Nat->Int->Option Bool
 |0,_=>none
 |U+1,j=>if(decide (j<J))=true then(idx I j).bind λah=>if(ah.aET.toList==x5.aET.toList)=true then if(ah.aEy.toList==x5.aEy.toList)=true then some false else fC I J x5 C U (i64.wrap (j+1))else fC I J x5 C U (i64.wrap (j+1))else C j
def dW(j:List M.aEW):Nat->Int->Option Bool
 |0,_=>none
 |I+1,C=>if(decide (C<(List.length j:Int)))=true then(idx j C).bind λx5=>(dK x5.aET).bind λJ=>if(!J)=true then some false else(dK x5.aEy).bind λU=>if(!U)=true then some false else(tT x5.aEQ).bind λai=>if(!ai)=true then some false else fC j C x5 (λ(aa:Int)=>dW j I (i64.wrap (C+1))) fuel 0 else some (decide ((List.length j:Int)<=12))
def nT(j:List M.aEW):Option Bool:=
 dW j fuel 0
def dV(j:M.aP):Nat->Int->Option Bool
 |0,_=>none
 |I+1,C=>if(decide (C<(List.length j.aEV:Int)))=true then(idx j.aEV C).bind λx6=>(bZ x6.aER 1 1000000000000).bind λJ=>if(!J)=true then some false else if(decide (C>0))=true then(idx j.aEV (i64.wrap (C-1))).bind λU=>if(decide (U.aER>=x6.aER))=true then some false else(nT x6.aEa).bind λah=>if(!ah)=true then some false else dV j I (i64.wrap (C+1))else(nT x6.aEa).bind λai=>if(!ai)=true then some false else dV j I (i64.wrap (C+1))else some (decide ((List.length j.aEV:Int)<=4))
def tV(j:M.aP):Option Bool:=
 dV j fuel 0
def nD(j:M.bB):Option Bool:=
 (bZ j.aEd 1 1000000).bind λx1=>if x1=true then(bZ j.Seq 1 1000000).bind λx4=>if x4=true then(eJ j.Key).bind λx7=>if x7=true then(dK j.Field).bind λC=>if C=true then(bZ j.N 0 1000000000).bind λI=>some I else some false else some false else some false else some false
def kG(j:M.aU):Nat->Int->Option Bool
 |0,_=>none
 |J+1,C=>if(decide (C<(List.length j.aEm:Int)))=true then(idx j.aEm C).bind λI=>(nD I).bind λU=>if(!U)=true then some false else if(I.aEd !=j.aEd)=true then some false else if(I.Seq !=(i64.wrap ((i64.wrap (j.aFB-(List.length j.aEm:Int)))+C)))=true then some false else kG j J (i64.wrap (C+1))else some true
def yN(j:M.aU):Option Bool:=
 (bZ j.aEd 1 1000000).bind λx1=>if(!x1)=true then some false else(bZ j.aFB 1 1000000).bind λx4=>if(!x4)=true then some false else if(decide ((List.length j.aEm:Int)>20))=true then some false else kG j fuel 0
def vQ(j:M.aF):Option Bool:=
 (nJ j.aEe).bind λx1=>if x1=true then if(j.aEe.Name.toList==(⟨#[110,111,116,101,115]⟩:ByteArray).toList)=true then(bZ j.aFF 0 1000000000000).bind λx5=>if x5=true then(yN j.aEf.aU).bind λx8=>some x8 else some false else some false else some false
def tC(j:M.aEQ)(C:Bool):Option Int:=
 if C=true then some 76 else some (i64.wrap (16+(List.length j.aFA:Int)))
def hJ(p0:M.aP)(v4:Int)(U:Int->Int->Option Int):Nat->Int->Int->Option Int
 |0,_,_=>none
 |ai+1,C,j=>(idx p0.aEV v4).bind λI=>if(decide (j<(List.length I.aEa:Int)))=true then(idx I.aEa j).bind λJ=>(tC J.aEQ (J.aEQ.aE8==3)).bind λaj=>hJ p0 v4 U ai (i64.wrap (C+aj)) (i64.wrap (j+1))else U C j
def dS(j:M.aP):Nat->Int->Int->Option Int
 |0,_,_=>none
 |U+1,I,C=>if(decide (C<(List.length j.aEV:Int)))=true then hJ j C (λ(J:Int) (ae:Int)=>dS j U J (i64.wrap (C+1))) fuel I 0 else some I
def sU(j:M.aP):Option Int:=
 dS j fuel 0 0
def iN(j:M.aC):Nat->Int->Int->Option Int
 |0,_,_=>none
 |J+1,I,C=>if(decide (C<(List.length j.aEM:Int)))=true then(idx j.aEM C).bind λx7=>(iH x7.Key).bind λU=>(eX x7.aA).bind λaf=>iN j J (i64.wrap ((i64.wrap (I+(List.length U:Int)))+(List.length af:Int))) (i64.wrap (C+1))else some I
def pM(j:M.aC):Option Int:=
 iN j fuel 0 0
def fJ(j:M.aEK):Nat->Int->Int->Option Int
 |0,_,_=>none
 |J+1,I,C=>if(decide (C<(List.length j.aEU:Int)))=true then(idx j.aEU C).bind λx7=>(pM x7).bind λU=>fJ j J (i64.wrap (I+U)) (i64.wrap (C+1))else some I
def oM(j:M.aEK):Option Int:=
 fJ j fuel 0 0
def B3(j:M.bK):Option Int:=
 (oM j.aEe).bind λx1=>some (i64.wrap (x1+(List.length j.Log:Int)))
def AE(j:M.aEJ):Option Int:=
 (sU j.aEV).bind λx1=>(B3 j.bK).bind λx3=>(pM j.aF.aEe).bind λx5=>some (i64.wrap ((i64.wrap ((i64.wrap (x1+x3))+x5))+(i64.wrap (40*(List.length j.aF.aEf.aU.aEm:Int)))))
def mC(j:M.aEJ):Option Bool:=
 (dK j.aET).bind λx1=>if x1=true then(dK j.Top).bind λx4=>if x4=true then(kA j.aEL).bind λx7=>if x7=true then if(j.aEL.aET.toList==j.aET.toList)=true then(tV j.aEV).bind λC=>if C=true then(jU j.bK.aEe).bind λI=>if I=true then(vQ j.aF).bind λJ=>if J=true then(bZ j.aEk 0 1000000000000).bind λU=>if U=true then(AE j).bind λai=>some (decide (ai<=2500))else some false else some false else some false else some false else some false else some false else some false else some false
def mV(j:M.aEJ)(C:M.aEJ):Option (M.aEJ×Bool):=
 (mC j).bind λx1=>if(!x1)=true then(gH j).bind λx4=>some (x4,false)else(mC C).bind λx6=>if(!x6)=true then(gH j).bind λx9=>some (x9,false)else some (C,true)
def rQ(j:M.aEJ)(C:M.bK):Option (M.aEJ×Bool):=
 (gH j).bind λx1=>(rX C).bind λx3=>(mV j (⟨x1.aET,x1.Top,x1.aEL,x1.aEV,x3,x1.aF,x1.aEk,x1.aEg⟩:M.aEJ)).bind λx5=>if x5.2=true then some ((⟨x1.aET,x1.Top,x1.aEL,x1.aEV,x3,x1.aF,x1.aEk,x1.aEg⟩:M.aEJ),true)else some (x5.1,false)
def wR(j:M.aEJ)(C:ByteArray)(I:ByteArray):Option Bool:=
 if(Op.bytesLess j.aET.toList C.toList)=true then some true else if(j.aET.toList==C.toList)=true then some (Op.bytesLess j.Top.toList I.toList)else some false
def eY(j:M.aD):Nat->Int->Option Bool
 |0,_=>none
 |I+1,C=>if(decide (C<(List.length j.aEP:Int)))=true then(idx j.aEP C).bind λx6=>(mC x6).bind λJ=>if(!J)=true then some false else if(decide (C>0))=true then(idx j.aEP (i64.wrap (C-1))).bind λU=>(wR U x6.aET x6.Top).bind λah=>if(!ah)=true then some false else eY j I (i64.wrap (C+1))else eY j I (i64.wrap (C+1))else some (decide ((List.length j.aEP:Int)<=9))
def cK(j:M.aD):Option Bool:=
 eY j fuel 0
def iR(C:M.aD)(I:M.aEJ)(x1:M.aD):Nat->Int->Option (M.aD×Bool)
 |0,_=>none
 |al+1,j=>if(decide (j<(List.length C.aEP:Int)))=true then(idx C.aEP j).bind λao=>(wR ao I.aET I.Top).bind λaq=>if aq=true then iR C I x1 al (i64.wrap (j+1))else(Ek x1.aEP j).bind λbd=>(app 328 ([]:List M.aEJ) (List.take j.toNat x1.aEP)).bind λbf=>(gH I).bind λU=>(app 328 (List.take j.toNat x1.aEP) ([U])).bind λbg=>(app 328 ((List.take j.toNat x1.aEP)++[U]) (List.drop j.toNat x1.aEP)).bind λbh=>(cK C).bind λar=>if(!ar)=true then(eF C).bind λav=>some (av,false)else(cK (⟨((List.take j.toNat x1.aEP)++[U])++(List.drop j.toNat x1.aEP)⟩:M.aD)).bind λaw=>if(!aw)=true then(eF C).bind λaf=>some (af,false)else some ((⟨((List.take j.toNat x1.aEP)++[U])++(List.drop j.toNat x1.aEP)⟩:M.aD),true)else(Ek x1.aEP j).bind λax=>(app 328 ([]:List M.aEJ) (List.take j.toNat x1.aEP)).bind λay=>(gH I).bind λJ=>(app 328 (List.take j.toNat x1.aEP) ([J])).bind λaz=>(app 328 ((List.take j.toNat x1.aEP)++[J]) (List.drop j.toNat x1.aEP)).bind λba=>(cK C).bind λah=>if(!ah)=true then(eF C).bind λai=>some (ai,false)else(cK (⟨((List.take j.toNat x1.aEP)++[J])++(List.drop j.toNat x1.aEP)⟩:M.aD)).bind λaj=>if(!aj)=true then(eF C).bind λak=>some (ak,false)else some ((⟨((List.take j.toNat x1.aEP)++[J])++(List.drop j.toNat x1.aEP)⟩:M.aD),true)
def vE(j:M.aD)(C:M.aEJ):Option (M.aD×Bool):=
 (eF j).bind λx1=>(nZ j C.aET C.Top).bind λx3=>if(decide (x3>=0))=true then(gH C).bind λx6=>(idx x1.aEP x3).bind λx8=>(cK j).bind λI=>if(!I)=true then(eF j).bind λJ=>some (J,false)else(cK (⟨List.set x1.aEP x3.toNat x6⟩:M.aD)).bind λU=>if(!U)=true then(eF j).bind λah=>some (ah,false)else some ((⟨List.set x1.aEP x3.toNat x6⟩:M.aD),true)else iR j C x1 fuel 0
def rG(j:M.World)(C:M.aEJ)(I:Bool):Option (M.World×Bool):=
 (xH j).bind λx1=>(vE j.aD C).bind λx3=>if(!I)=true then some (x1,false)else if(!x3.2)=true then some (x1,false)else some ((⟨x1.Now,x1.aEs,x1.aEd,x3.1,x1.aEq,x1.aEl,x1.aEh,x1.aEY,x1.aEr,x1.aEi⟩:M.World),true)
def vJ(j:M.World)(p1:M.bS)(p2:Int)(p3:ByteArray)(p4:Int):Option (M.World×Bool):=
 (nZ j.aD p1.aET p1.Top).bind λx1=>if(decide (x1<0))=true then(xH j).bind λx4=>some (x4,false)else(idx j.aD.aEP x1).bind λx6=>(wH x6 p2).bind λI=>(oN I.1 p3 p4).bind λJ=>(zI p2).bind λao=>(sK x6.bK ([(⟨1,(⟨#[110,111,116,101,115]⟩:ByteArray),ao,J.1,(⟨#[]⟩:ByteArray)⟩:M.Op)])).bind λU=>(rQ x6 U.1).bind λC=>if I.2=true then if J.2=true then if U.2=true then(rG j C.1 C.2).bind λai=>some (ai.1,ai.2)else(rG j C.1 false).bind λaj=>some (aj.1,aj.2)else(rG j C.1 false).bind λak=>some (ak.1,ak.2)else(rG j C.1 false).bind λal=>some (al.1,al.2)
def dG(j:List Int):Option (List Int):=
 (app 1 ([]:List Int) j).bind λx1=>some j
def oL(j:M.aEQ):Option M.aEQ:=
 (dG j.aFA).bind λx1=>some (⟨j.aE8,j.aE5,j.aER,x1,j.aFE⟩:M.aEQ)
def fE(J:M.aEZ)(U:Int->List M.aEW->Option M.aP):Nat->Int->List M.aEW->Option M.aP
 |0,_,_=>none
 |ak+1,C,I=>if(decide (C<(List.length J.aEa:Int)))=true then(idx J.aEa C).bind λj=>(oL j.aEQ).bind λaj=>(app 88 I ([(⟨j.aET,j.aEy,aj⟩:M.aEW)])).bind λal=>fE J U ak (i64.wrap (C+1)) (I++[(⟨j.aET,j.aEy,aj⟩:M.aEW)])else U C I
def dR(J:M.aP):Nat->Int->List M.aEZ->Option M.aP
 |0,_,_=>none
 |aj+1,C,j=>if(decide (C<(List.length J.aEV:Int)))=true then(idx J.aEV C).bind λI=>fE I (λ(ai:Int) (U:List M.aEW)=>(app 32 j ([(⟨I.aER,U⟩:M.aEZ)])).bind λak=>dR J aj (i64.wrap (C+1)) (j++[(⟨I.aER,U⟩:M.aEZ)])) fuel 0 ([]:List M.aEW)else some (⟨j⟩:M.aP)
def oK(j:M.aP):Option M.aP:=
 dR j fuel 0 ([]:List M.aEZ)
def bJ(j:M.aA):Option M.aA:=
 (app 24 ([]:List M.Field) j.aEN).bind λx1=>some j
def tX(j:M.aES):Option M.aES:=
 (bJ j.aA).bind λx1=>some (⟨j.Key,x1⟩:M.aES)
def iL(j:M.aC):Nat->Int->List M.aES->Option M.aC
 |0,_,_=>none
 |U+1,I,C=>if(decide (I<(List.length j.aEM:Int)))=true then(idx j.aEM I).bind λai=>(tX ai).bind λJ=>(app 56 C ([J])).bind λaj=>iL j U (i64.wrap (I+1)) (C++[J])else some (⟨j.Name,C,j.aEo⟩:M.aC)
def aW(j:M.aC):Option M.aC:=
 iL j fuel 0 ([]:List M.aES)
def fH(j:M.aEK):Nat->Int->List M.aC->Option M.aEK
 |0,_,_=>none
 |U+1,I,C=>if(decide (I<(List.length j.aEU:Int)))=true then(idx j.aEU I).bind λai=>(aW ai).bind λJ=>(app 48 C ([J])).bind λaj=>fH j U (i64.wrap (I+1)) (C++[J])else some (⟨j.Name,j.aER,C,j.aEb⟩:M.aEK)
def cX(j:M.aEK):Option M.aEK:=
 (app 32 ([]:List M.aG) j.aEb).bind λx1=>fH j fuel 0 ([]:List M.aC)
def sZ(j:M.bK):Option M.bK:=
 (cX j.aEe).bind λx1=>(dG j.Log).bind λx3=>some (⟨x1,x3,j.aEx⟩:M.bK)
def tY(j:M.aU):Option M.aU:=
 (app 72 ([]:List M.bB) j.aEm).bind λx1=>some j
def yP(j:M.aEf):Option M.aEf:=
 (tY j.aU).bind λx1=>some (⟨x1,j.aE9,j.aEt⟩:M.aEf)
def rN(j:M.aF):Option M.aF:=
 (aW j.aEe).bind λx1=>(yP j.aEf).bind λx3=>some (⟨x1,j.aFF,x3⟩:M.aF)
def dE(j:M.aEJ):Option M.aEJ:=
 (oK j.aEV).bind λx1=>(sZ j.bK).bind λx3=>(rN j.aF).bind λx5=>some (⟨j.aET,j.Top,j.aEL,x1,x3,x5,j.aEk,j.aEg⟩:M.aEJ)
def fU(I:M.aD):Nat->Int->List M.aEJ->Option M.aD
 |0,_,_=>none
 |U+1,j,C=>if(decide (j<(List.length I.aEP:Int)))=true then(idx I.aEP j).bind λah=>(dE ah).bind λJ=>(app 328 C ([J])).bind λai=>fU I U (i64.wrap (j+1)) (C++[J])else some (⟨C⟩:M.aD)
def cE(j:M.aD):Option M.aD:=
 fU j fuel 0 ([]:List M.aEJ)
def rH(j:M.aEO):Option M.aEO:=
 (app 40 ([]:List M.Instr) j.aEp).bind λx1=>(app 8 ([]:List Int) j.aE3).bind λC=>some j
def yU(j:M.bS):Option M.bS:=
 (app 24 ([]:List M.aK) j.aK).bind λx1=>(rH j.aEO).bind λx9=>some (⟨j.Id,j.aET,j.Top,j.aER,j.aK,x9⟩:M.bS)
def iT(j:List M.bS):Nat->Int->List M.bS->Option (List M.bS)
 |0,_,_=>none
 |U+1,I,C=>if(decide (I<(List.length j:Int)))=true then(idx j I).bind λaf=>(yU af).bind λJ=>(app 144 C ([J])).bind λah=>iT j U (i64.wrap (I+1)) (C++[J])else some C
def vD(j:List M.bS):Option (List M.bS):=
 iT j fuel 0 ([]:List M.bS)
def vG(j:M.aR):Option M.aR:=
 (app 32 ([]:List M.eV) j.aEh).bind λx1=>some j
def rM(j:M.aEY):Option M.aEY:=
 (app 24 ([]:List M.gT) j.aEv).bind λx1=>some j
def yK(j:M.aET):Option M.aET:=
 (app 16 ([]:List ByteArray) j.aE6).bind λx1=>some j
def tK(j:M.aEX):Option M.aEX:=
 (aW j.aC).bind λx1=>(app 16 ([]:List M.aQ) j.aQ).bind λx3=>(app 72 ([]:List M.bB) j.aEu).bind λx5=>some (⟨x1,j.aQ,j.aEu⟩:M.aEX)
def eQ(j:M.World)(x1:M.aD)(x3:(List M.bS))(x5:M.aR)(x7:M.aEY)(J:List M.aET):Nat->Int->List M.aEX->Option M.World
 |0,_,_=>none
 |ai+1,I,C=>if(decide (I<(List.length j.aEi:Int)))=true then(idx j.aEi I).bind λaj=>(tK aj).bind λU=>(app 96 C ([U])).bind λak=>eQ j x1 x3 x5 x7 J ai (i64.wrap (I+1)) (C++[U])else some (⟨j.Now,j.aEs,j.aEd,x1,x3,j.aEl,x5,x7,J,C⟩:M.World)
def gE(j:M.World)(x1:M.aD)(x3:(List M.bS))(x5:M.aR)(x7:M.aEY):Nat->Int->List M.aET->Option M.World
 |0,_,_=>none
 |U+1,I,C=>if(decide (I<(List.length j.aEr:Int)))=true then(idx j.aEr I).bind λai=>(yK ai).bind λJ=>(app 56 C ([J])).bind λaj=>gE j x1 x3 x5 x7 U (i64.wrap (I+1)) (C++[J])else eQ j x1 x3 x5 x7 C fuel 0 ([]:List M.aEX)
def vY(j:M.World):Option M.World:=
 (cE j.aD).bind λx1=>(vD j.aEq).bind λx3=>(vG j.aEh).bind λx5=>(rM j.aEY).bind λx7=>gE j x1 x3 x5 x7 fuel 0 ([]:List M.aET)
def oG(j:M.aEJ)(C:ByteArray)(c1:ByteArray):Option Bool:=
 if(j.aET.toList==C.toList)=true then some (j.Top.toList==c1.toList)else some false
def cN(C:List M.aEJ)(I:M.aEJ->Option Bool):Nat->Int->Option Int
 |0,_=>none
 |J+1,j=>if(decide (j<(List.length C:Int)))=true then(idx C j).bind λx7=>(I x7).bind λU=>if U=true then some j else cN C I J (i64.wrap (j+1))else some (-1)
def iB(j:List M.aEJ)(C:M.aEJ->Option Bool):Option Int:=
 cN j C fuel 0
def nR(j:M.aD)(C:ByteArray)(I:ByteArray):Option Int:=
 (iB j.aEP (λJ=>oG J C I)).bind λx1=>some x1
def BH(j:M.World)(C:ByteArray)(I:ByteArray):Option (M.aEJ×Bool):=
 (nR j.aD C I).bind λx1=>if(decide (x1<0))=true then some ((⟨(⟨#[]⟩:ByteArray),(⟨#[]⟩:ByteArray),(⟨(⟨#[]⟩:ByteArray),0,0,0⟩:M.aEL),(⟨([]:List M.aEZ)⟩:M.aP),(⟨(⟨(⟨#[]⟩:ByteArray),0,([]:List M.aC),([]:List M.aG)⟩:M.aEK),([]:List Int),0⟩:M.bK),(⟨(⟨(⟨#[]⟩:ByteArray),([]:List M.aES),0⟩:M.aC),0,(⟨(⟨0,0,([]:List M.bB)⟩:M.aU),0,0⟩:M.aEf)⟩:M.aF),0,false⟩:M.aEJ),false)else(idx j.aD.aEP x1).bind λx4=>some (x4,true)
def gF(U:List Int)(I:Int):Nat->Int->Int->Option (Int×Int×Bool)
 |0,_,_=>none
 |ae+1,J,j=>if(decide (j<6))=true then if(decide ((i64.wrap (I+j))<(List.length U:Int)))=true then(idx U (i64.wrap (I+j))).bind λC=>if(decide (0<=(i64.wrap (7*j))))=true then if(decide ((i64.wrap C)<128))=true then if(decide (j>0))=true then if((i64.wrap C)==0)=true then some (0,0,false)else if(decide ((i64.wrap (J+(i64.wrap ((Int.tmod (i64.wrap C) 128)*2^(min (i64.wrap (7*j)).toNat IntKind.i64.bits)))))>1000000000000))=true then some (0,0,false)else some (i64.wrap (J+(i64.wrap ((Int.tmod (i64.wrap C) 128)*2^(min (i64.wrap (7*j)).toNat IntKind.i64.bits)))),i64.wrap ((i64.wrap (I+j))+1),true)else if(decide ((i64.wrap (J+(i64.wrap ((Int.tmod (i64.wrap C) 128)*2^(min (i64.wrap (7*j)).toNat IntKind.i64.bits)))))>1000000000000))=true then some (0,0,false)else some (i64.wrap (J+(i64.wrap ((Int.tmod (i64.wrap C) 128)*2^(min (i64.wrap (7*j)).toNat IntKind.i64.bits)))),i64.wrap ((i64.wrap (I+j))+1),true)else gF U I ae (i64.wrap (J+(i64.wrap ((Int.tmod (i64.wrap C) 128)*2^(min (i64.wrap (7*j)).toNat IntKind.i64.bits))))) (i64.wrap (j+1))else none else some (0,0,false)else some (0,0,false)
def eH(C:List Int)(j:Int):Option (Int×Int×Bool):=
 if(decide (j<0))=true then some (0,0,false)else if(decide (j>=(List.length C:Int)))=true then some (0,0,false)else gF C j fuel 0 0
def dD(j:List Int)(C:Int)(I:Int):Option ((List Int)×Int×Bool):=
 (eH j C).bind λx1=>if(!x1.2.2)=true then some (([]:List Int),0,false)else if(decide (x1.1>I))=true then some (([]:List Int),0,false)else if(decide (x1.1>(i64.wrap ((List.length j:Int)-x1.2.1))))=true then some (([]:List Int),0,false)else(Nm j x1.2.1 (i64.wrap (x1.2.1+x1.1))).bind λx6=>(dG (List.drop x1.2.1.toNat (List.take (i64.wrap (x1.2.1+x1.1)).toNat j))).bind λx8=>some (x8,i64.wrap (x1.2.1+x1.1),true)
def gD(C:List Int):Nat->Int->List Int->Option (List Int)
 |0,_,_=>none
 |U+1,j,I=>if(decide (j<(List.length C:Int)))=true then(idx C j).bind λJ=>(app 8 I ([i64.wrap J])).bind λaf=>gD C U (i64.wrap (j+1)) (I++[i64.wrap J])else some I
def rP(j:List Int):Option (List Int):=
 gD j fuel 0 ([(List.length j:Int)])
def bG(j:Int)(C:Int)(I:Int):Option Bool:=
 if(decide (C<=j))=true then some (decide (j<=I))else some false
def En(C:Int)(j:Int):Option Int:=
 (bG j 1 1000000000000).bind λx1=>if(!x1)=true then some 0 else if(decide (j=0))=true then none else if(decide ((Int.tmod C j)<0))=true then some (i64.wrap ((Int.tmod C j)+j))else some (Int.tmod C j)
def sA(j:List Int):Nat->Int->Int->Option Int
 |0,_,_=>none
 |J+1,I,C=>if(decide (C<(List.length j:Int)))=true then(idx j C).bind λx7=>(En x7 2147483647).bind λU=>sA j J (Int.tmod (i64.wrap ((i64.wrap ((i64.wrap (I*1000003))+U))+13)) 2147483647) (i64.wrap (C+1))else some I
def DB(j:List Int):Option Int:=
 sA j fuel 11 0
def uB(j:Int)(C:List Int):Option Int:=
 (rP C).bind λx1=>(app 8 ([101,j]) x1).bind λx3=>(DB ([101,j]++x1)).bind λx5=>some x5
def nV(U:List Int):Nat->Int->List (List Int)->Option ((List (List Int))×Int)
 |0,_,_=>none
 |ah+1,I,j=>(dD U I 4000).bind λC=>if(!C.2.2)=true then some (j,I)else(eH U C.2.1).bind λJ=>if(!J.2.2)=true then some (j,I)else(uB (List.length j:Int) C.1).bind λai=>if(J.1 !=ai)=true then some (j,I)else(app 24 j ([C.1])).bind λaj=>nV U ah J.2.1 (j++[C.1])
def At(j:List Int):Option ((List (List Int))×Int):=
 nV j fuel 0 ([]:List (List Int))
def dN(j:ByteArray):Nat->Int->Option Bool
 |0,_=>none
 |I+1,C=>if(decide (C<(j.size:Int)))=true then(UQ j C).bind λx5=>if(decide ((x5.toNat:Int)>=97))=true then if(decide ((x5.toNat:Int)<=122))=true then dN j I (i64.wrap (C+1))else if(decide ((x5.toNat:Int)>=48))=true then if(!(decide ((x5.toNat:Int)<=57)))=true then some false else dN j I (i64.wrap (C+1))else some false else if(decide ((x5.toNat:Int)>=48))=true then if(!(decide ((x5.toNat:Int)<=57)))=true then some false else dN j I (i64.wrap (C+1))else some false else some (decide ((j.size:Int)<=12))
def vF(j:ByteArray):Option Bool:=
 dN j fuel 0
def fX(j:M.Key):Option Bool:=
 (bG j.aEc 1 3).bind λx1=>if(!x1)=true then some false else(bG j.N (-1000000000000) 1000000000000).bind λx4=>if(!x4)=true then some false else(vF j.aEj).bind λx7=>if(!x7)=true then some false else if(j.aEc==2)=true then if(!(j.N !=0))=true then if(j.aEc==1)=true then some (!(!(j.aEj.toList==(⟨#[]⟩:ByteArray).toList)))else some true else some false else if(j.aEc==1)=true then some (!(!(j.aEj.toList==(⟨#[]⟩:ByteArray).toList)))else some true
def bX(j:M.Key):Nat->Int->List Int->Option (List Int)
 |0,_,_=>none
 |J+1,C,I=>if(decide (C>=0))=true then if(decide (0<=(i64.wrap (8*C))))=true then(app 1 I ([IntKind.u8.wrap (Int.fdiv (i64.wrap (j.N+1000000000000)) (2^(min (i64.wrap (8*C)).toNat IntKind.i64.bits)))])).bind λU=>bX j J (i64.wrap (C-1)) (I++[IntKind.u8.wrap (Int.fdiv (i64.wrap (j.N+1000000000000)) (2^(min (i64.wrap (8*C)).toNat IntKind.i64.bits)))])else none else(app 1 I (bC j.aEj)).bind λah=>some (I++bC j.aEj)
def gJ(j:M.Key):Option (List Int):=
 (fX j).bind λx1=>if(!x1)=true then some ([]:List Int)else if(j.aEc !=2)=true then bX j fuel 5 ([IntKind.u8.wrap j.aEc])else(app 1 ([IntKind.u8.wrap j.aEc]) (bC j.aEj)).bind λC=>some ([IntKind.u8.wrap j.aEc]++bC j.aEj)
def hZ(C:List Int)(I:List Int):Nat->Int->Option Bool
 |0,_=>none
 |J+1,j=>if(decide (j<(List.length C:Int)))=true then(idx C j).bind λx8=>(idx I j).bind λU=>if(x8 !=U)=true then some false else hZ C I J (i64.wrap (j+1))else some true
def oO(j:List Int)(C:List Int):Option Bool:=
 if((List.length j:Int) !=(List.length C:Int))=true then some false else hZ j C fuel 0
def iY(j:List Int)(C:List Int):Option Bool:=
 (oO j C).bind λx1=>some x1
def iM(j:List Int)(x2:Int):Nat->Int->Int->Option (M.Key×Bool)
 |0,_,_=>none
 |I+1,C,v30=>if(decide (v30<(List.length (List.take (6:Int).toNat (List.drop (1:Int).toNat j)):Int)))=true then(idx (List.take (6:Int).toNat (List.drop (1:Int).toNat j)) v30).bind λJ=>iM j x2 I (i64.wrap ((i64.wrap (C*2^(min (8:Int).toNat IntKind.i64.bits)))+(i64.wrap J))) (i64.wrap (v30+1))else(B4 (List.drop (1:Int).toNat j) 6).bind λai=>(toStr (List.drop (6:Int).toNat (List.drop (1:Int).toNat j))).bind λaj=>(gJ (⟨i64.wrap x2,i64.wrap (C-1000000000000),aY (List.drop (6:Int).toNat (List.drop (1:Int).toNat j))⟩:M.Key)).bind λU=>(iY U j).bind λah=>if(!ah)=true then some ((⟨0,0,(⟨#[]⟩:ByteArray)⟩:M.Key),false)else some ((⟨i64.wrap x2,i64.wrap (C-1000000000000),aY (List.drop (6:Int).toNat (List.drop (1:Int).toNat j))⟩:M.Key),true)
def pR(j:List Int):Option (M.Key×Bool):=
 if((List.length j:Int)==0)=true then some ((⟨0,0,(⟨#[]⟩:ByteArray)⟩:M.Key),false)else(idx j 0).bind λx2=>(B4 j 1).bind λx7=>if((i64.wrap x2) !=2)=true then if(decide ((List.length (List.drop (1:Int).toNat j):Int)<6))=true then some ((⟨0,0,(⟨#[]⟩:ByteArray)⟩:M.Key),false)else(Ek (List.drop (1:Int).toNat j) 6).bind λJ=>iM j x2 fuel 0 0 else(toStr (List.drop (1:Int).toNat j)).bind λU=>(gJ (⟨i64.wrap x2,0,aY (List.drop (1:Int).toNat j)⟩:M.Key)).bind λC=>(iY C j).bind λI=>if(!I)=true then some ((⟨0,0,(⟨#[]⟩:ByteArray)⟩:M.Key),false)else some ((⟨i64.wrap x2,0,aY (List.drop (1:Int).toNat j)⟩:M.Key),true)
def gK(j:ByteArray)(J:Int)(C:Bool):Nat->Int->Option Bool
 |0,_=>none
 |U+1,I=>if(decide (I<(j.size:Int)))=true then(UQ j I).bind λx7=>if(decide ((x7.toNat:Int)>=97))=true then if(decide ((x7.toNat:Int)<=122))=true then gK j J C U (i64.wrap (I+1))else if C=true then if(!((x7.toNat:Int)==47))=true then some false else gK j J C U (i64.wrap (I+1))else some false else if C=true then if(!((x7.toNat:Int)==47))=true then some false else gK j J C U (i64.wrap (I+1))else some false else(bG (j.size:Int) 1 J).bind λae=>some ae
def Bz(j:ByteArray)(C:Int)(I:Bool):Option Bool:=
 gK j C I fuel 0
def cR(j:ByteArray):Option Bool:=
 (Bz j 8 false).bind λx1=>some x1
def fS(j:M.aA):Nat->Int->Option Bool
 |0,_=>none
 |I+1,C=>if(decide (C<(List.length j.aEN:Int)))=true then(idx j.aEN C).bind λx8=>(cR x8.Name).bind λU=>if(!U)=true then some false else(bG x8.N 0 1000000000).bind λah=>if(!ah)=true then some false else if(decide (C>0))=true then(idx j.aEN (i64.wrap (C-1))).bind λJ=>if(Op.bytesLess x8.Name.toList J.Name.toList||x8.Name.toList==J.Name.toList)=true then some false else fS j I (i64.wrap (C+1))else fS j I (i64.wrap (C+1))else some (decide ((List.length j.aEN:Int)<=6))
def cD(j:M.aA):Option Bool:=
 fS j fuel 0
def cF  :Nat->Int->List Int->Option (List Int)
 |0,_,_=>none
 |I+1,j,C=>if(decide (j>=128))=true then(app 1 C ([IntKind.u8.wrap (i64.wrap ((Int.tmod j 128)+128))])).bind λJ=>cF I (i64.wrap (Int.tdiv j 128)) (C++[IntKind.u8.wrap (i64.wrap ((Int.tmod j 128)+128))])else(app 1 C ([IntKind.u8.wrap j])).bind λU=>some (C++[IntKind.u8.wrap j])
def cA(C:List Int)(j:Int):Option (List Int):=
 (dG C).bind λx1=>(bG j 0 1000000000000).bind λx3=>if(!x3)=true then some x1 else cF fuel j x1
def fQ(C:List Int)(j:List Int):Option (List Int):=
 (cA C (List.length j:Int)).bind λx1=>(app 1 x1 j).bind λx3=>some (x1++j)
def cJ(C:M.aA):Nat->Int->List Int->Option (List Int)
 |0,_,_=>none
 |U+1,j,I=>if(decide (j<(List.length C.aEN:Int)))=true then(idx C.aEN j).bind λJ=>(fQ I (bC J.Name)).bind λai=>(cA ai J.N).bind λaj=>cJ C U (i64.wrap (j+1)) aj else some I
def eP(j:M.aA):Option (List Int):=
 (cD j).bind λx1=>if(!x1)=true then some ([]:List Int)else(cA ([]:List Int) (List.length j.aEN:Int)).bind λx4=>cJ j fuel 0 x4
def fI(J:List Int)(x1:(Int×Int×Bool)):Nat->Int->Int->List M.Field->Option (M.aA×Bool)
 |0,_,_,_=>none
 |ah+1,v5,U,C=>if(decide (U<x1.1))=true then(dD J v5 8).bind λj=>(eH J j.2.1).bind λI=>if(!j.2.2)=true then some ((⟨([]:List M.Field)⟩:M.aA),false)else if(!I.2.2)=true then some ((⟨([]:List M.Field)⟩:M.aA),false)else(toStr j.1).bind λak=>(app 24 C ([(⟨aY j.1,I.1⟩:M.Field)])).bind λal=>fI J x1 ah I.2.1 (i64.wrap (U+1)) (C++[(⟨aY j.1,I.1⟩:M.Field)])else(eP (⟨C⟩:M.aA)).bind λai=>(iY ai J).bind λaj=>if(!aj)=true then some ((⟨([]:List M.Field)⟩:M.aA),false)else some ((⟨C⟩:M.aA),true)
def lM(j:List Int):Option (M.aA×Bool):=
 (eH j 0).bind λx1=>if(!x1.2.2)=true then some ((⟨([]:List M.Field)⟩:M.aA),false)else if(decide (x1.1>6))=true then some ((⟨([]:List M.Field)⟩:M.aA),false)else fI j x1 fuel x1.2.1 0 ([]:List M.Field)
def Cg(j:M.Op):Option Bool:=
 (bG j.aEc 1 6).bind λx1=>if(!x1)=true then some false else(cR j.aC).bind λx4=>if(!x4)=true then some false else if(j.aEc !=5)=true then(fX j.Key).bind λx8=>if(!x8)=true then some false else(cD j.aA).bind λC=>if(!C)=true then some false else if(j.aEc==6)=true then(cR j.Field).bind λI=>some I else some (j.Field.toList==(⟨#[]⟩:ByteArray).toList)else(cD j.aA).bind λJ=>if(!J)=true then some false else if(j.aEc==6)=true then(cR j.Field).bind λU=>some U else some (j.Field.toList==(⟨#[]⟩:ByteArray).toList)
def pL(j:List M.Op):Nat->Int->Option Bool
 |0,_=>none
 |I+1,C=>if(decide (C<(List.length j:Int)))=true then(idx j C).bind λx7=>(Cg x7).bind λJ=>if(!J)=true then some false else pL j I (i64.wrap (C+1))else some (decide ((List.length j:Int)<=6))
def BC(j:List M.Op):Option Bool:=
 pL j fuel 0
def eW(C:M.Op)(J:(List Int))(U:(List Int))(aj:Int->List Int->Option (List Int)):Nat->Int->List Int->Option (List Int)
 |0,_,_=>none
 |ak+1,j,I=>if(decide (j<((4:Nat):Int)))=true then(idx ([bC C.aC,J,U,bC C.Field]) j).bind λal=>(fQ I al).bind λao=>eW C J U aj ak (i64.wrap (j+1)) ao else aj j I
def dP(I:List M.Op):Nat->Int->List Int->Option (List Int)
 |0,_,_=>none
 |aj+1,C,J=>if(decide (C<(List.length I:Int)))=true then(idx I C).bind λj=>(cA J j.aEc).bind λak=>(gJ j.Key).bind λal=>(eP j.aA).bind λao=>eW j al ao (λ(ai:Int) (U:List Int)=>dP I aj (i64.wrap (C+1)) U) fuel 0 ak else some J
def pT(j:List M.Op):Option (List Int):=
 (BC j).bind λx1=>if(!x1)=true then some ([]:List Int)else(cA ([]:List Int) (List.length j:Int)).bind λx4=>dP j fuel 0 x4
def eS(j:List Int)(x1:(Int×Int×Bool)):Nat->Int->Int->List M.Op->Option ((List M.Op)×Bool)
 |0,_,_,_=>none
 |ar+1,v5,v8,J=>if(decide (v8<x1.1))=true then(eH j v5).bind λU=>if U.2.2=true then(dD j U.2.1 (List.length j:Int)).bind λC=>if C.2.2=true then(dD j C.2.1 (List.length j:Int)).bind λak=>if ak.2.2=true then(dD j ak.2.1 (List.length j:Int)).bind λal=>if al.2.2=true then(dD j al.2.1 (List.length j:Int)).bind λI=>if(!I.2.2)=true then some (([]:List M.Op),false)else(toStr C.1).bind λav=>(pR ak.1).bind λaf=>(lM al.1).bind λah=>(toStr I.1).bind λaw=>(app 96 J ([(⟨U.1,aY C.1,af.1,ah.1,aY I.1⟩:M.Op)])).bind λax=>eS j x1 ar I.2.1 (i64.wrap (v8+1)) (J++[(⟨U.1,aY C.1,af.1,ah.1,aY I.1⟩:M.Op)])else some (([]:List M.Op),false)else some (([]:List M.Op),false)else some (([]:List M.Op),false)else some (([]:List M.Op),false)else(pT J).bind λao=>(iY ao j).bind λaq=>if(!aq)=true then some (([]:List M.Op),false)else some (J,true)
def pK(j:List Int):Option ((List M.Op)×Bool):=
 (eH j 0).bind λx1=>if(!x1.2.2)=true then some (([]:List M.Op),false)else if(decide (x1.1>6))=true then some (([]:List M.Op),false)else eS j x1 fuel x1.2.1 0 ([]:List M.Op)
def pW(j:Int)(C:Int):Option Int:=
 if(decide (j<C))=true then some (-1)else if(decide (j>C))=true then some 1 else some 0
def lD(j:ByteArray)(C:ByteArray):Option Int:=some (Lib.compareBytes j.data.toList C.data.toList)
def zD(j:ByteArray)(C:ByteArray):Option Int:=
 (lD j C).bind λx1=>some x1
def dI(j:M.Key)(C:M.Key):Option Int:=
 (fX j).bind λx1=>if(!x1)=true then some 0 else(fX C).bind λx4=>if(!x4)=true then some 0 else(pW j.aEc C.aEc).bind λx7=>if(x7 !=0)=true then some x7 else(pW j.N C.N).bind λI=>if(I !=0)=true then some I else(zD j.aEj C.aEj).bind λJ=>some J
def gS(j:M.aC):Nat->Int->Option Bool
 |0,_=>none
 |I+1,C=>if(decide (C<(List.length j.aEM:Int)))=true then(idx j.aEM C).bind λx8=>(fX x8.Key).bind λJ=>if(!J)=true then some false else(cD x8.aA).bind λU=>if(!U)=true then some false else if(decide (C>0))=true then(idx j.aEM (i64.wrap (C-1))).bind λah=>(dI ah.Key x8.Key).bind λai=>if(decide (ai>=0))=true then some false else gS j I (i64.wrap (C+1))else gS j I (i64.wrap (C+1))else(cR j.Name).bind λaj=>if aj=true then if(decide ((List.length j.aEM:Int)<=16))=true then(bG j.aEo 0 1000000).bind λak=>some ak else some false else some false
def bN(j:M.aC):Option Bool:=
 gS j fuel 0
def pZ(C:M.aC)(j:ByteArray):Option Bool:=
 some (C.Name.toList==j.toList)
def cY(C:List M.aC)(I:M.aC->Option Bool):Nat->Int->Option Int
 |0,_=>none
 |J+1,j=>if(decide (j<(List.length C:Int)))=true then(idx C j).bind λx7=>(I x7).bind λU=>if U=true then some j else cY C I J (i64.wrap (j+1))else some (-1)
def jV(j:List M.aC)(C:M.aC->Option Bool):Option Int:=
 cY j C fuel 0
def kY(j:M.aEK)(C:ByteArray):Option Int:=
 (jV j.aEU (λI=>pZ I C)).bind λx1=>some x1
def dB(C:List M.aG)(I:M.aG):Nat->Int->Option Int
 |0,_=>none
 |J+1,j=>if(decide (j<(List.length C:Int)))=true then(idx C j).bind λx8=>if((I.aC.toList==x8.aC.toList)&&(I.Field.toList==x8.Field.toList))=true then some j else dB C I J (i64.wrap (j+1))else some (-1)
def kI(j:List M.aG)(C:M.aG):Option Int:=
 dB j C fuel 0
def gU(j:List M.aG)(C:M.aG):Option Bool:=
 (kI j C).bind λx1=>some (decide (x1>=0))
def oS(C:M.Field)(j:ByteArray):Option Bool:=
 some (C.Name.toList==j.toList)
def cV(C:List M.Field)(I:M.Field->Option Bool):Nat->Int->Option Int
 |0,_=>none
 |J+1,j=>if(decide (j<(List.length C:Int)))=true then(idx C j).bind λx7=>(I x7).bind λU=>if U=true then some j else cV C I J (i64.wrap (j+1))else some (-1)
def jZ(j:List M.Field)(C:M.Field->Option Bool):Option Int:=
 cV j C fuel 0
def xF(j:M.aA)(C:ByteArray):Option Int:=
 (jZ j.aEN (λI=>oS I C)).bind λx1=>some x1
def fW(j:M.aA)(C:ByteArray):Option (Int×Bool):=
 (xF j C).bind λx1=>if(decide (x1<0))=true then some (0,false)else(idx j.aEN x1).bind λx4=>some (x4.N,true)
def rF(j:M.aES)(C:M.aES)(I:ByteArray):Option Bool:=
 (fW j.aA I).bind λx1=>(fW C.aA I).bind λx3=>if(decide (x1.1<x3.1))=true then some true else if(x1.1==x3.1)=true then(dI j.Key C.Key).bind λx7=>some (decide (x7<0))else some false
def lQ(U:ByteArray)(I:List M.aES)(J:M.aES)(C:Int->Option (List M.aES)):Nat->Int->Option (List M.aES)
 |0,_=>none
 |ai+1,j=>if(decide (j>0))=true then(idx I (i64.wrap (j-1))).bind λaj=>(rF J aj U).bind λak=>if ak=true then lQ U I J C ai (i64.wrap (j-1))else C j else C j
def jS(I:M.aC)(J:ByteArray):Nat->Int->List M.aES->Option (List M.aES)
 |0,_,_=>none
 |ai+1,C,j=>if(decide (C<(List.length I.aEM:Int)))=true then(idx I.aEM C).bind λah=>(fW ah.aA J).bind λak=>if(!ak.2)=true then jS I J ai (i64.wrap (C+1)) j else lQ J j ah (λ(U:Int)=>(tX ah).bind λaj=>(HM 56 j U ([aj])).bind λal=>jS I J ai (i64.wrap (C+1)) (List.take U.toNat j++([aj]++List.drop U.toNat j))) fuel (List.length j:Int)else some j
def Am(j:M.aC)(C:ByteArray):Option (List M.aES):=
 jS j C fuel 0 ([]:List M.aES)
def eK(C:ByteArray)(x1:(List M.aES)):Nat->Int->Option (M.Key×M.Key×Bool)
 |0,_=>none
 |U+1,j=>if(decide (j<(List.length x1:Int)))=true then(idx x1 (i64.wrap (j-1))).bind λI=>(fW I.aA C).bind λah=>(idx x1 j).bind λJ=>(fW J.aA C).bind λai=>if(ah.1==ai.1)=true then some (I.Key,J.Key,true)else eK C x1 U (i64.wrap (j+1))else some ((⟨0,0,(⟨#[]⟩:ByteArray)⟩:M.Key),(⟨0,0,(⟨#[]⟩:ByteArray)⟩:M.Key),false)
def hU(C:M.aC)(j:ByteArray):Option (M.Key×M.Key×Bool):=
 (Am C j).bind λx1=>eK j x1 fuel 1
def eB(j:M.aEK):Nat->Int->Option Bool
 |0,_=>none
 |U+1,C=>if(decide (C<(List.length j.aEb:Int)))=true then(idx j.aEb C).bind λI=>(kY j I.aC).bind λJ=>if(decide (J<0))=true then some false else(cR I.Field).bind λai=>if(!ai)=true then some false else(Ek j.aEb C).bind λao=>(gU (List.take C.toNat j.aEb) I).bind λaj=>if aj=true then some false else(idx j.aEU J).bind λak=>(hU ak I.Field).bind λal=>if al.2.2=true then some false else eB j U (i64.wrap (C+1))else some true
def dX(C:M.aEK):Nat->Int->Option Bool
 |0,_=>none
 |J+1,j=>if(decide (j<(List.length C.aEU:Int)))=true then(idx C.aEU j).bind λI=>(bN I).bind λai=>if(!ai)=true then some false else if(decide (j>0))=true then(idx C.aEU (i64.wrap (j-1))).bind λU=>if(Op.bytesLess I.Name.toList U.Name.toList||I.Name.toList==U.Name.toList)=true then some false else dX C J (i64.wrap (j+1))else dX C J (i64.wrap (j+1))else eB C fuel 0
def jR(j:M.aEK):Option Bool:=
 (cR j.Name).bind λx1=>if(!x1)=true then some false else(bG j.aER 0 1000).bind λx4=>if(!x4)=true then some false else if(decide ((List.length j.aEU:Int)>4))=true then some false else if(decide ((List.length j.aEb:Int)>4))=true then some false else dX j fuel 0
def uG(C:M.aES)(j:M.Key):Option Bool:=
 some ((C.Key.aEc==j.aEc)&&((C.Key.N==j.N)&&(C.Key.aEj.toList==j.aEj.toList)))
def dC(C:List M.aES)(I:M.aES->Option Bool):Nat->Int->Option Int
 |0,_=>none
 |J+1,j=>if(decide (j<(List.length C:Int)))=true then(idx C j).bind λx7=>(I x7).bind λU=>if U=true then some j else dC C I J (i64.wrap (j+1))else some (-1)
def gP(j:List M.aES)(C:M.aES->Option Bool):Option Int:=
 dC j C fuel 0
def kJ(j:M.aC)(C:M.Key):Option Int:=
 (gP j.aEM (λI=>uG I C)).bind λx1=>some x1
def lL(p0:M.aC)(I:M.Key)(p2:M.aA)(C:M.aC):Nat->Int->Option (M.aC×Bool)
 |0,_=>none
 |av+1,j=>if(decide (j<(List.length C.aEM:Int)))=true then(idx C.aEM j).bind λaw=>(dI aw.Key I).bind λax=>if(decide (ax<0))=true then lL p0 I p2 C av (i64.wrap (j+1))else(bJ p2).bind λJ=>(HM 56 C.aEM j ([(⟨I,J⟩:M.aES)])).bind λbl=>if(I.aEc==1)=true then if(decide (I.N>C.aEo))=true then if(decide (I.N<=1000000))=true then(bN (⟨C.Name,List.take j.toNat C.aEM++([(⟨I,J⟩:M.aES)]++List.drop j.toNat C.aEM),I.N⟩:M.aC)).bind λay=>if(!ay)=true then(aW p0).bind λaz=>some (az,false)else some ((⟨C.Name,List.take j.toNat C.aEM++([(⟨I,J⟩:M.aES)]++List.drop j.toNat C.aEM),I.N⟩:M.aC),true)else(bN (⟨C.Name,List.take j.toNat C.aEM++([(⟨I,J⟩:M.aES)]++List.drop j.toNat C.aEM),C.aEo⟩:M.aC)).bind λba=>if(!ba)=true then(aW p0).bind λbd=>some (bd,false)else some ((⟨C.Name,List.take j.toNat C.aEM++([(⟨I,J⟩:M.aES)]++List.drop j.toNat C.aEM),C.aEo⟩:M.aC),true)else(bN (⟨C.Name,List.take j.toNat C.aEM++([(⟨I,J⟩:M.aES)]++List.drop j.toNat C.aEM),C.aEo⟩:M.aC)).bind λbf=>if(!bf)=true then(aW p0).bind λbg=>some (bg,false)else some ((⟨C.Name,List.take j.toNat C.aEM++([(⟨I,J⟩:M.aES)]++List.drop j.toNat C.aEM),C.aEo⟩:M.aC),true)else(bN (⟨C.Name,List.take j.toNat C.aEM++([(⟨I,J⟩:M.aES)]++List.drop j.toNat C.aEM),C.aEo⟩:M.aC)).bind λbh=>if(!bh)=true then(aW p0).bind λbj=>some (bj,false)else some ((⟨C.Name,List.take j.toNat C.aEM++([(⟨I,J⟩:M.aES)]++List.drop j.toNat C.aEM),C.aEo⟩:M.aC),true)else(bJ p2).bind λU=>(HM 56 C.aEM j ([(⟨I,U⟩:M.aES)])).bind λbm=>if(I.aEc==1)=true then if(decide (I.N>C.aEo))=true then if(decide (I.N<=1000000))=true then(bN (⟨C.Name,List.take j.toNat C.aEM++([(⟨I,U⟩:M.aES)]++List.drop j.toNat C.aEM),I.N⟩:M.aC)).bind λah=>if(!ah)=true then(aW p0).bind λai=>some (ai,false)else some ((⟨C.Name,List.take j.toNat C.aEM++([(⟨I,U⟩:M.aES)]++List.drop j.toNat C.aEM),I.N⟩:M.aC),true)else(bN (⟨C.Name,List.take j.toNat C.aEM++([(⟨I,U⟩:M.aES)]++List.drop j.toNat C.aEM),C.aEo⟩:M.aC)).bind λaj=>if(!aj)=true then(aW p0).bind λak=>some (ak,false)else some ((⟨C.Name,List.take j.toNat C.aEM++([(⟨I,U⟩:M.aES)]++List.drop j.toNat C.aEM),C.aEo⟩:M.aC),true)else(bN (⟨C.Name,List.take j.toNat C.aEM++([(⟨I,U⟩:M.aES)]++List.drop j.toNat C.aEM),C.aEo⟩:M.aC)).bind λal=>if(!al)=true then(aW p0).bind λao=>some (ao,false)else some ((⟨C.Name,List.take j.toNat C.aEM++([(⟨I,U⟩:M.aES)]++List.drop j.toNat C.aEM),C.aEo⟩:M.aC),true)else(bN (⟨C.Name,List.take j.toNat C.aEM++([(⟨I,U⟩:M.aES)]++List.drop j.toNat C.aEM),C.aEo⟩:M.aC)).bind λaq=>if(!aq)=true then(aW p0).bind λar=>some (ar,false)else some ((⟨C.Name,List.take j.toNat C.aEM++([(⟨I,U⟩:M.aES)]++List.drop j.toNat C.aEM),C.aEo⟩:M.aC),true)
def nN(C:M.aC)(J:M.Key)(p2:M.aA):Option (M.aC×Bool):=
 (bN C).bind λx1=>if(!x1)=true then(aW C).bind λx4=>some (x4,false)else(fX J).bind λx6=>if(!x6)=true then(aW C).bind λx9=>some (x9,false)else(aW C).bind λj=>(kJ C J).bind λI=>if(decide (I>=0))=true then(bJ p2).bind λU=>(idx j.aEM I).bind λah=>(bN (⟨j.Name,List.set j.aEM I.toNat (⟨ah.Key,U⟩:M.aES),j.aEo⟩:M.aC)).bind λai=>if(!ai)=true then(aW C).bind λaj=>some (aj,false)else some ((⟨j.Name,List.set j.aEM I.toNat (⟨ah.Key,U⟩:M.aES),j.aEo⟩:M.aC),true)else lL C J p2 j fuel 0
def AB(j:M.aC)(C:M.Key)(I:M.aA):Option (M.aC×Bool):=
 (kJ j C).bind λx1=>if(decide (x1>=0))=true then(aW j).bind λx4=>some (x4,false)else(nN j C I).bind λx6=>some (x6.1,x6.2)
def vK(C:M.Key)(j:M.cP):Option Bool:=
 (fX C).bind λx1=>if(!x1)=true then some false else if j.aFD=true then(fX j.Low).bind λx5=>if(!x5)=true then some false else if j.aE1=true then(fX j.aE7).bind λx9=>if(!x9)=true then some false else(dI C j.Low).bind λI=>if(!(decide (I<0)))=true then(dI C j.aE7).bind λJ=>some (!(decide (J>0)))else some false else(dI C j.Low).bind λU=>if(!(decide (U<0)))=true then some true else some false else if j.aE1=true then(fX j.aE7).bind λah=>if(!ah)=true then some false else(dI C j.aE7).bind λai=>some (!(decide (ai>0)))else some true
def gX(C:M.aES)(j:M.cP):Option Bool:=
 (vK C.Key j).bind λx1=>some x1
def dL(J:M.aC)(U:M.cP)(x1:M.aC):Nat->Int->Int->List M.aES->Option (M.aC×Int)
 |0,_,_,_=>none
 |aa+1,C,I,j=>if(decide (I<(List.length j:Int)))=true then(idx j I).bind λae=>(gX ae U).bind λaf=>if(!af)=true then(idx j C).bind λah=>dL J U x1 aa (i64.wrap (C+1)) (i64.wrap (I+1)) (List.set j C.toNat ae)else dL J U x1 aa C (i64.wrap (I+1)) j else(B4 j C).bind λai=>some ((⟨x1.Name,List.take C.toNat j,x1.aEo⟩:M.aC),i64.wrap ((List.length J.aEM:Int)-(List.length (List.take C.toNat j):Int)))
def mI(j:M.aC)(I:M.cP):Option (M.aC×Int):=
 (aW j).bind λx1=>(bN j).bind λx3=>if(!x3)=true then some (x1,0)else(gP x1.aEM (λJ=>gX J I)).bind λC=>if(C==(-1))=true then some (x1,i64.wrap ((List.length j.aEM:Int)-(List.length x1.aEM:Int)))else dL j I x1 fuel C (i64.wrap (C+1)) x1.aEM
def kM(I:M.aA)(C:ByteArray)(J:Int)(x1:M.aA):Nat->Int->Option (M.aA×Bool)
 |0,_=>none
 |U+1,j=>if(decide (j<(List.length x1.aEN:Int)))=true then(idx x1.aEN j).bind λae=>if(Op.bytesLess ae.Name.toList C.toList)=true then kM I C J x1 U (i64.wrap (j+1))else(HM 24 x1.aEN j ([(⟨C,J⟩:M.Field)])).bind λar=>(cD I).bind λaf=>if(!af)=true then(bJ I).bind λah=>some (ah,false)else(cD (⟨List.take j.toNat x1.aEN++([(⟨C,J⟩:M.Field)]++List.drop j.toNat x1.aEN)⟩:M.aA)).bind λai=>if(!ai)=true then(bJ I).bind λaj=>some (aj,false)else some ((⟨List.take j.toNat x1.aEN++([(⟨C,J⟩:M.Field)]++List.drop j.toNat x1.aEN)⟩:M.aA),true)else(HM 24 x1.aEN j ([(⟨C,J⟩:M.Field)])).bind λav=>(cD I).bind λak=>if(!ak)=true then(bJ I).bind λal=>some (al,false)else(cD (⟨List.take j.toNat x1.aEN++([(⟨C,J⟩:M.Field)]++List.drop j.toNat x1.aEN)⟩:M.aA)).bind λao=>if(!ao)=true then(bJ I).bind λaq=>some (aq,false)else some ((⟨List.take j.toNat x1.aEN++([(⟨C,J⟩:M.Field)]++List.drop j.toNat x1.aEN)⟩:M.aA),true)
def oD(j:M.aA)(I:ByteArray)(C:Int):Option (M.aA×Bool):=
 (bJ j).bind λx1=>(xF j I).bind λx3=>if(decide (x3>=0))=true then(idx x1.aEN x3).bind λx6=>(cD j).bind λJ=>if(!J)=true then(bJ j).bind λU=>some (U,false)else(cD (⟨List.set x1.aEN x3.toNat (⟨x6.Name,C⟩:M.Field)⟩:M.aA)).bind λaf=>if(!af)=true then(bJ j).bind λah=>some (ah,false)else some ((⟨List.set x1.aEN x3.toNat (⟨x6.Name,C⟩:M.Field)⟩:M.aA),true)else kM j I C x1 fuel 0
def DC(C:M.aC)(j:M.Op):Option (M.aC×Int×Bool):=
 (kJ C j.Key).bind λx1=>if(j.aEc==1)=true then(nN C j.Key j.aA).bind λx4=>some (x4.1,1,x4.2)else if(j.aEc==2)=true then(AB C j.Key j.aA).bind λx7=>some (x7.1,1,x7.2)else if(j.aEc==3)=true then(mI C (⟨true,true,j.Key,j.Key⟩:M.cP)).bind λI=>some (I.1,I.2,true)else if(j.aEc==5)=true then(mI C (⟨false,false,(⟨0,0,(⟨#[]⟩:ByteArray)⟩:M.Key),(⟨0,0,(⟨#[]⟩:ByteArray)⟩:M.Key)⟩:M.cP)).bind λJ=>some (J.1,J.2,true)else if(j.aEc==4)=true then if(decide (x1<0))=true then some (C,-1,true)else(idx C.aEM x1).bind λaq=>some (C,(List.length aq.aA.aEN:Int),true)else if(decide (x1>=0))=true then(idx C.aEM x1).bind λU=>(fW U.aA j.Field).bind λah=>(oD U.aA j.Field (i64.wrap (ah.1+1))).bind λai=>if(!ai.2)=true then some (C,0,false)else(nN C j.Key ai.1).bind λaj=>some (aj.1,i64.wrap (ah.1+1),aj.2)else(fW (⟨([]:List M.Field)⟩:M.aA) j.Field).bind λak=>(oD (⟨([]:List M.Field)⟩:M.aA) j.Field (i64.wrap (ak.1+1))).bind λal=>if(!al.2)=true then some (C,0,false)else(nN C j.Key al.1).bind λao=>some (ao.1,i64.wrap (ak.1+1),ao.2)
def Bg(j:M.aEK)(I:M.Op):Option (M.aEK×Int×Bool):=
 (cX j).bind λx1=>(kY j I.aC).bind λx3=>(jR j).bind λx5=>if(!x5)=true then some (x1,0,false)else(Cg I).bind λx8=>if(!x8)=true then some (x1,0,false)else if(decide (x3<0))=true then some (x1,0,false)else(idx x1.aEU x3).bind λJ=>(DC J I).bind λC=>if(!C.2.2)=true then(cX j).bind λU=>some (U,0,false)else(jR (⟨x1.Name,x1.aER,List.set x1.aEU x3.toNat C.1,x1.aEb⟩:M.aEK)).bind λah=>if(!ah)=true then(cX j).bind λai=>some (ai,0,false)else some ((⟨x1.Name,x1.aER,List.set x1.aEU x3.toNat C.1,x1.aEb⟩:M.aEK),C.2.1,true)
def mR(p0:M.aEK)(J:List M.Op):Nat->Int->ByteArray->Int->List Int->List M.aC->List M.aG->Option (M.aEK×(List Int)×Bool)
 |0,_,_,_,_,_,_=>none
 |al+1,C,U,af,I,ah,ai=>if(decide (C<(List.length J:Int)))=true then(idx J C).bind λao=>(Bg (⟨U,af,ah,ai⟩:M.aEK) ao).bind λj=>if(!j.2.2)=true then(cX p0).bind λaq=>some (aq,([]:List Int),false)else(app 8 I ([j.2.1])).bind λar=>mR p0 J al (i64.wrap (C+1)) j.1.Name j.1.aER (I++[j.2.1]) j.1.aEU j.1.aEb else some ((⟨U,af,ah,ai⟩:M.aEK),I,true)
def uL(j:M.aEK)(C:List M.Op):Option (M.aEK×(List Int)×Bool):=
 (cX j).bind λx1=>(jR j).bind λI=>if(!I)=true then some (x1,([]:List Int),false)else if(decide ((List.length C:Int)>6))=true then some (x1,([]:List Int),false)else mR j C fuel 0 x1.Name x1.aER ([]:List Int) x1.aEU x1.aEb
def kL(x3:((List (List Int))×Int)):Nat->Int->ByteArray->Int->List M.aC->List M.aG->Option (M.aEK×Int)
 |0,_,_,_,_,_=>none
 |al+1,j,I,J,U,ah=>if(decide (j<(List.length x3.1:Int)))=true then(idx x3.1 j).bind λao=>(pK ao).bind λak=>if(!ak.2)=true then some ((⟨I,J,U,ah⟩:M.aEK),j)else(uL (⟨I,J,U,ah⟩:M.aEK) ak.1).bind λC=>kL x3 al (i64.wrap (j+1)) C.1.Name C.1.aER C.1.aEU C.1.aEb else some ((⟨I,J,U,ah⟩:M.aEK),(List.length x3.1:Int))
def sP(j:M.bK):Option (M.aEK×Int):=
 (cX j.aEe).bind λx1=>(At j.Log).bind λx3=>kL x3 fuel 0 x1.Name x1.aER x1.aEU x1.aEb
def pH(j:Int):Option M.Key:=
 some (⟨1,j,(⟨#[]⟩:ByteArray)⟩:M.Key)
def B1(C:M.aEK)(J:Int):Option (M.aA×Bool×Bool):=
 (kY C (⟨#[110,111,116,101,115]⟩:ByteArray)).bind λx1=>if(decide (x1<0))=true then some ((⟨([]:List M.Field)⟩:M.aA),false,false)else(idx C.aEU x1).bind λx4=>(pH J).bind λx9=>(kJ x4 x9).bind λj=>if(decide (j<0))=true then some ((⟨([]:List M.Field)⟩:M.aA),false,true)else(idx x4.aEM j).bind λI=>some (I.aA,true,true)
def vZ(j:List Int)(C:Int)(I:List Int):Option ((List Int)×Bool):=
 (fQ j I).bind λx1=>(uB C I).bind λx3=>(cA x1 x3).bind λx5=>if(decide (C<0))=true then(dG j).bind λx8=>some (x8,false)else if(decide ((List.length x5:Int)>4000))=true then(dG j).bind λJ=>some (J,false)else some (x5,true)
def tP(j:M.bK)(C:List M.Op):Option (M.bK×Bool):=
 (sZ j).bind λx1=>(sP j).bind λx3=>(uL x3.1 C).bind λx5=>(pT C).bind λx7=>(vZ j.Log j.aEx x7).bind λx9=>if(!x5.2.2)=true then some (x1,false)else if((List.length x7:Int)==0)=true then some (x1,false)else if(!x9.2)=true then some (x1,false)else if(j.aEx !=x3.2)=true then some (x1,false)else some ((⟨x1.aEe,x9.1,i64.wrap (x1.aEx+1)⟩:M.bK),true)
def dA(C:M.aEL):Nat->Int->Int->Option Bool
 |0,_,_=>none
 |U+1,I,J=>if(decide (J<((3:Nat):Int)))=true then(idx ([C.aE0,C.aEw,C.aEn]) J).bind λj=>(bG j 0 1000000000000).bind λah=>if(!ah)=true then some false else if(j !=0)=true then if(decide (j<=I))=true then some false else dA C U (if j>I then j else I) (i64.wrap (J+1))else dA C U (if j>I then j else I) (i64.wrap (J+1))else(cR C.aET).bind λai=>some ai
def rT(j:M.aEL):Option Bool:=
 dA j fuel 0 0
def vT(j:M.aEW)(C:ByteArray)(c1:ByteArray):Option Bool:=
 if(j.aET.toList==C.toList)=true then some (j.aEy.toList==c1.toList)else some false
def cO(C:List M.aEW)(I:M.aEW->Option Bool):Nat->Int->Option Int
 |0,_=>none
 |J+1,j=>if(decide (j<(List.length C:Int)))=true then(idx C j).bind λx7=>(I x7).bind λU=>if U=true then some j else cO C I J (i64.wrap (j+1))else some (-1)
def iG(j:List M.aEW)(C:M.aEW->Option Bool):Option Int:=
 cO j C fuel 0
def wT(j:M.aEZ)(C:ByteArray)(I:ByteArray):Option Int:=
 (iG j.aEa (λJ=>vT J C I)).bind λx1=>some x1
def nS(j:M.aEQ):Option Bool:=
 (bG j.aE8 1 4).bind λx1=>if x1=true then(bG j.aE5 0 999).bind λx4=>if x4=true then(bG j.aER 0 1000000000000).bind λx7=>if x7=true then some (decide ((List.length j.aFA:Int)<=60))else some false else some false else some false
def eD(x8:M.aEZ)(I:Int->Option Bool):Nat->Int->Option Bool
 |0,_=>none
 |J+1,j=>if(decide (j<(List.length x8.aEa:Int)))=true then(idx x8.aEa j).bind λC=>(cR C.aET).bind λU=>if(!U)=true then some false else(cR C.aEy).bind λaj=>if(!aj)=true then some false else(wT x8 C.aET C.aEy).bind λak=>if(ak !=j)=true then some false else(nS C.aEQ).bind λal=>if(!al)=true then some false else eD x8 I J (i64.wrap (j+1))else I j
def dU(x8:M.aEZ)(I:Int->Option Bool):Nat->Int->Option Bool
 |0,_=>none
 |J+1,j=>if(decide (j<(List.length x8.aEa:Int)))=true then(idx x8.aEa j).bind λC=>(cR C.aET).bind λU=>if(!U)=true then some false else(cR C.aEy).bind λaj=>if(!aj)=true then some false else(wT x8 C.aET C.aEy).bind λak=>if(ak !=j)=true then some false else(nS C.aEQ).bind λal=>if(!al)=true then some false else dU x8 I J (i64.wrap (j+1))else I j
def eC(C:M.aP):Nat->Int->Option Bool
 |0,_=>none
 |I+1,j=>if(decide (j<(List.length C.aEV:Int)))=true then(idx C.aEV j).bind λx8=>(bG x8.aER 1 1000000000000).bind λJ=>if(!J)=true then some false else if(decide (j>0))=true then(idx C.aEV (i64.wrap (j-1))).bind λU=>if(decide (x8.aER<=U.aER))=true then some false else if(decide ((List.length x8.aEa:Int)>12))=true then some false else eD x8 (λ(aa:Int)=>eC C I (i64.wrap (j+1))) fuel 0 else if(decide ((List.length x8.aEa:Int)>12))=true then some false else dU x8 (λ(ae:Int)=>eC C I (i64.wrap (j+1))) fuel 0 else some (decide ((List.length C.aEV:Int)<=4))
def sM(j:M.aP):Option Bool:=
 eC j fuel 0
def mZ(j:M.bB):Option Bool:=
 (bG j.aEd 1 1000000).bind λx1=>if x1=true then(bG j.Seq 1 1000000).bind λx4=>if x4=true then(fX j.Key).bind λx7=>if x7=true then(cR j.Field).bind λC=>if C=true then(bG j.N 0 1000000000).bind λI=>some I else some false else some false else some false else some false
def kH(j:M.aU):Nat->Int->Option Bool
 |0,_=>none
 |I+1,C=>if(decide (C<(List.length j.aEm:Int)))=true then(idx j.aEm C).bind λx9=>(mZ x9).bind λJ=>if(!J)=true then some false else if(x9.aEd !=j.aEd)=true then some false else if(x9.Seq !=(i64.wrap ((i64.wrap (j.aFB-(List.length j.aEm:Int)))+C)))=true then some false else kH j I (i64.wrap (C+1))else(bG j.aEd 1 1000000).bind λU=>if U=true then(bG j.aFB 1 1000000).bind λai=>if ai=true then some (decide ((List.length j.aEm:Int)<=20))else some false else some false
def yC(j:M.aU):Option Bool:=
 kH j fuel 0
def wK(j:M.aF):Option Bool:=
 (bN j.aEe).bind λx1=>if x1=true then if(j.aEe.Name.toList==(⟨#[110,111,116,101,115]⟩:ByteArray).toList)=true then(bG j.aFF 0 1000000000000).bind λx5=>if x5=true then(yC j.aEf.aU).bind λx8=>some x8 else some false else some false else some false
def uD(j:M.aEQ)(C:Bool):Option Int:=
 if C=true then some 76 else some (i64.wrap (16+(List.length j.aFA:Int)))
def gY(x7:M.aEZ)(I:Int->Int->Option Int):Nat->Int->Int->Option Int
 |0,_,_=>none
 |U+1,C,j=>if(decide (j<(List.length x7.aEa:Int)))=true then(idx x7.aEa j).bind λJ=>(uD J.aEQ (J.aEQ.aE8==3)).bind λaj=>gY x7 I U (i64.wrap (C+aj)) (i64.wrap (j+1))else I C j
def eA(C:M.aP):Nat->Int->Int->Option Int
 |0,_,_=>none
 |U+1,I,j=>if(decide (j<(List.length C.aEV:Int)))=true then(idx C.aEV j).bind λx7=>gY x7 (λ(J:Int) (ae:Int)=>eA C U J (i64.wrap (j+1))) fuel I 0 else some I
def tU(j:M.aP):Option Int:=
 eA j fuel 0 0
def iI(j:M.aC):Nat->Int->Int->Option Int
 |0,_,_=>none
 |J+1,I,C=>if(decide (C<(List.length j.aEM:Int)))=true then(idx j.aEM C).bind λx7=>(gJ x7.Key).bind λU=>(eP x7.aA).bind λaf=>iI j J (i64.wrap (I+(i64.wrap ((List.length U:Int)+(List.length af:Int))))) (i64.wrap (C+1))else some I
def pG(j:M.aC):Option Int:=
 iI j fuel 0 0
def fG(j:M.aEK):Nat->Int->Int->Option Int
 |0,_,_=>none
 |J+1,I,C=>if(decide (C<(List.length j.aEU:Int)))=true then(idx j.aEU C).bind λx7=>(pG x7).bind λU=>fG j J (i64.wrap (I+U)) (i64.wrap (C+1))else some I
def oI(j:M.aEK):Option Int:=
 fG j fuel 0 0
def BI(j:M.bK):Option Int:=
 (oI j.aEe).bind λx1=>some (i64.wrap (x1+(List.length j.Log:Int)))
def Al(j:M.aEJ):Option Int:=
 (tU j.aEV).bind λx1=>(BI j.bK).bind λx3=>(pG j.aF.aEe).bind λx5=>some (i64.wrap ((i64.wrap ((i64.wrap (x1+x3))+x5))+(i64.wrap (40*(List.length j.aF.aEf.aU.aEm:Int)))))
def mB(j:M.aEJ):Option Bool:=
 (cR j.aET).bind λx1=>if x1=true then(cR j.Top).bind λx4=>if x4=true then(rT j.aEL).bind λx7=>if x7=true then if(j.aEL.aET.toList==j.aET.toList)=true then(sM j.aEV).bind λC=>if C=true then(jR j.bK.aEe).bind λI=>if I=true then(wK j.aF).bind λJ=>if J=true then(bG j.aEk 0 1000000000000).bind λU=>if U=true then(Al j).bind λai=>some (decide (ai<=2500))else some false else some false else some false else some false else some false else some false else some false else some false
def nA(j:M.aEJ)(C:M.aEJ):Option (M.aEJ×Bool):=
 (mB j).bind λx1=>if(!x1)=true then(dE j).bind λx4=>some (x4,false)else(mB C).bind λx6=>if(!x6)=true then(dE j).bind λx9=>some (x9,false)else(dE C).bind λI=>some (I,true)
def pY(j:M.aEJ)(C:M.bK):Option (M.aEJ×Bool):=
 (nA j (⟨j.aET,j.Top,j.aEL,j.aEV,C,j.aF,j.aEk,j.aEg⟩:M.aEJ)).bind λx1=>some (x1.1,x1.2)
def lV(j:M.aEJ)(C:M.aEJ):Option Bool:=
 if(Op.bytesLess j.aET.toList C.aET.toList)=true then some true else if(j.aET.toList==C.aET.toList)=true then some (Op.bytesLess j.Top.toList C.Top.toList)else some false
def eT(j:M.aD):Nat->Int->Option Bool
 |0,_=>none
 |I+1,C=>if(decide (C<(List.length j.aEP:Int)))=true then(idx j.aEP C).bind λx8=>(mB x8).bind λJ=>if(!J)=true then some false else if(decide (C>0))=true then(idx j.aEP (i64.wrap (C-1))).bind λU=>(lV U x8).bind λah=>if(!ah)=true then some false else eT j I (i64.wrap (C+1))else eT j I (i64.wrap (C+1))else some (decide ((List.length j.aEP:Int)<=9))
def cM(j:M.aD):Option Bool:=
 eT j fuel 0
def iO(C:M.aD)(I:M.aEJ)(x1:M.aD):Nat->Int->Option (M.aD×Bool)
 |0,_=>none
 |af+1,j=>if(decide (j<(List.length x1.aEP:Int)))=true then(idx x1.aEP j).bind λah=>(lV ah I).bind λai=>if ai=true then iO C I x1 af (i64.wrap (j+1))else(dE I).bind λJ=>(HM 328 x1.aEP j ([J])).bind λax=>(cM C).bind λaj=>if(!aj)=true then(cE C).bind λak=>some (ak,false)else(cM (⟨List.take j.toNat x1.aEP++([J]++List.drop j.toNat x1.aEP)⟩:M.aD)).bind λal=>if(!al)=true then(cE C).bind λao=>some (ao,false)else some ((⟨List.take j.toNat x1.aEP++([J]++List.drop j.toNat x1.aEP)⟩:M.aD),true)else(dE I).bind λU=>(HM 328 x1.aEP j ([U])).bind λay=>(cM C).bind λaq=>if(!aq)=true then(cE C).bind λar=>some (ar,false)else(cM (⟨List.take j.toNat x1.aEP++([U]++List.drop j.toNat x1.aEP)⟩:M.aD)).bind λav=>if(!av)=true then(cE C).bind λaw=>some (aw,false)else some ((⟨List.take j.toNat x1.aEP++([U]++List.drop j.toNat x1.aEP)⟩:M.aD),true)
def vN(j:M.aD)(C:M.aEJ):Option (M.aD×Bool):=
 (cE j).bind λx1=>(nR j C.aET C.Top).bind λx3=>if(decide (x3>=0))=true then(dE C).bind λx6=>(idx x1.aEP x3).bind λx8=>(cM j).bind λI=>if(!I)=true then(cE j).bind λJ=>some (J,false)else(cM (⟨List.set x1.aEP x3.toNat x6⟩:M.aD)).bind λU=>if(!U)=true then(cE j).bind λah=>some (ah,false)else some ((⟨List.set x1.aEP x3.toNat x6⟩:M.aD),true)else iO j C x1 fuel 0
def oU(j:M.World)(p1:M.bS)(p2:Int)(p3:ByteArray)(p4:Int):Option (M.World×Bool):=
 (vY j).bind λx1=>(BH j p1.aET p1.Top).bind λx3=>if(!x3.2)=true then some (x1,false)else(sP x3.1.bK).bind λx6=>(B1 x6.1 p2).bind λx8=>(oD x8.1 p3 p4).bind λC=>if(!x8.2.2)=true then some (x1,false)else if(!C.2)=true then some (x1,false)else(pH p2).bind λai=>(tP x3.1.bK ([(⟨1,(⟨#[110,111,116,101,115]⟩:ByteArray),ai,C.1,(⟨#[]⟩:ByteArray)⟩:M.Op)])).bind λI=>(pY x3.1 I.1).bind λJ=>(vN j.aD J.1).bind λU=>if(!I.2)=true then some (x1,false)else if(!J.2)=true then some (x1,false)else if(!U.2)=true then some (x1,false)else some ((⟨x1.Now,x1.aEs,x1.aEd,U.1,x1.aEq,x1.aEl,x1.aEh,x1.aEY,x1.aEr,x1.aEi⟩:M.World),true)
def mF(j:M.aEL)(C:M.aEL):Option Bool:=
 if(!(j.aET.toList==C.aET.toList))=true then some false else if(j.aEn !=C.aEn)=true then some false else if(j.aEw !=C.aEw)=true then some false else if(j.aE0 !=C.aE0)=true then some false else some true
def nU(C:List Int)(I:List Int):Nat->Int->Option Bool
 |0,_=>none
 |J+1,j=>if(decide (j<(List.length C:Int)))=true then(idx C j).bind λx7=>(idx I j).bind λU=>if(x7 !=U)=true then some false else nU C I J (i64.wrap (j+1))else some true
def wX(j:List Int)(C:List Int):Option Bool:=
 if((List.length j:Int) !=(List.length C:Int))=true then some false else nU j C fuel 0
def tW(j:M.aEQ)(C:M.aEQ):Option Bool:=
 if(j.aE8 !=C.aE8)=true then some false else if(j.aE5 !=C.aE5)=true then some false else if(j.aER !=C.aER)=true then some false else(wX j.aFA C.aFA).bind λx4=>if(!x4)=true then some false else if(!(j.aFE==C.aFE))=true then some false else some true
def tJ(j:M.aEW)(C:M.aEW):Option Bool:=
 if(!(j.aET.toList==C.aET.toList))=true then some false else if(!(j.aEy.toList==C.aEy.toList))=true then some false else(tW j.aEQ C.aEQ).bind λx3=>if(!x3)=true then some false else some true
def AS:=eqS tJ
def xE(j:M.aEZ)(C:M.aEZ):Option Bool:=
 if(j.aER !=C.aER)=true then some false else(AS j.aEa C.aEa).bind λx2=>if(!x2)=true then some false else some true
def BR:=eqS xE
def tL(j:M.aP)(C:M.aP):Option Bool:=
 (BR j.aEV C.aEV).bind λx1=>if(!x1)=true then some false else some true
def Bk(j:M.Key)(C:M.Key):Option Bool:=
 if(j.aEc !=C.aEc)=true then some false else if(j.N !=C.N)=true then some false else if(!(j.aEj.toList==C.aEj.toList))=true then some false else some true
def wO(j:M.Field)(C:M.Field):Option Bool:=
 if(!(j.Name.toList==C.Name.toList))=true then some false else if(j.N !=C.N)=true then some false else some true
def BW:=eqS wO
def yO(j:M.aA)(C:M.aA):Option Bool:=
 (BW j.aEN C.aEN).bind λx1=>if(!x1)=true then some false else some true
def yY(j:M.aES)(C:M.aES):Option Bool:=
 (Bk j.Key C.Key).bind λx1=>if(!x1)=true then some false else(yO j.aA C.aA).bind λx4=>if(!x4)=true then some false else some true
def CC:=eqS yY
def nL(j:M.aC)(C:M.aC):Option Bool:=
 if(!(j.Name.toList==C.Name.toList))=true then some false else(CC j.aEM C.aEM).bind λx2=>if(!x2)=true then some false else if(j.aEo !=C.aEo)=true then some false else some true
def Bu:=eqS nL
def nY(j:M.aG)(C:M.aG):Option Bool:=
 if(!(j.aC.toList==C.aC.toList))=true then some false else if(!(j.Field.toList==C.Field.toList))=true then some false else some true
def xL:=eqS nY
def uF(j:M.aEK)(C:M.aEK):Option Bool:=
 if(!(j.Name.toList==C.Name.toList))=true then some false else if(j.aER !=C.aER)=true then some false else(Bu j.aEU C.aEU).bind λx3=>if(!x3)=true then some false else(xL j.aEb C.aEb).bind λx6=>if(!x6)=true then some false else some true
def BU(j:M.bK)(C:M.bK):Option Bool:=
 (uF j.aEe C.aEe).bind λx1=>if(!x1)=true then some false else(wX j.Log C.Log).bind λx4=>if(!x4)=true then some false else if(j.aEx !=C.aEx)=true then some false else some true
def wQ(j:M.bB)(C:M.bB):Option Bool:=
 if(j.aEd !=C.aEd)=true then some false else if(j.Seq !=C.Seq)=true then some false else(Bk j.Key C.Key).bind λx3=>if(!x3)=true then some false else if(!(j.Field.toList==C.Field.toList))=true then some false else if(j.N !=C.N)=true then some false else some true
def yS:=eqS wQ
def yQ(j:M.aU)(C:M.aU):Option Bool:=
 if(j.aEd !=C.aEd)=true then some false else if(j.aFB !=C.aFB)=true then some false else(yS j.aEm C.aEm).bind λx3=>if(!x3)=true then some false else some true
def BD(j:M.aEf)(C:M.aEf):Option Bool:=
 (yQ j.aU C.aU).bind λx1=>if(!x1)=true then some false else if(j.aE9 !=C.aE9)=true then some false else if(j.aEt !=C.aEt)=true then some false else some true
def wA(j:M.aF)(C:M.aF):Option Bool:=
 (nL j.aEe C.aEe).bind λx1=>if(!x1)=true then some false else if(j.aFF !=C.aFF)=true then some false else(BD j.aEf C.aEf).bind λx5=>if(!x5)=true then some false else some true
def sS(j:M.aEJ)(C:M.aEJ):Option Bool:=
 if(!(j.aET.toList==C.aET.toList))=true then some false else if(!(j.Top.toList==C.Top.toList))=true then some false else(mF j.aEL C.aEL).bind λx3=>if(!x3)=true then some false else(tL j.aEV C.aEV).bind λx6=>if(!x6)=true then some false else(BU j.bK C.bK).bind λx9=>if(!x9)=true then some false else(wA j.aF C.aF).bind λI=>if(!I)=true then some false else if(j.aEk !=C.aEk)=true then some false else if(!(j.aEg==C.aEg))=true then some false else some true
def A3:=eqS sS
def wE(j:M.aD)(C:M.aD):Option Bool:=
 (A3 j.aEP C.aEP).bind λx1=>if(!x1)=true then some false else some true
def sJ(j:M.aK)(C:M.aK):Option Bool:=
 if(!(j.aEy.toList==C.aEy.toList))=true then some false else if(j.aER !=C.aER)=true then some false else some true
def A5:=eqS sJ
def wL(j:M.Instr)(C:M.Instr):Option Bool:=
 if(j.aEc !=C.aEc)=true then some false else if(j.R !=C.R)=true then some false else if(j.N !=C.N)=true then some false else if(!(j.aEj.toList==C.aEj.toList))=true then some false else some true
def BQ:=eqS wL
def pE(C:List Int)(I:List Int):Nat->Int->Option Bool
 |0,_=>none
 |J+1,j=>if(decide (j<(List.length C:Int)))=true then(idx C j).bind λx7=>(idx I j).bind λU=>if(x7 !=U)=true then some false else pE C I J (i64.wrap (j+1))else some true
def BV(j:List Int)(C:List Int):Option Bool:=
 if((List.length j:Int) !=(List.length C:Int))=true then some false else pE j C fuel 0
def vC(j:M.aEO)(C:M.aEO):Option Bool:=
 (BQ j.aEp C.aEp).bind λx1=>if(!x1)=true then some false else if(j.Pc !=C.Pc)=true then some false else(BV j.aE3 C.aE3).bind λx5=>if(!x5)=true then some false else if(j.aE2 !=C.aE2)=true then some false else if(!(j.aFG==C.aFG))=true then some false else if(!(j.aFH==C.aFH))=true then some false else some true
def uR(j:M.bS)(C:M.bS):Option Bool:=
 if(j.Id !=C.Id)=true then some false else if(!(j.aET.toList==C.aET.toList))=true then some false else if(!(j.Top.toList==C.Top.toList))=true then some false else if(j.aER !=C.aER)=true then some false else(A5 j.aK C.aK).bind λx5=>if(!x5)=true then some false else(vC j.aEO C.aEO).bind λx8=>if(!x8)=true then some false else some true
def Cw:=eqS uR
def zU(j:M.eV)(C:M.eV):Option Bool:=
 if(!(j.Name.toList==C.Name.toList))=true then some false else if(j.bS !=C.bS)=true then some false else if(!(j.aE4==C.aE4))=true then some false else if(!(j.aFM==C.aFM))=true then some false else some true
def Cp:=eqS zU
def rD(j:M.aR)(C:M.aR):Option Bool:=
 (Cp j.aEh C.aEh).bind λx1=>if(!x1)=true then some false else some true
def zW(j:M.gT)(C:M.gT):Option Bool:=
 if(j.To !=C.To)=true then some false else if(j.aFL !=C.aFL)=true then some false else if(j.N !=C.N)=true then some false else some true
def Cz:=eqS zW
def vX(j:M.aEY)(C:M.aEY):Option Bool:=
 (Cz j.aEv C.aEv).bind λx1=>if(!x1)=true then some false else some true
def lJ(C:List ByteArray)(I:List ByteArray):Nat->Int->Option Bool
 |0,_=>none
 |J+1,j=>if(decide (j<(List.length C:Int)))=true then(idx C j).bind λx7=>(idx I j).bind λU=>if(!(x7.toList==U.toList))=true then some false else lJ C I J (i64.wrap (j+1))else some true
def wD(j:List ByteArray)(C:List ByteArray):Option Bool:=
 if((List.length j:Int) !=(List.length C:Int))=true then some false else lJ j C fuel 0
def yX(j:M.aET)(C:M.aET):Option Bool:=
 if(!(j.Name.toList==C.Name.toList))=true then some false else if(j.aER !=C.aER)=true then some false else(wD j.aE6 C.aE6).bind λx3=>if(!x3)=true then some false else if(!(j.aE4==C.aE4))=true then some false else some true
def CH:=eqS yX
def pC(j:M.aQ)(C:M.aQ):Option Bool:=
 if(j.aEd !=C.aEd)=true then some false else if(j.Seq !=C.Seq)=true then some false else some true
def zF:=eqS pC
def sW(j:M.aEX)(C:M.aEX):Option Bool:=
 (nL j.aC C.aC).bind λx1=>if(!x1)=true then some false else(zF j.aQ C.aQ).bind λx4=>if(!x4)=true then some false else(yS j.aEu C.aEu).bind λx7=>if(!x7)=true then some false else some true
def A0:=eqS sW
def nK(j:M.World)(C:M.World):Option Bool:=
 if(j.Now !=C.Now)=true then some false else if(!(j.aEs==C.aEs))=true then some false else if(j.aEd !=C.aEd)=true then some false else(wE j.aD C.aD).bind λx4=>if(!x4)=true then some false else(Cw j.aEq C.aEq).bind λx7=>if(!x7)=true then some false else if(j.aEl !=C.aEl)=true then some false else(rD j.aEh C.aEh).bind λI=>if(!I)=true then some false else(vX j.aEY C.aEY).bind λJ=>if(!J)=true then some false else(CH j.aEr C.aEr).bind λU=>if(!U)=true then some false else(A0 j.aEi C.aEi).bind λah=>if(!ah)=true then some false else some true
def mM  :Nat->Int->ByteArray->Option ByteArray
 |0,_,_=>none
 |I+1,j,C=>if(decide (j>0))=true then(toStr ([IntKind.u8.wrap (i64.wrap (48+(Int.tmod j 10)))])).bind λx6=>(cat (aY ([IntKind.u8.wrap (i64.wrap (48+(Int.tmod j 10)))])) C).bind λx8=>mM I (i64.wrap (Int.tdiv j 10)) ((aY ([IntKind.u8.wrap (i64.wrap (48+(Int.tmod j 10)))]))++C)else(cat (⟨#[109]⟩:ByteArray) C).bind λJ=>some ((⟨#[109]⟩:ByteArray)++C)
def aH(j:Int):Option ByteArray:=
 if(decide (j<=0))=true then some (⟨#[109,48]⟩:ByteArray)else mM fuel j (⟨#[]⟩:ByteArray)
def gG  :Nat->Int->Int->List Int->Option (List Int×Int)
 |0,_,_,_=>none
 |J+1,I,C,j=>if(decide (C<(List.length j:Int)))=true then(idx j C).bind λx8=>(some (List.set j C.toNat (IntKind.u8.wrap I))).bind λU=>gG J (i64.wrap (I+1)) (i64.wrap (C+1)) U else some (j,I)
def pQ(j:List Int)(C:Int):Option (List Int×Int):=
 gG fuel C 0 j
def kB  :Nat->Int->Int->List M.aEW->Option (List M.aEW×Int)
 |0,_,_,_=>none
 |az+1,I,j,aj=>if(decide (j<(List.length aj:Int)))=true then(aH I).bind λx8=>(idx aj j).bind λal=>(some (List.set aj j.toNat (⟨x8,al.aEy,al.aEQ⟩:M.aEW))).bind λao=>(aH (i64.wrap (I+1))).bind λba=>(idx ao j).bind λaq=>(some (List.set ao j.toNat (⟨aq.aET,ba,aq.aEQ⟩:M.aEW))).bind λar=>(idx ar j).bind λJ=>(some (List.set ar j.toNat (⟨J.aET,J.aEy,(⟨i64.wrap ((i64.wrap (I+1))+1),J.aEQ.aE5,J.aEQ.aER,J.aEQ.aFA,J.aEQ.aFE⟩:M.aEQ)⟩:M.aEW))).bind λav=>(idx av j).bind λU=>(some (List.set av j.toNat (⟨U.aET,U.aEy,(⟨U.aEQ.aE8,i64.wrap ((i64.wrap ((i64.wrap (I+1))+1))+1),U.aEQ.aER,U.aEQ.aFA,U.aEQ.aFE⟩:M.aEQ)⟩:M.aEW))).bind λaw=>(idx aw j).bind λah=>(some (List.set aw j.toNat (⟨ah.aET,ah.aEy,(⟨ah.aEQ.aE8,ah.aEQ.aE5,i64.wrap ((i64.wrap ((i64.wrap ((i64.wrap (I+1))+1))+1))+1),ah.aEQ.aFA,ah.aEQ.aFE⟩:M.aEQ)⟩:M.aEW))).bind λax=>(idx ax j).bind λC=>(pQ C.aEQ.aFA (i64.wrap ((i64.wrap ((i64.wrap ((i64.wrap ((i64.wrap (I+1))+1))+1))+1))+1))).bind λak=>(some (List.set ax j.toNat (⟨C.aET,C.aEy,(⟨C.aEQ.aE8,C.aEQ.aE5,C.aEQ.aER,ak.1,C.aEQ.aFE⟩:M.aEQ)⟩:M.aEW))).bind λay=>(idx ay j).bind λai=>(some (List.set ay j.toNat (⟨ai.aET,ai.aEy,(⟨ai.aEQ.aE8,ai.aEQ.aE5,ai.aEQ.aER,ai.aEQ.aFA,(Int.tmod ak.2 3)==0⟩:M.aEQ)⟩:M.aEW))).bind λbd=>kB az (i64.wrap (ak.2+1)) (i64.wrap (j+1)) bd else some (aj,I)
def xJ(j:List M.aEW)(C:Int):Option (List M.aEW×Int):=
 kB fuel C 0 j
def kW  :Nat->Int->Int->List M.aEZ->Option (List M.aEZ×Int)
 |0,_,_,_=>none
 |ai+1,I,j,C=>if(decide (j<(List.length C:Int)))=true then(idx C j).bind λx8=>(some (List.set C j.toNat (⟨I,x8.aEa⟩:M.aEZ))).bind λJ=>(idx J j).bind λU=>(xJ U.aEa (i64.wrap (I+1))).bind λah=>(some (List.set J j.toNat (⟨U.aER,ah.1⟩:M.aEZ))).bind λaj=>kW ai ah.2 (i64.wrap (j+1)) aj else some (C,I)
def zY(j:List M.aEZ)(C:Int):Option (List M.aEZ×Int):=
 kW fuel C 0 j
def kR  :Nat->Int->Int->List M.Field->Option (List M.Field×Int)
 |0,_,_,_=>none
 |U+1,I,j,C=>if(decide (j<(List.length C:Int)))=true then(aH I).bind λx8=>(idx C j).bind λah=>(some (List.set C j.toNat (⟨x8,ah.N⟩:M.Field))).bind λJ=>(idx J j).bind λai=>(some (List.set J j.toNat (⟨ai.Name,i64.wrap (I+1)⟩:M.Field))).bind λaj=>kR U (i64.wrap ((i64.wrap (I+1))+1)) (i64.wrap (j+1)) aj else some (C,I)
def zV(j:List M.Field)(C:Int):Option (List M.Field×Int):=
 kR fuel C 0 j
def lR  :Nat->Int->Int->List M.aES->Option (List M.aES×Int)
 |0,_,_,_=>none
 |ao+1,C,j,I=>if(decide (j<(List.length I:Int)))=true then(idx I j).bind λx8=>(some (List.set I j.toNat (⟨(⟨C,x8.Key.N,x8.Key.aEj⟩:M.Key),x8.aA⟩:M.aES))).bind λah=>(idx ah j).bind λJ=>(some (List.set ah j.toNat (⟨(⟨J.Key.aEc,i64.wrap (C+1),J.Key.aEj⟩:M.Key),J.aA⟩:M.aES))).bind λai=>(aH (i64.wrap ((i64.wrap (C+1))+1))).bind λaq=>(idx ai j).bind λU=>(some (List.set ai j.toNat (⟨(⟨U.Key.aEc,U.Key.N,aq⟩:M.Key),U.aA⟩:M.aES))).bind λaj=>(idx aj j).bind λak=>(zV ak.aA.aEN (i64.wrap ((i64.wrap ((i64.wrap (C+1))+1))+1))).bind λal=>(some (List.set aj j.toNat (⟨ak.Key,(⟨al.1⟩:M.aA)⟩:M.aES))).bind λar=>lR ao al.2 (i64.wrap (j+1)) ar else some (I,C)
def pF(j:List M.aES)(C:Int):Option (List M.aES×Int):=
 lR fuel C 0 j
def kV  :Nat->Int->Int->List M.aC->Option (List M.aC×Int)
 |0,_,_,_=>none
 |al+1,U,j,C=>if(decide (j<(List.length C:Int)))=true then(aH U).bind λx8=>(idx C j).bind λah=>(some (List.set C j.toNat (⟨x8,ah.aEM,ah.aEo⟩:M.aC))).bind λai=>(idx ai j).bind λI=>(pF I.aEM (i64.wrap (U+1))).bind λJ=>(some (List.set ai j.toNat (⟨I.Name,J.1,I.aEo⟩:M.aC))).bind λaj=>(idx aj j).bind λak=>(some (List.set aj j.toNat (⟨ak.Name,ak.aEM,J.2⟩:M.aC))).bind λao=>kV al (i64.wrap (J.2+1)) (i64.wrap (j+1)) ao else some (C,U)
def zH(j:List M.aC)(C:Int):Option (List M.aC×Int):=
 kV fuel C 0 j
def gO  :Nat->Int->Int->List M.aG->Option (List M.aG×Int)
 |0,_,_,_=>none
 |U+1,I,j,C=>if(decide (j<(List.length C:Int)))=true then(aH I).bind λx8=>(idx C j).bind λah=>(some (List.set C j.toNat (⟨x8,ah.Field⟩:M.aG))).bind λJ=>(aH (i64.wrap (I+1))).bind λai=>(idx J j).bind λaj=>(some (List.set J j.toNat (⟨aj.aC,ai⟩:M.aG))).bind λak=>gO U (i64.wrap ((i64.wrap (I+1))+1)) (i64.wrap (j+1)) ak else some (C,I)
def sE(j:List M.aG)(C:Int):Option (List M.aG×Int):=
 gO fuel C 0 j
def kT  :Nat->Int->Int->List M.bB->Option (List M.bB×Int)
 |0,_,_,_=>none
 |ax+1,C,j,ah=>if(decide (j<(List.length ah:Int)))=true then(idx ah j).bind λx8=>(some (List.set ah j.toNat (⟨C,x8.Seq,x8.Key,x8.Field,x8.N⟩:M.bB))).bind λal=>(idx al j).bind λai=>(some (List.set al j.toNat (⟨ai.aEd,i64.wrap (C+1),ai.Key,ai.Field,ai.N⟩:M.bB))).bind λao=>(idx ao j).bind λI=>(some (List.set ao j.toNat (⟨I.aEd,I.Seq,(⟨i64.wrap ((i64.wrap (C+1))+1),I.Key.N,I.Key.aEj⟩:M.Key),I.Field,I.N⟩:M.bB))).bind λaq=>(idx aq j).bind λJ=>(some (List.set aq j.toNat (⟨J.aEd,J.Seq,(⟨J.Key.aEc,i64.wrap ((i64.wrap ((i64.wrap (C+1))+1))+1),J.Key.aEj⟩:M.Key),J.Field,J.N⟩:M.bB))).bind λar=>(aH (i64.wrap ((i64.wrap ((i64.wrap ((i64.wrap (C+1))+1))+1))+1))).bind λay=>(idx ar j).bind λU=>(some (List.set ar j.toNat (⟨U.aEd,U.Seq,(⟨U.Key.aEc,U.Key.N,ay⟩:M.Key),U.Field,U.N⟩:M.bB))).bind λav=>(aH (i64.wrap ((i64.wrap ((i64.wrap ((i64.wrap ((i64.wrap (C+1))+1))+1))+1))+1))).bind λaz=>(idx av j).bind λaj=>(some (List.set av j.toNat (⟨aj.aEd,aj.Seq,aj.Key,az,aj.N⟩:M.bB))).bind λaw=>(idx aw j).bind λak=>(some (List.set aw j.toNat (⟨ak.aEd,ak.Seq,ak.Key,ak.Field,i64.wrap ((i64.wrap ((i64.wrap ((i64.wrap ((i64.wrap ((i64.wrap (C+1))+1))+1))+1))+1))+1)⟩:M.bB))).bind λba=>kT ax (i64.wrap ((i64.wrap ((i64.wrap ((i64.wrap ((i64.wrap ((i64.wrap ((i64.wrap (C+1))+1))+1))+1))+1))+1))+1)) (i64.wrap (j+1)) ba else some (ah,C)
def sX(j:List M.bB)(C:Int):Option (List M.bB×Int):=
 kT fuel C 0 j
def kD  :Nat->Int->Int->List M.aEJ->Option (List M.aEJ×Int)
 |0,_,_,_=>none
 |dx+1,v1,j,da=>if(decide (j<(List.length da:Int)))=true then(aH v1).bind λx8=>(idx da j).bind λbo=>(some (List.set da j.toNat (⟨x8,bo.Top,bo.aEL,bo.aEV,bo.bK,bo.aF,bo.aEk,bo.aEg⟩:M.aEJ))).bind λdi=>(aH (i64.wrap (v1+1))).bind λdy=>(idx di j).bind λbq=>(some (List.set di j.toNat (⟨bq.aET,dy,bq.aEL,bq.aEV,bq.bK,bq.aF,bq.aEk,bq.aEg⟩:M.aEJ))).bind λdj=>(aH (i64.wrap ((i64.wrap (v1+1))+1))).bind λdz=>(idx dj j).bind λbg=>(some (List.set dj j.toNat (⟨bg.aET,bg.Top,(⟨dz,bg.aEL.aEn,bg.aEL.aEw,bg.aEL.aE0⟩:M.aEL),bg.aEV,bg.bK,bg.aF,bg.aEk,bg.aEg⟩:M.aEJ))).bind λdm=>(idx dm j).bind λbh=>(some (List.set dm j.toNat (⟨bh.aET,bh.Top,(⟨bh.aEL.aET,i64.wrap ((i64.wrap ((i64.wrap (v1+1))+1))+1),bh.aEL.aEw,bh.aEL.aE0⟩:M.aEL),bh.aEV,bh.bK,bh.aF,bh.aEk,bh.aEg⟩:M.aEJ))).bind λdn=>(idx dn j).bind λbj=>(some (List.set dn j.toNat (⟨bj.aET,bj.Top,(⟨bj.aEL.aET,bj.aEL.aEn,i64.wrap ((i64.wrap ((i64.wrap ((i64.wrap (v1+1))+1))+1))+1),bj.aEL.aE0⟩:M.aEL),bj.aEV,bj.bK,bj.aF,bj.aEk,bj.aEg⟩:M.aEJ))).bind λdq=>(idx dq j).bind λbl=>(some (List.set dq j.toNat (⟨bl.aET,bl.Top,(⟨bl.aEL.aET,bl.aEL.aEn,bl.aEL.aEw,i64.wrap ((i64.wrap ((i64.wrap ((i64.wrap ((i64.wrap (v1+1))+1))+1))+1))+1)⟩:M.aEL),bl.aEV,bl.bK,bl.aF,bl.aEk,bl.aEg⟩:M.aEJ))).bind λdu=>(idx du j).bind λbn=>(zY bn.aEV.aEV (i64.wrap ((i64.wrap ((i64.wrap ((i64.wrap ((i64.wrap ((i64.wrap (v1+1))+1))+1))+1))+1))+1))).bind λdb=>(some (List.set du j.toNat (⟨bn.aET,bn.Top,bn.aEL,(⟨db.1⟩:M.aP),bn.bK,bn.aF,bn.aEk,bn.aEg⟩:M.aEJ))).bind λdw=>(aH db.2).bind λdf=>(idx dw j).bind λaj=>(some (List.set dw j.toNat (⟨aj.aET,aj.Top,aj.aEL,aj.aEV,(⟨(⟨df,aj.bK.aEe.aER,aj.bK.aEe.aEU,aj.bK.aEe.aEb⟩:M.aEK),aj.bK.Log,aj.bK.aEx⟩:M.bK),aj.aF,aj.aEk,aj.aEg⟩:M.aEJ))).bind λbr=>(idx br j).bind λak=>(some (List.set br j.toNat (⟨ak.aET,ak.Top,ak.aEL,ak.aEV,(⟨(⟨ak.bK.aEe.Name,i64.wrap (db.2+1),ak.bK.aEe.aEU,ak.bK.aEe.aEb⟩:M.aEK),ak.bK.Log,ak.bK.aEx⟩:M.bK),ak.aF,ak.aEk,ak.aEg⟩:M.aEJ))).bind λbt=>(idx bt j).bind λI=>(zH I.bK.aEe.aEU (i64.wrap ((i64.wrap (db.2+1))+1))).bind λbu=>(some (List.set bt j.toNat (⟨I.aET,I.Top,I.aEL,I.aEV,(⟨(⟨I.bK.aEe.Name,I.bK.aEe.aER,bu.1,I.bK.aEe.aEb⟩:M.aEK),I.bK.Log,I.bK.aEx⟩:M.bK),I.aF,I.aEk,I.aEg⟩:M.aEJ))).bind λbw=>(idx bw j).bind λJ=>(sE J.bK.aEe.aEb bu.2).bind λbz=>(some (List.set bw j.toNat (⟨J.aET,J.Top,J.aEL,J.aEV,(⟨(⟨J.bK.aEe.Name,J.bK.aEe.aER,J.bK.aEe.aEU,bz.1⟩:M.aEK),J.bK.Log,J.bK.aEx⟩:M.bK),J.aF,J.aEk,J.aEg⟩:M.aEJ))).bind λc5=>(idx c5 j).bind λaw=>(pQ aw.bK.Log bz.2).bind λbm=>(some (List.set c5 j.toNat (⟨aw.aET,aw.Top,aw.aEL,aw.aEV,(⟨aw.bK.aEe,bm.1,aw.bK.aEx⟩:M.bK),aw.aF,aw.aEk,aw.aEg⟩:M.aEJ))).bind λca=>(idx ca j).bind λax=>(some (List.set ca j.toNat (⟨ax.aET,ax.Top,ax.aEL,ax.aEV,(⟨ax.bK.aEe,ax.bK.Log,bm.2⟩:M.bK),ax.aF,ax.aEk,ax.aEg⟩:M.aEJ))).bind λcc=>(aH (i64.wrap (bm.2+1))).bind λdg=>(idx cc j).bind λao=>(some (List.set cc j.toNat (⟨ao.aET,ao.Top,ao.aEL,ao.aEV,ao.bK,(⟨(⟨dg,ao.aF.aEe.aEM,ao.aF.aEe.aEo⟩:M.aC),ao.aF.aFF,ao.aF.aEf⟩:M.aF),ao.aEk,ao.aEg⟩:M.aEJ))).bind λcd=>(idx cd j).bind λal=>(pF al.aF.aEe.aEM (i64.wrap ((i64.wrap (bm.2+1))+1))).bind λbd=>(some (List.set cd j.toNat (⟨al.aET,al.Top,al.aEL,al.aEV,al.bK,(⟨(⟨al.aF.aEe.Name,bd.1,al.aF.aEe.aEo⟩:M.aC),al.aF.aFF,al.aF.aEf⟩:M.aF),al.aEk,al.aEg⟩:M.aEJ))).bind λcg=>(idx cg j).bind λaq=>(some (List.set cg j.toNat (⟨aq.aET,aq.Top,aq.aEL,aq.aEV,aq.bK,(⟨(⟨aq.aF.aEe.Name,aq.aF.aEe.aEM,bd.2⟩:M.aC),aq.aF.aFF,aq.aF.aEf⟩:M.aF),aq.aEk,aq.aEg⟩:M.aEJ))).bind λcj=>(idx cj j).bind λay=>(some (List.set cj j.toNat (⟨ay.aET,ay.Top,ay.aEL,ay.aEV,ay.bK,(⟨ay.aF.aEe,i64.wrap (bd.2+1),ay.aF.aEf⟩:M.aF),ay.aEk,ay.aEg⟩:M.aEJ))).bind λck=>(idx ck j).bind λU=>(some (List.set ck j.toNat (⟨U.aET,U.Top,U.aEL,U.aEV,U.bK,(⟨U.aF.aEe,U.aF.aFF,(⟨(⟨i64.wrap ((i64.wrap (bd.2+1))+1),U.aF.aEf.aU.aFB,U.aF.aEf.aU.aEm⟩:M.aU),U.aF.aEf.aE9,U.aF.aEf.aEt⟩:M.aEf)⟩:M.aF),U.aEk,U.aEg⟩:M.aEJ))).bind λcn=>(idx cn j).bind λai=>(some (List.set cn j.toNat (⟨ai.aET,ai.Top,ai.aEL,ai.aEV,ai.bK,(⟨ai.aF.aEe,ai.aF.aFF,(⟨(⟨ai.aF.aEf.aU.aEd,i64.wrap ((i64.wrap ((i64.wrap (bd.2+1))+1))+1),ai.aF.aEf.aU.aEm⟩:M.aU),ai.aF.aEf.aE9,ai.aF.aEf.aEt⟩:M.aEf)⟩:M.aF),ai.aEk,ai.aEg⟩:M.aEJ))).bind λcq=>(idx cq j).bind λC=>(sX C.aF.aEf.aU.aEm (i64.wrap ((i64.wrap ((i64.wrap ((i64.wrap (bd.2+1))+1))+1))+1))).bind λbf=>(some (List.set cq j.toNat (⟨C.aET,C.Top,C.aEL,C.aEV,C.bK,(⟨C.aF.aEe,C.aF.aFF,(⟨(⟨C.aF.aEf.aU.aEd,C.aF.aEf.aU.aFB,bf.1⟩:M.aU),C.aF.aEf.aE9,C.aF.aEf.aEt⟩:M.aEf)⟩:M.aF),C.aEk,C.aEg⟩:M.aEJ))).bind λcr=>(idx cr j).bind λar=>(some (List.set cr j.toNat (⟨ar.aET,ar.Top,ar.aEL,ar.aEV,ar.bK,(⟨ar.aF.aEe,ar.aF.aFF,(⟨ar.aF.aEf.aU,bf.2,ar.aF.aEf.aEt⟩:M.aEf)⟩:M.aF),ar.aEk,ar.aEg⟩:M.aEJ))).bind λcw=>(idx cw j).bind λav=>(some (List.set cw j.toNat (⟨av.aET,av.Top,av.aEL,av.aEV,av.bK,(⟨av.aF.aEe,av.aF.aFF,(⟨av.aF.aEf.aU,av.aF.aEf.aE9,i64.wrap (bf.2+1)⟩:M.aEf)⟩:M.aF),av.aEk,av.aEg⟩:M.aEJ))).bind λcy=>(idx cy j).bind λaz=>(some (List.set cy j.toNat (⟨az.aET,az.Top,az.aEL,az.aEV,az.bK,az.aF,i64.wrap ((i64.wrap (bf.2+1))+1),az.aEg⟩:M.aEJ))).bind λcz=>(idx cz j).bind λba=>(some (List.set cz j.toNat (⟨ba.aET,ba.Top,ba.aEL,ba.aEV,ba.bK,ba.aF,ba.aEk,(Int.tmod (i64.wrap ((i64.wrap ((i64.wrap (bf.2+1))+1))+1)) 3)==0⟩:M.aEJ))).bind λdh=>kD dx (i64.wrap ((i64.wrap ((i64.wrap ((i64.wrap (bf.2+1))+1))+1))+1)) (i64.wrap (j+1)) dh else some (da,v1)
def xV(j:List M.aEJ)(C:Int):Option (List M.aEJ×Int):=
 kD fuel C 0 j
def xU(j:M.aD)(C:Int):Option (List M.aEJ×Int):=
 (xV j.aEP C).bind λx1=>some (x1.1,x1.2)
def jX  :Nat->Int->Int->List M.aK->Option (List M.aK×Int)
 |0,_,_,_=>none
 |U+1,I,j,C=>if(decide (j<(List.length C:Int)))=true then(aH I).bind λx8=>(idx C j).bind λah=>(some (List.set C j.toNat (⟨x8,ah.aER⟩:M.aK))).bind λJ=>(idx J j).bind λai=>(some (List.set J j.toNat (⟨ai.aEy,i64.wrap (I+1)⟩:M.aK))).bind λaj=>jX U (i64.wrap ((i64.wrap (I+1))+1)) (i64.wrap (j+1)) aj else some (C,I)
def rO(j:List M.aK)(C:Int):Option (List M.aK×Int):=
 jX fuel C 0 j
def kQ  :Nat->Int->Int->List M.Instr->Option (List M.Instr×Int)
 |0,_,_,_=>none
 |al+1,C,j,I=>if(decide (j<(List.length I:Int)))=true then(idx I j).bind λx8=>(some (List.set I j.toNat (⟨C,x8.R,x8.N,x8.aEj⟩:M.Instr))).bind λai=>(idx ai j).bind λJ=>(some (List.set ai j.toNat (⟨J.aEc,i64.wrap (C+1),J.N,J.aEj⟩:M.Instr))).bind λaj=>(idx aj j).bind λU=>(some (List.set aj j.toNat (⟨U.aEc,U.R,i64.wrap ((i64.wrap (C+1))+1),U.aEj⟩:M.Instr))).bind λak=>(aH (i64.wrap ((i64.wrap ((i64.wrap (C+1))+1))+1))).bind λao=>(idx ak j).bind λah=>(some (List.set ak j.toNat (⟨ah.aEc,ah.R,ah.N,ao⟩:M.Instr))).bind λaq=>kQ al (i64.wrap ((i64.wrap ((i64.wrap ((i64.wrap (C+1))+1))+1))+1)) (i64.wrap (j+1)) aq else some (I,C)
def tZ(j:List M.Instr)(C:Int):Option (List M.Instr×Int):=
 kQ fuel C 0 j
def hP  :Nat->Int->Int->List Int->Option (List Int×Int)
 |0,_,_,_=>none
 |J+1,I,C,j=>if(decide (C<(List.length j:Int)))=true then(idx j C).bind λx8=>(some (List.set j C.toNat I)).bind λU=>hP J (i64.wrap (I+1)) (i64.wrap (C+1)) U else some (j,I)
def tN(j:List Int)(C:Int):Option (List Int×Int):=
 hP fuel C 0 j
def lN  :Nat->Int->Int->List M.bS->Option (List M.bS×Int)
 |0,_,_,_=>none
 |bo+1,v1,j,ay=>if(decide (j<(List.length ay:Int)))=true then(idx ay j).bind λx8=>(some (List.set ay j.toNat (⟨v1,x8.aET,x8.Top,x8.aER,x8.aK,x8.aEO⟩:M.bS))).bind λbd=>(aH (i64.wrap (v1+1))).bind λbq=>(idx bd j).bind λao=>(some (List.set bd j.toNat (⟨ao.Id,bq,ao.Top,ao.aER,ao.aK,ao.aEO⟩:M.bS))).bind λbf=>(aH (i64.wrap ((i64.wrap (v1+1))+1))).bind λbr=>(idx bf j).bind λaq=>(some (List.set bf j.toNat (⟨aq.Id,aq.aET,br,aq.aER,aq.aK,aq.aEO⟩:M.bS))).bind λbg=>(idx bg j).bind λar=>(some (List.set bg j.toNat (⟨ar.Id,ar.aET,ar.Top,i64.wrap ((i64.wrap ((i64.wrap (v1+1))+1))+1),ar.aK,ar.aEO⟩:M.bS))).bind λbh=>(idx bh j).bind λal=>(rO al.aK (i64.wrap ((i64.wrap ((i64.wrap ((i64.wrap (v1+1))+1))+1))+1))).bind λbj=>(some (List.set bh j.toNat (⟨al.Id,al.aET,al.Top,al.aER,bj.1,al.aEO⟩:M.bS))).bind λbl=>(idx bl j).bind λI=>(tZ I.aEO.aEp bj.2).bind λaz=>(some (List.set bl j.toNat (⟨I.Id,I.aET,I.Top,I.aER,I.aK,(⟨az.1,I.aEO.Pc,I.aEO.aE3,I.aEO.aE2,I.aEO.aFG,I.aEO.aFH⟩:M.aEO)⟩:M.bS))).bind λbm=>(idx bm j).bind λak=>(some (List.set bm j.toNat (⟨ak.Id,ak.aET,ak.Top,ak.aER,ak.aK,(⟨ak.aEO.aEp,az.2,ak.aEO.aE3,ak.aEO.aE2,ak.aEO.aFG,ak.aEO.aFH⟩:M.aEO)⟩:M.bS))).bind λbn=>(idx bn j).bind λC=>(tN C.aEO.aE3 (i64.wrap (az.2+1))).bind λaj=>(some (List.set bn j.toNat (⟨C.Id,C.aET,C.Top,C.aER,C.aK,(⟨C.aEO.aEp,C.aEO.Pc,aj.1,C.aEO.aE2,C.aEO.aFG,C.aEO.aFH⟩:M.aEO)⟩:M.bS))).bind λav=>(idx av j).bind λJ=>(some (List.set av j.toNat (⟨J.Id,J.aET,J.Top,J.aER,J.aK,(⟨J.aEO.aEp,J.aEO.Pc,J.aEO.aE3,aj.2,J.aEO.aFG,J.aEO.aFH⟩:M.aEO)⟩:M.bS))).bind λaw=>(idx aw j).bind λU=>(some (List.set aw j.toNat (⟨U.Id,U.aET,U.Top,U.aER,U.aK,(⟨U.aEO.aEp,U.aEO.Pc,U.aEO.aE3,U.aEO.aE2,(Int.tmod (i64.wrap (aj.2+1)) 3)==0,U.aEO.aFH⟩:M.aEO)⟩:M.bS))).bind λax=>(idx ax j).bind λah=>(some (List.set ax j.toNat (⟨ah.Id,ah.aET,ah.Top,ah.aER,ah.aK,(⟨ah.aEO.aEp,ah.aEO.Pc,ah.aEO.aE3,ah.aEO.aE2,ah.aEO.aFG,(Int.tmod (i64.wrap ((i64.wrap (aj.2+1))+1)) 3)==0⟩:M.aEO)⟩:M.bS))).bind λba=>lN bo (i64.wrap ((i64.wrap ((i64.wrap (aj.2+1))+1))+1)) (i64.wrap (j+1)) ba else some (ay,v1)
def AJ(j:List M.bS)(C:Int):Option (List M.bS×Int):=
 lN fuel C 0 j
def lK  :Nat->Int->Int->List M.eV->Option (List M.eV×Int)
 |0,_,_,_=>none
 |ao+1,C,j,I=>if(decide (j<(List.length I:Int)))=true then(aH C).bind λx8=>(idx I j).bind λJ=>(some (List.set I j.toNat (⟨x8,J.bS,J.aE4,J.aFM⟩:M.eV))).bind λaj=>(idx aj j).bind λU=>(some (List.set aj j.toNat (⟨U.Name,i64.wrap (C+1),U.aE4,U.aFM⟩:M.eV))).bind λak=>(idx ak j).bind λah=>(some (List.set ak j.toNat (⟨ah.Name,ah.bS,(Int.tmod (i64.wrap ((i64.wrap (C+1))+1)) 3)==0,ah.aFM⟩:M.eV))).bind λal=>(idx al j).bind λai=>(some (List.set al j.toNat (⟨ai.Name,ai.bS,ai.aE4,(Int.tmod (i64.wrap ((i64.wrap ((i64.wrap (C+1))+1))+1)) 3)==0⟩:M.eV))).bind λaq=>lK ao (i64.wrap ((i64.wrap ((i64.wrap ((i64.wrap (C+1))+1))+1))+1)) (i64.wrap (j+1)) aq else some (I,C)
def AW(j:List M.eV)(C:Int):Option (List M.eV×Int):=
 lK fuel C 0 j
def sC(j:M.aR)(C:Int):Option (List M.eV×Int):=
 (AW j.aEh C).bind λx1=>some (x1.1,x1.2)
def lG  :Nat->Int->Int->List M.gT->Option (List M.gT×Int)
 |0,_,_,_=>none
 |aj+1,C,j,I=>if(decide (j<(List.length I:Int)))=true then(idx I j).bind λx8=>(some (List.set I j.toNat (⟨C,x8.aFL,x8.N⟩:M.gT))).bind λJ=>(idx J j).bind λU=>(some (List.set J j.toNat (⟨U.To,i64.wrap (C+1),U.N⟩:M.gT))).bind λah=>(idx ah j).bind λai=>(some (List.set ah j.toNat (⟨ai.To,ai.aFL,i64.wrap ((i64.wrap (C+1))+1)⟩:M.gT))).bind λak=>lG aj (i64.wrap ((i64.wrap ((i64.wrap (C+1))+1))+1)) (i64.wrap (j+1)) ak else some (I,C)
def AX(j:List M.gT)(C:Int):Option (List M.gT×Int):=
 lG fuel C 0 j
def xP(j:M.aEY)(C:Int):Option (List M.gT×Int):=
 (AX j.aEv C).bind λx1=>some (x1.1,x1.2)
def eN  :Nat->Int->Int->List ByteArray->Option (List ByteArray×Int)
 |0,_,_,_=>none
 |J+1,I,C,j=>if(decide (C<(List.length j:Int)))=true then(aH I).bind λx8=>(idx j C).bind λah=>(some (List.set j C.toNat x8)).bind λU=>eN J (i64.wrap (I+1)) (i64.wrap (C+1)) U else some (j,I)
def pU(j:List ByteArray)(C:Int):Option (List ByteArray×Int):=
 eN fuel C 0 j
def lS  :Nat->Int->Int->List M.aET->Option (List M.aET×Int)
 |0,_,_,_=>none
 |aq+1,J,j,C=>if(decide (j<(List.length C:Int)))=true then(aH J).bind λx8=>(idx C j).bind λU=>(some (List.set C j.toNat (⟨x8,U.aER,U.aE6,U.aE4⟩:M.aET))).bind λak=>(idx ak j).bind λah=>(some (List.set ak j.toNat (⟨ah.Name,i64.wrap (J+1),ah.aE6,ah.aE4⟩:M.aET))).bind λal=>(idx al j).bind λI=>(pU I.aE6 (i64.wrap ((i64.wrap (J+1))+1))).bind λai=>(some (List.set al j.toNat (⟨I.Name,I.aER,ai.1,I.aE4⟩:M.aET))).bind λao=>(idx ao j).bind λaj=>(some (List.set ao j.toNat (⟨aj.Name,aj.aER,aj.aE6,(Int.tmod ai.2 3)==0⟩:M.aET))).bind λar=>lS aq (i64.wrap (ai.2+1)) (i64.wrap (j+1)) ar else some (C,J)
def AQ(j:List M.aET)(C:Int):Option (List M.aET×Int):=
 lS fuel C 0 j
def hY  :Nat->Int->Int->List M.aQ->Option (List M.aQ×Int)
 |0,_,_,_=>none
 |U+1,I,j,C=>if(decide (j<(List.length C:Int)))=true then(idx C j).bind λx8=>(some (List.set C j.toNat (⟨I,x8.Seq⟩:M.aQ))).bind λJ=>(idx J j).bind λah=>(some (List.set J j.toNat (⟨ah.aEd,i64.wrap (I+1)⟩:M.aQ))).bind λai=>hY U (i64.wrap ((i64.wrap (I+1))+1)) (i64.wrap (j+1)) ai else some (C,I)
def uS(j:List M.aQ)(C:Int):Option (List M.aQ×Int):=
 hY fuel C 0 j
def iZ  :Nat->Int->Int->List M.aEX->Option (List M.aEX×Int)
 |0,_,_,_=>none
 |ax+1,v1,j,I=>if(decide (j<(List.length I:Int)))=true then(aH v1).bind λx8=>(idx I j).bind λJ=>(some (List.set I j.toNat (⟨(⟨x8,J.aC.aEM,J.aC.aEo⟩:M.aC),J.aQ,J.aEu⟩:M.aEX))).bind λal=>(idx al j).bind λC=>(pF C.aC.aEM (i64.wrap (v1+1))).bind λai=>(some (List.set al j.toNat (⟨(⟨C.aC.Name,ai.1,C.aC.aEo⟩:M.aC),C.aQ,C.aEu⟩:M.aEX))).bind λao=>(idx ao j).bind λU=>(some (List.set ao j.toNat (⟨(⟨U.aC.Name,U.aC.aEM,ai.2⟩:M.aC),U.aQ,U.aEu⟩:M.aEX))).bind λaq=>(idx aq j).bind λaj=>(uS aj.aQ (i64.wrap (ai.2+1))).bind λar=>(some (List.set aq j.toNat (⟨aj.aC,ar.1,aj.aEu⟩:M.aEX))).bind λav=>(idx av j).bind λak=>(sX ak.aEu ar.2).bind λaw=>(some (List.set av j.toNat (⟨ak.aC,ak.aQ,aw.1⟩:M.aEX))).bind λay=>iZ ax aw.2 (i64.wrap (j+1)) ay else some (I,v1)
def xQ(j:List M.aEX)(C:Int):Option (List M.aEX×Int):=
 iZ fuel C 0 j
def pI(j:M.World)(p1:Int):Option (List M.aEJ×List M.bS×List M.eV×List M.gT×List M.aET×List M.aEX×Int):=
 (xU j.aD p1).bind λx1=>(AJ j.aEq x1.2).bind λx8=>(sC j.aEh x8.2).bind λC=>(xP j.aEY C.2).bind λI=>(AQ j.aEr I.2).bind λJ=>(xQ j.aEi J.2).bind λU=>some (x1.1,x8.1,C.1,I.1,J.1,U.1,U.2)
def xM(j:M.aEO)(C:Int):Option (List M.Instr×List Int×Int):=
 (tZ j.aEp C).bind λx1=>(tN j.aE3 x1.2).bind λx8=>some (x1.1,x8.1,x8.2)
def yH(j:M.bS)(C:Int):Option (List M.aK×List M.Instr×List Int×Int):=
 (rO j.aK C).bind λx1=>(xM j.aEO x1.2).bind λx8=>some (x1.1,x8.1,x8.2.1,x8.2.2)
def eU(j:List Int):Nat->Int->Int->Option Int
 |0,_,_=>none
 |J+1,C,I=>if(decide (I<(List.length j:Int)))=true then(idx j I).bind λx6=>if(x6 !=(IntKind.u8.wrap C))=true then some (-1)else eU j J (i64.wrap (C+1)) (i64.wrap (I+1))else some C
def pB(j:List Int)(C:Int):Option Int:=
 eU j fuel C 0
def gC(I:List M.aEW):Nat->Int->Int->Option Int
 |0,_,_=>none
 |U+1,j,J=>if(decide (J<(List.length I:Int)))=true then(idx I J).bind λx6=>(aH j).bind λaf=>if(!(x6.aET.toList==af.toList))=true then some (-1)else(aH (i64.wrap (j+1))).bind λah=>if(!(x6.aEy.toList==ah.toList))=true then some (-1)else if(x6.aEQ.aE8 !=(i64.wrap ((i64.wrap (j+1))+1)))=true then some (-1)else if(x6.aEQ.aE5 !=(i64.wrap ((i64.wrap ((i64.wrap (j+1))+1))+1)))=true then some (-1)else if(x6.aEQ.aER !=(i64.wrap ((i64.wrap ((i64.wrap ((i64.wrap (j+1))+1))+1))+1)))=true then some (-1)else(pB x6.aEQ.aFA (i64.wrap ((i64.wrap ((i64.wrap ((i64.wrap ((i64.wrap (j+1))+1))+1))+1))+1))).bind λC=>if(decide (C<0))=true then some (-1)else if(!(x6.aEQ.aFE==((Int.tmod C 3)==0)))=true then some (-1)else gC I U (i64.wrap (C+1)) (i64.wrap (J+1))else some j
def xI(j:List M.aEW)(C:Int):Option Int:=
 gC j fuel C 0
def gZ(j:List M.aEZ):Nat->Int->Int->Option Int
 |0,_,_=>none
 |U+1,C,I=>if(decide (I<(List.length j:Int)))=true then(idx j I).bind λx6=>if(x6.aER !=C)=true then some (-1)else(xI x6.aEa (i64.wrap (C+1))).bind λJ=>if(decide (J<0))=true then some (-1)else gZ j U J (i64.wrap (I+1))else some C
def zB(j:List M.aEZ)(C:Int):Option Int:=
 gZ j fuel C 0
def hM(C:List M.Field):Nat->Int->Int->Option Int
 |0,_,_=>none
 |J+1,j,I=>if(decide (I<(List.length C:Int)))=true then(idx C I).bind λx6=>(aH j).bind λU=>if(!(x6.Name.toList==U.toList))=true then some (-1)else if(x6.N !=(i64.wrap (j+1)))=true then some (-1)else hM C J (i64.wrap ((i64.wrap (j+1))+1)) (i64.wrap (I+1))else some j
def zL(j:List M.Field)(C:Int):Option Int:=
 hM j fuel C 0
def iU(C:List M.aES):Nat->Int->Int->Option Int
 |0,_,_=>none
 |U+1,j,I=>if(decide (I<(List.length C:Int)))=true then(idx C I).bind λx6=>if(x6.Key.aEc !=j)=true then some (-1)else if(x6.Key.N !=(i64.wrap (j+1)))=true then some (-1)else(aH (i64.wrap ((i64.wrap (j+1))+1))).bind λaf=>if(!(x6.Key.aEj.toList==af.toList))=true then some (-1)else(zL x6.aA.aEN (i64.wrap ((i64.wrap ((i64.wrap (j+1))+1))+1))).bind λJ=>if(decide (J<0))=true then some (-1)else iU C U J (i64.wrap (I+1))else some j
def pJ(j:List M.aES)(C:Int):Option Int:=
 iU j fuel C 0
def hH(C:List M.aC):Nat->Int->Int->Option Int
 |0,_,_=>none
 |U+1,I,J=>if(decide (J<(List.length C:Int)))=true then(idx C J).bind λx6=>(aH I).bind λaf=>if(!(x6.Name.toList==af.toList))=true then some (-1)else(pJ x6.aEM (i64.wrap (I+1))).bind λj=>if(decide (j<0))=true then some (-1)else if(x6.aEo !=j)=true then some (-1)else hH C U (i64.wrap (j+1)) (i64.wrap (J+1))else some I
def yV(j:List M.aC)(C:Int):Option Int:=
 hH j fuel C 0
def eO(C:List M.aG):Nat->Int->Int->Option Int
 |0,_,_=>none
 |J+1,j,I=>if(decide (I<(List.length C:Int)))=true then(idx C I).bind λx6=>(aH j).bind λU=>if(!(x6.aC.toList==U.toList))=true then some (-1)else(aH (i64.wrap (j+1))).bind λaf=>if(!(x6.Field.toList==af.toList))=true then some (-1)else eO C J (i64.wrap ((i64.wrap (j+1))+1)) (i64.wrap (I+1))else some j
def sD(j:List M.aG)(C:Int):Option Int:=
 eO j fuel C 0
def gW(C:List M.bB):Nat->Int->Int->Option Int
 |0,_,_=>none
 |J+1,j,I=>if(decide (I<(List.length C:Int)))=true then(idx C I).bind λx6=>if(x6.aEd !=j)=true then some (-1)else if(x6.Seq !=(i64.wrap (j+1)))=true then some (-1)else if(x6.Key.aEc !=(i64.wrap ((i64.wrap (j+1))+1)))=true then some (-1)else if(x6.Key.N !=(i64.wrap ((i64.wrap ((i64.wrap (j+1))+1))+1)))=true then some (-1)else(aH (i64.wrap ((i64.wrap ((i64.wrap ((i64.wrap (j+1))+1))+1))+1))).bind λU=>if(!(x6.Key.aEj.toList==U.toList))=true then some (-1)else(aH (i64.wrap ((i64.wrap ((i64.wrap ((i64.wrap ((i64.wrap (j+1))+1))+1))+1))+1))).bind λaf=>if(!(x6.Field.toList==af.toList))=true then some (-1)else if(x6.N !=(i64.wrap ((i64.wrap ((i64.wrap ((i64.wrap ((i64.wrap ((i64.wrap (j+1))+1))+1))+1))+1))+1)))=true then some (-1)else gW C J (i64.wrap ((i64.wrap ((i64.wrap ((i64.wrap ((i64.wrap ((i64.wrap ((i64.wrap (j+1))+1))+1))+1))+1))+1))+1)) (i64.wrap (I+1))else some j
def tE(j:List M.bB)(C:Int):Option Int:=
 gW j fuel C 0
def eM(p0:List M.aEJ):Nat->Int->Int->Option Int
 |0,_,_=>none
 |ak+1,j,v5=>if(decide (v5<(List.length p0:Int)))=true then(idx p0 v5).bind λx6=>(aH j).bind λal=>if(!(x6.aET.toList==al.toList))=true then some (-1)else(aH (i64.wrap (j+1))).bind λao=>if(!(x6.Top.toList==ao.toList))=true then some (-1)else(aH (i64.wrap ((i64.wrap (j+1))+1))).bind λaq=>if(!(x6.aEL.aET.toList==aq.toList))=true then some (-1)else if(x6.aEL.aEn !=(i64.wrap ((i64.wrap ((i64.wrap (j+1))+1))+1)))=true then some (-1)else if(x6.aEL.aEw !=(i64.wrap ((i64.wrap ((i64.wrap ((i64.wrap (j+1))+1))+1))+1)))=true then some (-1)else if(x6.aEL.aE0 !=(i64.wrap ((i64.wrap ((i64.wrap ((i64.wrap ((i64.wrap (j+1))+1))+1))+1))+1)))=true then some (-1)else(zB x6.aEV.aEV (i64.wrap ((i64.wrap ((i64.wrap ((i64.wrap ((i64.wrap ((i64.wrap (j+1))+1))+1))+1))+1))+1))).bind λJ=>if(decide (J<0))=true then some (-1)else(aH J).bind λar=>if(!(x6.bK.aEe.Name.toList==ar.toList))=true then some (-1)else if(x6.bK.aEe.aER !=(i64.wrap (J+1)))=true then some (-1)else(yV x6.bK.aEe.aEU (i64.wrap ((i64.wrap (J+1))+1))).bind λai=>if(decide (ai<0))=true then some (-1)else(sD x6.bK.aEe.aEb ai).bind λaj=>if(decide (aj<0))=true then some (-1)else(pB x6.bK.Log aj).bind λU=>if(decide (U<0))=true then some (-1)else if(x6.bK.aEx !=U)=true then some (-1)else(aH (i64.wrap (U+1))).bind λav=>if(!(x6.aF.aEe.Name.toList==av.toList))=true then some (-1)else(pJ x6.aF.aEe.aEM (i64.wrap ((i64.wrap (U+1))+1))).bind λC=>if(decide (C<0))=true then some (-1)else if(x6.aF.aEe.aEo !=C)=true then some (-1)else if(x6.aF.aFF !=(i64.wrap (C+1)))=true then some (-1)else if(x6.aF.aEf.aU.aEd !=(i64.wrap ((i64.wrap (C+1))+1)))=true then some (-1)else if(x6.aF.aEf.aU.aFB !=(i64.wrap ((i64.wrap ((i64.wrap (C+1))+1))+1)))=true then some (-1)else(tE x6.aF.aEf.aU.aEm (i64.wrap ((i64.wrap ((i64.wrap ((i64.wrap (C+1))+1))+1))+1))).bind λI=>if(decide (I<0))=true then some (-1)else if(x6.aF.aEf.aE9 !=I)=true then some (-1)else if(x6.aF.aEf.aEt !=(i64.wrap (I+1)))=true then some (-1)else if(x6.aEk !=(i64.wrap ((i64.wrap (I+1))+1)))=true then some (-1)else if(!(x6.aEg==((Int.tmod (i64.wrap ((i64.wrap ((i64.wrap (I+1))+1))+1)) 3)==0)))=true then some (-1)else eM p0 ak (i64.wrap ((i64.wrap ((i64.wrap ((i64.wrap (I+1))+1))+1))+1)) (i64.wrap (v5+1))else some j
def xO(j:List M.aEJ)(C:Int):Option Int:=
 eM j fuel C 0
def xN(j:M.aD)(C:Int):Option Int:=
 (xO j.aEP C).bind λx1=>if(decide (x1<0))=true then some (-1)else some x1
def fZ(C:List M.aK):Nat->Int->Int->Option Int
 |0,_,_=>none
 |J+1,j,I=>if(decide (I<(List.length C:Int)))=true then(idx C I).bind λx6=>(aH j).bind λU=>if(!(x6.aEy.toList==U.toList))=true then some (-1)else if(x6.aER !=(i64.wrap (j+1)))=true then some (-1)else fZ C J (i64.wrap ((i64.wrap (j+1))+1)) (i64.wrap (I+1))else some j
def xS(j:List M.aK)(C:Int):Option Int:=
 fZ j fuel C 0
def gV(C:List M.Instr):Nat->Int->Int->Option Int
 |0,_,_=>none
 |J+1,j,I=>if(decide (I<(List.length C:Int)))=true then(idx C I).bind λx6=>if(x6.aEc !=j)=true then some (-1)else if(x6.R !=(i64.wrap (j+1)))=true then some (-1)else if(x6.N !=(i64.wrap ((i64.wrap (j+1))+1)))=true then some (-1)else(aH (i64.wrap ((i64.wrap ((i64.wrap (j+1))+1))+1))).bind λU=>if(!(x6.aEj.toList==U.toList))=true then some (-1)else gV C J (i64.wrap ((i64.wrap ((i64.wrap ((i64.wrap (j+1))+1))+1))+1)) (i64.wrap (I+1))else some j
def zR(j:List M.Instr)(C:Int):Option Int:=
 gV j fuel C 0
def fO(j:List Int):Nat->Int->Int->Option Int
 |0,_,_=>none
 |J+1,C,I=>if(decide (I<(List.length j:Int)))=true then(idx j I).bind λx6=>if(x6 !=C)=true then some (-1)else fO j J (i64.wrap (C+1)) (i64.wrap (I+1))else some C
def yI(j:List Int)(C:Int):Option Int:=
 fO j fuel C 0
def gA(J:List M.bS):Nat->Int->Int->Option Int
 |0,_,_=>none
 |ah+1,j,U=>if(decide (U<(List.length J:Int)))=true then(idx J U).bind λx6=>if(x6.Id !=j)=true then some (-1)else(aH (i64.wrap (j+1))).bind λai=>if(!(x6.aET.toList==ai.toList))=true then some (-1)else(aH (i64.wrap ((i64.wrap (j+1))+1))).bind λaj=>if(!(x6.Top.toList==aj.toList))=true then some (-1)else if(x6.aER !=(i64.wrap ((i64.wrap ((i64.wrap (j+1))+1))+1)))=true then some (-1)else(xS x6.aK (i64.wrap ((i64.wrap ((i64.wrap ((i64.wrap (j+1))+1))+1))+1))).bind λaf=>if(decide (af<0))=true then some (-1)else(zR x6.aEO.aEp af).bind λI=>if(decide (I<0))=true then some (-1)else if(x6.aEO.Pc !=I)=true then some (-1)else(yI x6.aEO.aE3 (i64.wrap (I+1))).bind λC=>if(decide (C<0))=true then some (-1)else if(x6.aEO.aE2 !=C)=true then some (-1)else if(!(x6.aEO.aFG==((Int.tmod (i64.wrap (C+1)) 3)==0)))=true then some (-1)else if(!(x6.aEO.aFH==((Int.tmod (i64.wrap ((i64.wrap (C+1))+1)) 3)==0)))=true then some (-1)else gA J ah (i64.wrap ((i64.wrap ((i64.wrap (C+1))+1))+1)) (i64.wrap (U+1))else some j
def AK(j:List M.bS)(C:Int):Option Int:=
 gA j fuel C 0
def iS(C:List M.eV):Nat->Int->Int->Option Int
 |0,_,_=>none
 |J+1,j,I=>if(decide (I<(List.length C:Int)))=true then(idx C I).bind λx6=>(aH j).bind λU=>if(!(x6.Name.toList==U.toList))=true then some (-1)else if(x6.bS !=(i64.wrap (j+1)))=true then some (-1)else if(!(x6.aE4==((Int.tmod (i64.wrap ((i64.wrap (j+1))+1)) 3)==0)))=true then some (-1)else if(!(x6.aFM==((Int.tmod (i64.wrap ((i64.wrap ((i64.wrap (j+1))+1))+1)) 3)==0)))=true then some (-1)else iS C J (i64.wrap ((i64.wrap ((i64.wrap ((i64.wrap (j+1))+1))+1))+1)) (i64.wrap (I+1))else some j
def AV(j:List M.eV)(C:Int):Option Int:=
 iS j fuel C 0
def sG(j:M.aR)(C:Int):Option Int:=
 (AV j.aEh C).bind λx1=>if(decide (x1<0))=true then some (-1)else some x1
def iW(C:List M.gT):Nat->Int->Int->Option Int
 |0,_,_=>none
 |J+1,j,I=>if(decide (I<(List.length C:Int)))=true then(idx C I).bind λx6=>if(x6.To !=j)=true then some (-1)else if(x6.aFL !=(i64.wrap (j+1)))=true then some (-1)else if(x6.N !=(i64.wrap ((i64.wrap (j+1))+1)))=true then some (-1)else iW C J (i64.wrap ((i64.wrap ((i64.wrap (j+1))+1))+1)) (i64.wrap (I+1))else some j
def AZ(j:List M.gT)(C:Int):Option Int:=
 iW j fuel C 0
def xT(j:M.aEY)(C:Int):Option Int:=
 (AZ j.aEv C).bind λx1=>if(decide (x1<0))=true then some (-1)else some x1
def dH(j:List ByteArray):Nat->Int->Int->Option Int
 |0,_,_=>none
 |J+1,C,I=>if(decide (I<(List.length j:Int)))=true then(idx j I).bind λx6=>(aH C).bind λU=>if(!(x6.toList==U.toList))=true then some (-1)else dH j J (i64.wrap (C+1)) (i64.wrap (I+1))else some C
def pX(j:List ByteArray)(C:Int):Option Int:=
 dH j fuel C 0
def iJ(I:List M.aET):Nat->Int->Int->Option Int
 |0,_,_=>none
 |U+1,j,J=>if(decide (J<(List.length I:Int)))=true then(idx I J).bind λx6=>(aH j).bind λaf=>if(!(x6.Name.toList==af.toList))=true then some (-1)else if(x6.aER !=(i64.wrap (j+1)))=true then some (-1)else(pX x6.aE6 (i64.wrap ((i64.wrap (j+1))+1))).bind λC=>if(decide (C<0))=true then some (-1)else if(!(x6.aE4==((Int.tmod C 3)==0)))=true then some (-1)else iJ I U (i64.wrap (C+1)) (i64.wrap (J+1))else some j
def A8(j:List M.aET)(C:Int):Option Int:=
 iJ j fuel C 0
def fK(C:List M.aQ):Nat->Int->Int->Option Int
 |0,_,_=>none
 |J+1,j,I=>if(decide (I<(List.length C:Int)))=true then(idx C I).bind λx6=>if(x6.aEd !=j)=true then some (-1)else if(x6.Seq !=(i64.wrap (j+1)))=true then some (-1)else fK C J (i64.wrap ((i64.wrap (j+1))+1)) (i64.wrap (I+1))else some j
def uQ(j:List M.aQ)(C:Int):Option Int:=
 fK j fuel C 0
def eL(C:List M.aEX):Nat->Int->Int->Option Int
 |0,_,_=>none
 |ah+1,I,J=>if(decide (J<(List.length C:Int)))=true then(idx C J).bind λx6=>(aH I).bind λai=>if(!(x6.aC.Name.toList==ai.toList))=true then some (-1)else(pJ x6.aC.aEM (i64.wrap (I+1))).bind λj=>if(decide (j<0))=true then some (-1)else if(x6.aC.aEo !=j)=true then some (-1)else(uQ x6.aQ (i64.wrap (j+1))).bind λU=>if(decide (U<0))=true then some (-1)else(tE x6.aEu U).bind λaf=>if(decide (af<0))=true then some (-1)else eL C ah af (i64.wrap (J+1))else some I
def xW(j:List M.aEX)(C:Int):Option Int:=
 eL j fuel C 0
def pS(j:M.World)(U:Int):Option Int:=
 (xN j.aD U).bind λx1=>if(decide (x1<0))=true then some (-1)else(AK j.aEq x1).bind λx4=>if(decide (x4<0))=true then some (-1)else(sG j.aEh x4).bind λx7=>if(decide (x7<0))=true then some (-1)else(xT j.aEY x7).bind λC=>if(decide (C<0))=true then some (-1)else(A8 j.aEr C).bind λI=>if(decide (I<0))=true then some (-1)else(xW j.aEi I).bind λJ=>if(decide (J<0))=true then some (-1)else some J
def nE(J:M.World)(U:M.bS)(p2:Int)(p3:ByteArray)(p4:Int):Option Bool:=
 if(decide ((p3.size:Int)>1048576))=true then some true else(Aq J 1048576).bind λx2=>if(decide (x2<0))=true then some true else(uV U x2).bind λx5=>if(decide (x5<0))=true then some true else(nP J).bind λx8=>(lY U).bind λax=>(vJ x8 ax p2 p3 p4).bind λI=>(nP J).bind λak=>(lY U).bind λal=>(oU ak al p2 p3 p4).bind λC=>(nK C.1 I.1).bind λay=>if(!ay)=true then some false else if(!(C.2==I.2))=true then some false else(nP J).bind λaz=>(nK ak az).bind λba=>if(!ba)=true then some false else(lY U).bind λbd=>(uR al bd).bind λbf=>if(!bf)=true then some false else(pI ak 1).bind λbg=>(yH al bg.2.2.2.2.2.2).bind λao=>if(decide (ao.2.2.2<0))=true then some false else(nK C.1 I.1).bind λaq=>if(!aq)=true then some false else(pI C.1 1).bind λj=>(pS (⟨C.1.Now,C.1.aEs,C.1.aEd,(⟨j.1⟩:M.aD),j.2.1,C.1.aEl,(⟨j.2.2.1⟩:M.aR),(⟨j.2.2.2.1⟩:M.aEY),j.2.2.2.2.1,j.2.2.2.2.2.1⟩:M.World) 1).bind λah=>if(decide (ah<0))=true then some false else if(ah !=j.2.2.2.2.2.2)=true then some false else(nP J).bind λar=>(lY U).bind λav=>(oU ar av p2 p3 p4).bind λai=>(nK ai.1 I.1).bind λaw=>if(!aw)=true then some false else if(!(ai.2==I.2))=true then some false else(pS (⟨C.1.Now,C.1.aEs,C.1.aEd,(⟨j.1⟩:M.aD),j.2.1,C.1.aEl,(⟨j.2.2.1⟩:M.aR),(⟨j.2.2.2.1⟩:M.aEY),j.2.2.2.2.1,j.2.2.2.2.2.1⟩:M.World) 1).bind λaj=>if(decide (aj<0))=true then some false else if(aj !=j.2.2.2.2.2.2)=true then some false else some true
