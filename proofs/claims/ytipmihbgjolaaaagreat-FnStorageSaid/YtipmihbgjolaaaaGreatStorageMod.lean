/-
  Helper text. No conditions.
-/
import Derived.Test.YtipmihbgjolaaaaGreatStorageShT
set_option linter.unusedVariables false
set_option linter.unusedSimpArgs false
namespace Go.Proofs.YtipmihbgjolaaaaGreat.gen
open Go Go.Sh
open Go.IntKind (i64)
structure M.aO where
 b:List Int
 i:Int
 h:Int
def M.aO.en(x:M.aO):List D:=[.sl (List.map enB x.b),.int .i64 x.i,.int .i64 x.h]
structure M.Key where
 Zi:Int
 N:Int
 Zp:ByteArray
def M.Key.en(x:M.Key):List D:=[.int .i64 x.Zi,.int .i64 x.N,.str x.Zp]
theorem M.Key.en.fl(l:List M.Key):(List.map M.Key.en l).all (λy=>y.all D.flat)=true:=DL (λ_=>rfl) l
structure M.aV where
 Zg:Int
 ZI:Int
 Key:M.Key
 Field:ByteArray
 N:Int
def M.aV.en(x:M.aV):List D:=[.int .i64 x.Zg,.int .i64 x.ZI,.int .i64 x.Key.Zi,.int .i64 x.Key.N,.str x.Key.Zp,.str x.Field,.int .i64 x.N]
theorem M.aV.en.fl(l:List M.aV):(List.map M.aV.en l).all (λy=>y.all D.flat)=true:=DL (λ_=>rfl) l
structure M.aF where
 Zg:Int
 Zr:Int
 Y9:List M.aV
def M.aF.en(x:M.aF):List D:=[.int .i64 x.Zg,.int .i64 x.Zr,.sl (List.map M.aV.en x.Y9)]
structure M.YZ where
 Zh:ByteArray
 Zm:Int
 Zs:Int
 Zv:Int
def M.YZ.en(x:M.YZ):List D:=[.str x.Zh,.int .i64 x.Zm,.int .i64 x.Zs,.int .i64 x.Zv]
theorem M.YZ.en.fl(l:List M.YZ):(List.map M.YZ.en l).all (λy=>y.all D.flat)=true:=DL (λ_=>rfl) l
structure M.Y7 where
 ZC:Int
 ZA:Int
 Y2:Int
 ZE:List Int
 ZF:Bool
def M.Y7.en(x:M.Y7):List D:=[.int .i64 x.ZC,.int .i64 x.ZA,.int .i64 x.Y2,.sl (List.map enB x.ZE),.bool x.ZF]
structure M.Zb where
 Zh:ByteArray
 Zy:ByteArray
 Y7:M.Y7
def M.Zb.en(x:M.Zb):List D:=[.str x.Zh,.str x.Zy,.int .i64 x.Y7.ZC,.int .i64 x.Y7.ZA,.int .i64 x.Y7.Y2,.sl (List.map enB x.Y7.ZE),.bool x.Y7.ZF]
structure M.Y6 where
 Y2:Int
 Y8:List M.Zb
def M.Y6.en(x:M.Y6):List D:=[.int .i64 x.Y2,.sl (List.map M.Zb.en x.Y8)]
structure M.aE where
 Y1:List M.Y6
def M.aE.en(x:M.aE):List D:=[.sl (List.map M.Y6.en x.Y1)]
structure M.Field where
 Name:ByteArray
 N:Int
def M.Field.en(x:M.Field):List D:=[.str x.Name,.int .i64 x.N]
theorem M.Field.en.fl(l:List M.Field):(List.map M.Field.en l).all (λy=>y.all D.flat)=true:=DL (λ_=>rfl) l
structure M.aC where
 Y4:List M.Field
def M.aC.en(x:M.aC):List D:=[.sl (List.map M.Field.en x.Y4)]
structure M.Zd where
 Key:M.Key
 aC:M.aC
def M.Zd.en(x:M.Zd):List D:=[.int .i64 x.Key.Zi,.int .i64 x.Key.N,.str x.Key.Zp,.sl (List.map M.Field.en x.aC.Y4)]
structure M.aA where
 Name:ByteArray
 Y3:List M.Zd
 Zn:Int
def M.aA.en(x:M.aA):List D:=[.str x.Name,.sl (List.map M.Zd.en x.Y3),.int .i64 x.Zn]
structure M.aM where
 aA:ByteArray
 Field:ByteArray
def M.aM.en(x:M.aM):List D:=[.str x.aA,.str x.Field]
theorem M.aM.en.fl(l:List M.aM):(List.map M.aM.en l).all (λy=>y.all D.flat)=true:=DL (λ_=>rfl) l
structure M.YY where
 Name:ByteArray
 Y2:Int
 Y5:List M.aA
 Za:List M.aM
def M.YY.en(x:M.YY):List D:=[.str x.Name,.int .i64 x.Y2,.sl (List.map M.aA.en x.Y5),.sl (List.map M.aM.en x.Za)]
structure M.Ze where
 aF:M.aF
 Zt:Int
 Zj:Int
def M.Ze.en(x:M.Ze):List D:=[.int .i64 x.aF.Zg,.int .i64 x.aF.Zr,.sl (List.map M.aV.en x.aF.Y9),.int .i64 x.Zt,.int .i64 x.Zj]
structure M.aD where
 Zf:M.aA
 Zx:Int
 Ze:M.Ze
def M.aD.en(x:M.aD):List D:=[.str x.Zf.Name,.sl (List.map M.Zd.en x.Zf.Y3),.int .i64 x.Zf.Zn,.int .i64 x.Zx,.int .i64 x.Ze.aF.Zg,.int .i64 x.Ze.aF.Zr,.sl (List.map M.aV.en x.Ze.aF.Y9),.int .i64 x.Ze.Zt,.int .i64 x.Ze.Zj]
structure M.bG where
 Zf:M.YY
 ZD:List Int
 Zu:Int
def M.bG.en(x:M.bG):List D:=[.str x.Zf.Name,.int .i64 x.Zf.Y2,.sl (List.map M.aA.en x.Zf.Y5),.sl (List.map M.aM.en x.Zf.Za),.sl (List.map enB x.ZD),.int .i64 x.Zu]
structure M.aK where
 Zh:ByteArray
 Zw:ByteArray
 YZ:M.YZ
 Y1:M.aE
 bG:M.bG
 aD:M.aD
 Zo:Int
 Zl:Bool
def M.aK.en(x:M.aK):List D:=[.str x.Zh,.str x.Zw,.str x.YZ.Zh,.int .i64 x.YZ.Zm,.int .i64 x.YZ.Zs,.int .i64 x.YZ.Zv,.sl (List.map M.Y6.en x.Y1.Y1),.str x.bG.Zf.Name,.int .i64 x.bG.Zf.Y2,.sl (List.map M.aA.en x.bG.Zf.Y5),.sl (List.map M.aM.en x.bG.Zf.Za),.sl (List.map enB x.bG.ZD),.int .i64 x.bG.Zu,.str x.aD.Zf.Name,.sl (List.map M.Zd.en x.aD.Zf.Y3),.int .i64 x.aD.Zf.Zn,.int .i64 x.aD.Zx,.int .i64 x.aD.Ze.aF.Zg,.int .i64 x.aD.Ze.aF.Zr,.sl (List.map M.aV.en x.aD.Ze.aF.Y9),.int .i64 x.aD.Ze.Zt,.int .i64 x.aD.Ze.Zj,.int .i64 x.Zo,.bool x.Zl]
structure M.Op where
 Zi:Int
 aA:ByteArray
 Key:M.Key
 aC:M.aC
 Field:ByteArray
def M.Op.en(x:M.Op):List D:=[.int .i64 x.Zi,.str x.aA,.int .i64 x.Key.Zi,.int .i64 x.Key.N,.str x.Key.Zp,.sl (List.map M.Field.en x.aC.Y4),.str x.Field]
structure M.eX where
 ZJ:Bool
 ZB:Bool
 ZN:M.Key
 ZH:M.Key
def M.eX.en(x:M.eX):List D:=[.bool x.ZJ,.bool x.ZB,.int .i64 x.ZN.Zi,.int .i64 x.ZN.N,.str x.ZN.Zp,.int .i64 x.ZH.Zi,.int .i64 x.ZH.N,.str x.ZH.Zp]
theorem M.eX.en.fl(l:List M.eX):(List.map M.eX.en l).all (λy=>y.all D.flat)=true:=DL (λ_=>rfl) l
structure M.aH where
 Y0:List M.aK
def M.aH.en(x:M.aH):List D:=[.sl (List.map M.aK.en x.Y0)]
structure M.iN where
 Zi:Int
 aA:ByteArray
 Field:ByteArray
def M.iN.en(x:M.iN):List D:=[.int .i64 x.Zi,.str x.aA,.str x.Field]
theorem M.iN.en.fl(l:List M.iN):(List.map M.iN.en l).all (λy=>y.all D.flat)=true:=DL (λ_=>rfl) l
structure M.aT where
 Zg:Int
 ZI:Int
def M.aT.en(x:M.aT):List D:=[.int .i64 x.Zg,.int .i64 x.ZI]
theorem M.aT.en.fl(l:List M.aT):(List.map M.aT.en l).all (λy=>y.all D.flat)=true:=DL (λ_=>rfl) l
structure M.Zk where
 aA:M.aA
 aT:List M.aT
 Zq:List M.aV
def M.Zk.en(x:M.Zk):List D:=[.str x.aA.Name,.sl (List.map M.Zd.en x.aA.Y3),.int .i64 x.aA.Zn,.sl (List.map M.aT.en x.aT),.sl (List.map M.aV.en x.Zq)]
structure M.Instr where
 Zi:Int
 R:Int
 N:Int
 Zp:ByteArray
def M.Instr.en(x:M.Instr):List D:=[.int .i64 x.Zi,.int .i64 x.R,.int .i64 x.N,.str x.Zp]
theorem M.Instr.en.fl(l:List M.Instr):(List.map M.Instr.en l).all (λy=>y.all D.flat)=true:=DL (λ_=>rfl) l
structure M.Zc where
 Zz:List M.Instr
 Pc:Int
 ZK:List Int
 ZG:Int
 ZL:Bool
 ZM:Bool
def M.Zc.en(x:M.Zc):List D:=[.sl (List.map M.Instr.en x.Zz),.int .i64 x.Pc,.sl (List.map enI x.ZK),.int .i64 x.ZG,.bool x.ZL,.bool x.ZM]
structure M.bC where
 Zy:ByteArray
 Y2:Int
def M.bC.en(x:M.bC):List D:=[.str x.Zy,.int .i64 x.Y2]
theorem M.bC.en.fl(l:List M.bC):(List.map M.bC.en l).all (λy=>y.all D.flat)=true:=DL (λ_=>rfl) l
structure M.fS where
 Id:Int
 Zh:ByteArray
 Zw:ByteArray
 Y2:Int
 bC:List M.bC
 Zc:M.Zc
def M.fS.en(x:M.fS):List D:=[.int .i64 x.Id,.str x.Zh,.str x.Zw,.int .i64 x.Y2,.sl (List.map M.bC.en x.bC),.sl (List.map M.Instr.en x.Zc.Zz),.int .i64 x.Zc.Pc,.sl (List.map enI x.Zc.ZK),.int .i64 x.Zc.ZG,.bool x.Zc.ZL,.bool x.Zc.ZM]
def CH(j:List Int):Option Bool:=
 some (decide ((List.length j:Int)>1048576))
set_option maxRecDepth 40000 in
def kK(j:List Int):Nat->Int->Int->Option M.aO
 |0,_,_=>none
 |U+1,I,C=>if(decide (C<(List.length j:Int)))=true then if(decide (C<4000))=true then(idx j C).bind λJ=>kK j U (i64.wrap (BitVec.ofInt (IntKind.i64.bits) (i64.wrap ((i64.wrap ((i64.wrap (I*137))+(i64.wrap J)))+11))&&&BitVec.ofInt (IntKind.i64.bits) 1073741823).toNat) (i64.wrap (C+1))else some (⟨j,0,I⟩:M.aO)else some (⟨j,0,I⟩:M.aO)
set_option maxRecDepth 40000 in
theorem Me:type_of%@kK.eq_2:=@kK.eq_2
def wY(j:List Int):Option M.aO:=
 kK j fuel (i64.wrap (193017+(List.length j:Int))) 0
def nU(j:M.aO):Option (Int×Int×Int):=
 if(decide (j.i<(List.length j.b:Int)))=true then(idx j.b j.i).bind λC=>some (i64.wrap (j.i+1),i64.wrap ((i64.wrap (j.h*6364136223846793005))+1442695040888963407),i64.wrap (BitVec.ofInt (IntKind.i64.bits) (i64.wrap ((i64.wrap (BitVec.ofInt (IntKind.i64.bits) (i64.wrap (BitVec.ofInt (IntKind.i64.bits) (Int.fdiv (i64.wrap ((i64.wrap (j.h*6364136223846793005))+1442695040888963407)) (2^(min (33:Int).toNat IntKind.i64.bits))) ^^^ BitVec.ofInt (IntKind.i64.bits) (Int.fdiv (i64.wrap ((i64.wrap (j.h*6364136223846793005))+1442695040888963407)) (2^(min (47:Int).toNat IntKind.i64.bits)))).toNat)&&&BitVec.ofInt (IntKind.i64.bits) 255).toNat)+(i64.wrap C)))&&&BitVec.ofInt (IntKind.i64.bits) 255).toNat)else some (j.i,i64.wrap ((i64.wrap (j.h*6364136223846793005))+1442695040888963407),i64.wrap (BitVec.ofInt (IntKind.i64.bits) (i64.wrap (BitVec.ofInt (IntKind.i64.bits) (Int.fdiv (i64.wrap ((i64.wrap (j.h*6364136223846793005))+1442695040888963407)) (2^(min (33:Int).toNat IntKind.i64.bits))) ^^^ BitVec.ofInt (IntKind.i64.bits) (Int.fdiv (i64.wrap ((i64.wrap (j.h*6364136223846793005))+1442695040888963407)) (2^(min (47:Int).toNat IntKind.i64.bits)))).toNat)&&&BitVec.ofInt (IntKind.i64.bits) 255).toNat)
def aJ(j:M.aO)(C:Int):Option (Int×Int×Int):=
 if(decide (C<=0))=true then some (j.i,j.h,0)else if(decide (C<=256))=true then(nU j).bind λI=>if(decide (C=0))=true then none else some (I.1,I.2.1,Int.tmod I.2.2 C)else(nU j).bind λU=>(nU (⟨j.b,U.1,U.2.1⟩:M.aO)).bind λJ=>(nU (⟨j.b,J.1,J.2.1⟩:M.aO)).bind λaf=>if(decide (C=0))=true then none else some (af.1,af.2.1,Int.tmod (i64.wrap ((i64.wrap ((i64.wrap (U.2.2*65536))+(i64.wrap (J.2.2*256))))+af.2.2)) C)
def eK(I:M.aO)(C:List ByteArray):Option (Int×Int×ByteArray):=
 (aJ I (List.length C:Int)).bind λj=>(idx C j.2.2).bind λJ=>some (j.1,j.2.1,J)
def jV(C:M.aO):Option (Int×Int×ByteArray):=
 (eK C ([(⟨#[98,97,110,107]⟩:ByteArray),(⟨#[115,104,111,112]⟩:ByteArray),(⟨#[110,101,119,115]⟩:ByteArray)])).bind λj=>some (j.1,j.2.1,j.2.2)
def cM(C:M.aO)(I:Int):Option (Int×Int×Bool):=
 (aJ C I).bind λj=>some (j.1,j.2.1,j.2.2==0)
def aZ(j:Int)(C:Int)(I:Int):Option Bool:=
 if(decide (j>=C))=true then some (decide (j<=I))else some false
def fZ(j:ByteArray):Nat->Int->Option Bool
 |0,_=>none
 |J+1,I=>if(decide (I<(j.size:Int)))=true then(Rz j I).bind λC=>if(decide ((C.toNat:Int)<97))=true then if(decide ((C.toNat:Int)<48))=true then some false else if(decide ((C.toNat:Int)>57))=true then some false else fZ j J (i64.wrap (I+1))else if(decide ((C.toNat:Int)>122))=true then if(decide ((C.toNat:Int)<48))=true then some false else if(decide ((C.toNat:Int)>57))=true then some false else fZ j J (i64.wrap (I+1))else fZ j J (i64.wrap (I+1))else some (decide ((j.size:Int)<=12))
def vC(j:ByteArray):Option Bool:=
 fZ j fuel 0
def eH(j:M.Key):Option Bool:=
 (aZ j.Zi 1 3).bind λJ=>if J=true then(aZ j.N (-1000000000000) 1000000000000).bind λU=>if U=true then if(j.Zi !=2)=true then(vC j.Zp).bind λC=>if C=true then if(j.Zi !=1)=true then some true else some (j.Zp.toList==(⟨#[]⟩:ByteArray).toList)else some false else if(j.N==0)=true then(vC j.Zp).bind λI=>if I=true then if(j.Zi !=1)=true then some true else some (j.Zp.toList==(⟨#[]⟩:ByteArray).toList)else some false else some false else some false else some false
def kX(j:ByteArray):Nat->Int->Option Bool
 |0,_=>none
 |U+1,C=>if(decide (C<(j.size:Int)))=true then(Rz j C).bind λI=>if(decide ((I.toNat:Int)<97))=true then some false else if(decide ((I.toNat:Int)>122))=true then some false else kX j U (i64.wrap (C+1))else(aZ (j.size:Int) 1 8).bind λJ=>some J
def bU(j:ByteArray):Option Bool:=
 kX j fuel 0
def gR(j:M.aV):Option Bool:=
 (aZ j.Zg 1 1000000).bind λU=>if U=true then(aZ j.ZI 1 1000000).bind λx4=>if x4=true then(eH j.Key).bind λC=>if C=true then(bU j.Field).bind λJ=>if J=true then(aZ j.N 0 1000000000).bind λI=>some I else some false else some false else some false else some false
def kB(j:M.aF):Nat->Int->Option Bool
 |0,_=>none
 |J+1,C=>if(decide (C<(List.length j.Y9:Int)))=true then(idx j.Y9 C).bind λI=>(gR I).bind λU=>if(!U)=true then some false else if(I.Zg !=j.Zg)=true then some false else if(I.ZI !=(i64.wrap ((i64.wrap (j.Zr-(List.length j.Y9:Int)))+C)))=true then some false else kB j J (i64.wrap (C+1))else some true
def fX(j:M.aF):Option Bool:=
 (aZ j.Zg 1 1000000).bind λC=>if(!C)=true then some false else(aZ j.Zr 1 1000000).bind λI=>if(!I)=true then some false else if(decide ((List.length j.Y9:Int)>20))=true then some false else kB j fuel 0
def kU(j:Int):Option (M.aF×Bool):=
 (fX (⟨j,1,([]:List M.aV)⟩:M.aF)).bind λC=>if(!C)=true then some ((⟨0,0,([]:List M.aV)⟩:M.aF),false)else some ((⟨j,1,([]:List M.aV)⟩:M.aF),true)
def bP(j:M.YZ):Nat->Int->Int->Option Bool
 |0,_,_=>none
 |J+1,U,I=>if(decide (I<((3:Nat):Int)))=true then(idx ([j.Zv,j.Zs,j.Zm]) I).bind λC=>(aZ C 0 1000000000000).bind λaf=>if(!af)=true then some false else if(C !=0)=true then if(decide (C<=U))=true then some false else bP j J C (i64.wrap (I+1))else bP j J U (i64.wrap (I+1))else(bU j.Zh).bind λah=>some ah
def jK(j:M.YZ):Option Bool:=
 bP j fuel 0 0
def sL(j:M.Y7):Option Bool:=
 (aZ j.ZC 1 4).bind λC=>if C=true then(aZ j.ZA 0 999).bind λI=>if I=true then(aZ j.Y2 0 1000000000000).bind λJ=>if J=true then some (decide ((List.length j.ZE:Int)<=60))else some false else some false else some false
def fD(U:List M.Zb)(J:Int)(C:M.Zb)(I:Int->Option Bool):Nat->Int->Option Bool
 |0,_=>none
 |af+1,j=>if(decide (j<J))=true then(idx U j).bind λah=>if(ah.Zh.toList==C.Zh.toList)=true then if(ah.Zy.toList==C.Zy.toList)=true then some false else fD U J C I af (i64.wrap (j+1))else fD U J C I af (i64.wrap (j+1))else I j
def dS(j:List M.Zb):Nat->Int->Option Bool
 |0,_=>none
 |U+1,C=>if(decide (C<(List.length j:Int)))=true then(idx j C).bind λI=>(bU I.Zh).bind λaf=>if(!af)=true then some false else(bU I.Zy).bind λah=>if(!ah)=true then some false else(sL I.Y7).bind λJ=>if(!J)=true then some false else fD j C I (λ(aa:Int)=>dS j U (i64.wrap (C+1))) fuel 0 else some (decide ((List.length j:Int)<=12))
def oA(j:List M.Zb):Option Bool:=
 dS j fuel 0
def dQ(C:M.aE):Nat->Int->Option Bool
 |0,_=>none
 |J+1,j=>if(decide (j<(List.length C.Y1:Int)))=true then(idx C.Y1 j).bind λI=>(aZ I.Y2 1 1000000000000).bind λae=>if(!ae)=true then some false else if(decide (j>0))=true then(idx C.Y1 (i64.wrap (j-1))).bind λaf=>if(decide (af.Y2>=I.Y2))=true then some false else(oA I.Y8).bind λah=>if(!ah)=true then some false else dQ C J (i64.wrap (j+1))else(oA I.Y8).bind λU=>if(!U)=true then some false else dQ C J (i64.wrap (j+1))else some (decide ((List.length C.Y1:Int)<=4))
def bS(j:M.aE):Option Bool:=
 dQ j fuel 0
def fM(C:M.aC):Nat->Int->Option Bool
 |0,_=>none
 |J+1,j=>if(decide (j<(List.length C.Y4:Int)))=true then(idx C.Y4 j).bind λI=>(bU I.Name).bind λU=>if(!U)=true then some false else(aZ I.N 0 1000000000).bind λaf=>if(!af)=true then some false else if(decide (j>0))=true then(idx C.Y4 (i64.wrap (j-1))).bind λah=>if(!(Op.bytesLess ah.Name.toList I.Name.toList))=true then some false else fM C J (i64.wrap (j+1))else fM C J (i64.wrap (j+1))else some (decide ((List.length C.Y4:Int)<=6))
def bD(j:M.aC):Option Bool:=
 fM j fuel 0
def vD(j:Bool)(C:Bool):Option Int:=
 if j=true then some (-1)else if C=true then some 1 else some 0
def bB(j:M.Key)(C:M.Key):Option Int:=
 (eH j).bind λx1=>if(!x1)=true then some 0 else(eH C).bind λx4=>if(!x4)=true then some 0 else if(j.Zi !=C.Zi)=true then(vD (decide (j.Zi<C.Zi)) true).bind λJ=>some J else if(j.N !=C.N)=true then(vD (decide (j.N<C.N)) true).bind λU=>some U else(vD (Op.bytesLess j.Zp.toList C.Zp.toList) (!(Op.bytesLess j.Zp.toList C.Zp.toList||j.Zp.toList==C.Zp.toList))).bind λI=>some I
def gG(j:M.aA):Nat->Int->Option Bool
 |0,_=>none
 |J+1,C=>if(decide (C<(List.length j.Y3:Int)))=true then(idx j.Y3 C).bind λI=>(eH I.Key).bind λae=>if(!ae)=true then some false else(bD I.aC).bind λaf=>if(!af)=true then some false else if(decide (C>0))=true then(idx j.Y3 (i64.wrap (C-1))).bind λah=>(bB ah.Key I.Key).bind λU=>if(decide (U>=0))=true then some false else gG j J (i64.wrap (C+1))else gG j J (i64.wrap (C+1))else(bU j.Name).bind λaj=>if aj=true then if(decide ((List.length j.Y3:Int)<=16))=true then(aZ j.Zn 0 1000000).bind λak=>some ak else some false else some false
def jU(j:M.aA):Option Bool:=
 gG j fuel 0
def iZ(C:M.YY)(I:ByteArray):Nat->Int->Option Int
 |0,_=>none
 |U+1,j=>if(decide (j<(List.length C.Y5:Int)))=true then(idx C.Y5 j).bind λJ=>if(J.Name.toList==I.toList)=true then some j else iZ C I U (i64.wrap (j+1))else some (-1)
def mY(j:M.YY)(C:ByteArray):Option Int:=
 iZ j C fuel 0
def mO(C:M.aC)(J:ByteArray):Nat->Int->Option (Int×Bool)
 |0,_=>none
 |U+1,j=>if(decide (j<(List.length C.Y4:Int)))=true then(idx C.Y4 j).bind λI=>if(I.Name.toList==J.toList)=true then some (I.N,true)else mO C J U (i64.wrap (j+1))else some (0,false)
def hZ(j:M.aC)(C:ByteArray):Option (Int×Bool):=
 mO j C fuel 0
def xW(I:M.Zd)(U:M.Zd)(J:ByteArray):Option Bool:=
 (hZ I.aC J).bind λC=>(hZ U.aC J).bind λj=>if(decide (C.1<j.1))=true then some true else if(C.1==j.1)=true then(bB I.Key U.Key).bind λx7=>some (decide (x7<0))else some false
def bQ(j:M.aC):Option M.aC:=
 (app 24 ([]:List M.Field) j.Y4).bind λC=>some j
def sZ(j:M.Zd):Option M.Zd:=
 (bQ j.aC).bind λC=>some (⟨j.Key,C⟩:M.Zd)
def lC(U:ByteArray)(I:List M.Zd)(J:M.Zd)(C:Int->Option (List M.Zd)):Nat->Int->Option (List M.Zd)
 |0,_=>none
 |ai+1,j=>if(decide (j>0))=true then(idx I (i64.wrap (j-1))).bind λaj=>(xW J aj U).bind λak=>if ak=true then lC U I J C ai (i64.wrap (j-1))else C j else C j
def jE(J:M.aA)(U:ByteArray):Nat->Int->List M.Zd->Option (List M.Zd)
 |0,_,_=>none
 |ai+1,I,j=>if(decide (I<(List.length J.Y3:Int)))=true then(idx J.Y3 I).bind λaf=>(hZ af.aC U).bind λaj=>if(!aj.2)=true then jE J U ai (i64.wrap (I+1)) j else lC U j af (λ(C:Int)=>(yK j C).bind λal=>(app 56 ([]:List M.Zd) (List.take C.toNat j)).bind λao=>(sZ af).bind λah=>(app 56 (List.take C.toNat j) ([ah])).bind λaq=>(app 56 ((List.take C.toNat j)++[ah]) (List.drop C.toNat j)).bind λak=>jE J U ai (i64.wrap (I+1)) (((List.take C.toNat j)++[ah])++(List.drop C.toNat j))) fuel (List.length j:Int)else some j
def wH(j:M.aA)(C:ByteArray):Option (List M.Zd):=
 jE j C fuel 0 ([]:List M.Zd)
def jI(C:ByteArray)(x1:(List M.Zd)):Nat->Int->Option (M.Key×M.Key×Bool)
 |0,_=>none
 |af+1,j=>if(decide (j<(List.length x1:Int)))=true then(idx x1 (i64.wrap (j-1))).bind λJ=>(hZ J.aC C).bind λah=>(idx x1 j).bind λI=>(hZ I.aC C).bind λU=>if(ah.1==U.1)=true then some (J.Key,I.Key,true)else jI C x1 af (i64.wrap (j+1))else some ((⟨0,0,(⟨#[]⟩:ByteArray)⟩:M.Key),(⟨0,0,(⟨#[]⟩:ByteArray)⟩:M.Key),false)
def pS(I:M.aA)(j:ByteArray):Option (M.Key×M.Key×Bool):=
 (wH I j).bind λC=>jI j C fuel 1
def fC(U:M.YY)(J:Int)(C:M.aM)(af:Int->Option Bool):Nat->Int->Option Bool
 |0,_=>none
 |ai+1,j=>if(decide (j<J))=true then(idx U.Za j).bind λI=>if((I.aA.toList==C.aA.toList)&&(I.Field.toList==C.Field.toList))=true then some false else fC U J C af ai (i64.wrap (j+1))else af j
def dW(j:M.YY):Nat->Int->Option Bool
 |0,_=>none
 |ah+1,C=>if(decide (C<(List.length j.Za:Int)))=true then(idx j.Za C).bind λI=>(mY j I.aA).bind λJ=>if(decide (J<0))=true then some false else(bU I.Field).bind λai=>if(!ai)=true then some false else(idx j.Y5 J).bind λaj=>(pS aj I.Field).bind λak=>if ak.2.2=true then some false else fC j C I (λ(af:Int)=>dW j ah (i64.wrap (C+1))) fuel 0 else(bU j.Name).bind λal=>if al=true then(aZ j.Y2 0 1000).bind λU=>if U=true then if(decide ((List.length j.Y5:Int)<=4))=true then some (decide ((List.length j.Za:Int)<=4))else some false else some false else some false
def dV(C:M.YY):Nat->Int->Option Bool
 |0,_=>none
 |I+1,j=>if(decide (j<(List.length C.Y5:Int)))=true then(idx C.Y5 j).bind λJ=>(jU J).bind λU=>if(!U)=true then some false else if(decide (j>0))=true then(idx C.Y5 (i64.wrap (j-1))).bind λaf=>if(!(Op.bytesLess af.Name.toList J.Name.toList))=true then some false else dV C I (i64.wrap (j+1))else dV C I (i64.wrap (j+1))else dW C fuel 0
def bM(j:M.YY):Option Bool:=
 dV j fuel 0
def kT(j:M.aD):Option Bool:=
 (jU j.Zf).bind λC=>if C=true then if(j.Zf.Name.toList==(⟨#[110,111,116,101,115]⟩:ByteArray).toList)=true then(aZ j.Zx 0 1000000000000).bind λI=>if I=true then(fX j.Ze.aF).bind λJ=>some J else some false else some false else some false
def sG(j:M.Y7)(C:Bool):Option Int:=
 if C=true then some 76 else some (i64.wrap (16+(List.length j.ZE:Int)))
def gP(U:M.aE)(J:Int)(k8:Int->Int->Option Int):Nat->Int->Int->Option Int
 |0,_,_=>none
 |ai+1,C,j=>(idx U.Y1 J).bind λaf=>if(decide (j<(List.length af.Y8:Int)))=true then(idx af.Y8 j).bind λI=>(sG I.Y7 (I.Y7.ZC==3)).bind λaj=>gP U J k8 ai (i64.wrap (C+aj)) (i64.wrap (j+1))else k8 C j
def dO(C:M.aE):Nat->Int->Int->Option Int
 |0,_,_=>none
 |U+1,I,j=>if(decide (j<(List.length C.Y1:Int)))=true then gP C j (λ(J:Int) (ae:Int)=>dO C U J (i64.wrap (j+1))) fuel I 0 else some I
def rY(j:M.aE):Option Int:=
 dO j fuel 0 0
def bA(j:M.Key):Nat->Int->List Int->Option (List Int)
 |0,_,_=>none
 |J+1,I,C=>if(decide (I>=0))=true then if(j.Zi !=2)=true then if(decide (0<=(i64.wrap (8*I))))=true then(app 1 C ([IntKind.u8.wrap (i64.wrap (BitVec.ofInt (IntKind.i64.bits) (Int.fdiv (i64.wrap (j.N+1000000000000)) (2^(min (i64.wrap (8*I)).toNat IntKind.i64.bits)))&&&BitVec.ofInt (IntKind.i64.bits) 255).toNat)])).bind λaf=>bA j J (i64.wrap (I-1)) (C++[IntKind.u8.wrap (i64.wrap (BitVec.ofInt (IntKind.i64.bits) (Int.fdiv (i64.wrap (j.N+1000000000000)) (2^(min (i64.wrap (8*I)).toNat IntKind.i64.bits)))&&&BitVec.ofInt (IntKind.i64.bits) 255).toNat)])else none else(app 1 C (cO j.Zp)).bind λah=>some (C++(cO j.Zp))else(app 1 C (cO j.Zp)).bind λU=>some (C++(cO j.Zp))
def iD(j:M.Key):Option (List Int):=
 (eH j).bind λC=>if(!C)=true then some ([]:List Int)else bA j fuel 5 ([IntKind.u8.wrap j.Zi])
def bV  :Nat->Int->List Int->Option (List Int)
 |0,_,_=>none
 |I+1,j,C=>if(decide (j>127))=true then(app 1 C ([IntKind.u8.wrap (i64.wrap (BitVec.ofInt (IntKind.i64.bits) (i64.wrap (BitVec.ofInt (IntKind.i64.bits) j&&&BitVec.ofInt (IntKind.i64.bits) 127).toNat)|||BitVec.ofInt (IntKind.i64.bits) 128).toNat)])).bind λJ=>bV I (Int.fdiv j (2^(min (7:Int).toNat IntKind.i64.bits))) (C++[IntKind.u8.wrap (i64.wrap (BitVec.ofInt (IntKind.i64.bits) (i64.wrap (BitVec.ofInt (IntKind.i64.bits) j&&&BitVec.ofInt (IntKind.i64.bits) 127).toNat)|||BitVec.ofInt (IntKind.i64.bits) 128).toNat)])else(app 1 C ([IntKind.u8.wrap j])).bind λU=>some (C++[IntKind.u8.wrap j])
def bI(j:List Int)(C:Int):Option (List Int):=
 (app 1 ([]:List Int) j).bind λJ=>(aZ C 0 1000000000000).bind λI=>if(!I)=true then some j else bV fuel C j
def bH(I:List Int)(j:List Int):Option (List Int):=
 (bI I (List.length j:Int)).bind λC=>(app 1 C j).bind λJ=>some (C++j)
def bZ(C:M.aC):Nat->Int->List Int->Option (List Int)
 |0,_,_=>none
 |af+1,j,J=>if(decide (j<(List.length C.Y4:Int)))=true then(idx C.Y4 j).bind λI=>(bH J (cO I.Name)).bind λah=>(bI ah I.N).bind λU=>bZ C af (i64.wrap (j+1)) U else some J
def eT(j:M.aC):Option (List Int):=
 (bD j).bind λC=>if(!C)=true then some ([]:List Int)else(bI ([]:List Int) (List.length j.Y4:Int)).bind λI=>bZ j fuel 0 I
def iS(C:M.aA):Nat->Int->Int->Option Int
 |0,_,_=>none
 |aa+1,J,j=>if(decide (j<(List.length C.Y3:Int)))=true then(idx C.Y3 j).bind λI=>(iD I.Key).bind λU=>(eT I.aC).bind λaf=>iS C aa (i64.wrap ((i64.wrap (J+(List.length U:Int)))+(List.length af:Int))) (i64.wrap (j+1))else some J
def pO(j:M.aA):Option Int:=
 iS j fuel 0 0
def fJ(C:M.YY):Nat->Int->Int->Option Int
 |0,_,_=>none
 |aa+1,I,j=>if(decide (j<(List.length C.Y5:Int)))=true then(idx C.Y5 j).bind λU=>(pO U).bind λJ=>fJ C aa (i64.wrap (I+J)) (i64.wrap (j+1))else some I
def oT(j:M.YY):Option Int:=
 fJ j fuel 0 0
def xS(j:M.bG):Option Int:=
 (oT j.Zf).bind λC=>some (i64.wrap (C+(List.length j.ZD:Int)))
def wK(j:M.aK):Option Int:=
 (rY j.Y1).bind λC=>(xS j.bG).bind λJ=>(pO j.aD.Zf).bind λI=>some (i64.wrap ((i64.wrap ((i64.wrap (C+J))+I))+(i64.wrap (40*(List.length j.aD.Ze.aF.Y9:Int)))))
def sJ(j:M.aK):Option Bool:=
 (bU j.Zh).bind λx1=>if x1=true then(bU j.Zw).bind λx4=>if x4=true then(jK j.YZ).bind λI=>if I=true then if(j.YZ.Zh.toList==j.Zh.toList)=true then(bS j.Y1).bind λaa=>if aa=true then(bM j.bG.Zf).bind λJ=>if J=true then(kT j.aD).bind λaf=>if af=true then(aZ j.Zo 0 1000000000000).bind λU=>if U=true then(wK j).bind λC=>some (decide (C<=2500))else some false else some false else some false else some false else some false else some false else some false else some false
def pE(j:ByteArray)(I:ByteArray)(U:Int):Option (M.aK×Bool):=
 (kU U).bind λC=>if(!C.2)=true then some ((⟨(⟨#[]⟩:ByteArray),(⟨#[]⟩:ByteArray),(⟨(⟨#[]⟩:ByteArray),0,0,0⟩:M.YZ),(⟨([]:List M.Y6)⟩:M.aE),(⟨(⟨(⟨#[]⟩:ByteArray),0,([]:List M.aA),([]:List M.aM)⟩:M.YY),([]:List Int),0⟩:M.bG),(⟨(⟨(⟨#[]⟩:ByteArray),([]:List M.Zd),0⟩:M.aA),0,(⟨(⟨0,0,([]:List M.aV)⟩:M.aF),0,0⟩:M.Ze)⟩:M.aD),0,false⟩:M.aK),false)else(sJ (⟨j,I,(⟨j,0,0,0⟩:M.YZ),(⟨([]:List M.Y6)⟩:M.aE),(⟨(⟨(⟨#[97,112,112]⟩:ByteArray),1,[(⟨(⟨#[110,111,116,101,115]⟩:ByteArray),([]:List M.Zd),0⟩:M.aA)],([]:List M.aM)⟩:M.YY),([]:List Int),0⟩:M.bG),(⟨(⟨(⟨#[110,111,116,101,115]⟩:ByteArray),([]:List M.Zd),0⟩:M.aA),0,(⟨C.1,0,0⟩:M.Ze)⟩:M.aD),0,false⟩:M.aK)).bind λJ=>if(!J)=true then some ((⟨(⟨#[]⟩:ByteArray),(⟨#[]⟩:ByteArray),(⟨(⟨#[]⟩:ByteArray),0,0,0⟩:M.YZ),(⟨([]:List M.Y6)⟩:M.aE),(⟨(⟨(⟨#[]⟩:ByteArray),0,([]:List M.aA),([]:List M.aM)⟩:M.YY),([]:List Int),0⟩:M.bG),(⟨(⟨(⟨#[]⟩:ByteArray),([]:List M.Zd),0⟩:M.aA),0,(⟨(⟨0,0,([]:List M.aV)⟩:M.aF),0,0⟩:M.Ze)⟩:M.aD),0,false⟩:M.aK),false)else some ((⟨j,I,(⟨j,0,0,0⟩:M.YZ),(⟨([]:List M.Y6)⟩:M.aE),(⟨(⟨(⟨#[97,112,112]⟩:ByteArray),1,[(⟨(⟨#[110,111,116,101,115]⟩:ByteArray),([]:List M.Zd),0⟩:M.aA)],([]:List M.aM)⟩:M.YY),([]:List Int),0⟩:M.bG),(⟨(⟨(⟨#[110,111,116,101,115]⟩:ByteArray),([]:List M.Zd),0⟩:M.aA),0,(⟨C.1,0,0⟩:M.Ze)⟩:M.aD),0,false⟩:M.aK),true)
def dK(C:M.aO):Option (Int×Int×M.Key):=
 (aJ C 6).bind λj=>some (j.1,j.2.1,(⟨1,j.2.2,(⟨#[]⟩:ByteArray)⟩:M.Key))
def cT(C:M.aO):Option (Int×Int×ByteArray):=
 (eK C ([(⟨#[97]⟩:ByteArray),(⟨#[98]⟩:ByteArray),(⟨#[99]⟩:ByteArray),(⟨#[100,111,110,101]⟩:ByteArray),(⟨#[116,105,116,108,101]⟩:ByteArray)])).bind λj=>some (j.1,j.2.1,j.2.2)
def jX(j:M.aC)(I:ByteArray)(J:Int)(x1:M.aC):Nat->Int->Option (M.aC×Bool)
 |0,_=>none
 |af+1,C=>if(decide (C<(List.length j.Y4:Int)))=true then(idx j.Y4 C).bind λU=>if(Op.bytesLess U.Name.toList I.toList)=true then jX j I J x1 af (i64.wrap (C+1))else if(U.Name.toList==I.toList)=true then(idx x1.Y4 C).bind λae=>(bD j).bind λah=>if(!ah)=true then(bQ j).bind λai=>some (ai,false)else(bD (⟨List.set x1.Y4 C.toNat (⟨ae.Name,J⟩:M.Field)⟩:M.aC)).bind λaj=>if(!aj)=true then(bQ j).bind λak=>some (ak,false)else some ((⟨List.set x1.Y4 C.toNat (⟨ae.Name,J⟩:M.Field)⟩:M.aC),true)else(yK j.Y4 C).bind λaz=>(app 24 ([]:List M.Field) (List.take C.toNat j.Y4)).bind λba=>(app 24 (List.take C.toNat j.Y4) ([(⟨I,J⟩:M.Field)])).bind λbd=>(zN j.Y4 C).bind λbf=>(app 24 ((List.take C.toNat j.Y4)++[(⟨I,J⟩:M.Field)]) (List.drop C.toNat j.Y4)).bind λbg=>(bD j).bind λal=>if(!al)=true then(bQ j).bind λao=>some (ao,false)else(bD (⟨((List.take C.toNat j.Y4)++[(⟨I,J⟩:M.Field)])++(List.drop C.toNat j.Y4)⟩:M.aC)).bind λaq=>if(!aq)=true then(bQ j).bind λar=>some (ar,false)else some ((⟨((List.take C.toNat j.Y4)++[(⟨I,J⟩:M.Field)])++(List.drop C.toNat j.Y4)⟩:M.aC),true)else(yK j.Y4 C).bind λbh=>(app 24 ([]:List M.Field) (List.take C.toNat j.Y4)).bind λbj=>(app 24 (List.take C.toNat j.Y4) ([(⟨I,J⟩:M.Field)])).bind λbl=>(zN j.Y4 C).bind λbm=>(app 24 ((List.take C.toNat j.Y4)++[(⟨I,J⟩:M.Field)]) (List.drop C.toNat j.Y4)).bind λbn=>(bD j).bind λav=>if(!av)=true then(bQ j).bind λaw=>some (aw,false)else(bD (⟨((List.take C.toNat j.Y4)++[(⟨I,J⟩:M.Field)])++(List.drop C.toNat j.Y4)⟩:M.aC)).bind λax=>if(!ax)=true then(bQ j).bind λay=>some (ay,false)else some ((⟨((List.take C.toNat j.Y4)++[(⟨I,J⟩:M.Field)])++(List.drop C.toNat j.Y4)⟩:M.aC),true)
def fY(j:M.aC)(I:ByteArray)(J:Int):Option (M.aC×Bool):=
 (bQ j).bind λC=>jX j I J C fuel 0
def kH(I:M.aO):Nat->Int->Int->Int->List M.Field->Option (Int×Int×M.aC)
 |0,_,_,_,_=>none
 |aj+1,U,aa,J,af=>if(decide (U>0))=true then(cT (⟨I.b,aa,J⟩:M.aO)).bind λC=>(aJ (⟨I.b,C.1,C.2.1⟩:M.aO) 5).bind λj=>(fY (⟨af⟩:M.aC) C.2.2 j.2.2).bind λak=>kH I aj (i64.wrap (U-1)) j.1 j.2.1 ak.1.Y4 else some (aa,J,(⟨af⟩:M.aC))
def hJ(C:M.aO):Option (Int×Int×M.aC):=
 (aJ C 4).bind λj=>kH C fuel j.2.2 j.1 j.2.1 ([]:List M.Field)
def nD(j:M.aA):Nat->Int->List M.Zd->Option M.aA
 |0,_,_=>none
 |af+1,C,I=>if(decide (C<(List.length j.Y3:Int)))=true then(idx j.Y3 C).bind λU=>(sZ U).bind λJ=>(app 56 I ([J])).bind λai=>nD j af (i64.wrap (C+1)) (I++[J])else some (⟨j.Name,I,j.Zn⟩:M.aA)
def bL(j:M.aA):Option M.aA:=
 nD j fuel 0 ([]:List M.Zd)
def nE(j:M.YY):Nat->Int->List M.aA->Option M.YY
 |0,_,_=>none
 |af+1,C,I=>if(decide (C<(List.length j.Y5:Int)))=true then(idx j.Y5 C).bind λU=>(bL U).bind λJ=>(app 48 I ([J])).bind λai=>nE j af (i64.wrap (C+1)) (I++[J])else some (⟨j.Name,j.Y2,I,j.Za⟩:M.YY)
def dR(j:M.YY):Option M.YY:=
 (app 32 ([]:List M.aM) j.Za).bind λC=>nE j fuel 0 ([]:List M.aA)
def tX(j:M.bG):Option M.bG:=
 (dR j.Zf).bind λC=>(app 1 ([]:List Int) j.ZD).bind λI=>some (⟨C,j.ZD,j.Zu⟩:M.bG)
def dF(U:List Int)(I:Int):Nat->Int->Int->Option (Int×Int×Bool)
 |0,_,_=>none
 |aa+1,J,j=>if(decide (j<6))=true then if(decide (I<0))=true then some (0,0,false)else if(decide (I>=(i64.wrap ((List.length U:Int)-j))))=true then some (0,0,false)else(idx U (i64.wrap (I+j))).bind λC=>if(decide (0<=(i64.wrap (7*j))))=true then if(decide ((i64.wrap C)<128))=true then if((i64.wrap C)==0)=true then if(decide (j>0))=true then some (0,0,false)else if(decide ((i64.wrap (BitVec.ofInt (IntKind.i64.bits) J|||BitVec.ofInt (IntKind.i64.bits) (i64.wrap ((i64.wrap (BitVec.ofInt (IntKind.i64.bits) (i64.wrap C)&&&BitVec.ofInt (IntKind.i64.bits) 127).toNat)*2^(min (i64.wrap (7*j)).toNat IntKind.i64.bits)))).toNat)>1000000000000))=true then some (0,0,false)else some (i64.wrap (BitVec.ofInt (IntKind.i64.bits) J|||BitVec.ofInt (IntKind.i64.bits) (i64.wrap ((i64.wrap (BitVec.ofInt (IntKind.i64.bits) (i64.wrap C)&&&BitVec.ofInt (IntKind.i64.bits) 127).toNat)*2^(min (i64.wrap (7*j)).toNat IntKind.i64.bits)))).toNat,i64.wrap ((i64.wrap (I+j))+1),true)else if(decide ((i64.wrap (BitVec.ofInt (IntKind.i64.bits) J|||BitVec.ofInt (IntKind.i64.bits) (i64.wrap ((i64.wrap (BitVec.ofInt (IntKind.i64.bits) (i64.wrap C)&&&BitVec.ofInt (IntKind.i64.bits) 127).toNat)*2^(min (i64.wrap (7*j)).toNat IntKind.i64.bits)))).toNat)>1000000000000))=true then some (0,0,false)else some (i64.wrap (BitVec.ofInt (IntKind.i64.bits) J|||BitVec.ofInt (IntKind.i64.bits) (i64.wrap ((i64.wrap (BitVec.ofInt (IntKind.i64.bits) (i64.wrap C)&&&BitVec.ofInt (IntKind.i64.bits) 127).toNat)*2^(min (i64.wrap (7*j)).toNat IntKind.i64.bits)))).toNat,i64.wrap ((i64.wrap (I+j))+1),true)else dF U I aa (i64.wrap (BitVec.ofInt (IntKind.i64.bits) J|||BitVec.ofInt (IntKind.i64.bits) (i64.wrap ((i64.wrap (BitVec.ofInt (IntKind.i64.bits) (i64.wrap C)&&&BitVec.ofInt (IntKind.i64.bits) 127).toNat)*2^(min (i64.wrap (7*j)).toNat IntKind.i64.bits)))).toNat) (i64.wrap (j+1))else none else some (0,0,false)
def eG(j:List Int)(C:Int):Option (Int×Int×Bool):=
 dF j C fuel 0 0
def dE(C:List Int)(J:Int)(I:Int):Option ((List Int)×Int×Bool):=
 (eG C J).bind λj=>if(!j.2.2)=true then some (([]:List Int),0,false)else if(decide (j.1>I))=true then some (([]:List Int),0,false)else if(decide (j.1>(i64.wrap ((List.length C:Int)-j.2.1))))=true then some (([]:List Int),0,false)else(OE C j.2.1 (i64.wrap (j.2.1+j.1))).bind λx6=>(app 1 ([]:List Int) (List.drop j.2.1.toNat (List.take (i64.wrap (j.2.1+j.1)).toNat C))).bind λU=>some (List.drop j.2.1.toNat (List.take (i64.wrap (j.2.1+j.1)).toNat C),i64.wrap (j.2.1+j.1),true)
def fU(C:List Int):Nat->Int->List Int->Option (List Int)
 |0,_,_=>none
 |U+1,j,I=>if(decide (j<(List.length C:Int)))=true then(idx C j).bind λJ=>(app 8 I ([i64.wrap J])).bind λaf=>fU C U (i64.wrap (j+1)) (I++[i64.wrap J])else some I
def rH(j:List Int):Option (List Int):=
 fU j fuel 0 ([(List.length j:Int)])
def AW(I:Int)(j:Int):Option Int:=
 (aZ j 1 1000000000000).bind λC=>if(!C)=true then some 0 else if(decide (j=0))=true then none else some (Int.tmod (i64.wrap ((Int.tmod I j)+j)) j)
def rM(C:List Int):Nat->Int->Int->Option Int
 |0,_,_=>none
 |U+1,I,j=>if(decide (j<(List.length C:Int)))=true then(idx C j).bind λx6=>(AW x6 2147483647).bind λJ=>rM C U (Int.tmod (i64.wrap ((i64.wrap ((i64.wrap (I*1000003))+J))+13)) 2147483647) (i64.wrap (j+1))else some I
def Ak(j:List Int):Option Int:=
 rM j fuel 11 0
def rX(C:Int)(J:List Int):Option Int:=
 (rH J).bind λj=>(app 8 ([101,C]) j).bind λU=>(Ak ([101,C]++j)).bind λI=>some I
def oG(J:List Int):Nat->Int->List (List Int)->Option ((List (List Int))×Int)
 |0,_,_=>none
 |ah+1,C,j=>if(decide (C<(List.length J:Int)))=true then(dE J C 4000).bind λI=>if(!I.2.2)=true then some (j,C)else(eG J I.2.1).bind λU=>if(!U.2.2)=true then some (j,C)else(rX (List.length j:Int) I.1).bind λai=>if(U.1 !=ai)=true then some (j,C)else(app 24 j ([I.1])).bind λaj=>oG J ah U.2.1 (j++[I.1])else some (j,C)
def wA(j:List Int):Option ((List (List Int))×Int):=
 oG j fuel 0 ([]:List (List Int))
def iO(j:List Int)(C:Int):Nat->Int->Int->Option (M.Key×Bool)
 |0,_,_=>none
 |aa+1,I,J=>if(decide (J<7))=true then(idx j J).bind λU=>iO j C aa (i64.wrap (BitVec.ofInt (IntKind.i64.bits) (i64.wrap (I*2^(min (8:Int).toNat IntKind.i64.bits)))|||BitVec.ofInt (IntKind.i64.bits) (i64.wrap U)).toNat) (i64.wrap (J+1))else(zN j 7).bind λah=>(toStr (List.drop (7:Int).toNat j)).bind λai=>(eH (⟨i64.wrap C,i64.wrap (I-1000000000000),cP (List.drop (7:Int).toNat j)⟩:M.Key)).bind λaf=>if(!af)=true then some ((⟨0,0,(⟨#[]⟩:ByteArray)⟩:M.Key),false)else some ((⟨i64.wrap C,i64.wrap (I-1000000000000),cP (List.drop (7:Int).toNat j)⟩:M.Key),true)
def pG(j:List Int):Option (M.Key×Bool):=
 if((List.length j:Int)==0)=true then some ((⟨0,0,(⟨#[]⟩:ByteArray)⟩:M.Key),false)else(idx j 0).bind λC=>if((i64.wrap C) !=2)=true then if(decide ((List.length j:Int)<7))=true then some ((⟨0,0,(⟨#[]⟩:ByteArray)⟩:M.Key),false)else iO j C fuel 0 1 else(zN j 1).bind λJ=>(toStr (List.drop (1:Int).toNat j)).bind λU=>(eH (⟨i64.wrap C,0,cP (List.drop (1:Int).toNat j)⟩:M.Key)).bind λI=>if(!I)=true then some ((⟨0,0,(⟨#[]⟩:ByteArray)⟩:M.Key),false)else some ((⟨i64.wrap C,0,cP (List.drop (1:Int).toNat j)⟩:M.Key),true)
def nC(U:List Int)(x1:(Int×Int×Bool)):Nat->Int->Int->List M.Field->Option (M.aC×Int×Bool)
 |0,_,_,_=>none
 |ah+1,v8,C,I=>if(decide (C<x1.1))=true then(dE U v8 8).bind λj=>if(!j.2.2)=true then some ((⟨([]:List M.Field)⟩:M.aC),0,false)else(eG U j.2.1).bind λJ=>if(!J.2.2)=true then some ((⟨([]:List M.Field)⟩:M.aC),0,false)else(toStr j.1).bind λaj=>(app 24 I ([(⟨cP j.1,J.1⟩:M.Field)])).bind λak=>nC U x1 ah J.2.1 (i64.wrap (C+1)) (I++[(⟨cP j.1,J.1⟩:M.Field)])else(bD (⟨I⟩:M.aC)).bind λai=>some ((⟨I⟩:M.aC),v8,ai)
def zR(C:List Int)(I:Int):Option (M.aC×Int×Bool):=
 (eG C I).bind λj=>if(!j.2.2)=true then some ((⟨([]:List M.Field)⟩:M.aC),0,false)else if(decide (j.1>6))=true then some ((⟨([]:List M.Field)⟩:M.aC),0,false)else nC C j fuel j.2.1 0 ([]:List M.Field)
def lR(C:List Int):Option (M.aC×Bool):=
 (zR C 0).bind λj=>if(!j.2.2)=true then some ((⟨([]:List M.Field)⟩:M.aC),false)else if(j.2.1 !=(List.length C:Int))=true then some ((⟨([]:List M.Field)⟩:M.aC),false)else some (j.1,true)
def xD(j:List Int)(p1:Int):Option (M.Op×Int×Bool):=
 (eG j p1).bind λU=>(dE j U.2.1 100).bind λC=>(dE j C.2.1 100).bind λx5=>(dE j x5.2.1 200).bind λJ=>(dE j J.2.1 100).bind λI=>if(!U.2.2)=true then some ((⟨0,(⟨#[]⟩:ByteArray),(⟨0,0,(⟨#[]⟩:ByteArray)⟩:M.Key),(⟨([]:List M.Field)⟩:M.aC),(⟨#[]⟩:ByteArray)⟩:M.Op),0,false)else if(!C.2.2)=true then some ((⟨0,(⟨#[]⟩:ByteArray),(⟨0,0,(⟨#[]⟩:ByteArray)⟩:M.Key),(⟨([]:List M.Field)⟩:M.aC),(⟨#[]⟩:ByteArray)⟩:M.Op),0,false)else if(!x5.2.2)=true then some ((⟨0,(⟨#[]⟩:ByteArray),(⟨0,0,(⟨#[]⟩:ByteArray)⟩:M.Key),(⟨([]:List M.Field)⟩:M.aC),(⟨#[]⟩:ByteArray)⟩:M.Op),0,false)else if(!J.2.2)=true then some ((⟨0,(⟨#[]⟩:ByteArray),(⟨0,0,(⟨#[]⟩:ByteArray)⟩:M.Key),(⟨([]:List M.Field)⟩:M.aC),(⟨#[]⟩:ByteArray)⟩:M.Op),0,false)else if(!I.2.2)=true then some ((⟨0,(⟨#[]⟩:ByteArray),(⟨0,0,(⟨#[]⟩:ByteArray)⟩:M.Key),(⟨([]:List M.Field)⟩:M.aC),(⟨#[]⟩:ByteArray)⟩:M.Op),0,false)else(toStr C.1).bind λaf=>(toStr I.1).bind λah=>(pG x5.1).bind λaa=>(lR J.1).bind λae=>some ((⟨U.1,cP C.1,aa.1,ae.1,cP I.1⟩:M.Op),I.2.1,true)
def yF(j:M.Op):Option Bool:=
 (aZ j.Zi 1 6).bind λx1=>if x1=true then(bU j.aA).bind λx4=>if x4=true then if(j.Zi==5)=true then(bD j.aC).bind λJ=>if J=true then if(j.Zi==6)=true then(bU j.Field).bind λU=>if U=true then some true else if(j.Zi !=6)=true then some (j.Field.toList==(⟨#[]⟩:ByteArray).toList)else some false else if(j.Zi !=6)=true then some (j.Field.toList==(⟨#[]⟩:ByteArray).toList)else some false else some false else(eH j.Key).bind λC=>if C=true then(bD j.aC).bind λaf=>if af=true then if(j.Zi==6)=true then(bU j.Field).bind λI=>if I=true then some true else if(j.Zi !=6)=true then some (j.Field.toList==(⟨#[]⟩:ByteArray).toList)else some false else if(j.Zi !=6)=true then some (j.Field.toList==(⟨#[]⟩:ByteArray).toList)else some false else some false else some false else some false else some false
def lJ(C:List M.Op):Nat->Int->List Int->Option (List Int)
 |0,_,_=>none
 |af+1,I,J=>if(decide (I<(List.length C:Int)))=true then(idx C I).bind λj=>(yF j).bind λah=>if(!ah)=true then some ([]:List Int)else(bI J j.Zi).bind λai=>(bH ai (cO j.aA)).bind λaj=>(iD j.Key).bind λak=>(bH aj ak).bind λal=>(eT j.aC).bind λU=>(bH al U).bind λaq=>(bH aq (cO j.Field)).bind λar=>lJ C af (i64.wrap (I+1)) ar else if(decide ((List.length C:Int)>6))=true then some ([]:List Int)else some J
def pH(j:List M.Op):Option (List Int):=
 (bI ([]:List Int) (List.length j:Int)).bind λC=>lJ j fuel 0 C
def lI(j:List Int)(C:List Int):Option Bool:=
 (toStr j).bind λI=>(toStr C).bind λJ=>some ((cP j).toList==(cP C).toList)
def iU(I:List Int)(x1:(Int×Int×Bool)):Nat->Int->Int->List M.Op->Option ((List M.Op)×Bool)
 |0,_,_,_=>none
 |af+1,v5,J,C=>if(decide (J<x1.1))=true then(xD I v5).bind λj=>if(!j.2.2)=true then some (([]:List M.Op),false)else(app 96 C ([j.1])).bind λaj=>iU I x1 af j.2.1 (i64.wrap (J+1)) (C++[j.1])else(pH C).bind λah=>(lI ah I).bind λU=>if(!U)=true then some (([]:List M.Op),false)else some (C,true)
def pF(C:List Int):Option ((List M.Op)×Bool):=
 (eG C 0).bind λj=>if(!j.2.2)=true then some (([]:List M.Op),false)else if(decide (j.1>6))=true then some (([]:List M.Op),false)else iU C j fuel j.2.1 0 ([]:List M.Op)
def kP(J:M.aA)(j:M.Key):Nat->Int->Option Int
 |0,_=>none
 |U+1,C=>if(decide (C<(List.length J.Y3:Int)))=true then(idx J.Y3 C).bind λI=>if((I.Key.Zi==j.Zi)&&((I.Key.N==j.N)&&(I.Key.Zp.toList==j.Zp.toList)))=true then some C else kP J j U (i64.wrap (C+1))else some (-1)
def kF(j:M.aA)(C:M.Key):Option Int:=
 kP j C fuel 0
def lQ(U:M.aA)(I:M.Key)(p2:M.aC)(C:M.aA):Nat->Int->Option (M.aA×Bool)
 |0,_=>none
 |aj+1,j=>if(decide (j<(List.length U.Y3:Int)))=true then(idx U.Y3 j).bind λak=>(bB ak.Key I).bind λal=>if(decide (al<0))=true then lQ U I p2 C aj (i64.wrap (j+1))else(yK C.Y3 j).bind λaw=>(app 56 ([]:List M.Zd) (List.take j.toNat C.Y3)).bind λax=>(bQ p2).bind λJ=>(app 56 (List.take j.toNat C.Y3) ([(⟨I,J⟩:M.Zd)])).bind λay=>(app 56 ((List.take j.toNat C.Y3)++[(⟨I,J⟩:M.Zd)]) (List.drop j.toNat C.Y3)).bind λaz=>if(I.Zi==1)=true then(aZ I.N (i64.wrap (U.Zn+1)) 1000000).bind λah=>if ah=true then some ((⟨C.Name,((List.take j.toNat C.Y3)++[(⟨I,J⟩:M.Zd)])++(List.drop j.toNat C.Y3),I.N⟩:M.aA),true)else some ((⟨C.Name,((List.take j.toNat C.Y3)++[(⟨I,J⟩:M.Zd)])++(List.drop j.toNat C.Y3),C.Zn⟩:M.aA),true)else some ((⟨C.Name,((List.take j.toNat C.Y3)++[(⟨I,J⟩:M.Zd)])++(List.drop j.toNat C.Y3),C.Zn⟩:M.aA),true)else(yK C.Y3 j).bind λao=>(app 56 ([]:List M.Zd) (List.take j.toNat C.Y3)).bind λaq=>(bQ p2).bind λae=>(app 56 (List.take j.toNat C.Y3) ([(⟨I,ae⟩:M.Zd)])).bind λar=>(app 56 ((List.take j.toNat C.Y3)++[(⟨I,ae⟩:M.Zd)]) (List.drop j.toNat C.Y3)).bind λav=>if(I.Zi==1)=true then(aZ I.N (i64.wrap (U.Zn+1)) 1000000).bind λai=>if ai=true then some ((⟨C.Name,((List.take j.toNat C.Y3)++[(⟨I,ae⟩:M.Zd)])++(List.drop j.toNat C.Y3),I.N⟩:M.aA),true)else some ((⟨C.Name,((List.take j.toNat C.Y3)++[(⟨I,ae⟩:M.Zd)])++(List.drop j.toNat C.Y3),C.Zn⟩:M.aA),true)else some ((⟨C.Name,((List.take j.toNat C.Y3)++[(⟨I,ae⟩:M.Zd)])++(List.drop j.toNat C.Y3),C.Zn⟩:M.aA),true)
def dI(j:M.aA)(U:M.Key)(J:M.aC):Option (M.aA×Bool):=
 (jU j).bind λx1=>if(!x1)=true then(bL j).bind λx4=>some (x4,false)else(eH U).bind λx6=>if(!x6)=true then(bL j).bind λx9=>some (x9,false)else(bD J).bind λaf=>if(!af)=true then(bL j).bind λah=>some (ah,false)else(bL j).bind λC=>(kF j U).bind λI=>if(decide (I>=0))=true then(bQ J).bind λai=>(idx C.Y3 I).bind λaj=>some ((⟨C.Name,List.set C.Y3 I.toNat (⟨aj.Key,ai⟩:M.Zd),C.Zn⟩:M.aA),true)else if(decide ((List.length j.Y3:Int)>=16))=true then some (C,false)else lQ j U J C fuel 0
def uA(j:M.aA)(C:M.Key)(p2:M.aC):Option (M.aA×Bool):=
 (kF j C).bind λJ=>if(decide (J>=0))=true then(bL j).bind λU=>some (U,false)else(dI j C p2).bind λI=>some (I.1,I.2)
def tO(C:M.Key)(j:M.eX):Option Bool:=
 (eH C).bind λx1=>if(!x1)=true then some false else if j.ZJ=true then(eH j.ZN).bind λx5=>if(!x5)=true then some false else if j.ZB=true then(eH j.ZH).bind λx9=>if(!x9)=true then some false else if(!j.ZJ)=true then if(!j.ZB)=true then some true else(bB C j.ZH).bind λaa=>some (decide (aa<=0))else(bB j.ZN C).bind λae=>if(decide (ae<=0))=true then if(!j.ZB)=true then some true else(bB C j.ZH).bind λaf=>some (decide (af<=0))else some false else if(!j.ZJ)=true then if(!j.ZB)=true then some true else(bB C j.ZH).bind λah=>some (decide (ah<=0))else(bB j.ZN C).bind λJ=>if(decide (J<=0))=true then if(!j.ZB)=true then some true else(bB C j.ZH).bind λaj=>some (decide (aj<=0))else some false else if j.ZB=true then(eH j.ZH).bind λak=>if(!ak)=true then some false else if(!j.ZJ)=true then if(!j.ZB)=true then some true else(bB C j.ZH).bind λal=>some (decide (al<=0))else(bB j.ZN C).bind λI=>if(decide (I<=0))=true then if(!j.ZB)=true then some true else(bB C j.ZH).bind λU=>some (decide (U<=0))else some false else if(!j.ZJ)=true then if(!j.ZB)=true then some true else(bB C j.ZH).bind λar=>some (decide (ar<=0))else(bB j.ZN C).bind λav=>if(decide (av<=0))=true then if(!j.ZB)=true then some true else(bB C j.ZH).bind λaw=>some (decide (aw<=0))else some false
def fV(j:M.aA)(J:M.eX):Nat->Int->List M.Zd->Option (M.aA×Int)
 |0,_,_=>none
 |U+1,I,C=>if(decide (I<(List.length j.Y3:Int)))=true then(idx j.Y3 I).bind λaf=>(tO af.Key J).bind λai=>if(!ai)=true then(sZ af).bind λah=>(app 56 C ([ah])).bind λaj=>fV j J U (i64.wrap (I+1)) (C++[ah])else fV j J U (i64.wrap (I+1)) C else some ((⟨j.Name,C,j.Zn⟩:M.aA),i64.wrap ((List.length j.Y3:Int)-(List.length C:Int)))
def mX(j:M.aA)(J:M.eX):Option (M.aA×Int):=
 (jU j).bind λC=>if(!C)=true then(bL j).bind λI=>some (I,0)else fV j J fuel 0 ([]:List M.Zd)
def zA(j:M.aA)(p1:M.Key)(C:ByteArray):Option (M.aA×Int×Bool):=
 (kF j p1).bind λx1=>if(decide (x1>=0))=true then(idx j.Y3 x1).bind λx4=>(hZ x4.aC C).bind λU=>(fY x4.aC C (i64.wrap (U.1+1))).bind λah=>(dI j p1 ah.1).bind λJ=>if ah.2=true then some (J.1,i64.wrap (U.1+1),J.2)else some (J.1,i64.wrap (U.1+1),false)else(hZ (⟨([]:List M.Field)⟩:M.aC) C).bind λI=>(fY (⟨([]:List M.Field)⟩:M.aC) C (i64.wrap (I.1+1))).bind λai=>(dI j p1 ai.1).bind λaf=>if ai.2=true then some (af.1,i64.wrap (I.1+1),af.2)else some (af.1,i64.wrap (I.1+1),false)
def wE(C:M.aA)(j:M.Op):Option (M.aA×Int×Bool):=
 if(j.Zi==1)=true then(dI C j.Key j.aC).bind λJ=>some (J.1,1,J.2)else if(j.Zi==2)=true then(uA C j.Key j.aC).bind λx5=>some (x5.1,1,x5.2)else if(j.Zi==3)=true then(mX C (⟨true,true,j.Key,j.Key⟩:M.eX)).bind λx8=>some (x8.1,x8.2,true)else if(j.Zi==4)=true then(kF C j.Key).bind λU=>if(decide (U<0))=true then(bL C).bind λah=>some (ah,-1,true)else(bL C).bind λai=>(idx C.Y3 U).bind λaj=>some (ai,(List.length aj.aC.Y4:Int),true)else if(j.Zi==5)=true then(mX C (⟨false,false,(⟨0,0,(⟨#[]⟩:ByteArray)⟩:M.Key),(⟨0,0,(⟨#[]⟩:ByteArray)⟩:M.Key)⟩:M.eX)).bind λaf=>some (af.1,af.2,true)else(zA C j.Key j.Field).bind λI=>some (I.1,I.2.1,I.2.2)
def wW(C:M.YY)(U:M.Op):Option (M.YY×Int×Bool):=
 (dR C).bind λj=>(mY C U.aA).bind λI=>(bM C).bind λx5=>if(!x5)=true then some (j,0,false)else(yF U).bind λx8=>if(!x8)=true then some (j,0,false)else if(decide (I<0))=true then some (j,0,false)else(idx C.Y5 I).bind λae=>(wE ae U).bind λJ=>(idx j.Y5 I).bind λaj=>if(!J.2.2)=true then(dR C).bind λaf=>some (af,0,false)else(bM (⟨j.Name,j.Y2,List.set j.Y5 I.toNat J.1,j.Za⟩:M.YY)).bind λah=>if(!ah)=true then(dR C).bind λai=>some (ai,0,false)else some ((⟨j.Name,j.Y2,List.set j.Y5 I.toNat J.1,j.Za⟩:M.YY),J.2.1,true)
def pJ(p0:M.YY)(I:List M.Op):Nat->Int->ByteArray->Int->List Int->List M.aA->List M.aM->Option (M.YY×(List Int)×Bool)
 |0,_,_,_,_,_,_=>none
 |ak+1,C,ah,U,J,aa,ae=>if(decide (C<(List.length I:Int)))=true then(idx I C).bind λal=>(wW (⟨ah,U,aa,ae⟩:M.YY) al).bind λj=>if(!j.2.2)=true then(dR p0).bind λao=>some (ao,([]:List Int),false)else(app 8 J ([j.2.1])).bind λaq=>pJ p0 I ak (i64.wrap (C+1)) j.1.Name j.1.Y2 (J++[j.2.1]) j.1.Y5 j.1.Za else some ((⟨ah,U,aa,ae⟩:M.YY),J,true)
def tC(C:M.YY)(I:List M.Op):Option (M.YY×(List Int)×Bool):=
 (dR C).bind λj=>(bM C).bind λJ=>if(!J)=true then some (j,([]:List Int),false)else if(decide ((List.length I:Int)>6))=true then some (j,([]:List Int),false)else pJ C I fuel 0 j.Name j.Y2 ([]:List Int) j.Y5 j.Za
def mS(x3:((List (List Int))×Int)):Nat->Int->ByteArray->Int->List M.aA->List M.aM->Option (M.YY×Int)
 |0,_,_,_,_,_=>none
 |ak+1,C,af,J,U,I=>if(decide (C<(List.length x3.1:Int)))=true then(idx x3.1 C).bind λal=>(pF al).bind λaj=>if(!aj.2)=true then some ((⟨af,J,U,I⟩:M.YY),C)else(tC (⟨af,J,U,I⟩:M.YY) aj.1).bind λj=>mS x3 ak (i64.wrap (C+1)) j.1.Name j.1.Y2 j.1.Y5 j.1.Za else some ((⟨af,J,U,I⟩:M.YY),(List.length x3.1:Int))
def uP(C:M.bG):Option (M.YY×Int):=
 (dR C.Zf).bind λj=>(wA C.ZD).bind λI=>mS I fuel 0 j.Name j.Y2 j.Y5 j.Za
def pL(j:List Int)(J:Int)(I:List Int):Option ((List Int)×Bool):=
 (app 1 ([]:List Int) j).bind λx1=>(bH j I).bind λx8=>(rX J I).bind λU=>(bI x8 U).bind λC=>if(decide (J<0))=true then some (j,false)else if(decide ((List.length C:Int)>4000))=true then some (j,false)else some (C,true)
def lF(j:M.bG)(p1:List M.Op):Option (M.bG×Bool):=
 (tX j).bind λC=>(uP j).bind λJ=>(tC J.1 p1).bind λx5=>(pH p1).bind λI=>if(!x5.2.2)=true then some (C,false)else if((List.length I:Int)==0)=true then some (C,false)else if(J.2 !=j.Zu)=true then some (C,false)else(pL j.ZD j.Zu I).bind λU=>if(!U.2)=true then some (C,false)else some ((⟨C.Zf,U.1,i64.wrap (j.Zu+1)⟩:M.bG),true)
def nW(j:M.aF):Option M.aF:=
 (app 72 ([]:List M.aV) j.Y9).bind λC=>some j
def rN(j:M.Ze):Option M.Ze:=
 (nW j.aF).bind λC=>some (⟨C,j.Zt,j.Zj⟩:M.Ze)
def rQ(j:M.aD):Option M.aD:=
 (bL j.Zf).bind λC=>(rN j.Ze).bind λI=>some (⟨C,j.Zx,I⟩:M.aD)
def fW(j:M.aF)(U:M.Key)(J:ByteArray)(I:Int):Option (M.aF×Bool):=
 (nW j).bind λC=>(fX j).bind λx3=>if(!x3)=true then some (C,false)else(app 72 C.Y9 ([(⟨j.Zg,j.Zr,U,J,I⟩:M.aV)])).bind λx6=>(fX (⟨C.Zg,i64.wrap (j.Zr+1),C.Y9++[(⟨j.Zg,j.Zr,U,J,I⟩:M.aV)]⟩:M.aF)).bind λaa=>if(!aa)=true then(nW j).bind λae=>some (ae,false)else some ((⟨C.Zg,i64.wrap (j.Zr+1),C.Y9++[(⟨j.Zg,j.Zr,U,J,I⟩:M.aV)]⟩:M.aF),true)
def iJ(C:M.aA)(j:M.aV):Option (M.aA×Bool):=
 (kF C j.Key).bind λU=>if(decide (U>=0))=true then(idx C.Y3 U).bind λx4=>(fY x4.aC j.Field j.N).bind λx9=>if(!x9.2)=true then(bL C).bind λah=>some (ah,false)else(dI C j.Key x9.1).bind λJ=>some (J.1,J.2)else(fY (⟨([]:List M.Field)⟩:M.aC) j.Field j.N).bind λI=>if(!I.2)=true then(bL C).bind λai=>some (ai,false)else(dI C j.Key I.1).bind λaf=>some (af.1,af.2)
def gU(I:List M.aV):Nat->Int->ByteArray->Int->List M.Zd->Option M.aA
 |0,_,_,_,_=>none
 |ai+1,C,J,af,U=>if(decide (C<(List.length I:Int)))=true then(idx I C).bind λaj=>(iJ (⟨J,U,af⟩:M.aA) aj).bind λj=>if j.2=true then gU I ai (i64.wrap (C+1)) j.1.Name j.1.Zn j.1.Y3 else gU I ai (i64.wrap (C+1)) J af U else some (⟨J,U,af⟩:M.aA)
def sK(C:M.aA)(I:List M.aV):Option M.aA:=
 (bL C).bind λj=>gU I fuel 0 j.Name j.Zn j.Y3
def vM(j:M.aD):Option M.aA:=
 (sK j.Zf j.Ze.aF.Y9).bind λC=>some C
def jH(C:M.aD)(p1:M.Key)(U:ByteArray)(I:Int):Option (M.aD×Bool):=
 (rQ C).bind λj=>(fW C.Ze.aF p1 U I).bind λJ=>(vM C).bind λx5=>(iJ x5 (⟨0,0,p1,U,I⟩:M.aV)).bind λx7=>(kT C).bind λx9=>if(!x9)=true then some (j,false)else if(!J.2)=true then some (j,false)else if(!x7.2)=true then some (j,false)else some ((⟨j.Zf,j.Zx,(⟨J.1,j.Ze.Zt,j.Ze.Zj⟩:M.Ze)⟩:M.aD),true)
def uB(j:M.Y7):Option M.Y7:=
 (app 1 ([]:List Int) j.ZE).bind λC=>some j
def kA(C:M.Y6):Nat->Int->List M.Zb->Option M.Y6
 |0,_,_=>none
 |ah+1,I,J=>if(decide (I<(List.length C.Y8:Int)))=true then(idx C.Y8 I).bind λj=>(uB j.Y7).bind λU=>(app 88 J ([(⟨j.Zh,j.Zy,U⟩:M.Zb)])).bind λai=>kA C ah (i64.wrap (I+1)) (J++[(⟨j.Zh,j.Zy,U⟩:M.Zb)])else some (⟨C.Y2,J⟩:M.Y6)
def uR(j:M.Y6):Option M.Y6:=
 kA j fuel 0 ([]:List M.Zb)
def lW(I:M.aE):Nat->Int->List M.Y6->Option M.aE
 |0,_,_=>none
 |af+1,j,C=>if(decide (j<(List.length I.Y1:Int)))=true then(idx I.Y1 j).bind λU=>(uR U).bind λJ=>(app 32 C ([J])).bind λai=>lW I af (i64.wrap (j+1)) (C++[J])else some (⟨C⟩:M.aE)
def cN(j:M.aE):Option M.aE:=
 lW j fuel 0 ([]:List M.Y6)
def jA(I:M.aE)(C:Int)(x1:M.aE):Nat->Int->Option (M.aE×Bool)
 |0,_=>none
 |ai+1,j=>if(decide (j<(List.length I.Y1:Int)))=true then(idx I.Y1 j).bind λU=>if(decide (U.Y2<C))=true then jA I C x1 ai (i64.wrap (j+1))else(yK x1.Y1 j).bind λar=>(app 32 ([]:List M.Y6) (List.take j.toNat x1.Y1)).bind λav=>(app 32 (List.take j.toNat x1.Y1) ([(⟨C,([]:List M.Zb)⟩:M.Y6)])).bind λaw=>(app 32 ((List.take j.toNat x1.Y1)++[(⟨C,([]:List M.Zb)⟩:M.Y6)]) (List.drop j.toNat x1.Y1)).bind λax=>(bS I).bind λak=>if(!ak)=true then(cN I).bind λal=>some (al,false)else(bS (⟨((List.take j.toNat x1.Y1)++[(⟨C,([]:List M.Zb)⟩:M.Y6)])++(List.drop j.toNat x1.Y1)⟩:M.aE)).bind λao=>if(!ao)=true then(cN I).bind λaq=>some (aq,false)else some ((⟨((List.take j.toNat x1.Y1)++[(⟨C,([]:List M.Zb)⟩:M.Y6)])++(List.drop j.toNat x1.Y1)⟩:M.aE),true)else(yK x1.Y1 j).bind λay=>(app 32 ([]:List M.Y6) (List.take j.toNat x1.Y1)).bind λaz=>(app 32 (List.take j.toNat x1.Y1) ([(⟨C,([]:List M.Zb)⟩:M.Y6)])).bind λba=>(app 32 ((List.take j.toNat x1.Y1)++[(⟨C,([]:List M.Zb)⟩:M.Y6)]) (List.drop j.toNat x1.Y1)).bind λbd=>(bS I).bind λaa=>if(!aa)=true then(cN I).bind λae=>some (ae,false)else(bS (⟨((List.take j.toNat x1.Y1)++[(⟨C,([]:List M.Zb)⟩:M.Y6)])++(List.drop j.toNat x1.Y1)⟩:M.aE)).bind λaf=>if(!af)=true then(cN I).bind λJ=>some (J,false)else some ((⟨((List.take j.toNat x1.Y1)++[(⟨C,([]:List M.Zb)⟩:M.Y6)])++(List.drop j.toNat x1.Y1)⟩:M.aE),true)
def kZ(j:M.aE)(I:Int):Option (M.aE×Bool):=
 (cN j).bind λC=>jA j I C fuel 0
def eO(C:M.aO)(j:(M.aK×Bool))(bh:ByteArray)(bj:Int)(ba:Int)(aw:List M.aA)(ax:List M.aM)(ay:List Int):Nat->Int->ByteArray->Int->Int->Int->Int->Int->Int->Int->Int->List M.Zd->List M.aV->Option (Int×Int×M.aK)
 |0,_,_,_,_,_,_,_,_,_,_,_,_=>none
 |bw+1,bd,ai,aj,ak,al,ao,aq,ar,aa,ae,af,ah=>if(decide (bd>0))=true then(dK (⟨C.b,aa,ae⟩:M.aO)).bind λbl=>(cT (⟨C.b,bl.1,bl.2.1⟩:M.aO)).bind λbm=>(aJ (⟨C.b,bm.1,bm.2.1⟩:M.aO) 6).bind λbn=>(jH (⟨(⟨ai,af,aj⟩:M.aA),ak,(⟨(⟨al,ao,ah⟩:M.aF),aq,ar⟩:M.Ze)⟩:M.aD) bl.2.2 bm.2.2 bn.2.2).bind λI=>eO C j bh bj ba aw ax ay bw (i64.wrap (bd-1)) I.1.Zf.Name I.1.Zf.Zn I.1.Zx I.1.Ze.aF.Zg I.1.Ze.aF.Zr I.1.Ze.Zt I.1.Ze.Zj bn.1 bn.2.1 I.1.Zf.Y3 I.1.Ze.aF.Y9 else(cM (⟨C.b,aa,ae⟩:M.aO) 2).bind λJ=>if J.2.2=true then(aJ (⟨C.b,J.1,J.2.1⟩:M.aO) 3).bind λU=>(kZ j.1.Y1 (i64.wrap (1+U.2.2))).bind λbu=>(aJ (⟨C.b,U.1,U.2.1⟩:M.aO) 50).bind λbo=>(cM (⟨C.b,bo.1,bo.2.1⟩:M.aO) 4).bind λbq=>some (bq.1,bq.2.1,(⟨j.1.Zh,j.1.Zw,(⟨j.1.YZ.Zh,j.1.YZ.Zm,j.1.YZ.Zs,i64.wrap (1+U.2.2)⟩:M.YZ),bu.1,(⟨(⟨bh,bj,aw,ax⟩:M.YY),ay,ba⟩:M.bG),(⟨(⟨ai,af,aj⟩:M.aA),ak,(⟨(⟨al,ao,ah⟩:M.aF),aq,ar⟩:M.Ze)⟩:M.aD),bo.2.2,bq.2.2⟩:M.aK))else(aJ (⟨C.b,J.1,J.2.1⟩:M.aO) 50).bind λbr=>(cM (⟨C.b,br.1,br.2.1⟩:M.aO) 4).bind λbt=>some (bt.1,bt.2.1,(⟨j.1.Zh,j.1.Zw,j.1.YZ,j.1.Y1,(⟨(⟨bh,bj,aw,ax⟩:M.YY),ay,ba⟩:M.bG),(⟨(⟨ai,af,aj⟩:M.aA),ak,(⟨(⟨al,ao,ah⟩:M.aF),aq,ar⟩:M.Ze)⟩:M.aD),br.2.2,bt.2.2⟩:M.aK))
def eQ(I:M.aO)(j:(M.aK×Bool)):Nat->Int->ByteArray->Int->Int->Int->Int->List M.aA->List M.aM->List Int->Option (Int×Int×M.aK)
 |0,_,_,_,_,_,_,_,_,_=>none
 |ax+1,v7,aq,ar,ak,aa,ae,ah,ai,aj=>if(decide (v7>0))=true then(dK (⟨I.b,aa,ae⟩:M.aO)).bind λav=>(hJ (⟨I.b,av.1,av.2.1⟩:M.aO)).bind λJ=>(lF (⟨(⟨aq,ar,ah,ai⟩:M.YY),aj,ak⟩:M.bG) ([(⟨1,(⟨#[110,111,116,101,115]⟩:ByteArray),av.2.2,J.2.2,(⟨#[]⟩:ByteArray)⟩:M.Op)])).bind λC=>eQ I j ax (i64.wrap (v7-1)) C.1.Zf.Name C.1.Zf.Y2 C.1.Zu J.1 J.2.1 C.1.Zf.Y5 C.1.Zf.Za C.1.ZD else(aJ (⟨I.b,aa,ae⟩:M.aO) 3).bind λU=>eO I j aq ar ak ah ai aj fuel U.2.2 j.1.aD.Zf.Name j.1.aD.Zf.Zn j.1.aD.Zx j.1.aD.Ze.aF.Zg j.1.aD.Ze.aF.Zr j.1.aD.Ze.Zt j.1.aD.Ze.Zj U.1 U.2.1 j.1.aD.Zf.Y3 j.1.aD.Ze.aF.Y9
def pP(C:M.aO):Option (Int×Int×M.aK):=
 (jV C).bind λJ=>((cM (⟨C.b,J.1,J.2.1⟩:M.aO) 3).bind λI=>if I.2.2=true then(jV (⟨C.b,I.1,I.2.1⟩:M.aO)).bind λaf=>some (af.2.2,af.1,af.2.1)else some (J.2.2,I.1,I.2.1)).bind λah=>(aJ (⟨C.b,ah.2.1,ah.2.2⟩:M.aO) 3).bind λU=>(pE J.2.2 ah.1 (i64.wrap (1+U.2.2))).bind λj=>(aJ (⟨C.b,U.1,U.2.1⟩:M.aO) 4).bind λaj=>eQ C j fuel aj.2.2 j.1.bG.Zf.Name j.1.bG.Zf.Y2 j.1.bG.Zu aj.1 aj.2.1 j.1.bG.Zf.Y5 j.1.bG.Zf.Za j.1.bG.ZD
def lX(j:M.aK):Option M.aK:=
 (cN j.Y1).bind λC=>(tX j.bG).bind λJ=>(rQ j.aD).bind λI=>some (⟨j.Zh,j.Zw,j.YZ,C,J,I,j.Zo,j.Zl⟩:M.aK)
def lH(I:M.aH):Nat->Int->List M.aK->Option M.aH
 |0,_,_=>none
 |af+1,j,C=>if(decide (j<(List.length I.Y0:Int)))=true then(idx I.Y0 j).bind λU=>(lX U).bind λJ=>(app 328 C ([J])).bind λai=>lH I af (i64.wrap (j+1)) (C++[J])else some (⟨C⟩:M.aH)
def eZ(j:M.aH):Option M.aH:=
 lH j fuel 0 ([]:List M.aK)
def fE(C:M.aH)(J:ByteArray)(I:ByteArray):Nat->Int->Option Int
 |0,_=>none
 |aa+1,j=>if(decide (j<(List.length C.Y0:Int)))=true then(idx C.Y0 j).bind λU=>if(U.Zh.toList==J.toList)=true then if(U.Zw.toList==I.toList)=true then some j else fE C J I aa (i64.wrap (j+1))else fE C J I aa (i64.wrap (j+1))else some (-1)
def sR(j:M.aH)(C:ByteArray)(I:ByteArray):Option Int:=
 fE j C I fuel 0
def tW(j:M.aK)(C:ByteArray)(I:ByteArray):Option Bool:=
 if(Op.bytesLess j.Zh.toList C.toList)=true then some true else if(j.Zh.toList==C.toList)=true then some (Op.bytesLess j.Zw.toList I.toList)else some false
def eU(C:M.aH):Nat->Int->Option Bool
 |0,_=>none
 |J+1,j=>if(decide (j<(List.length C.Y0:Int)))=true then(idx C.Y0 j).bind λI=>(sJ I).bind λU=>if(!U)=true then some false else if(decide (j>0))=true then(idx C.Y0 (i64.wrap (j-1))).bind λaf=>(tW af I.Zh I.Zw).bind λah=>if(!ah)=true then some false else eU C J (i64.wrap (j+1))else eU C J (i64.wrap (j+1))else some (decide ((List.length C.Y0:Int)<=9))
def cC(j:M.aH):Option Bool:=
 eU j fuel 0
def iV(C:M.aH)(I:M.aK)(x1:M.aH):Nat->Int->Option (M.aH×Bool)
 |0,_=>none
 |al+1,j=>if(decide (j<(List.length C.Y0:Int)))=true then(idx C.Y0 j).bind λao=>(tW ao I.Zh I.Zw).bind λaq=>if aq=true then iV C I x1 al (i64.wrap (j+1))else(yK x1.Y0 j).bind λbd=>(app 328 ([]:List M.aK) (List.take j.toNat x1.Y0)).bind λbf=>(lX I).bind λU=>(app 328 (List.take j.toNat x1.Y0) ([U])).bind λbg=>(app 328 ((List.take j.toNat x1.Y0)++[U]) (List.drop j.toNat x1.Y0)).bind λbh=>(cC C).bind λar=>if(!ar)=true then(eZ C).bind λav=>some (av,false)else(cC (⟨((List.take j.toNat x1.Y0)++[U])++(List.drop j.toNat x1.Y0)⟩:M.aH)).bind λaw=>if(!aw)=true then(eZ C).bind λaf=>some (af,false)else some ((⟨((List.take j.toNat x1.Y0)++[U])++(List.drop j.toNat x1.Y0)⟩:M.aH),true)else(yK x1.Y0 j).bind λax=>(app 328 ([]:List M.aK) (List.take j.toNat x1.Y0)).bind λay=>(lX I).bind λJ=>(app 328 (List.take j.toNat x1.Y0) ([J])).bind λaz=>(app 328 ((List.take j.toNat x1.Y0)++[J]) (List.drop j.toNat x1.Y0)).bind λba=>(cC C).bind λah=>if(!ah)=true then(eZ C).bind λai=>some (ai,false)else(cC (⟨((List.take j.toNat x1.Y0)++[J])++(List.drop j.toNat x1.Y0)⟩:M.aH)).bind λaj=>if(!aj)=true then(eZ C).bind λak=>some (ak,false)else some ((⟨((List.take j.toNat x1.Y0)++[J])++(List.drop j.toNat x1.Y0)⟩:M.aH),true)
def kS(j:M.aH)(J:M.aK):Option (M.aH×Bool):=
 (eZ j).bind λI=>(sR j J.Zh J.Zw).bind λC=>if(decide (C>=0))=true then(lX J).bind λU=>(idx I.Y0 C).bind λx8=>(cC j).bind λaa=>if(!aa)=true then(eZ j).bind λae=>some (ae,false)else(cC (⟨List.set I.Y0 C.toNat U⟩:M.aH)).bind λaf=>if(!af)=true then(eZ j).bind λah=>some (ah,false)else some ((⟨List.set I.Y0 C.toNat U⟩:M.aH),true)else iV j J I fuel 0
def rP(C:M.aO):Option (Int×Int×ByteArray):=
 (eK C ([(⟨#[105,110,100,101,120]⟩:ByteArray),(⟨#[115,116,121,108,101]⟩:ByteArray),(⟨#[99,111,100,101]⟩:ByteArray),(⟨#[100,97,116,97]⟩:ByteArray)])).bind λj=>some (j.1,j.2.1,j.2.2)
def lU(p0:M.aO)(p1:Int):Nat->Int->List Int->Int->Int->Option (Int×Int×(List Int))
 |0,_,_,_,_=>none
 |ah+1,U,C,J,I=>if(decide (U<p1))=true then(nU (⟨p0.b,J,I⟩:M.aO)).bind λj=>(app 1 C ([IntKind.u8.wrap j.2.2])).bind λai=>lU p0 p1 ah (i64.wrap (U+1)) (C++[IntKind.u8.wrap j.2.2]) j.1 j.2.1 else some (J,I,C)
def uD(j:M.aO)(C:Int):Option (Int×Int×(List Int)):=
 lU j C fuel 0 ([]:List Int) j.i j.h
def cU(I:M.aO)(C:List Int):Option (Int×Int×Int):=
 (aJ I (List.length C:Int)).bind λj=>(idx C j.2.2).bind λJ=>some (j.1,j.2.1,J)
def mQ(C:M.aO):Option (Int×Int×M.Y7):=
 (aJ C 3).bind λU=>(aJ (⟨C.b,U.1,U.2.1⟩:M.aO) 4).bind λI=>(aJ (⟨C.b,I.1,I.2.1⟩:M.aO) 6).bind λx8=>(uD (⟨C.b,x8.1,x8.2.1⟩:M.aO) x8.2.2).bind λaf=>(cM (⟨C.b,af.1,af.2.1⟩:M.aO) 2).bind λJ=>(aJ (⟨C.b,J.1,J.2.1⟩:M.aO) 14).bind λj=>if(j.2.2==0)=true then(cU (⟨C.b,j.1,j.2.1⟩:M.aO) ([0,4,5])).bind λah=>some (ah.1,ah.2.1,(⟨ah.2.2,200,i64.wrap (1+I.2.2),af.2.2,J.2.2⟩:M.Y7))else if(j.2.2==1)=true then(cU (⟨C.b,j.1,j.2.1⟩:M.aO) ([-1,0,404,999,1000])).bind λai=>some (ai.1,ai.2.1,(⟨i64.wrap (1+U.2.2),ai.2.2,i64.wrap (1+I.2.2),af.2.2,J.2.2⟩:M.Y7))else if(j.2.2==2)=true then(cU (⟨C.b,j.1,j.2.1⟩:M.aO) ([60,61])).bind λaj=>(uD (⟨C.b,aj.1,aj.2.1⟩:M.aO) aj.2.2).bind λak=>some (ak.1,ak.2.1,(⟨i64.wrap (1+U.2.2),200,i64.wrap (1+I.2.2),ak.2.2,J.2.2⟩:M.Y7))else some (j.1,j.2.1,(⟨i64.wrap (1+U.2.2),200,i64.wrap (1+I.2.2),af.2.2,J.2.2⟩:M.Y7))
def iP(C:M.aE)(I:Int):Nat->Int->Option Int
 |0,_=>none
 |U+1,j=>if(decide (j<(List.length C.Y1:Int)))=true then(idx C.Y1 j).bind λJ=>if(J.Y2==I)=true then some j else iP C I U (i64.wrap (j+1))else some (-1)
def tU(j:M.aE)(C:Int):Option Int:=
 iP j C fuel 0
def jL(C:M.Y6)(J:ByteArray)(I:ByteArray):Nat->Int->Option Int
 |0,_=>none
 |aa+1,j=>if(decide (j<(List.length C.Y8:Int)))=true then(idx C.Y8 j).bind λU=>if(U.Zh.toList==J.toList)=true then if(U.Zy.toList==I.toList)=true then some j else jL C J I aa (i64.wrap (j+1))else jL C J I aa (i64.wrap (j+1))else some (-1)
def vZ(j:M.Y6)(C:ByteArray)(I:ByteArray):Option Int:=
 jL j C I fuel 0
def kR(C:M.aE)(p1:Int)(U:ByteArray)(I:ByteArray)(p4:M.Y7):Option (M.aE×Bool):=
 (cN C).bind λJ=>(tU C p1).bind λx3=>if(decide (x3<0))=true then some (J,false)else(uB p4).bind λx6=>(idx J.Y1 x3).bind λj=>(vZ j U I).bind λaa=>if(decide (aa>=0))=true then(idx j.Y8 aa).bind λaq=>(bS C).bind λae=>if(!ae)=true then(cN C).bind λaf=>some (af,false)else(bS (⟨List.set J.Y1 x3.toNat (⟨j.Y2,List.set j.Y8 aa.toNat (⟨U,I,x6⟩:M.Zb)⟩:M.Y6)⟩:M.aE)).bind λah=>if(!ah)=true then(cN C).bind λai=>some (ai,false)else some ((⟨List.set J.Y1 x3.toNat (⟨j.Y2,List.set j.Y8 aa.toNat (⟨U,I,x6⟩:M.Zb)⟩:M.Y6)⟩:M.aE),true)else(app 88 j.Y8 ([(⟨U,I,x6⟩:M.Zb)])).bind λar=>(bS C).bind λaj=>if(!aj)=true then(cN C).bind λak=>some (ak,false)else(bS (⟨List.set J.Y1 x3.toNat (⟨j.Y2,j.Y8++[(⟨U,I,x6⟩:M.Zb)]⟩:M.Y6)⟩:M.aE)).bind λal=>if(!al)=true then(cN C).bind λao=>some (ao,false)else some ((⟨List.set J.Y1 x3.toNat (⟨j.Y2,j.Y8++[(⟨U,I,x6⟩:M.Zb)]⟩:M.Y6)⟩:M.aE),true)
def kV(j:M.aO):Nat->Int->Int->Int->List M.Y6->Option (Int×Int×M.aE)
 |0,_,_,_,_=>none
 |ao+1,ah,aa,ae,af=>if(decide (ah>0))=true then(aJ (⟨j.b,aa,ae⟩:M.aO) 4).bind λC=>(jV (⟨j.b,C.1,C.2.1⟩:M.aO)).bind λU=>(rP (⟨j.b,U.1,U.2.1⟩:M.aO)).bind λJ=>(mQ (⟨j.b,J.1,J.2.1⟩:M.aO)).bind λI=>(kR (⟨af⟩:M.aE) (i64.wrap (1+C.2.2)) U.2.2 J.2.2 I.2.2).bind λaq=>kV j ao (i64.wrap (ah-1)) I.1 I.2.1 aq.1.Y1 else some (aa,ae,(⟨af⟩:M.aE))
def mZ(j:M.aO):Nat->Int->Int->Int->List M.Y6->Option (Int×Int×M.aE)
 |0,_,_,_,_=>none
 |aj+1,U,aa,J,af=>if(decide (U>0))=true then(aJ (⟨j.b,aa,J⟩:M.aO) 4).bind λI=>(kZ (⟨af⟩:M.aE) (i64.wrap (1+I.2.2))).bind λak=>mZ j aj (i64.wrap (U-1)) I.1 I.2.1 ak.1.Y1 else(aJ (⟨j.b,aa,J⟩:M.aO) 5).bind λC=>kV j fuel C.2.2 C.1 C.2.1 af
def xH(C:M.aO):Option (Int×Int×M.aE):=
 (aJ C 3).bind λj=>mZ C fuel j.2.2 j.1 j.2.1 ([]:List M.Y6)
def nB(j:(Int×Int×Int)):Nat->Int->List M.Y6->Option (Int×Int×M.aE)
 |0,_,_=>none
 |U+1,C,I=>if(decide (C<=4))=true then(kZ (⟨I⟩:M.aE) C).bind λJ=>nB j U (i64.wrap (C+1)) J.1.Y1 else some (j.1,j.2.1,(⟨I⟩:M.aE))
def xM(I:M.aO):Option (Int×Int×M.aE):=
 (xH I).bind λC=>(aJ (⟨I.b,C.1,C.2.1⟩:M.aO) 12).bind λj=>if(j.2.2==0)=true then(cU (⟨I.b,j.1,j.2.1⟩:M.aO) ([0,1,9,1000000000001])).bind λJ=>(app 32 C.2.2.Y1 ([(⟨J.2.2,([]:List M.Zb)⟩:M.Y6)])).bind λaj=>some (J.1,J.2.1,(⟨C.2.2.Y1++[(⟨J.2.2,([]:List M.Zb)⟩:M.Y6)]⟩:M.aE))else if(j.2.2==1)=true then if(decide ((List.length C.2.2.Y1:Int)>0))=true then(idx C.2.2.Y1 0).bind λai=>(eK (⟨I.b,j.1,j.2.1⟩:M.aO) ([(⟨#[105,110,100,101,120]⟩:ByteArray),(⟨#[]⟩:ByteArray),(⟨#[122,122]⟩:ByteArray)])).bind λaf=>(mQ (⟨I.b,af.1,af.2.1⟩:M.aO)).bind λU=>(app 88 ai.Y8 ([(⟨(⟨#[98,97,110,107]⟩:ByteArray),af.2.2,U.2.2⟩:M.Zb)])).bind λak=>some (U.1,U.2.1,(⟨List.set C.2.2.Y1 (0:Int).toNat (⟨ai.Y2,ai.Y8++[(⟨(⟨#[98,97,110,107]⟩:ByteArray),af.2.2,U.2.2⟩:M.Zb)]⟩:M.Y6)⟩:M.aE))else some (j.1,j.2.1,C.2.2)else if(j.2.2==2)=true then nB j fuel 1 C.2.2.Y1 else some (j.1,j.2.1,C.2.2)
def sB(I:M.aO):Option (Int×Int×Int):=
 (aJ I 9).bind λj=>(cU (⟨I.b,j.1,j.2.1⟩:M.aO) ([0,1,2,-1,255,256,-1000000000000,1000000000000,j.2.2])).bind λC=>some (C.1,C.2.1,C.2.2)
def xB(C:M.aO):Option (Int×Int×M.Key):=
 (eK C ([(⟨#[]⟩:ByteArray),(⟨#[97]⟩:ByteArray),(⟨#[97,98]⟩:ByteArray),(⟨#[98]⟩:ByteArray),(⟨#[122,57]⟩:ByteArray),(⟨#[97,98,99,100,101,102,103,104,105,106,107,108]⟩:ByteArray)])).bind λI=>(aJ (⟨C.b,I.1,I.2.1⟩:M.aO) 3).bind λj=>if(j.2.2==0)=true then some (j.1,j.2.1,(⟨2,0,I.2.2⟩:M.Key))else if(j.2.2==1)=true then(sB (⟨C.b,j.1,j.2.1⟩:M.aO)).bind λJ=>some (J.1,J.2.1,(⟨3,J.2.2,I.2.2⟩:M.Key))else(sB (⟨C.b,j.1,j.2.1⟩:M.aO)).bind λU=>some (U.1,U.2.1,(⟨1,U.2.2,(⟨#[]⟩:ByteArray)⟩:M.Key))
def lK(j:M.aO):Nat->Int->ByteArray->Int->Int->Int->List M.Zd->Option (Int×Int×M.aA)
 |0,_,_,_,_,_,_=>none
 |av+1,v6,ah,J,aa,ae,af=>if(decide (v6>0))=true then(dK (⟨j.b,aa,ae⟩:M.aO)).bind λak=>(hJ (⟨j.b,ak.1,ak.2.1⟩:M.aO)).bind λal=>(dI (⟨ah,af,J⟩:M.aA) ak.2.2 al.2.2).bind λI=>lK j av (i64.wrap (v6-1)) I.1.Name I.1.Zn al.1 al.2.1 I.1.Y3 else(cM (⟨j.b,aa,ae⟩:M.aO) 8).bind λC=>if C.2.2=true then(xB (⟨j.b,C.1,C.2.1⟩:M.aO)).bind λU=>(hJ (⟨j.b,U.1,U.2.1⟩:M.aO)).bind λar=>(dI (⟨ah,af,J⟩:M.aA) U.2.2 ar.2.2).bind λaw=>some (ar.1,ar.2.1,aw.1)else some (C.1,C.2.1,(⟨ah,af,J⟩:M.aA))
def lZ(C:M.aO)(I:ByteArray):Option (Int×Int×M.aA):=
 (cU C ([0,2,4,6])).bind λj=>lK C fuel j.2.2 I 0 j.1 j.2.1 ([]:List M.Zd)
def lG(C:M.YY)(I:M.iN):Nat->Int->Option Int
 |0,_=>none
 |U+1,j=>if(decide (j<(List.length C.Za:Int)))=true then(idx C.Za j).bind λJ=>if(J.aA.toList==I.aA.toList)=true then if(J.Field.toList==I.Field.toList)=true then some j else lG C I U (i64.wrap (j+1))else lG C I U (i64.wrap (j+1))else some (-1)
def yZ(j:M.YY)(C:M.iN):Option Int:=
 lG j C fuel 0
def tL(j:M.YY)(U:ByteArray)(J:List M.aA):Nat->Int->List M.aM->Option M.YY
 |0,_,_=>none
 |ah+1,I,C=>if(decide (I<(List.length j.Za:Int)))=true then(idx j.Za I).bind λaf=>if(!(af.aA.toList==U.toList))=true then(app 32 C ([af])).bind λai=>tL j U J ah (i64.wrap (I+1)) (C++[af])else tL j U J ah (i64.wrap (I+1)) C else some (⟨j.Name,j.Y2,J,C⟩:M.YY)
def tR(j:M.YY)(J:ByteArray):Nat->Int->List M.aA->Option M.YY
 |0,_,_=>none
 |U+1,I,C=>if(decide (I<(List.length j.Y5:Int)))=true then(idx j.Y5 I).bind λaf=>if(!(af.Name.toList==J.toList))=true then(bL af).bind λah=>(app 48 C ([ah])).bind λai=>tR j J U (i64.wrap (I+1)) (C++[ah])else tR j J U (i64.wrap (I+1)) C else tL j J C fuel 0 ([]:List M.aM)
def BA(j:M.YY)(C:ByteArray):Option M.YY:=
 tR j C fuel 0 ([]:List M.aA)
def lB(I:M.YY)(C:M.iN)(x1:M.YY):Nat->Int->Option (M.YY×Bool)
 |0,_=>none
 |J+1,j=>(if(decide (j<(List.length I.Y5:Int)))=true then(idx I.Y5 j).bind λaj=>some (Op.bytesLess aj.Name.toList C.aA.toList)else some false).bind λak=>if ak=true then lB I C x1 J (i64.wrap (j+1))else(yK x1.Y5 j).bind λal=>(app 48 ([]:List M.aA) (List.take j.toNat x1.Y5)).bind λao=>(app 48 (List.take j.toNat x1.Y5) ([(⟨C.aA,([]:List M.Zd),0⟩:M.aA)])).bind λaq=>(app 48 ((List.take j.toNat x1.Y5)++[(⟨C.aA,([]:List M.Zd),0⟩:M.aA)]) (List.drop j.toNat x1.Y5)).bind λar=>((bM I).bind λaa=>if(!aa)=true then some true else(bM (⟨x1.Name,x1.Y2,((List.take j.toNat x1.Y5)++[(⟨C.aA,([]:List M.Zd),0⟩:M.aA)])++(List.drop j.toNat x1.Y5),x1.Za⟩:M.YY)).bind λU=>some (!U)).bind λaf=>if af=true then(dR I).bind λah=>some (ah,false)else some ((⟨x1.Name,x1.Y2,((List.take j.toNat x1.Y5)++[(⟨C.aA,([]:List M.Zd),0⟩:M.aA)])++(List.drop j.toNat x1.Y5),x1.Za⟩:M.YY),true)
def iY(I:M.YY)(C:M.iN):Option (M.YY×Bool):=
 (dR I).bind λj=>(mY I C.aA).bind λU=>(yZ I C).bind λJ=>(if(C.Zi==1)=true then some (decide (U<0))else some false).bind λx7=>if x7=true then lB I C j fuel 0 else(if(C.Zi==2)=true then some (decide (U>=0))else some false).bind λae=>if ae=true then(BA I C.aA).bind λaa=>((bM I).bind λaf=>if(!af)=true then some true else(bM aa).bind λah=>some (!ah)).bind λai=>if ai=true then(dR I).bind λaj=>some (aj,false)else some (aa,true)else(if(C.Zi==3)=true then if(decide (U>=0))=true then some (decide (J<0))else some false else some false).bind λak=>if ak=true then(app 32 j.Za ([(⟨C.aA,C.Field⟩:M.aM)])).bind λba=>((bM I).bind λal=>if(!al)=true then some true else(bM (⟨j.Name,j.Y2,j.Y5,j.Za++[(⟨C.aA,C.Field⟩:M.aM)]⟩:M.YY)).bind λao=>some (!ao)).bind λaq=>if aq=true then(dR I).bind λar=>some (ar,false)else some ((⟨j.Name,j.Y2,j.Y5,j.Za++[(⟨C.aA,C.Field⟩:M.aM)]⟩:M.YY),true)else(if(C.Zi==4)=true then some (decide (J>=0))else some false).bind λav=>if av=true then(yK j.Za J).bind λbd=>(zN j.Za (i64.wrap (J+1))).bind λbf=>(app 32 (List.take J.toNat j.Za) (List.drop (i64.wrap (J+1)).toNat j.Za)).bind λbg=>((bM I).bind λaw=>if(!aw)=true then some true else(bM (⟨j.Name,j.Y2,j.Y5,(List.take J.toNat j.Za)++(List.drop (i64.wrap (J+1)).toNat j.Za)⟩:M.YY)).bind λax=>some (!ax)).bind λay=>if ay=true then(dR I).bind λaz=>some (az,false)else some ((⟨j.Name,j.Y2,j.Y5,(List.take J.toNat j.Za)++(List.drop (i64.wrap (J+1)).toNat j.Za)⟩:M.YY),true)else some (j,false)
def xP(j:M.aO):Option (Int×Int×M.YY):=
 (lZ j (⟨#[110,111,116,101,115]⟩:ByteArray)).bind λC=>(lZ (⟨j.b,C.1,C.2.1⟩:M.aO) (⟨#[116,97,103,115]⟩:ByteArray)).bind λI=>(TO 48 ([C.2.2,I.2.2])).bind λx8=>(cM (⟨j.b,I.1,I.2.1⟩:M.aO) 2).bind λaa=>if aa.2.2=true then(lZ (⟨j.b,aa.1,aa.2.1⟩:M.aO) (⟨#[108,105,115,116,115]⟩:ByteArray)).bind λJ=>(app 48 ([J.2.2]) ([C.2.2,I.2.2])).bind λao=>(cM (⟨j.b,J.1,J.2.1⟩:M.aO) 3).bind λaf=>if af.2.2=true then(cT (⟨j.b,af.1,af.2.1⟩:M.aO)).bind λai=>(iY (⟨(⟨#[97,112,112]⟩:ByteArray),1,[J.2.2]++[C.2.2,I.2.2],([]:List M.aM)⟩:M.YY) (⟨3,(⟨#[110,111,116,101,115]⟩:ByteArray),ai.2.2⟩:M.iN)).bind λak=>some (ai.1,ai.2.1,ak.1)else some (af.1,af.2.1,(⟨(⟨#[97,112,112]⟩:ByteArray),1,[J.2.2]++[C.2.2,I.2.2],([]:List M.aM)⟩:M.YY))else(cM (⟨j.b,aa.1,aa.2.1⟩:M.aO) 3).bind λU=>if U.2.2=true then(cT (⟨j.b,U.1,U.2.1⟩:M.aO)).bind λaj=>(iY (⟨(⟨#[97,112,112]⟩:ByteArray),1,[C.2.2,I.2.2],([]:List M.aM)⟩:M.YY) (⟨3,(⟨#[110,111,116,101,115]⟩:ByteArray),aj.2.2⟩:M.iN)).bind λal=>some (aj.1,aj.2.1,al.1)else some (U.1,U.2.1,(⟨(⟨#[97,112,112]⟩:ByteArray),1,[C.2.2,I.2.2],([]:List M.aM)⟩:M.YY))
def Al(I:M.aO):Option (Int×Int×M.Op):=
 (aJ I 6).bind λC=>(eK (⟨I.b,C.1,C.2.1⟩:M.aO) ([(⟨#[110,111,116,101,115]⟩:ByteArray),(⟨#[116,97,103,115]⟩:ByteArray),(⟨#[110,111,116,101,115]⟩:ByteArray),(⟨#[108,105,115,116,115]⟩:ByteArray)])).bind λJ=>(dK (⟨I.b,J.1,J.2.1⟩:M.aO)).bind λj=>if((i64.wrap (1+C.2.2))==1)=true then(hJ (⟨I.b,j.1,j.2.1⟩:M.aO)).bind λae=>some (ae.1,ae.2.1,(⟨i64.wrap (1+C.2.2),J.2.2,j.2.2,ae.2.2,(⟨#[]⟩:ByteArray)⟩:M.Op))else if((i64.wrap (1+C.2.2))==2)=true then(hJ (⟨I.b,j.1,j.2.1⟩:M.aO)).bind λaf=>some (af.1,af.2.1,(⟨i64.wrap (1+C.2.2),J.2.2,j.2.2,af.2.2,(⟨#[]⟩:ByteArray)⟩:M.Op))else if((i64.wrap (1+C.2.2))==6)=true then(cT (⟨I.b,j.1,j.2.1⟩:M.aO)).bind λah=>some (ah.1,ah.2.1,(⟨i64.wrap (1+C.2.2),J.2.2,j.2.2,(⟨([]:List M.Field)⟩:M.aC),ah.2.2⟩:M.Op))else if((i64.wrap (1+C.2.2))==5)=true then(cM (⟨I.b,j.1,j.2.1⟩:M.aO) 2).bind λU=>if U.2.2=true then(dK (⟨I.b,U.1,U.2.1⟩:M.aO)).bind λai=>some (ai.1,ai.2.1,(⟨1,J.2.2,ai.2.2,(⟨([]:List M.Field)⟩:M.aC),(⟨#[]⟩:ByteArray)⟩:M.Op))else some (U.1,U.2.1,(⟨i64.wrap (1+C.2.2),J.2.2,(⟨0,0,(⟨#[]⟩:ByteArray)⟩:M.Key),(⟨([]:List M.Field)⟩:M.aC),(⟨#[]⟩:ByteArray)⟩:M.Op))else some (j.1,j.2.1,(⟨i64.wrap (1+C.2.2),J.2.2,j.2.2,(⟨([]:List M.Field)⟩:M.aC),(⟨#[]⟩:ByteArray)⟩:M.Op))
def pA(p0:M.aO):Nat->Int->List M.Op->Int->Int->Option (Int×Int×(List M.Op))
 |0,_,_,_,_=>none
 |ah+1,U,C,J,I=>if(decide (U>0))=true then(Al (⟨p0.b,J,I⟩:M.aO)).bind λj=>(app 96 C ([j.2.2])).bind λai=>pA p0 ah (i64.wrap (U-1)) (C++[j.2.2]) j.1 j.2.1 else some (J,I,C)
def zJ(C:M.aO)(I:Int):Option (Int×Int×(List M.Op)):=
 (aJ C (i64.wrap (I+1))).bind λj=>pA C fuel j.2.2 ([]:List M.Op) j.1 j.2.1
def lV(p0:M.aO):Nat->Int->ByteArray->Int->Int->Int->Int->List M.aA->List M.aM->List Int->Option (Int×Int×M.bG)
 |0,_,_,_,_,_,_,_,_,_=>none
 |ar+1,v4,ak,al,I,aa,U,af,ah,J=>if(decide (v4>0))=true then(zJ (⟨p0.b,aa,U⟩:M.aO) 3).bind λC=>(lF (⟨(⟨ak,al,af,ah⟩:M.YY),J,I⟩:M.bG) C.2.2).bind λj=>lV p0 ar (i64.wrap (v4-1)) j.1.Zf.Name j.1.Zf.Y2 j.1.Zu C.1 C.2.1 j.1.Zf.Y5 j.1.Zf.Za j.1.ZD else some (aa,U,(⟨(⟨ak,al,af,ah⟩:M.YY),J,I⟩:M.bG))
def wD(C:M.aO):Option (Int×Int×M.bG):=
 (xP C).bind λj=>(aJ (⟨C.b,j.1,j.2.1⟩:M.aO) 5).bind λI=>lV C fuel I.2.2 j.2.2.Name j.2.2.Y2 0 I.1 I.2.1 j.2.2.Y5 j.2.2.Za ([]:List Int)
def xV(I:M.aO)(C:List Int):Option (Int×Int×(List Int)):=
 (app 1 ([]:List Int) C).bind λx5=>(aJ I 6).bind λj=>if(j.2.2==0)=true then if(decide ((List.length C:Int)>0))=true then(aJ (⟨I.b,j.1,j.2.1⟩:M.aO) (List.length C:Int)).bind λJ=>(aJ (⟨I.b,J.1,J.2.1⟩:M.aO) 256).bind λai=>(idx C J.2.2).bind λaj=>some (ai.1,ai.2.1,List.set C J.2.2.toNat (IntKind.u8.wrap ai.2.2))else some (j.1,j.2.1,C)else if(j.2.2==1)=true then(aJ (⟨I.b,j.1,j.2.1⟩:M.aO) (i64.wrap ((List.length C:Int)+1))).bind λaf=>(yK C af.2.2).bind λak=>some (af.1,af.2.1,List.take af.2.2.toNat C)else if(j.2.2==2)=true then(cU (⟨I.b,j.1,j.2.1⟩:M.aO) ([0,1,128,255])).bind λU=>(app 1 C ([IntKind.u8.wrap U.2.2])).bind λal=>some (U.1,U.2.1,C++[IntKind.u8.wrap U.2.2])else some (j.1,j.2.1,C)
def xQ(J:M.aO):Option (Int×Int×M.bG):=
 (wD J).bind λj=>(aJ (⟨J.b,j.1,j.2.1⟩:M.aO) 10).bind λC=>if(C.2.2==0)=true then some (C.1,C.2.1,(⟨j.2.2.Zf,j.2.2.ZD,i64.wrap (j.2.2.Zu+1)⟩:M.bG))else if(C.2.2==1)=true then(xV (⟨J.b,C.1,C.2.1⟩:M.aO) j.2.2.ZD).bind λI=>some (I.1,I.2.1,(⟨j.2.2.Zf,I.2.2,j.2.2.Zu⟩:M.bG))else if(C.2.2==2)=true then(pL j.2.2.ZD j.2.2.Zu ([1,2])).bind λU=>some (C.1,C.2.1,(⟨j.2.2.Zf,U.1,i64.wrap (j.2.2.Zu+1)⟩:M.bG))else some (C.1,C.2.1,j.2.2)
def oD(j:M.Zk)(J:Int):Nat->Int->Option Int
 |0,_=>none
 |U+1,C=>if(decide (C<(List.length j.aT:Int)))=true then(idx j.aT C).bind λI=>if(I.Zg==J)=true then some I.ZI else oD j J U (i64.wrap (C+1))else some 0
def rO(j:M.Zk)(C:Int):Option Int:=
 oD j C fuel 0
def jT(j:M.Zk):Option M.Zk:=
 (bL j.aA).bind λC=>(app 16 ([]:List M.aT) j.aT).bind λJ=>(app 72 ([]:List M.aV) j.Zq).bind λI=>some (⟨C,j.aT,j.Zq⟩:M.Zk)
def gT(j:M.Zk):Nat->Int->Option Bool
 |0,_=>none
 |U+1,C=>if(decide (C<(List.length j.Zq:Int)))=true then(idx j.Zq C).bind λI=>(gR I).bind λaf=>if(!af)=true then some false else gT j U (i64.wrap (C+1))else(jU j.aA).bind λJ=>if J=true then if(j.aA.Name.toList==(⟨#[110,111,116,101,115]⟩:ByteArray).toList)=true then some (decide ((List.length j.aT:Int)<=60))else some false else some false
def fN(C:M.Zk):Nat->Int->Option Bool
 |0,_=>none
 |J+1,j=>if(decide (j<(List.length C.aT:Int)))=true then(idx C.aT j).bind λI=>(aZ I.Zg 1 1000000).bind λU=>if(!U)=true then some false else(aZ I.ZI 0 1000000).bind λaf=>if(!af)=true then some false else if(decide (j>0))=true then(idx C.aT (i64.wrap (j-1))).bind λah=>if(decide (ah.Zg>=I.Zg))=true then some false else fN C J (i64.wrap (j+1))else fN C J (i64.wrap (j+1))else gT C fuel 0
def oU(j:M.Zk):Option Bool:=
 fN j fuel 0
def oF(C:List M.aT)(I:Int)(J:Int):Nat->Int->Option (List M.aT)
 |0,_=>none
 |ae+1,j=>if(decide (j<(List.length C:Int)))=true then(idx C j).bind λU=>if(decide (U.Zg<I))=true then oF C I J ae (i64.wrap (j+1))else if(U.Zg==I)=true then some (List.set C j.toNat (⟨U.Zg,J⟩:M.aT))else(yK C j).bind λaf=>(app 16 ([]:List M.aT) (List.take j.toNat C)).bind λah=>(app 16 (List.take j.toNat C) ([(⟨I,J⟩:M.aT)])).bind λai=>(zN C j).bind λaj=>(app 16 ((List.take j.toNat C)++[(⟨I,J⟩:M.aT)]) (List.drop j.toNat C)).bind λak=>some (((List.take j.toNat C)++[(⟨I,J⟩:M.aT)])++(List.drop j.toNat C))else(yK C j).bind λal=>(app 16 ([]:List M.aT) (List.take j.toNat C)).bind λao=>(app 16 (List.take j.toNat C) ([(⟨I,J⟩:M.aT)])).bind λaq=>(zN C j).bind λar=>(app 16 ((List.take j.toNat C)++[(⟨I,J⟩:M.aT)]) (List.drop j.toNat C)).bind λav=>some (((List.take j.toNat C)++[(⟨I,J⟩:M.aT)])++(List.drop j.toNat C))
def wC(j:List M.aT)(C:Int)(I:Int):Option (List M.aT):=
 (app 16 ([]:List M.aT) j).bind λJ=>oF j C I fuel 0
def cA(I:M.Zk)(j:M.aV):Option (M.Zk×Int):=
 (jT I).bind λC=>(oU I).bind λx3=>if(!x3)=true then some (C,4)else(gR j).bind λx6=>if(!x6)=true then some (C,4)else(wC I.aT j.Zg j.ZI).bind λJ=>(rO I j.Zg).bind λaa=>if(decide ((List.length J:Int)>60))=true then some (C,4)else if(decide (j.ZI<=aa))=true then some (C,2)else if(decide (j.ZI>(i64.wrap (aa+1))))=true then some (C,3)else(iJ I.aA j).bind λU=>if U.2=true then(app 72 C.Zq ([j])).bind λaf=>some ((⟨U.1,J,C.Zq++[j]⟩:M.Zk),1)else(app 72 C.Zq ([j])).bind λah=>some ((⟨C.aA,J,C.Zq++[j]⟩:M.Zk),1)
def iX(C:M.aO):Nat->Int->ByteArray->Int->Int->Int->List M.Zd->List M.aT->List M.aV->Option (Int×Int×M.Zk)
 |0,_,_,_,_,_,_,_,_=>none
 |aw+1,v4,aj,ak,aa,ae,af,ah,J=>if(decide (v4>0))=true then(aJ (⟨C.b,aa,ae⟩:M.aO) 3).bind λI=>(rO (⟨(⟨aj,af,ak⟩:M.aA),ah,J⟩:M.Zk) (i64.wrap (1+I.2.2))).bind λax=>(dK (⟨C.b,I.1,I.2.1⟩:M.aO)).bind λU=>(cT (⟨C.b,U.1,U.2.1⟩:M.aO)).bind λar=>(aJ (⟨C.b,ar.1,ar.2.1⟩:M.aO) 6).bind λav=>(cA (⟨(⟨aj,af,ak⟩:M.aA),ah,J⟩:M.Zk) (⟨i64.wrap (1+I.2.2),i64.wrap (ax+1),U.2.2,ar.2.2,av.2.2⟩:M.aV)).bind λj=>iX C aw (i64.wrap (v4-1)) j.1.aA.Name j.1.aA.Zn av.1 av.2.1 j.1.aA.Y3 j.1.aT j.1.Zq else some (aa,ae,(⟨(⟨aj,af,ak⟩:M.aA),ah,J⟩:M.Zk))
def tM(C:M.aO):Option (Int×Int×M.Zk):=
 (lZ C (⟨#[110,111,116,101,115]⟩:ByteArray)).bind λj=>(aJ (⟨C.b,j.1,j.2.1⟩:M.aO) 6).bind λI=>iX C fuel I.2.2 j.2.2.Name j.2.2.Zn I.1 I.2.1 j.2.2.Y3 ([]:List M.aT) ([]:List M.aV)
def sE(j:M.Zk)(U:Int):Option (M.aD×Bool):=
 (kU U).bind λC=>(bL j.aA).bind λI=>if(!C.2)=true then some ((⟨(⟨(⟨#[]⟩:ByteArray),([]:List M.Zd),0⟩:M.aA),0,(⟨(⟨0,0,([]:List M.aV)⟩:M.aF),0,0⟩:M.Ze)⟩:M.aD),false)else(oU j).bind λx6=>if(!x6)=true then some ((⟨(⟨(⟨#[]⟩:ByteArray),([]:List M.Zd),0⟩:M.aA),0,(⟨(⟨0,0,([]:List M.aV)⟩:M.aF),0,0⟩:M.Ze)⟩:M.aD),false)else(kT (⟨I,(List.length j.Zq:Int),(⟨C.1,0,0⟩:M.Ze)⟩:M.aD)).bind λJ=>if(!J)=true then some ((⟨(⟨(⟨#[]⟩:ByteArray),([]:List M.Zd),0⟩:M.aA),0,(⟨(⟨0,0,([]:List M.aV)⟩:M.aF),0,0⟩:M.Ze)⟩:M.aD),false)else some ((⟨I,(List.length j.Zq:Int),(⟨C.1,0,0⟩:M.Ze)⟩:M.aD),true)
def vJ(j:M.aF):Option (M.aV×Bool):=
 if((List.length j.Y9:Int)==0)=true then some ((⟨0,0,(⟨0,0,(⟨#[]⟩:ByteArray)⟩:M.Key),(⟨#[]⟩:ByteArray),0⟩:M.aV),false)else(idx j.Y9 0).bind λC=>some (C,true)
def lE(C:M.aF)(I:Int)(x1:M.aF):Nat->Int->Option (M.aF×Int)
 |0,_=>none
 |U+1,j=>if(decide (j<(List.length C.Y9:Int)))=true then(idx C.Y9 j).bind λJ=>if(decide (J.ZI<=I))=true then lE C I x1 U (i64.wrap (j+1))else(zN C.Y9 j).bind λaf=>(app 72 ([]:List M.aV) (List.drop j.toNat C.Y9)).bind λah=>some ((⟨x1.Zg,x1.Zr,List.drop j.toNat C.Y9⟩:M.aF),j)else(zN C.Y9 j).bind λai=>(app 72 ([]:List M.aV) (List.drop j.toNat C.Y9)).bind λaj=>some ((⟨x1.Zg,x1.Zr,List.drop j.toNat C.Y9⟩:M.aF),j)
def cE(j:M.aF)(J:Int):Option (M.aF×Int):=
 (nW j).bind λC=>(fX j).bind λI=>if(!I)=true then some (C,0)else lE j J C fuel 0
def fR(j:Int)(C:Int):Option Int:=
 if(decide (C<j))=true then some C else some j
def lO(I:Int):Nat->Int->Int->Option Int
 |0,_,_=>none
 |J+1,j,C=>if(decide (C<I))=true then if(decide (j<64))=true then lO I J (i64.wrap (2*j)) (i64.wrap (C+1))else some j else some j
def gA(j:Int):Option Int:=
 lO j fuel 1 0
def uS(j:M.Ze)(p1:M.Zk)(J:Int)(p3:Int):Option (M.Ze×M.Zk×Int):=
 (rN j).bind λI=>(vJ j.aF).bind λC=>if(!C.2)=true then(jT p1).bind λx6=>some (I,x6,0)else(fX j.aF).bind λx8=>if(!x8)=true then(jT p1).bind λbo=>some (I,bo,0)else if(decide (J<j.Zj))=true then(jT p1).bind λbq=>some (I,bq,0)else(aZ J 0 1000000000000).bind λbr=>if(!br)=true then(jT p1).bind λbt=>some (I,bt,0)else(jT p1).bind λao=>if(p3==0)=true then(cA ao C.1).bind λU=>if(p3==3)=true then(cA U.1 C.1).bind λah=>if(ah.2==1)=true then(cE j.aF C.1.ZI).bind λbu=>some ((⟨bu.1,0,0⟩:M.Ze),ah.1,1)else if(ah.2==2)=true then(cE j.aF C.1.ZI).bind λbw=>some ((⟨bw.1,0,0⟩:M.Ze),ah.1,1)else(fR 59 j.Zt).bind λbx=>(fR 60 (i64.wrap (bx+1))).bind λbl=>(gA bl).bind λbz=>some ((⟨I.aF,bl,i64.wrap (J+bz)⟩:M.Ze),ah.1,2)else if(U.2==1)=true then(cE j.aF C.1.ZI).bind λca=>some ((⟨ca.1,0,0⟩:M.Ze),U.1,1)else if(U.2==2)=true then(cE j.aF C.1.ZI).bind λcc=>some ((⟨cc.1,0,0⟩:M.Ze),U.1,1)else(fR 59 j.Zt).bind λcd=>(fR 60 (i64.wrap (cd+1))).bind λbm=>(gA bm).bind λcg=>some ((⟨I.aF,bm,i64.wrap (J+cg)⟩:M.Ze),U.1,2)else if(p3==2)=true then(cA ao C.1).bind λbn=>if(p3==3)=true then(cA bn.1 C.1).bind λaa=>if(aa.2==1)=true then(cE j.aF C.1.ZI).bind λaq=>some ((⟨aq.1,0,0⟩:M.Ze),aa.1,1)else if(aa.2==2)=true then(cE j.aF C.1.ZI).bind λar=>some ((⟨ar.1,0,0⟩:M.Ze),aa.1,1)else(fR 59 j.Zt).bind λav=>(fR 60 (i64.wrap (av+1))).bind λai=>(gA ai).bind λaw=>some ((⟨I.aF,ai,i64.wrap (J+aw)⟩:M.Ze),aa.1,2)else(fR 59 j.Zt).bind λax=>(fR 60 (i64.wrap (ax+1))).bind λaj=>(gA aj).bind λay=>some ((⟨I.aF,aj,i64.wrap (J+ay)⟩:M.Ze),bn.1,2)else if(p3==3)=true then(cA ao C.1).bind λaz=>(cA az.1 C.1).bind λae=>if(ae.2==1)=true then(cE j.aF C.1.ZI).bind λba=>some ((⟨ba.1,0,0⟩:M.Ze),ae.1,1)else if(ae.2==2)=true then(cE j.aF C.1.ZI).bind λbd=>some ((⟨bd.1,0,0⟩:M.Ze),ae.1,1)else(fR 59 j.Zt).bind λbf=>(fR 60 (i64.wrap (bf+1))).bind λak=>(gA ak).bind λbg=>some ((⟨I.aF,ak,i64.wrap (J+bg)⟩:M.Ze),ae.1,2)else(fR 59 j.Zt).bind λbh=>(fR 60 (i64.wrap (bh+1))).bind λal=>(gA al).bind λbj=>some ((⟨I.aF,al,i64.wrap (J+bj)⟩:M.Ze),ao,2)
def rG(j:M.aD)(C:M.Zk):Option (M.aD×Int):=
 (rQ j).bind λI=>(kT j).bind λU=>if(!U)=true then some (I,0)else(oU C).bind λx6=>if(!x6)=true then some (I,0)else if(decide (j.Zx>(List.length C.Zq:Int)))=true then some (I,0)else(zN C.Zq j.Zx).bind λah=>(sK j.Zf (List.drop j.Zx.toNat C.Zq)).bind λaa=>(rO C j.Ze.aF.Zg).bind λJ=>(cE j.Ze.aF J).bind λaf=>some ((⟨aa,(List.length C.Zq:Int),(⟨af.1,I.Ze.Zt,I.Ze.Zj⟩:M.Ze)⟩:M.aD),i64.wrap ((List.length C.Zq:Int)-j.Zx))
def eD(j:M.aO):Nat->Int->ByteArray->Int->Int->Int->Int->Int->Int->Int->Int->ByteArray->Int->List M.Zd->List M.aV->List M.Zd->List M.aT->List M.aV->Option (Int×Int×M.aD×M.Zk)
 |0,_,_,_,_,_,_,_,_,_,_,_,_,_,_,_,_,_=>none
 |bw+1,v7,ay,az,ba,bd,bf,bg,aw,aj,ak,ar,av,ah,ai,aa,ae,af=>if(decide (v7>0))=true then(aJ (⟨j.b,aj,ak⟩:M.aO) 5).bind λC=>if(C.2.2==0)=true then(dK (⟨j.b,C.1,C.2.1⟩:M.aO)).bind λbx=>(cT (⟨j.b,bx.1,bx.2.1⟩:M.aO)).bind λbz=>(aJ (⟨j.b,bz.1,bz.2.1⟩:M.aO) 6).bind λca=>(jH (⟨(⟨ay,ah,az⟩:M.aA),ba,(⟨(⟨bd,bf,ai⟩:M.aF),bg,aw⟩:M.Ze)⟩:M.aD) bx.2.2 bz.2.2 ca.2.2).bind λJ=>eD j bw (i64.wrap (v7-1)) J.1.Zf.Name J.1.Zf.Zn J.1.Zx J.1.Ze.aF.Zg J.1.Ze.aF.Zr J.1.Ze.Zt J.1.Ze.Zj ca.1 ca.2.1 ar av J.1.Zf.Y3 J.1.Ze.aF.Y9 aa ae af else if(C.2.2==1)=true then(dK (⟨j.b,C.1,C.2.1⟩:M.aO)).bind λbm=>(cT (⟨j.b,bm.1,bm.2.1⟩:M.aO)).bind λbn=>(aJ (⟨j.b,bn.1,bn.2.1⟩:M.aO) 6).bind λbo=>(jH (⟨(⟨ay,ah,az⟩:M.aA),ba,(⟨(⟨bd,bf,ai⟩:M.aF),bg,aw⟩:M.Ze)⟩:M.aD) bm.2.2 bn.2.2 bo.2.2).bind λU=>eD j bw (i64.wrap (v7-1)) U.1.Zf.Name U.1.Zf.Zn U.1.Zx U.1.Ze.aF.Zg U.1.Ze.aF.Zr U.1.Ze.Zt U.1.Ze.Zj bo.1 bo.2.1 ar av U.1.Zf.Y3 U.1.Ze.aF.Y9 aa ae af else if(C.2.2==2)=true then(aJ (⟨j.b,C.1,C.2.1⟩:M.aO) 4).bind λbq=>(uS (⟨(⟨bd,bf,ai⟩:M.aF),bg,aw⟩:M.Ze) (⟨(⟨ar,aa,av⟩:M.aA),ae,af⟩:M.Zk) aw bq.2.2).bind λI=>eD j bw (i64.wrap (v7-1)) ay az ba I.1.aF.Zg I.1.aF.Zr I.1.Zt I.1.Zj bq.1 bq.2.1 I.2.1.aA.Name I.2.1.aA.Zn ah I.1.aF.Y9 I.2.1.aA.Y3 I.2.1.aT I.2.1.Zq else if(C.2.2==3)=true then(aJ (⟨j.b,C.1,C.2.1⟩:M.aO) 3).bind λbl=>(rO (⟨(⟨ar,aa,av⟩:M.aA),ae,af⟩:M.Zk) (i64.wrap (1+bl.2.2))).bind λcc=>(dK (⟨j.b,bl.1,bl.2.1⟩:M.aO)).bind λbr=>(cT (⟨j.b,br.1,br.2.1⟩:M.aO)).bind λbt=>(aJ (⟨j.b,bt.1,bt.2.1⟩:M.aO) 6).bind λbu=>(cA (⟨(⟨ar,aa,av⟩:M.aA),ae,af⟩:M.Zk) (⟨i64.wrap (1+bl.2.2),i64.wrap (cc+1),br.2.2,bt.2.2,bu.2.2⟩:M.aV)).bind λbh=>eD j bw (i64.wrap (v7-1)) ay az ba bd bf bg aw bu.1 bu.2.1 bh.1.aA.Name bh.1.aA.Zn ah ai bh.1.aA.Y3 bh.1.aT bh.1.Zq else(rG (⟨(⟨ay,ah,az⟩:M.aA),ba,(⟨(⟨bd,bf,ai⟩:M.aF),bg,aw⟩:M.Ze)⟩:M.aD) (⟨(⟨ar,aa,av⟩:M.aA),ae,af⟩:M.Zk)).bind λaq=>eD j bw (i64.wrap (v7-1)) aq.1.Zf.Name aq.1.Zf.Zn aq.1.Zx aq.1.Ze.aF.Zg aq.1.Ze.aF.Zr aq.1.Ze.Zt aq.1.Ze.Zj C.1 C.2.1 ar av aq.1.Zf.Y3 aq.1.Ze.aF.Y9 aa ae af else some (aj,ak,(⟨(⟨ay,ah,az⟩:M.aA),ba,(⟨(⟨bd,bf,ai⟩:M.aF),bg,aw⟩:M.Ze)⟩:M.aD),(⟨(⟨ar,aa,av⟩:M.aA),ae,af⟩:M.Zk))
def wM(I:M.aO):Option (Int×Int×M.aD×M.Zk):=
 (tM I).bind λC=>(sE C.2.2 4).bind λj=>(aJ (⟨I.b,C.1,C.2.1⟩:M.aO) 6).bind λJ=>eD I fuel J.2.2 j.1.Zf.Name j.1.Zf.Zn j.1.Zx j.1.Ze.aF.Zg j.1.Ze.aF.Zr j.1.Ze.Zt j.1.Ze.Zj J.1 J.2.1 C.2.2.aA.Name C.2.2.aA.Zn j.1.Zf.Y3 j.1.Ze.aF.Y9 C.2.2.aA.Y3 C.2.2.aT C.2.2.Zq
def wZ(I:M.aO):Option (Int×Int×M.Key):=
 (xB I).bind λC=>(aJ (⟨I.b,C.1,C.2.1⟩:M.aO) 10).bind λj=>if(j.2.2==0)=true then(aJ (⟨I.b,j.1,j.2.1⟩:M.aO) 5).bind λJ=>some (J.1,J.2.1,(⟨J.2.2,C.2.2.N,C.2.2.Zp⟩:M.Key))else if(j.2.2==1)=true then(cU (⟨I.b,j.1,j.2.1⟩:M.aO) ([-1000000000001,1000000000001,5])).bind λaf=>some (af.1,af.2.1,(⟨C.2.2.Zi,af.2.2,C.2.2.Zp⟩:M.Key))else if(j.2.2==2)=true then(eK (⟨I.b,j.1,j.2.1⟩:M.aO) ([(⟨#[65]⟩:ByteArray),(⟨#[97,32,98]⟩:ByteArray),(⟨#[97,98,99,100,101,102,103,104,105,106,107,108,109]⟩:ByteArray),(⟨#[120,39]⟩:ByteArray)])).bind λU=>some (U.1,U.2.1,(⟨C.2.2.Zi,C.2.2.N,U.2.2⟩:M.Key))else some (j.1,j.2.1,C.2.2)
def oJ(j:(Int×Int×Int)):Nat->Int->List M.Field->Option (Int×Int×M.aC)
 |0,_,_=>none
 |U+1,C,I=>if(decide (C<((6:Nat):Int)))=true then(idx ([(⟨#[100]⟩:ByteArray),(⟨#[101]⟩:ByteArray),(⟨#[102]⟩:ByteArray),(⟨#[103]⟩:ByteArray),(⟨#[104]⟩:ByteArray),(⟨#[105]⟩:ByteArray)]) C).bind λJ=>(fY (⟨I⟩:M.aC) J 1).bind λaj=>oJ j U (i64.wrap (C+1)) aj.1.Y4 else some (j.1,j.2.1,(⟨I⟩:M.aC))
def zG(J:M.aO):Option (Int×Int×M.aC):=
 (hJ J).bind λC=>(aJ (⟨J.b,C.1,C.2.1⟩:M.aO) 12).bind λj=>if(j.2.2==0)=true then(eK (⟨J.b,j.1,j.2.1⟩:M.aO) ([(⟨#[]⟩:ByteArray),(⟨#[65]⟩:ByteArray),(⟨#[122,122,122,122,122,122,122,122,122]⟩:ByteArray),(⟨#[122]⟩:ByteArray),(⟨#[97]⟩:ByteArray)])).bind λI=>(cU (⟨J.b,I.1,I.2.1⟩:M.aO) ([0,-1,1000000000,1000000001])).bind λU=>(app 24 C.2.2.Y4 ([(⟨I.2.2,U.2.2⟩:M.Field)])).bind λah=>some (U.1,U.2.1,(⟨C.2.2.Y4++[(⟨I.2.2,U.2.2⟩:M.Field)]⟩:M.aC))else if(j.2.2==1)=true then oJ j fuel 0 C.2.2.Y4 else some (j.1,j.2.1,C.2.2)
def uI(j:M.aA)(U:M.aC):Option (M.aA×M.Key×Bool):=
 if(decide (j.Zn>=1000000))=true then(bL j).bind λI=>some (I,(⟨0,0,(⟨#[]⟩:ByteArray)⟩:M.Key),false)else(uA j (⟨1,i64.wrap (j.Zn+1),(⟨#[]⟩:ByteArray)⟩:M.Key) U).bind λC=>if(!C.2)=true then(bL j).bind λJ=>some (J,(⟨0,0,(⟨#[]⟩:ByteArray)⟩:M.Key),false)else some (C.1,(⟨1,i64.wrap (j.Zn+1),(⟨#[]⟩:ByteArray)⟩:M.Key),true)
def sW(j:(Int×Int×Int)):Nat->ByteArray->Int->List M.Zd->Option (Int×Int×M.aA)
 |0,_,_,_=>none
 |aj+1,I,J,C=>if(decide ((List.length C:Int)<16))=true then(jU (⟨I,C,J⟩:M.aA)).bind λak=>if ak=true then(uI (⟨I,C,J⟩:M.aA) (⟨([]:List M.Field)⟩:M.aC)).bind λU=>sW j aj U.1.Name U.1.Zn U.1.Y3 else some (j.1,j.2.1,(⟨I,C,J⟩:M.aA))else some (j.1,j.2.1,(⟨I,C,J⟩:M.aA))
def zC(I:M.aO):Option (Int×Int×M.aA):=
 (lZ I (⟨#[110,111,116,101,115]⟩:ByteArray)).bind λj=>(aJ (⟨I.b,j.1,j.2.1⟩:M.aO) 12).bind λC=>if(C.2.2==0)=true then(eK (⟨I.b,C.1,C.2.1⟩:M.aO) ([(⟨#[]⟩:ByteArray),(⟨#[81]⟩:ByteArray),(⟨#[97,98,99,100,101,102,103,104,105]⟩:ByteArray)])).bind λah=>some (ah.1,ah.2.1,(⟨ah.2.2,j.2.2.Y3,j.2.2.Zn⟩:M.aA))else if(C.2.2==1)=true then(cU (⟨I.b,C.1,C.2.1⟩:M.aO) ([-1,999999,1000000,1000001])).bind λai=>some (ai.1,ai.2.1,(⟨j.2.2.Name,j.2.2.Y3,ai.2.2⟩:M.aA))else if(C.2.2==2)=true then(wZ (⟨I.b,C.1,C.2.1⟩:M.aO)).bind λJ=>(zG (⟨I.b,J.1,J.2.1⟩:M.aO)).bind λU=>(app 56 j.2.2.Y3 ([(⟨J.2.2,U.2.2⟩:M.Zd)])).bind λaj=>some (U.1,U.2.1,(⟨j.2.2.Name,j.2.2.Y3++[(⟨J.2.2,U.2.2⟩:M.Zd)],j.2.2.Zn⟩:M.aA))else if(C.2.2==3)=true then sW C fuel j.2.2.Name j.2.2.Zn j.2.2.Y3 else some (C.1,C.2.1,j.2.2)
def iR(j:M.aO):Nat->Int->Int->Int->Int->Int->List M.aV->Option (Int×Int×M.aF)
 |0,_,_,_,_,_,_=>none
 |av+1,v7,ah,J,aa,ae,af=>if(decide (v7>0))=true then(dK (⟨j.b,aa,ae⟩:M.aO)).bind λak=>(cT (⟨j.b,ak.1,ak.2.1⟩:M.aO)).bind λal=>(aJ (⟨j.b,al.1,al.2.1⟩:M.aO) 6).bind λI=>(fW (⟨ah,J,af⟩:M.aF) ak.2.2 al.2.2 I.2.2).bind λU=>iR j av (i64.wrap (v7-1)) U.1.Zg U.1.Zr I.1 I.2.1 U.1.Y9 else(cM (⟨j.b,aa,ae⟩:M.aO) 3).bind λC=>if C.2.2=true then(aJ (⟨j.b,C.1,C.2.1⟩:M.aO) 4).bind λar=>(cE (⟨ah,J,af⟩:M.aF) ar.2.2).bind λaw=>some (ar.1,ar.2.1,aw.1)else some (C.1,C.2.1,(⟨ah,J,af⟩:M.aF))
def tT(I:M.aO)(J:Int):Option (Int×Int×M.aF):=
 (kU J).bind λj=>(cU I ([0,2,4,6])).bind λC=>iR I fuel C.2.2 j.1.Zg j.1.Zr C.1 C.2.1 j.1.Y9
def pR(p0:M.aO):Nat->Int->Int->Int->Int->List M.aV->Option (Int×Int×M.aF)
 |0,_,_,_,_,_=>none
 |al+1,I,C,U,J,j=>if(decide ((List.length j:Int)<20))=true then(fX (⟨I,C,j⟩:M.aF)).bind λao=>if ao=true then(dK (⟨p0.b,U,J⟩:M.aO)).bind λaj=>(fW (⟨I,C,j⟩:M.aF) aj.2.2 (⟨#[97]⟩:ByteArray) 1).bind λak=>pR p0 al ak.1.Zg ak.1.Zr aj.1 aj.2.1 ak.1.Y9 else some (U,J,(⟨I,C,j⟩:M.aF))else some (U,J,(⟨I,C,j⟩:M.aF))
def xF(I:M.aO):Option (Int×Int×M.aF):=
 (aJ I 3).bind λx4=>(tT (⟨I.b,x4.1,x4.2.1⟩:M.aO) (i64.wrap (1+x4.2.2))).bind λj=>(aJ (⟨I.b,j.1,j.2.1⟩:M.aO) 12).bind λC=>if(C.2.2==0)=true then(cU (⟨I.b,C.1,C.2.1⟩:M.aO) ([0,9,1000001])).bind λah=>some (ah.1,ah.2.1,(⟨ah.2.2,j.2.2.Zr,j.2.2.Y9⟩:M.aF))else if(C.2.2==1)=true then(cU (⟨I.b,C.1,C.2.1⟩:M.aO) ([0,3,1000000,1000001])).bind λai=>some (ai.1,ai.2.1,(⟨j.2.2.Zg,ai.2.2,j.2.2.Y9⟩:M.aF))else if(C.2.2==2)=true then(wZ (⟨I.b,C.1,C.2.1⟩:M.aO)).bind λJ=>(cU (⟨I.b,J.1,J.2.1⟩:M.aO) ([0,-1])).bind λU=>(app 72 j.2.2.Y9 ([(⟨j.2.2.Zg,j.2.2.Zr,J.2.2,(⟨#[97]⟩:ByteArray),U.2.2⟩:M.aV)])).bind λaj=>some (U.1,U.2.1,(⟨j.2.2.Zg,j.2.2.Zr,j.2.2.Y9++[(⟨j.2.2.Zg,j.2.2.Zr,J.2.2,(⟨#[97]⟩:ByteArray),U.2.2⟩:M.aV)]⟩:M.aF))else if(C.2.2==3)=true then pR I fuel j.2.2.Zg j.2.2.Zr C.1 C.2.1 j.2.2.Y9 else some (C.1,C.2.1,j.2.2)
def xN(I:M.aO):Option (Int×Int×M.aD):=
 (wM I).bind λC=>(aJ (⟨I.b,C.1,C.2.1⟩:M.aO) 12).bind λj=>if(j.2.2==0)=true then(zC (⟨I.b,j.1,j.2.1⟩:M.aO)).bind λJ=>some (J.1,J.2.1,(⟨J.2.2,C.2.2.1.Zx,C.2.2.1.Ze⟩:M.aD))else if(j.2.2==1)=true then(cU (⟨I.b,j.1,j.2.1⟩:M.aO) ([-1,9,1000000000001])).bind λaf=>some (af.1,af.2.1,(⟨C.2.2.1.Zf,af.2.2,C.2.2.1.Ze⟩:M.aD))else if(j.2.2==2)=true then(xF (⟨I.b,j.1,j.2.1⟩:M.aO)).bind λU=>some (U.1,U.2.1,(⟨C.2.2.1.Zf,C.2.2.1.Zx,(⟨U.2.2,C.2.2.1.Ze.Zt,C.2.2.1.Ze.Zj⟩:M.Ze)⟩:M.aD))else some (j.1,j.2.1,C.2.2.1)
set_option maxRecDepth 40000 in
def kY(j:(Int×Int×M.aK))(I:(Int×Int×Int)):Nat->List Int->Option (Int×Int×M.aK)
 |0,_=>none
 |J+1,C=>if(decide ((List.length C:Int)<2600))=true then(app 1 C ([0])).bind λU=>kY j I J (C++[0])else some (I.1,I.2.1,(⟨j.2.2.Zh,j.2.2.Zw,j.2.2.YZ,j.2.2.Y1,(⟨j.2.2.bG.Zf,C,j.2.2.bG.Zu⟩:M.bG),j.2.2.aD,j.2.2.Zo,j.2.2.Zl⟩:M.aK))
set_option maxRecDepth 40000 in
theorem Lc:type_of%@kY.eq_2:=@kY.eq_2
def vG(I:M.aO):Option (Int×Int×M.aK):=
 (pP I).bind λj=>(aJ (⟨I.b,j.1,j.2.1⟩:M.aO) 14).bind λC=>if(C.2.2==0)=true then(eK (⟨I.b,C.1,C.2.1⟩:M.aO) ([(⟨#[]⟩:ByteArray),(⟨#[122,122,122]⟩:ByteArray)])).bind λU=>some (U.1,U.2.1,(⟨U.2.2,j.2.2.Zw,j.2.2.YZ,j.2.2.Y1,j.2.2.bG,j.2.2.aD,j.2.2.Zo,j.2.2.Zl⟩:M.aK))else if(C.2.2==1)=true then(xM (⟨I.b,C.1,C.2.1⟩:M.aO)).bind λaf=>some (af.1,af.2.1,(⟨j.2.2.Zh,j.2.2.Zw,j.2.2.YZ,af.2.2,j.2.2.bG,j.2.2.aD,j.2.2.Zo,j.2.2.Zl⟩:M.aK))else if(C.2.2==2)=true then(xQ (⟨I.b,C.1,C.2.1⟩:M.aO)).bind λah=>some (ah.1,ah.2.1,(⟨j.2.2.Zh,j.2.2.Zw,j.2.2.YZ,j.2.2.Y1,ah.2.2,j.2.2.aD,j.2.2.Zo,j.2.2.Zl⟩:M.aK))else if(C.2.2==3)=true then(xN (⟨I.b,C.1,C.2.1⟩:M.aO)).bind λJ=>some (J.1,J.2.1,(⟨j.2.2.Zh,j.2.2.Zw,j.2.2.YZ,j.2.2.Y1,j.2.2.bG,J.2.2,j.2.2.Zo,j.2.2.Zl⟩:M.aK))else if(C.2.2==4)=true then(cU (⟨I.b,C.1,C.2.1⟩:M.aO) ([-1,1000000000001])).bind λaj=>some (aj.1,aj.2.1,(⟨j.2.2.Zh,j.2.2.Zw,j.2.2.YZ,j.2.2.Y1,j.2.2.bG,j.2.2.aD,aj.2.2,j.2.2.Zl⟩:M.aK))else if(C.2.2==5)=true then kY j C fuel j.2.2.bG.ZD else some (C.1,C.2.1,j.2.2)
def gM(I:M.aO):Nat->Int->Int->Int->List M.aK->Option (Int×Int×M.aH)
 |0,_,_,_,_=>none
 |ak+1,v4,aa,ae,J=>if(decide (v4>0))=true then(pP (⟨I.b,aa,ae⟩:M.aO)).bind λU=>(kS (⟨J⟩:M.aH) U.2.2).bind λal=>gM I ak (i64.wrap (v4-1)) U.1 U.2.1 al.1.Y0 else(cM (⟨I.b,aa,ae⟩:M.aO) 12).bind λj=>if j.2.2=true then(vG (⟨I.b,j.1,j.2.1⟩:M.aO)).bind λC=>(app 328 J ([C.2.2])).bind λao=>some (C.1,C.2.1,(⟨J++[C.2.2]⟩:M.aH))else some (j.1,j.2.1,(⟨J⟩:M.aH))
def oH(C:M.aO):Option (Int×Int×M.aH):=
 (aJ C 4).bind λj=>gM C fuel j.2.2 j.1 j.2.1 ([]:List M.aK)
def nM(I:List Int):Option (M.aH×M.aK):=
 (wY I).bind λC=>(oH C).bind λj=>(vG (⟨C.b,j.1,j.2.1⟩:M.aO)).bind λJ=>some (j.2.2,J.2.2)
def kW(j:List Int):Option (List Int):=
 (app 1 ([]:List Int) j).bind λC=>some j
def oS(j:M.Y7):Option M.Y7:=
 (kW j.ZE).bind λC=>some (⟨j.ZC,j.ZA,j.Y2,C,j.ZF⟩:M.Y7)
def fG(I:M.Y6)(U:Int->List M.Zb->Option M.aE):Nat->Int->List M.Zb->Option M.aE
 |0,_,_=>none
 |ak+1,C,J=>if(decide (C<(List.length I.Y8:Int)))=true then(idx I.Y8 C).bind λj=>(oS j.Y7).bind λaj=>(app 88 J ([(⟨j.Zh,j.Zy,aj⟩:M.Zb)])).bind λal=>fG I U ak (i64.wrap (C+1)) (J++[(⟨j.Zh,j.Zy,aj⟩:M.Zb)])else U C J
def dN(I:M.aE):Nat->Int->List M.Y6->Option M.aE
 |0,_,_=>none
 |aj+1,J,j=>if(decide (J<(List.length I.Y1:Int)))=true then(idx I.Y1 J).bind λC=>fG C (λ(ai:Int) (U:List M.Zb)=>(app 32 j ([(⟨C.Y2,U⟩:M.Y6)])).bind λak=>dN I aj (i64.wrap (J+1)) (j++[(⟨C.Y2,U⟩:M.Y6)])) fuel 0 ([]:List M.Zb)else some (⟨j⟩:M.aE)
def oQ(j:M.aE):Option M.aE:=
 dN j fuel 0 ([]:List M.Y6)
def sI(j:M.aC):Option M.aC:=
 (app 24 ([]:List M.Field) j.Y4).bind λC=>some j
def sP(j:M.Zd):Option M.Zd:=
 (sI j.aC).bind λC=>some (⟨j.Key,C⟩:M.Zd)
def iQ(j:M.aA):Nat->Int->List M.Zd->Option M.aA
 |0,_,_=>none
 |ah+1,C,I=>if(decide (C<(List.length j.Y3:Int)))=true then(idx j.Y3 C).bind λU=>(sP U).bind λJ=>(app 56 I ([J])).bind λaj=>iQ j ah (i64.wrap (C+1)) (I++[J])else some (⟨j.Name,I,j.Zn⟩:M.aA)
def pQ(j:M.aA):Option M.aA:=
 iQ j fuel 0 ([]:List M.Zd)
def fI(j:M.YY):Nat->Int->List M.aA->Option M.YY
 |0,_,_=>none
 |ah+1,C,I=>if(decide (C<(List.length j.Y5:Int)))=true then(idx j.Y5 C).bind λU=>(pQ U).bind λJ=>(app 48 I ([J])).bind λaj=>fI j ah (i64.wrap (C+1)) (I++[J])else some (⟨j.Name,j.Y2,I,j.Za⟩:M.YY)
def oY(j:M.YY):Option M.YY:=
 (app 32 ([]:List M.aM) j.Za).bind λC=>fI j fuel 0 ([]:List M.aA)
def uK(j:M.bG):Option M.bG:=
 (oY j.Zf).bind λC=>(kW j.ZD).bind λI=>some (⟨C,I,j.Zu⟩:M.bG)
def sQ(j:M.aF):Option M.aF:=
 (app 72 ([]:List M.aV) j.Y9).bind λC=>some j
def uV(j:M.Ze):Option M.Ze:=
 (sQ j.aF).bind λC=>some (⟨C,j.Zt,j.Zj⟩:M.Ze)
def rD(j:M.aD):Option M.aD:=
 (pQ j.Zf).bind λC=>(uV j.Ze).bind λI=>some (⟨C,j.Zx,I⟩:M.aD)
def fB(j:M.aK):Option M.aK:=
 (oQ j.Y1).bind λC=>(uK j.bG).bind λJ=>(rD j.aD).bind λI=>some (⟨j.Zh,j.Zw,j.YZ,C,J,I,j.Zo,j.Zl⟩:M.aK)
def fT(I:M.aH):Nat->Int->List M.aK->Option M.aH
 |0,_,_=>none
 |af+1,j,C=>if(decide (j<(List.length I.Y0:Int)))=true then(idx I.Y0 j).bind λU=>(fB U).bind λJ=>(app 328 C ([J])).bind λai=>fT I af (i64.wrap (j+1)) (C++[J])else some (⟨C⟩:M.aH)
def bY(j:M.aH):Option M.aH:=
 fT j fuel 0 ([]:List M.aK)
def oL(j:M.aK)(I:ByteArray)(C:ByteArray):Option Bool:=
 if(j.Zh.toList==I.toList)=true then some (j.Zw.toList==C.toList)else some false
def cJ(C:List M.aK)(I:M.aK->Option Bool):Nat->Int->Option Int
 |0,_=>none
 |aa+1,j=>if(decide (j<(List.length C:Int)))=true then(idx C j).bind λU=>(I U).bind λJ=>if J=true then some j else cJ C I aa (i64.wrap (j+1))else some (-1)
def hH(j:List M.aK)(C:M.aK->Option Bool):Option Int:=
 cJ j C fuel 0
def nY(I:M.aH)(U:ByteArray)(J:ByteArray):Option Int:=
 (hH I.Y0 (λj=>oL j U J)).bind λC=>some C
def lT(j:M.aK)(C:M.aK):Option Bool:=
 if(Op.bytesLess j.Zh.toList C.Zh.toList)=true then some true else if(j.Zh.toList==C.Zh.toList)=true then some (Op.bytesLess j.Zw.toList C.Zw.toList)else some false
def bF(j:Int)(C:Int)(I:Int):Option Bool:=
 if(decide (C<=j))=true then some (decide (j<=I))else some false
def gB(j:ByteArray)(U:Int)(I:Bool):Nat->Int->Option Bool
 |0,_=>none
 |aa+1,C=>if(decide (C<(j.size:Int)))=true then(Rz j C).bind λJ=>if(decide ((J.toNat:Int)>=97))=true then if(decide ((J.toNat:Int)<=122))=true then gB j U I aa (i64.wrap (C+1))else if I=true then if(!((J.toNat:Int)==47))=true then some false else gB j U I aa (i64.wrap (C+1))else some false else if I=true then if(!((J.toNat:Int)==47))=true then some false else gB j U I aa (i64.wrap (C+1))else some false else(bF (j.size:Int) 1 U).bind λae=>some ae
def xI(j:ByteArray)(C:Int)(I:Bool):Option Bool:=
 gB j C I fuel 0
def eA(C:ByteArray):Option Bool:=
 (xI C 8 false).bind λj=>some j
def cX(C:M.YZ):Nat->Int->Int->Option Bool
 |0,_,_=>none
 |U+1,I,J=>if(decide (J<((3:Nat):Int)))=true then(idx ([C.Zv,C.Zs,C.Zm]) J).bind λj=>(bF j 0 1000000000000).bind λah=>if(!ah)=true then some false else if(j !=0)=true then if(decide (j<=I))=true then some false else cX C U (if j>I then j else I) (i64.wrap (J+1))else cX C U (if j>I then j else I) (i64.wrap (J+1))else(eA C.Zh).bind λai=>some ai
def rF(j:M.YZ):Option Bool:=
 cX j fuel 0 0
def tK(j:M.Zb)(I:ByteArray)(C:ByteArray):Option Bool:=
 if(j.Zh.toList==I.toList)=true then some (j.Zy.toList==C.toList)else some false
def cK(C:List M.Zb)(I:M.Zb->Option Bool):Nat->Int->Option Int
 |0,_=>none
 |aa+1,j=>if(decide (j<(List.length C:Int)))=true then(idx C j).bind λU=>(I U).bind λJ=>if J=true then some j else cK C I aa (i64.wrap (j+1))else some (-1)
def iA(j:List M.Zb)(C:M.Zb->Option Bool):Option Int:=
 cK j C fuel 0
def tZ(I:M.Y6)(U:ByteArray)(J:ByteArray):Option Int:=
 (iA I.Y8 (λj=>tK j U J)).bind λC=>some C
def nZ(j:M.Y7):Option Bool:=
 (bF j.ZC 1 4).bind λC=>if C=true then(bF j.ZA 0 999).bind λI=>if I=true then(bF j.Y2 0 1000000000000).bind λJ=>if J=true then some (decide ((List.length j.ZE:Int)<=60))else some false else some false else some false
def eB(I:M.Y6)(J:Int->Option Bool):Nat->Int->Option Bool
 |0,_=>none
 |ah+1,C=>if(decide (C<(List.length I.Y8:Int)))=true then(idx I.Y8 C).bind λj=>(eA j.Zh).bind λU=>if(!U)=true then some false else(eA j.Zy).bind λaj=>if(!aj)=true then some false else(tZ I j.Zh j.Zy).bind λak=>if(ak !=C)=true then some false else(nZ j.Y7).bind λal=>if(!al)=true then some false else eB I J ah (i64.wrap (C+1))else J C
def dP(I:M.Y6)(J:Int->Option Bool):Nat->Int->Option Bool
 |0,_=>none
 |ah+1,C=>if(decide (C<(List.length I.Y8:Int)))=true then(idx I.Y8 C).bind λj=>(eA j.Zh).bind λU=>if(!U)=true then some false else(eA j.Zy).bind λaj=>if(!aj)=true then some false else(tZ I j.Zh j.Zy).bind λak=>if(ak !=C)=true then some false else(nZ j.Y7).bind λal=>if(!al)=true then some false else dP I J ah (i64.wrap (C+1))else J C
def dZ(I:M.aE):Nat->Int->Option Bool
 |0,_=>none
 |J+1,j=>if(decide (j<(List.length I.Y1:Int)))=true then(idx I.Y1 j).bind λC=>(bF C.Y2 1 1000000000000).bind λah=>if(!ah)=true then some false else if(decide (j>0))=true then(idx I.Y1 (i64.wrap (j-1))).bind λU=>if(decide (C.Y2<=U.Y2))=true then some false else if(decide ((List.length C.Y8:Int)>12))=true then some false else eB C (λ(aa:Int)=>dZ I J (i64.wrap (j+1))) fuel 0 else if(decide ((List.length C.Y8:Int)>12))=true then some false else dP C (λ(ae:Int)=>dZ I J (i64.wrap (j+1))) fuel 0 else some (decide ((List.length I.Y1:Int)<=4))
def rV(j:M.aE):Option Bool:=
 dZ j fuel 0
def dJ(j:ByteArray):Nat->Int->Option Bool
 |0,_=>none
 |J+1,I=>if(decide (I<(j.size:Int)))=true then(Rz j I).bind λC=>if(decide ((C.toNat:Int)>=97))=true then if(decide ((C.toNat:Int)<=122))=true then dJ j J (i64.wrap (I+1))else if(decide ((C.toNat:Int)>=48))=true then if(!(decide ((C.toNat:Int)<=57)))=true then some false else dJ j J (i64.wrap (I+1))else some false else if(decide ((C.toNat:Int)>=48))=true then if(!(decide ((C.toNat:Int)<=57)))=true then some false else dJ j J (i64.wrap (I+1))else some false else some (decide ((j.size:Int)<=12))
def tG(j:ByteArray):Option Bool:=
 dJ j fuel 0
def pV(j:M.Key):Option Bool:=
 (bF j.Zi 1 3).bind λC=>if(!C)=true then some false else(bF j.N (-1000000000000) 1000000000000).bind λI=>if(!I)=true then some false else(tG j.Zp).bind λJ=>if(!J)=true then some false else if(j.Zi==2)=true then if(!(j.N !=0))=true then if(j.Zi==1)=true then some (!(!(j.Zp.toList==(⟨#[]⟩:ByteArray).toList)))else some true else some false else if(j.Zi==1)=true then some (!(!(j.Zp.toList==(⟨#[]⟩:ByteArray).toList)))else some true
def fO(C:M.aC):Nat->Int->Option Bool
 |0,_=>none
 |U+1,j=>if(decide (j<(List.length C.Y4:Int)))=true then(idx C.Y4 j).bind λI=>(eA I.Name).bind λaf=>if(!af)=true then some false else(bF I.N 0 1000000000).bind λah=>if(!ah)=true then some false else if(decide (j>0))=true then(idx C.Y4 (i64.wrap (j-1))).bind λJ=>if(Op.bytesLess I.Name.toList J.Name.toList||I.Name.toList==J.Name.toList)=true then some false else fO C U (i64.wrap (j+1))else fO C U (i64.wrap (j+1))else some (decide ((List.length C.Y4:Int)<=6))
def sC(j:M.aC):Option Bool:=
 fO j fuel 0
def pT(j:Int)(C:Int):Option Int:=
 if(decide (j<C))=true then some (-1)else if(decide (j>C))=true then some 1 else some 0
def lA(j:ByteArray)(C:ByteArray):Option Int:=some (Lib.compareBytes j.data.toList C.data.toList)
def vE(C:ByteArray)(I:ByteArray):Option Int:=
 (lA C I).bind λj=>some j
def mN(j:M.Key)(C:M.Key):Option Int:=
 (pV j).bind λx1=>if(!x1)=true then some 0 else(pV C).bind λx4=>if(!x4)=true then some 0 else(pT j.Zi C.Zi).bind λI=>if(I !=0)=true then some I else(pT j.N C.N).bind λJ=>if(J !=0)=true then some J else(vE j.Zp C.Zp).bind λU=>some U
def gH(j:M.aA):Nat->Int->Option Bool
 |0,_=>none
 |J+1,C=>if(decide (C<(List.length j.Y3:Int)))=true then(idx j.Y3 C).bind λI=>(pV I.Key).bind λae=>if(!ae)=true then some false else(sC I.aC).bind λaf=>if(!af)=true then some false else if(decide (C>0))=true then(idx j.Y3 (i64.wrap (C-1))).bind λah=>(mN ah.Key I.Key).bind λU=>if(decide (U>=0))=true then some false else gH j J (i64.wrap (C+1))else gH j J (i64.wrap (C+1))else(eA j.Name).bind λaj=>if aj=true then if(decide ((List.length j.Y3:Int)<=16))=true then(bF j.Zn 0 1000000).bind λak=>some ak else some false else some false
def uC(j:M.aA):Option Bool:=
 gH j fuel 0
def pW(j:M.aA)(C:ByteArray):Option Bool:=
 some (j.Name.toList==C.toList)
def cR(C:List M.aA)(I:M.aA->Option Bool):Nat->Int->Option Int
 |0,_=>none
 |aa+1,j=>if(decide (j<(List.length C:Int)))=true then(idx C j).bind λU=>(I U).bind λJ=>if J=true then some j else cR C I aa (i64.wrap (j+1))else some (-1)
def jG(j:List M.aA)(C:M.aA->Option Bool):Option Int:=
 cR j C fuel 0
def tH(J:M.YY)(I:ByteArray):Option Int:=
 (jG J.Y5 (λj=>pW j I)).bind λC=>some C
def dA(C:List M.aM)(I:M.aM):Nat->Int->Option Int
 |0,_=>none
 |U+1,j=>if(decide (j<(List.length C:Int)))=true then(idx C j).bind λJ=>if((I.aA.toList==J.aA.toList)&&(I.Field.toList==J.Field.toList))=true then some j else dA C I U (i64.wrap (j+1))else some (-1)
def kD(j:List M.aM)(C:M.aM):Option Int:=
 dA j C fuel 0
def gL(C:List M.aM)(I:M.aM):Option Bool:=
 (kD C I).bind λj=>some (decide (j>=0))
def tE(j:M.Field)(C:ByteArray):Option Bool:=
 some (j.Name.toList==C.toList)
def cQ(C:List M.Field)(I:M.Field->Option Bool):Nat->Int->Option Int
 |0,_=>none
 |aa+1,j=>if(decide (j<(List.length C:Int)))=true then(idx C j).bind λU=>(I U).bind λJ=>if J=true then some j else cQ C I aa (i64.wrap (j+1))else some (-1)
def jJ(j:List M.Field)(C:M.Field->Option Bool):Option Int:=
 cQ j C fuel 0
def yW(J:M.aC)(I:ByteArray):Option Int:=
 (jJ J.Y4 (λj=>tE j I)).bind λC=>some C
def kE(C:M.aC)(J:ByteArray):Option (Int×Bool):=
 (yW C J).bind λj=>if(decide (j<0))=true then some (0,false)else(idx C.Y4 j).bind λI=>some (I.N,true)
def pX(I:M.Zd)(U:M.Zd)(J:ByteArray):Option Bool:=
 (kE I.aC J).bind λC=>(kE U.aC J).bind λj=>if(decide (C.1<j.1))=true then some true else if(C.1==j.1)=true then(mN I.Key U.Key).bind λx7=>some (decide (x7<0))else some false
def lN(J:ByteArray)(U:List M.Zd)(I:M.Zd)(C:Int->Option (List M.Zd)):Nat->Int->Option (List M.Zd)
 |0,_=>none
 |ai+1,j=>if(decide (j>0))=true then(idx U (i64.wrap (j-1))).bind λaj=>(pX I aj J).bind λak=>if ak=true then lN J U I C ai (i64.wrap (j-1))else C j else C j
def jC(C:M.aA)(I:ByteArray):Nat->Int->List M.Zd->Option (List M.Zd)
 |0,_,_=>none
 |ai+1,J,j=>if(decide (J<(List.length C.Y3:Int)))=true then(idx C.Y3 J).bind λU=>(kE U.aC I).bind λak=>if(!ak.2)=true then jC C I ai (i64.wrap (J+1)) j else lN I j U (λ(aa:Int)=>(sP U).bind λaj=>(Ko 56 j aa ([aj])).bind λal=>jC C I ai (i64.wrap (J+1)) (List.take aa.toNat j++([aj]++List.drop aa.toNat j))) fuel (List.length j:Int)else some j
def wB(j:M.aA)(C:ByteArray):Option (List M.Zd):=
 jC j C fuel 0 ([]:List M.Zd)
def eI(C:ByteArray)(x1:(List M.Zd)):Nat->Int->Option (M.Key×M.Key×Bool)
 |0,_=>none
 |af+1,j=>if(decide (j<(List.length x1:Int)))=true then(idx x1 (i64.wrap (j-1))).bind λJ=>(kE J.aC C).bind λah=>(idx x1 j).bind λI=>(kE I.aC C).bind λU=>if(ah.1==U.1)=true then some (J.Key,I.Key,true)else eI C x1 af (i64.wrap (j+1))else some ((⟨0,0,(⟨#[]⟩:ByteArray)⟩:M.Key),(⟨0,0,(⟨#[]⟩:ByteArray)⟩:M.Key),false)
def gW(I:M.aA)(j:ByteArray):Option (M.Key×M.Key×Bool):=
 (wB I j).bind λC=>eI j C fuel 1
def dY(j:M.YY):Nat->Int->Option Bool
 |0,_=>none
 |ah+1,C=>if(decide (C<(List.length j.Za:Int)))=true then(idx j.Za C).bind λI=>(tH j I.aA).bind λJ=>if(decide (J<0))=true then some false else(eA I.Field).bind λU=>if(!U)=true then some false else(yK j.Za C).bind λao=>(gL (List.take C.toNat j.Za) I).bind λaj=>if aj=true then some false else(idx j.Y5 J).bind λak=>(gW ak I.Field).bind λal=>if al.2.2=true then some false else dY j ah (i64.wrap (C+1))else some true
def dU(C:M.YY):Nat->Int->Option Bool
 |0,_=>none
 |U+1,j=>if(decide (j<(List.length C.Y5:Int)))=true then(idx C.Y5 j).bind λI=>(uC I).bind λai=>if(!ai)=true then some false else if(decide (j>0))=true then(idx C.Y5 (i64.wrap (j-1))).bind λJ=>if(Op.bytesLess I.Name.toList J.Name.toList||I.Name.toList==J.Name.toList)=true then some false else dU C U (i64.wrap (j+1))else dU C U (i64.wrap (j+1))else dY C fuel 0
def rU(j:M.YY):Option Bool:=
 (eA j.Name).bind λC=>if(!C)=true then some false else(bF j.Y2 0 1000).bind λI=>if(!I)=true then some false else if(decide ((List.length j.Y5:Int)>4))=true then some false else if(decide ((List.length j.Za:Int)>4))=true then some false else dU j fuel 0
def nI(j:M.aV):Option Bool:=
 (bF j.Zg 1 1000000).bind λU=>if U=true then(bF j.ZI 1 1000000).bind λx4=>if x4=true then(pV j.Key).bind λC=>if C=true then(eA j.Field).bind λJ=>if J=true then(bF j.N 0 1000000000).bind λI=>some I else some false else some false else some false else some false
def kC(j:M.aF):Nat->Int->Option Bool
 |0,_=>none
 |U+1,C=>if(decide (C<(List.length j.Y9:Int)))=true then(idx j.Y9 C).bind λI=>(nI I).bind λaf=>if(!af)=true then some false else if(I.Zg !=j.Zg)=true then some false else if(I.ZI !=(i64.wrap ((i64.wrap (j.Zr-(List.length j.Y9:Int)))+C)))=true then some false else kC j U (i64.wrap (C+1))else(bF j.Zg 1 1000000).bind λah=>if ah=true then(bF j.Zr 1 1000000).bind λJ=>if J=true then some (decide ((List.length j.Y9:Int)<=20))else some false else some false
def uM(j:M.aF):Option Bool:=
 kC j fuel 0
def tQ(j:M.aD):Option Bool:=
 (uC j.Zf).bind λC=>if C=true then if(j.Zf.Name.toList==(⟨#[110,111,116,101,115]⟩:ByteArray).toList)=true then(bF j.Zx 0 1000000000000).bind λI=>if I=true then(uM j.Ze.aF).bind λJ=>some J else some false else some false else some false
def sV(j:M.Y7)(C:Bool):Option Int:=
 if C=true then some 76 else some (i64.wrap (16+(List.length j.ZE:Int)))
def gO(C:M.Y6)(U:Int->Int->Option Int):Nat->Int->Int->Option Int
 |0,_,_=>none
 |ai+1,I,j=>if(decide (j<(List.length C.Y8:Int)))=true then(idx C.Y8 j).bind λJ=>(sV J.Y7 (J.Y7.ZC==3)).bind λaj=>gO C U ai (i64.wrap (I+aj)) (i64.wrap (j+1))else U I j
def dX(C:M.aE):Nat->Int->Int->Option Int
 |0,_,_=>none
 |af+1,I,j=>if(decide (j<(List.length C.Y1:Int)))=true then(idx C.Y1 j).bind λJ=>gO J (λ(U:Int) (ae:Int)=>dX C af U (i64.wrap (j+1))) fuel I 0 else some I
def sM(j:M.aE):Option Int:=
 dX j fuel 0 0
def eP(C:M.Key):Nat->Int->List Int->Option (List Int)
 |0,_,_=>none
 |J+1,j,I=>if(decide (j>=0))=true then if(decide (0<=(i64.wrap (8*j))))=true then(app 1 I ([IntKind.u8.wrap (Int.fdiv (i64.wrap (C.N+1000000000000)) (2^(min (i64.wrap (8*j)).toNat IntKind.i64.bits)))])).bind λaf=>eP C J (i64.wrap (j-1)) (I++[IntKind.u8.wrap (Int.fdiv (i64.wrap (C.N+1000000000000)) (2^(min (i64.wrap (8*j)).toNat IntKind.i64.bits)))])else none else(app 1 I (cO C.Zp)).bind λU=>some (I++cO C.Zp)
def tP(j:M.Key):Option (List Int):=
 (pV j).bind λC=>if(!C)=true then some ([]:List Int)else if(j.Zi !=2)=true then eP j fuel 5 ([IntKind.u8.wrap j.Zi])else(app 1 ([IntKind.u8.wrap j.Zi]) (cO j.Zp)).bind λI=>some ([IntKind.u8.wrap j.Zi]++cO j.Zp)
def eR  :Nat->Int->List Int->Option (List Int)
 |0,_,_=>none
 |I+1,j,C=>if(decide (j>=128))=true then(app 1 C ([IntKind.u8.wrap (i64.wrap ((Int.tmod j 128)+128))])).bind λJ=>eR I (i64.wrap (Int.tdiv j 128)) (C++[IntKind.u8.wrap (i64.wrap ((Int.tmod j 128)+128))])else(app 1 C ([IntKind.u8.wrap j])).bind λU=>some (C++[IntKind.u8.wrap j])
def gN(I:List Int)(C:Int):Option (List Int):=
 (kW I).bind λj=>(bF C 0 1000000000000).bind λJ=>if(!J)=true then some j else eR fuel C j
def rC(I:List Int)(j:List Int):Option (List Int):=
 (gN I (List.length j:Int)).bind λC=>(app 1 C j).bind λJ=>some (C++j)
def fL(C:M.aC):Nat->Int->List Int->Option (List Int)
 |0,_,_=>none
 |ah+1,j,I=>if(decide (j<(List.length C.Y4:Int)))=true then(idx C.Y4 j).bind λJ=>(rC I (cO J.Name)).bind λU=>(gN U J.N).bind λaj=>fL C ah (i64.wrap (j+1)) aj else some I
def oO(j:M.aC):Option (List Int):=
 (sC j).bind λC=>if(!C)=true then some ([]:List Int)else(gN ([]:List Int) (List.length j.Y4:Int)).bind λI=>fL j fuel 0 I
def iK(C:M.aA):Nat->Int->Int->Option Int
 |0,_,_=>none
 |aa+1,J,j=>if(decide (j<(List.length C.Y3:Int)))=true then(idx C.Y3 j).bind λI=>(tP I.Key).bind λU=>(oO I.aC).bind λaf=>iK C aa (i64.wrap (J+(i64.wrap ((List.length U:Int)+(List.length af:Int))))) (i64.wrap (j+1))else some J
def pK(j:M.aA):Option Int:=
 iK j fuel 0 0
def fH(C:M.YY):Nat->Int->Int->Option Int
 |0,_,_=>none
 |aa+1,I,j=>if(decide (j<(List.length C.Y5:Int)))=true then(idx C.Y5 j).bind λU=>(pK U).bind λJ=>fH C aa (i64.wrap (I+J)) (i64.wrap (j+1))else some I
def oN(j:M.YY):Option Int:=
 fH j fuel 0 0
def xK(j:M.bG):Option Int:=
 (oN j.Zf).bind λC=>some (i64.wrap (C+(List.length j.ZD:Int)))
def tY(j:M.aK):Option Int:=
 (sM j.Y1).bind λC=>(xK j.bG).bind λJ=>(pK j.aD.Zf).bind λI=>some (i64.wrap ((i64.wrap ((i64.wrap (C+J))+I))+(i64.wrap (40*(List.length j.aD.Ze.aF.Y9:Int)))))
def uT(j:M.aK):Option Bool:=
 (eA j.Zh).bind λx1=>if x1=true then(eA j.Zw).bind λx4=>if x4=true then(rF j.YZ).bind λI=>if I=true then if(j.YZ.Zh.toList==j.Zh.toList)=true then(rV j.Y1).bind λaa=>if aa=true then(rU j.bG.Zf).bind λJ=>if J=true then(tQ j.aD).bind λaf=>if af=true then(bF j.Zo 0 1000000000000).bind λU=>if U=true then(tY j).bind λC=>some (decide (C<=2500))else some false else some false else some false else some false else some false else some false else some false else some false
def eS(C:M.aH):Nat->Int->Option Bool
 |0,_=>none
 |J+1,j=>if(decide (j<(List.length C.Y0:Int)))=true then(idx C.Y0 j).bind λI=>(uT I).bind λU=>if(!U)=true then some false else if(decide (j>0))=true then(idx C.Y0 (i64.wrap (j-1))).bind λaf=>(lT af I).bind λah=>if(!ah)=true then some false else eS C J (i64.wrap (j+1))else eS C J (i64.wrap (j+1))else some (decide ((List.length C.Y0:Int)<=9))
def cD(j:M.aH):Option Bool:=
 eS j fuel 0
def iT(C:M.aH)(I:M.aK)(x1:M.aH):Nat->Int->Option (M.aH×Bool)
 |0,_=>none
 |af+1,j=>if(decide (j<(List.length x1.Y0:Int)))=true then(idx x1.Y0 j).bind λah=>(lT ah I).bind λai=>if ai=true then iT C I x1 af (i64.wrap (j+1))else(fB I).bind λU=>(Ko 328 x1.Y0 j ([U])).bind λax=>(cD C).bind λaj=>if(!aj)=true then(bY C).bind λak=>some (ak,false)else(cD (⟨List.take j.toNat x1.Y0++([U]++List.drop j.toNat x1.Y0)⟩:M.aH)).bind λal=>if(!al)=true then(bY C).bind λao=>some (ao,false)else some ((⟨List.take j.toNat x1.Y0++([U]++List.drop j.toNat x1.Y0)⟩:M.aH),true)else(fB I).bind λJ=>(Ko 328 x1.Y0 j ([J])).bind λay=>(cD C).bind λaq=>if(!aq)=true then(bY C).bind λar=>some (ar,false)else(cD (⟨List.take j.toNat x1.Y0++([J]++List.drop j.toNat x1.Y0)⟩:M.aH)).bind λav=>if(!av)=true then(bY C).bind λaw=>some (aw,false)else some ((⟨List.take j.toNat x1.Y0++([J]++List.drop j.toNat x1.Y0)⟩:M.aH),true)
def pI(j:M.aH)(J:M.aK):Option (M.aH×Bool):=
 (bY j).bind λI=>(nY j J.Zh J.Zw).bind λC=>if(decide (C>=0))=true then(fB J).bind λU=>(idx I.Y0 C).bind λx8=>(cD j).bind λaa=>if(!aa)=true then(bY j).bind λae=>some (ae,false)else(cD (⟨List.set I.Y0 C.toNat U⟩:M.aH)).bind λaf=>if(!af)=true then(bY j).bind λah=>some (ah,false)else some ((⟨List.set I.Y0 C.toNat U⟩:M.aH),true)else iT j J I fuel 0
def dL(C:List M.aK)(J:List M.aK)(I:M.aK->M.aK->Option Bool):Nat->Int->Option Bool
 |0,_=>none
 |U+1,j=>if(decide (j<(List.length C:Int)))=true then(idx C j).bind λx9=>(idx J j).bind λaf=>(I x9 af).bind λah=>if(!ah)=true then some false else dL C J I U (i64.wrap (j+1))else some true
def hY(j:List M.aK)(C:List M.aK)(I:M.aK->M.aK->Option Bool):Option Bool:=
 if((List.length j:Int) !=(List.length C:Int))=true then some false else dL j C I fuel 0
def eE(C:List M.Y6)(J:List M.Y6)(I:M.Y6->M.Y6->Option Bool):Nat->Int->Option Bool
 |0,_=>none
 |U+1,j=>if(decide (j<(List.length C:Int)))=true then(idx C j).bind λx9=>(idx J j).bind λaf=>(I x9 af).bind λah=>if(!ah)=true then some false else eE C J I U (i64.wrap (j+1))else some true
def jF(j:List M.Y6)(C:List M.Y6)(I:M.Y6->M.Y6->Option Bool):Option Bool:=
 if((List.length j:Int) !=(List.length C:Int))=true then some false else eE j C I fuel 0
def dM(C:List M.Zb)(J:List M.Zb)(I:M.Zb->M.Zb->Option Bool):Nat->Int->Option Bool
 |0,_=>none
 |U+1,j=>if(decide (j<(List.length C:Int)))=true then(idx C j).bind λx9=>(idx J j).bind λaf=>(I x9 af).bind λah=>if(!ah)=true then some false else dM C J I U (i64.wrap (j+1))else some true
def hU(j:List M.Zb)(C:List M.Zb)(I:M.Zb->M.Zb->Option Bool):Option Bool:=
 if((List.length j:Int) !=(List.length C:Int))=true then some false else dM j C I fuel 0
def gY(C:List Int)(I:List Int):Nat->Int->Option Bool
 |0,_=>none
 |J+1,j=>if(decide (j<(List.length C:Int)))=true then(idx C j).bind λU=>(idx I j).bind λaf=>if(U !=af)=true then some false else gY C I J (i64.wrap (j+1))else some true
def oZ(j:List Int)(C:List Int):Option Bool:=
 if((List.length j:Int) !=(List.length C:Int))=true then some false else gY j C fuel 0
def nX(C:List Int)(I:List Int):Option Bool:=
 (oZ C I).bind λj=>some j
def mH(j:M.Y7)(C:M.Y7):Option Bool:=
 if(j.ZC==C.ZC)=true then if(j.ZA==C.ZA)=true then if(j.Y2==C.Y2)=true then(nX j.ZE C.ZE).bind λI=>if I=true then some (j.ZF==C.ZF)else some false else some false else some false else some false
def mL(j:M.Zb)(C:M.Zb):Option Bool:=
 if(j.Zh.toList==C.Zh.toList)=true then if(j.Zy.toList==C.Zy.toList)=true then(mH j.Y7 C.Y7).bind λI=>some I else some false else some false
def mW(j:M.Y6)(C:M.Y6):Option Bool:=
 if(j.Y2==C.Y2)=true then(hU j.Y8 C.Y8 (λJ U=>mL J U)).bind λI=>some I else some false
def mB(I:M.aE)(U:M.aE):Option Bool:=
 (jF I.Y1 U.Y1 (λj J=>mW j J)).bind λC=>some C
def eC(C:List M.aA)(J:List M.aA)(I:M.aA->M.aA->Option Bool):Nat->Int->Option Bool
 |0,_=>none
 |U+1,j=>if(decide (j<(List.length C:Int)))=true then(idx C j).bind λx9=>(idx J j).bind λaf=>(I x9 af).bind λah=>if(!ah)=true then some false else eC C J I U (i64.wrap (j+1))else some true
def jM(j:List M.aA)(C:List M.aA)(I:M.aA->M.aA->Option Bool):Option Bool:=
 if((List.length j:Int) !=(List.length C:Int))=true then some false else eC j C I fuel 0
def eM(C:List M.Zd)(J:List M.Zd)(I:M.Zd->M.Zd->Option Bool):Nat->Int->Option Bool
 |0,_=>none
 |U+1,j=>if(decide (j<(List.length C:Int)))=true then(idx C j).bind λx9=>(idx J j).bind λaf=>(I x9 af).bind λah=>if(!ah)=true then some false else eM C J I U (i64.wrap (j+1))else some true
def jY(j:List M.Zd)(C:List M.Zd)(I:M.Zd->M.Zd->Option Bool):Option Bool:=
 if((List.length j:Int) !=(List.length C:Int))=true then some false else eM j C I fuel 0
def gI(C:List M.Field)(U:List M.Field):Nat->Int->Option Bool
 |0,_=>none
 |af+1,j=>if(decide (j<(List.length C:Int)))=true then(idx C j).bind λJ=>(idx U j).bind λI=>if(!((J.Name.toList==I.Name.toList)&&(J.N==I.N)))=true then some false else gI C U af (i64.wrap (j+1))else some true
def nN(j:List M.Field)(C:List M.Field):Option Bool:=
 if((List.length j:Int) !=(List.length C:Int))=true then some false else gI j C fuel 0
def oM(C:M.aC)(I:M.aC):Option Bool:=
 (nN C.Y4 I.Y4).bind λj=>some j
def oE(j:M.Zd)(C:M.Zd):Option Bool:=
 if((j.Key.Zi==C.Key.Zi)&&((j.Key.N==C.Key.N)&&(j.Key.Zp.toList==C.Key.Zp.toList)))=true then(oM j.aC C.aC).bind λI=>some I else some false
def gS(j:M.aA)(C:M.aA):Option Bool:=
 if(j.Name.toList==C.Name.toList)=true then if(j.Zn==C.Zn)=true then(jY j.Y3 C.Y3 (λI U=>oE I U)).bind λJ=>some J else some false else some false
def eL(C:List M.aM)(U:List M.aM):Nat->Int->Option Bool
 |0,_=>none
 |af+1,j=>if(decide (j<(List.length C:Int)))=true then(idx C j).bind λJ=>(idx U j).bind λI=>if(!((J.aA.toList==I.aA.toList)&&(J.Field.toList==I.Field.toList)))=true then some false else eL C U af (i64.wrap (j+1))else some true
def kJ(j:List M.aM)(C:List M.aM):Option Bool:=
 if((List.length j:Int) !=(List.length C:Int))=true then some false else eL j C fuel 0
def mG(j:M.YY)(C:M.YY):Option Bool:=
 if(j.Name.toList==C.Name.toList)=true then if(j.Y2==C.Y2)=true then(jM j.Y5 C.Y5 (λI U=>gS I U)).bind λJ=>if J=true then(kJ j.Za C.Za).bind λx6=>some x6 else some false else some false else some false
def sD(j:M.bG)(C:M.bG):Option Bool:=
 (mG j.Zf C.Zf).bind λI=>if I=true then(nX j.ZD C.ZD).bind λJ=>if J=true then some (j.Zu==C.Zu)else some false else some false
def gF(J:List M.aV)(U:List M.aV):Nat->Int->Option Bool
 |0,_=>none
 |af+1,I=>if(decide (I<(List.length J:Int)))=true then(idx J I).bind λj=>(idx U I).bind λC=>if(!((j.Zg==C.Zg)&&((j.ZI==C.ZI)&&((j.Key.Zi==C.Key.Zi)&&((j.Key.N==C.Key.N)&&((j.Key.Zp.toList==C.Key.Zp.toList)&&((j.Field.toList==C.Field.toList)&&(j.N==C.N))))))))=true then some false else gF J U af (i64.wrap (I+1))else some true
def nJ(j:List M.aV)(C:List M.aV):Option Bool:=
 if((List.length j:Int) !=(List.length C:Int))=true then some false else gF j C fuel 0
def nO(j:M.aF)(C:M.aF):Option Bool:=
 if(j.Zg==C.Zg)=true then if(j.Zr==C.Zr)=true then(nJ j.Y9 C.Y9).bind λI=>some I else some false else some false
def sS(j:M.Ze)(C:M.Ze):Option Bool:=
 (nO j.aF C.aF).bind λI=>if I=true then if(j.Zt==C.Zt)=true then some (j.Zj==C.Zj)else some false else some false
def nG(j:M.aD)(C:M.aD):Option Bool:=
 (gS j.Zf C.Zf).bind λI=>if I=true then if(j.Zx==C.Zx)=true then(sS j.Ze C.Ze).bind λJ=>some J else some false else some false
def lL(j:M.aK)(C:M.aK):Option Bool:=
 if(j.Zh.toList==C.Zh.toList)=true then if(j.Zw.toList==C.Zw.toList)=true then if((j.YZ.Zh.toList==C.YZ.Zh.toList)&&((j.YZ.Zm==C.YZ.Zm)&&((j.YZ.Zs==C.YZ.Zs)&&(j.YZ.Zv==C.YZ.Zv))))=true then(mB j.Y1 C.Y1).bind λU=>if U=true then(sD j.bG C.bG).bind λI=>if I=true then(nG j.aD C.aD).bind λJ=>if J=true then if(j.Zo==C.Zo)=true then some (j.Zl==C.Zl)else some false else some false else some false else some false else some false else some false else some false
def nL(I:M.aH)(U:M.aH):Option Bool:=
 (hY I.Y0 U.Y0 (λj J=>lL j J)).bind λC=>some C
def mC(j:M.Y7)(C:M.Y7):Option Bool:=
 if(j.ZC==C.ZC)=true then if(j.ZA==C.ZA)=true then if(j.Y2==C.Y2)=true then if(j.ZF==C.ZF)=true then(lI j.ZE C.ZE).bind λI=>some I else some false else some false else some false else some false
def eF(I:M.Y6)(ah:M.Y6)(U:Int->Option Bool):Nat->Int->Option Bool
 |0,_=>none
 |aj+1,j=>if(decide (j<(List.length I.Y8:Int)))=true then(idx I.Y8 j).bind λC=>(idx ah.Y8 j).bind λJ=>if(!(C.Zh.toList==J.Zh.toList))=true then some false else if(!(C.Zy.toList==J.Zy.toList))=true then some false else(mC C.Y7 J.Y7).bind λak=>if(!ak)=true then some false else eF I ah U aj (i64.wrap (j+1))else U j
def fP(I:M.aE)(U:M.aE):Nat->Int->Option Bool
 |0,_=>none
 |af+1,j=>if(decide (j<(List.length I.Y1:Int)))=true then(idx I.Y1 j).bind λJ=>(idx U.Y1 j).bind λC=>if(J.Y2 !=C.Y2)=true then some false else if((List.length J.Y8:Int) !=(List.length C.Y8:Int))=true then some false else eF J C (λ(ae:Int)=>fP I U af (i64.wrap (j+1))) fuel 0 else some true
def mE(j:M.aE)(C:M.aE):Option Bool:=
 if((List.length j.Y1:Int) !=(List.length C.Y1:Int))=true then some false else fP j C fuel 0
def gZ(C:M.aC)(U:M.aC):Nat->Int->Option Bool
 |0,_=>none
 |ae+1,j=>if(decide (j<(List.length C.Y4:Int)))=true then(idx C.Y4 j).bind λJ=>(idx U.Y4 j).bind λI=>if(!((J.Name.toList==I.Name.toList)&&(J.N==I.N)))=true then some false else gZ C U ae (i64.wrap (j+1))else some true
def oR(j:M.aC)(C:M.aC):Option Bool:=
 if((List.length j.Y4:Int) !=(List.length C.Y4:Int))=true then some false else gZ j C fuel 0
def jD(J:M.aA)(U:M.aA):Nat->Int->Option Bool
 |0,_=>none
 |af+1,I=>if(decide (I<(List.length J.Y3:Int)))=true then(idx J.Y3 I).bind λC=>(idx U.Y3 I).bind λj=>if(!((C.Key.Zi==j.Key.Zi)&&((C.Key.N==j.Key.N)&&(C.Key.Zp.toList==j.Key.Zp.toList))))=true then some false else(oR C.aC j.aC).bind λah=>if(!ah)=true then some false else jD J U af (i64.wrap (I+1))else some true
def mT(j:M.aA)(C:M.aA):Option Bool:=
 if(!(j.Name.toList==C.Name.toList))=true then some false else if(j.Zn !=C.Zn)=true then some false else if((List.length j.Y3:Int) !=(List.length C.Y3:Int))=true then some false else jD j C fuel 0
def cW(C:M.YY)(U:M.YY):Nat->Int->Option Bool
 |0,_=>none
 |af+1,j=>if(decide (j<(List.length C.Za:Int)))=true then(idx C.Za j).bind λJ=>(idx U.Za j).bind λI=>if(!((J.aA.toList==I.aA.toList)&&(J.Field.toList==I.Field.toList)))=true then some false else cW C U af (i64.wrap (j+1))else some true
def cV(j:M.YY)(I:M.YY):Nat->Int->Option Bool
 |0,_=>none
 |aa+1,C=>if(decide (C<(List.length j.Y5:Int)))=true then(idx j.Y5 C).bind λJ=>(idx I.Y5 C).bind λaf=>(mT J af).bind λU=>if(!U)=true then some false else cV j I aa (i64.wrap (C+1))else cW j I fuel 0
def mI(j:M.YY)(C:M.YY):Option Bool:=
 if(!(j.Name.toList==C.Name.toList))=true then some false else if(j.Y2 !=C.Y2)=true then some false else if((List.length j.Y5:Int) !=(List.length C.Y5:Int))=true then some false else if((List.length j.Za:Int) !=(List.length C.Za:Int))=true then some false else cV j C fuel 0
def rZ(j:M.bG)(C:M.bG):Option Bool:=
 (mI j.Zf C.Zf).bind λI=>if I=true then(lI j.ZD C.ZD).bind λJ=>if J=true then some (j.Zu==C.Zu)else some false else some false
def gE(J:M.aF)(U:M.aF):Nat->Int->Option Bool
 |0,_=>none
 |af+1,I=>if(decide (I<(List.length J.Y9:Int)))=true then(idx J.Y9 I).bind λC=>(idx U.Y9 I).bind λj=>if(!((C.Zg==j.Zg)&&((C.ZI==j.ZI)&&((C.Key.Zi==j.Key.Zi)&&((C.Key.N==j.Key.N)&&((C.Key.Zp.toList==j.Key.Zp.toList)&&((C.Field.toList==j.Field.toList)&&(C.N==j.N))))))))=true then some false else gE J U af (i64.wrap (I+1))else some true
def nK(j:M.aF)(C:M.aF):Option Bool:=
 if(j.Zg !=C.Zg)=true then some false else if(j.Zr !=C.Zr)=true then some false else if((List.length j.Y9:Int) !=(List.length C.Y9:Int))=true then some false else gE j C fuel 0
def rR(j:M.Ze)(C:M.Ze):Option Bool:=
 (nK j.aF C.aF).bind λI=>if I=true then if(j.Zt==C.Zt)=true then some (j.Zj==C.Zj)else some false else some false
def nF(j:M.aD)(C:M.aD):Option Bool:=
 (mT j.Zf C.Zf).bind λI=>if I=true then if(j.Zx==C.Zx)=true then(rR j.Ze C.Ze).bind λJ=>some J else some false else some false
def iW(j:M.aK)(C:M.aK):Option Bool:=
 if(j.Zh.toList==C.Zh.toList)=true then if(j.Zw.toList==C.Zw.toList)=true then if((j.YZ.Zh.toList==C.YZ.Zh.toList)&&((j.YZ.Zm==C.YZ.Zm)&&((j.YZ.Zs==C.YZ.Zs)&&(j.YZ.Zv==C.YZ.Zv))))=true then(mE j.Y1 C.Y1).bind λU=>if U=true then(rZ j.bG C.bG).bind λI=>if I=true then(nF j.aD C.aD).bind λJ=>if J=true then if(j.Zo==C.Zo)=true then some (j.Zl==C.Zl)else some false else some false else some false else some false else some false else some false else some false
def uW(I:M.aO)(p1:Int):Option (Int×Int×M.Instr):=
 (aJ I 9).bind λC=>(aJ (⟨I.b,C.1,C.2.1⟩:M.aO) 4).bind λj=>if((i64.wrap (1+C.2.2))==1)=true then(aJ (⟨I.b,j.1,j.2.1⟩:M.aO) 6).bind λaa=>some (aa.1,aa.2.1,(⟨i64.wrap (1+C.2.2),j.2.2,aa.2.2,(⟨#[]⟩:ByteArray)⟩:M.Instr))else if((i64.wrap (1+C.2.2))==2)=true then(aJ (⟨I.b,j.1,j.2.1⟩:M.aO) 4).bind λae=>some (ae.1,ae.2.1,(⟨i64.wrap (1+C.2.2),j.2.2,ae.2.2,(⟨#[]⟩:ByteArray)⟩:M.Instr))else if((i64.wrap (1+C.2.2))==3)=true then(aJ (⟨I.b,j.1,j.2.1⟩:M.aO) (i64.wrap (p1+1))).bind λaf=>some (af.1,af.2.1,(⟨i64.wrap (1+C.2.2),j.2.2,af.2.2,(⟨#[]⟩:ByteArray)⟩:M.Instr))else if((i64.wrap (1+C.2.2))==4)=true then(aJ (⟨I.b,j.1,j.2.1⟩:M.aO) (i64.wrap (p1+1))).bind λah=>some (ah.1,ah.2.1,(⟨i64.wrap (1+C.2.2),0,ah.2.2,(⟨#[]⟩:ByteArray)⟩:M.Instr))else if((i64.wrap (1+C.2.2))==5)=true then(eK (⟨I.b,j.1,j.2.1⟩:M.aO) ([(⟨#[105,110,100,101,120]⟩:ByteArray),(⟨#[115,116,121,108,101]⟩:ByteArray),(⟨#[100,97,116,97]⟩:ByteArray)])).bind λU=>some (U.1,U.2.1,(⟨i64.wrap (1+C.2.2),j.2.2,0,U.2.2⟩:M.Instr))else if((i64.wrap (1+C.2.2))==6)=true then(aJ (⟨I.b,j.1,j.2.1⟩:M.aO) 4).bind λaj=>(cT (⟨I.b,aj.1,aj.2.1⟩:M.aO)).bind λak=>some (ak.1,ak.2.1,(⟨i64.wrap (1+C.2.2),j.2.2,aj.2.2,ak.2.2⟩:M.Instr))else if((i64.wrap (1+C.2.2))==7)=true then(aJ (⟨I.b,j.1,j.2.1⟩:M.aO) 4).bind λal=>(cT (⟨I.b,al.1,al.2.1⟩:M.aO)).bind λJ=>some (J.1,J.2.1,(⟨i64.wrap (1+C.2.2),j.2.2,al.2.2,J.2.2⟩:M.Instr))else if((i64.wrap (1+C.2.2))==8)=true then(aJ (⟨I.b,j.1,j.2.1⟩:M.aO) 4).bind λaq=>(cT (⟨I.b,aq.1,aq.2.1⟩:M.aO)).bind λar=>some (ar.1,ar.2.1,(⟨i64.wrap (1+C.2.2),j.2.2,aq.2.2,ar.2.2⟩:M.Instr))else if((i64.wrap (1+C.2.2))==9)=true then some (j.1,j.2.1,(⟨i64.wrap (1+C.2.2),0,0,(⟨#[]⟩:ByteArray)⟩:M.Instr))else some (j.1,j.2.1,(⟨i64.wrap (1+C.2.2),j.2.2,0,(⟨#[]⟩:ByteArray)⟩:M.Instr))
def iM(p0:M.aO)(I:(Int×Int×Int)):Nat->Int->List M.Instr->Int->Int->Option (Int×Int×(List M.Instr))
 |0,_,_,_,_=>none
 |ah+1,v5,C,U,J=>if(decide (v5<I.2.2))=true then(uW (⟨p0.b,U,J⟩:M.aO) I.2.2).bind λj=>(app 40 C ([j.2.2])).bind λai=>iM p0 I ah (i64.wrap (v5+1)) (C++[j.2.2]) j.1 j.2.1 else some (U,J,C)
def tN(C:M.aO):Option (Int×Int×(List M.Instr)):=
 (aJ C 8).bind λj=>iM C j fuel 0 ([]:List M.Instr) j.1 j.2.1
def rK(j:M.Instr)(p1:Int):Option Bool:=
 (if(j.Zi==5)=true then some true else(aZ j.Zi 6 8).bind λx9=>some x9).bind λx1=>(if(j.Zi==1)=true then some 1000 else if(j.Zi==2)=true then some 3 else(if(j.Zi==3)=true then some (j.Zi==3)else some (j.Zi==4)).bind λaa=>if aa=true then some p1 else(if(j.Zi==6)=true then some (j.Zi==6)else if(j.Zi==7)=true then some (j.Zi==7)else some (j.Zi==8)).bind λae=>if ae=true then some 100 else some 0).bind λaf=>((aZ j.Zi 1 9).bind λah=>if(!ah)=true then some true else(aZ j.R 0 3).bind λI=>if(!I)=true then some true else(aZ j.N 0 af).bind λaj=>some (!aj)).bind λU=>if U=true then some false else(if(j.Zi==4)=true then some (j.R !=0)else if(j.Zi==9)=true then some (j.R !=0)else some false).bind λal=>if al=true then some false else(if x1=true then(bU j.Zp).bind λC=>if C=true then some true else some false else some (j.Zp.toList==(⟨#[]⟩:ByteArray).toList)).bind λJ=>some J
def kG(j:List M.Instr):Nat->Int->Option Bool
 |0,_=>none
 |J+1,C=>if(decide (C<(List.length j:Int)))=true then(idx j C).bind λU=>(rK U (List.length j:Int)).bind λI=>if(!I)=true then some false else kG j J (i64.wrap (C+1))else some (decide ((List.length j:Int)<=16))
def uX(j:List M.Instr):Option Bool:=
 kG j fuel 0
def pN(j:List M.Instr):Option (List M.Instr):=
 (app 40 ([]:List M.Instr) j).bind λC=>some j
def sN(j:List M.Instr):Option M.Zc:=
 (uX j).bind λI=>if(!I)=true then some (⟨([]:List M.Instr),0,[0,0,0,0],0,true,false⟩:M.Zc)else(pN j).bind λC=>some (⟨C,0,[0,0,0,0],0,false,false⟩:M.Zc)
def nA(j:M.fS):Nat->Int->Option Bool
 |0,_=>none
 |aa+1,C=>if(decide (C<(List.length j.bC:Int)))=true then(idx j.bC C).bind λI=>(bU I.Zy).bind λU=>if(!U)=true then some false else if(I.Y2 !=j.Y2)=true then some false else nA j aa (i64.wrap (C+1))else(aZ j.Id 1 1000000000000).bind λaf=>if af=true then(bU j.Zh).bind λah=>if ah=true then(bU j.Zw).bind λJ=>if J=true then(aZ j.Y2 1 1000000000000).bind λaj=>if aj=true then some (decide ((List.length j.bC:Int)<=8))else some false else some false else some false else some false
def rJ(j:M.fS):Option Bool:=
 nA j fuel 0
def pM(I:Int)(U:ByteArray)(J:ByteArray)(j:Int)(p4:List M.Instr):Option (M.fS×Bool):=
 (sN p4).bind λC=>(rJ (⟨I,U,J,j,([]:List M.bC),C⟩:M.fS)).bind λx3=>if(!x3)=true then some ((⟨0,(⟨#[]⟩:ByteArray),(⟨#[]⟩:ByteArray),0,([]:List M.bC),(⟨([]:List M.Instr),0,([]:List Int),0,false,false⟩:M.Zc)⟩:M.fS),false)else some ((⟨I,U,J,j,([]:List M.bC),C⟩:M.fS),true)
def wF(j:M.Zc):Option M.Zc:=
 (pN j.Zz).bind λC=>(app 8 ([]:List Int) j.ZK).bind λI=>some (⟨C,j.Pc,j.ZK,j.ZG,j.ZL,j.ZM⟩:M.Zc)
def lY(j:M.fS):Option M.fS:=
 (app 24 ([]:List M.bC) j.bC).bind λI=>(wF j.Zc).bind λC=>some (⟨j.Id,j.Zh,j.Zw,j.Y2,j.bC,C⟩:M.fS)
def oP(C:M.fS)(J:ByteArray)(I:M.Y7):Option (M.fS×Bool):=
 (lY C).bind λj=>(app 24 j.bC ([(⟨J,I.Y2⟩:M.bC)])).bind λx3=>if(I.ZA !=200)=true then(lY C).bind λaa=>some (aa,false)else if(I.Y2 !=C.Y2)=true then(lY C).bind λae=>some (ae,false)else(rJ C).bind λaf=>if(!af)=true then(lY C).bind λah=>some (ah,false)else(rJ (⟨j.Id,j.Zh,j.Zw,j.Y2,j.bC++[(⟨J,I.Y2⟩:M.bC)],j.Zc⟩:M.fS)).bind λU=>if(!U)=true then(lY C).bind λaj=>some (aj,false)else some ((⟨j.Id,j.Zh,j.Zw,j.Y2,j.bC++[(⟨J,I.Y2⟩:M.bC)],j.Zc⟩:M.fS),true)
def lP(p0:M.aO):Nat->Int->Int->ByteArray->ByteArray->Int->Int->Int->Bool->Bool->Int->Int->List M.bC->List M.Instr->List Int->Option (Int×Int×M.fS)
 |0,_,_,_,_,_,_,_,_,_,_,_,_,_,_=>none
 |az+1,v7,J,aq,ar,C,av,aw,ax,ak,aa,ae,af,ah,U=>if(decide (v7>0))=true then(rP (⟨p0.b,aa,ae⟩:M.aO)).bind λI=>(oP (⟨J,aq,ar,C,af,(⟨ah,av,U,aw,ax,ak⟩:M.Zc)⟩:M.fS) I.2.2 (⟨0,200,C,([]:List Int),false⟩:M.Y7)).bind λj=>lP p0 az (i64.wrap (v7-1)) j.1.Id j.1.Zh j.1.Zw j.1.Y2 j.1.Zc.Pc j.1.Zc.ZG j.1.Zc.ZL j.1.Zc.ZM I.1 I.2.1 j.1.bC j.1.Zc.Zz j.1.Zc.ZK else some (aa,ae,(⟨J,aq,ar,C,af,(⟨ah,av,U,aw,ax,ak⟩:M.Zc)⟩:M.fS))
def wI(C:M.aO):Option (Int×Int×M.fS):=
 (jV C).bind λJ=>((cM (⟨C.b,J.1,J.2.1⟩:M.aO) 3).bind λI=>if I.2.2=true then(jV (⟨C.b,I.1,I.2.1⟩:M.aO)).bind λaf=>some (af.2.2,af.1,af.2.1)else some (J.2.2,I.1,I.2.1)).bind λah=>(aJ (⟨C.b,ah.2.1,ah.2.2⟩:M.aO) 9).bind λU=>(aJ (⟨C.b,U.1,U.2.1⟩:M.aO) 3).bind λaj=>(tN (⟨C.b,aj.1,aj.2.1⟩:M.aO)).bind λak=>(pM (i64.wrap (1+U.2.2)) J.2.2 ah.1 (i64.wrap (1+aj.2.2)) ak.2.2).bind λj=>(aJ (⟨C.b,ak.1,ak.2.1⟩:M.aO) 3).bind λal=>lP C fuel al.2.2 j.1.Id j.1.Zh j.1.Zw j.1.Y2 j.1.Zc.Pc j.1.Zc.ZG j.1.Zc.ZL j.1.Zc.ZM al.1 al.2.1 j.1.bC j.1.Zc.Zz j.1.Zc.ZK
def kO(U:M.aO):Nat->Int->List M.fS->Int->Int->Option (Int×Int×(List M.fS))
 |0,_,_,_,_=>none
 |aj+1,v4,C,aa,ae=>if(decide (v4>0))=true then(wI (⟨U.b,aa,ae⟩:M.aO)).bind λj=>(eK (⟨U.b,j.1,j.2.1⟩:M.aO) ([(⟨#[98,97,110,107]⟩:ByteArray),(⟨#[115,104,111,112]⟩:ByteArray)])).bind λJ=>(eK (⟨U.b,J.1,J.2.1⟩:M.aO) ([(⟨#[98,97,110,107]⟩:ByteArray),(⟨#[115,104,111,112]⟩:ByteArray)])).bind λI=>(app 144 C ([(⟨i64.wrap ((List.length C:Int)+1),J.2.2,I.2.2,j.2.2.Y2,j.2.2.bC,j.2.2.Zc⟩:M.fS)])).bind λak=>kO U aj (i64.wrap (v4-1)) (C++[(⟨i64.wrap ((List.length C:Int)+1),J.2.2,I.2.2,j.2.2.Y2,j.2.2.bC,j.2.2.Zc⟩:M.fS)]) I.1 I.2.1 else some (aa,ae,C)
def vA(C:M.aO):Option (Int×Int×(List M.fS)):=
 (aJ C 5).bind λj=>kO C fuel j.2.2 ([]:List M.fS) j.1 j.2.1
def lD(U:List Int):Option (M.aH×(List M.fS)×Int):=
 (wY U).bind λI=>(oH I).bind λj=>(vA (⟨I.b,j.1,j.2.1⟩:M.aO)).bind λC=>(aJ (⟨I.b,C.1,C.2.1⟩:M.aO) 80).bind λJ=>some (j.2.2,C.2.2,i64.wrap (20+J.2.2))
def fF(j:M.fS)(C:M.aK):Option Bool:=
 if(j.Zh.toList==C.Zh.toList)=true then some (j.Zw.toList==C.Zw.toList)else some false
def dD(C:List M.fS)(I:M.fS->Option Bool):Nat->Int->Option Int
 |0,_=>none
 |aa+1,j=>if(decide (j<(List.length C:Int)))=true then(idx C j).bind λU=>(I U).bind λJ=>if J=true then some j else dD C I aa (i64.wrap (j+1))else some (-1)
def kL(j:List M.fS)(C:M.fS->Option Bool):Option Int:=
 dD j C fuel 0
def dC(C:List M.fS)(I:M.fS->Option Bool):Option Bool:=
 (kL C I).bind λj=>some (decide (j>=0))
def mR(j:M.aK)(J:List M.fS)(I:Int):Option Bool:=
 if(decide (I>=(-1000000000000)))=true then if(decide (j.Zo>=(i64.wrap (I-30))))=true then some false else if j.Zl=true then some false else if(decide ((List.length j.aD.Ze.aF.Y9:Int)>0))=true then some false else(dC J (λC=>fF C j)).bind λx5=>some (!x5)else if(decide (j.Zo>=I))=true then some false else if j.Zl=true then some false else if(decide ((List.length j.aD.Ze.aF.Y9:Int)>0))=true then some false else(dC J (λC=>fF C j)).bind λU=>some (!U)
def gV(J:M.aH)(p1:List M.fS)(p2:Int):Nat->Int->List ByteArray->List M.aK->Option (M.aH×(List ByteArray))
 |0,_,_,_=>none
 |ai+1,U,C,I=>if(decide (U<(List.length J.Y0:Int)))=true then(idx J.Y0 U).bind λj=>(mR j p1 p2).bind λak=>if ak=true then(cat j.Zh (⟨#[47]⟩:ByteArray)).bind λal=>(cat (j.Zh++(⟨#[47]⟩:ByteArray)) j.Zw).bind λao=>(app 16 C ([(j.Zh++(⟨#[47]⟩:ByteArray))++j.Zw])).bind λaq=>gV J p1 p2 ai (i64.wrap (U+1)) (C++[(j.Zh++(⟨#[47]⟩:ByteArray))++j.Zw]) I else(fB j).bind λaj=>(app 328 I ([aj])).bind λar=>gV J p1 p2 ai (i64.wrap (U+1)) C (I++[aj])else some ((⟨I⟩:M.aH),C)
def rT(j:M.aH)(C:List M.fS)(I:Int):Option (M.aH×(List ByteArray)):=
 gV j C I fuel 0 ([]:List ByteArray) ([]:List M.aK)
def gQ(C:M.aH):Nat->Int->Int->Option Int
 |0,_,_=>none
 |aa+1,I,j=>if(decide (j<(List.length C.Y0:Int)))=true then(idx C.Y0 j).bind λU=>(tY U).bind λJ=>gQ C aa (i64.wrap (I+J)) (i64.wrap (j+1))else some I
def jB(j:M.aH):Option Int:=
 gQ j fuel 0 0
def eN(U:(M.aH×(List M.fS)×Int))(C:(M.aH×(List ByteArray))):Nat->Int->Int->Option Bool
 |0,_,_=>none
 |av+1,I,J=>if(decide (J<(List.length U.1.Y0:Int)))=true then(idx U.1.Y0 J).bind λj=>(mR j U.2.1 U.2.2).bind λaj=>if aj=true then(if(decide (I>=(List.length C.2:Int)))=true then some true else(idx C.2 I).bind λak=>(cat j.Zh (⟨#[47]⟩:ByteArray)).bind λaw=>(cat (j.Zh++(⟨#[47]⟩:ByteArray)) j.Zw).bind λax=>if(!(ak.toList==((j.Zh++(⟨#[47]⟩:ByteArray))++j.Zw).toList))=true then some true else if j.Zl=true then some true else some (decide ((List.length j.aD.Ze.aF.Y9:Int)>0))).bind λal=>if al=true then some false else eN U C av (i64.wrap (I+1)) (i64.wrap (J+1))else(if(decide ((i64.wrap (J-I))>=(List.length C.1.Y0:Int)))=true then some true else(idx C.1.Y0 (i64.wrap (J-I))).bind λao=>(iW ao j).bind λaq=>some (!aq)).bind λar=>if ar=true then some false else eN U C av I (i64.wrap (J+1))else some (I==(List.length C.2:Int))
def iL(p0:List Int)(J:(M.aH×M.aK))(C:(M.aH×Bool)):Nat->Int->Option Bool
 |0,_=>none
 |av+1,v9=>(if(decide (v9<(List.length J.1.Y0:Int)))=true then some C.2 else some false).bind λaw=>if aw=true then(idx J.1.Y0 v9).bind λI=>(nY C.1 I.Zh I.Zw).bind λU=>(if(decide (U<0))=true then some true else if(decide (U>=(List.length C.1.Y0:Int)))=true then some true else if(!(I.Zh.toList==J.2.Zh.toList))=true then(idx C.1.Y0 U).bind λai=>(iW ai I).bind λaj=>some (!aj)else if(!(I.Zw.toList==J.2.Zw.toList))=true then(idx C.1.Y0 U).bind λak=>(iW ak I).bind λal=>some (!al)else some false).bind λax=>if ax=true then some false else iL p0 J C av (i64.wrap (v9+1))else(lD p0).bind λj=>(rT j.1 j.2.1 j.2.2).bind λae=>(if((i64.wrap ((List.length ae.1.Y0:Int)+(List.length ae.2:Int))) !=(List.length j.1.Y0:Int))=true then some true else(jB ae.1).bind λao=>(jB j.1).bind λaq=>some (decide (ao>aq))).bind λar=>if ar=true then some false else eN j ae fuel 0 0
def tJ(I:List Int):Option Bool:=
 (CH I).bind λx1=>if x1=true then some true else(nM I).bind λj=>(pI j.1 j.2).bind λC=>(kS j.1 j.2).bind λU=>if(!(C.2==U.2))=true then some false else(if(!C.2)=true then(nL C.1 j.1).bind λaa=>some (!aa)else some false).bind λJ=>if J=true then some false else iL I j C fuel 0
end Go.Proofs.YtipmihbgjolaaaaGreat.gen
