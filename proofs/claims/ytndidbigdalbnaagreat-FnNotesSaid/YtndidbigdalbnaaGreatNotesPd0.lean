/-
  Helper text. No conditions.
-/
import Derived.Test.YtndidbigdalbnaaGreatNotesPz
set_option linter.all false
namespace Go.Proofs.YtndidbigdalbnaaGreat.gen
open Go Go.Sh
open Go.IntKind (i64 u8)
def Er(j:ByteArray):Option Bool:=
 (Ct j 30 true).bind λx1=>some x1
def eW(I:M.aW)(j:Int)(x8:M.vE)(J:Int->Option Bool):Nat->Int->Option Bool
 |0,_=>none
 |U+1,C=>if(decide (C<(List.length (List.take j.toNat I.aKu):Int)))=true then(idx (List.take j.toNat I.aKu) C).bind λah=>if(ah.Name.toList==x8.Name.toList)=true then if x8.aLb=true then if(!ah.aLb)=true then some false else if(!x8.aLK)=true then some false else if(!ah.aLK)=true then some false else eW I j x8 J U (i64.wrap (C+1))else eW I j x8 J U (i64.wrap (C+1))else eW I j x8 J U (i64.wrap (C+1))else J C
def oD(C:M.aW):Nat->Int->Option Bool
 |0,_=>none
 |I+1,j=>if(decide (j<(List.length C.aKu:Int)))=true then(idx C.aKu j).bind λx8=>(Er x8.Name).bind λJ=>if(!J)=true then some false else(bA x8.bK 1 1000000000000).bind λU=>if(!U)=true then some false else(B6 C.aKu j).bind λai=>eW C j x8 (λ(aa:Int)=>oD C I (i64.wrap (j+1))) aJ 0 else some (decide ((List.length C.aKu:Int)<=12))
def DK(j:M.aW):Option Bool:=
 oD j aJ 0
def BP(j:M.bK):Nat->Int->Option Bool
 |0,_=>none
 |I+1,C=>if(decide (C<(List.length j.aT:Int)))=true then(idx j.aT C).bind λx8=>(cG x8.aLQ).bind λJ=>if(!J)=true then some false else if(x8.aKb !=j.aKb)=true then some false else BP j I (i64.wrap (C+1))else(bA j.Id 1 1000000000000).bind λU=>if U=true then(cG j.aKl).bind λah=>if ah=true then(cG j.Top).bind λai=>if ai=true then(bA j.aKb 1 1000000000000).bind λaj=>if aj=true then some (decide ((List.length j.aT:Int)<=8))else some false else some false else some false else some false
def D8(j:M.bK):Option Bool:=
 BP j aJ 0
def uT(j:M.aKl):Nat->Int->Option Bool
 |0,_=>none
 |I+1,C=>if(decide (C<(List.length j.aLG:Int)))=true then(idx j.aLG C).bind λx8=>(cG x8).bind λU=>if(!U)=true then some false else if(decide (C>0))=true then(idx j.aLG (i64.wrap (C-1))).bind λJ=>if(Op.bytesLess x8.toList J.toList||x8.toList==J.toList)=true then some false else uT j I (i64.wrap (C+1))else uT j I (i64.wrap (C+1))else(cG j.Name).bind λah=>if ah=true then(bA j.aKb 1 1000000000000).bind λai=>if ai=true then(bA (List.length j.aLG:Int) 1 6).bind λaj=>some aj else some false else some false
def DR(j:M.aKl):Option Bool:=
 uT j aJ 0
def eF(C:List ByteArray)(I:ByteArray):Nat->Int->Option Int
 |0,_=>none
 |J+1,j=>if(decide (j<(List.length C:Int)))=true then(idx C j).bind λx7=>if(I.toList==x7.toList)=true then some j else eF C I J (i64.wrap (j+1))else some (-1)
def Ae(j:List ByteArray)(C:ByteArray):Option Int:=
 eF j C aJ 0
def AN(j:ByteArray):Option Int:=
 (Ae ([⟨#[98,97,110,107]⟩,⟨#[110,101,119,115]⟩,⟨#[115,104,111,112]⟩]) j).bind λx1=>some x1
def uC(j:M.aKt):Nat->Int->Option Bool
 |0,_=>none
 |I+1,C=>if(decide (C<(List.length j.aK6:Int)))=true then(idx j.aK6 C).bind λJ=>(pR J).bind λU=>if(!U)=true then some false else uC j I (i64.wrap (C+1))else(cC j.aD).bind λai=>if ai=true then if(j.aD.Name.toList==(⟨#[110,111,116,101,115]⟩:ByteArray).toList)=true then some (decide ((List.length j.aQ:Int)<=60))else some false else some false
def pN(C:M.aKt):Nat->Int->Option Bool
 |0,_=>none
 |I+1,j=>if(decide (j<(List.length C.aQ:Int)))=true then(idx C.aQ j).bind λx8=>(bA x8.aKk 1 1000000).bind λJ=>if(!J)=true then some false else(bA x8.Seq 0 1000000).bind λU=>if(!U)=true then some false else if(decide (j>0))=true then(idx C.aQ (i64.wrap (j-1))).bind λah=>if(decide (x8.aKk<=ah.aKk))=true then some false else pN C I (i64.wrap (j+1))else pN C I (i64.wrap (j+1))else uC C aJ 0
def F9(j:M.aKt):Option Bool:=
 pN j aJ 0
def sH(C:M.aE):Nat->Int->Option Bool
 |0,_=>none
 |J+1,j=>if(decide (j<(List.length C.aK0:Int)))=true then(idx C.aK0 j).bind λI=>(DR I).bind λU=>if(!U)=true then some false else(AN I.Name).bind λai=>if(ai !=j)=true then some false else(idx C.aKr j).bind λaj=>(F9 aj).bind λak=>if(!ak)=true then some false else sH C J (i64.wrap (j+1))else some true
def nY(j:M.aE):Nat->Int->Option Bool
 |0,_=>none
 |J+1,I=>if(decide (I<(List.length j.aKq:Int)))=true then(idx j.aKq I).bind λC=>(D8 C).bind λU=>if(!U)=true then some false else if(decide (C.Id>=j.aKn))=true then some false else if(decide (I>0))=true then(idx j.aKq (i64.wrap (I-1))).bind λai=>if(decide (C.Id<=ai.Id))=true then some false else(nU j.aC C.aKl C.Top).bind λaj=>if(decide (aj<0))=true then some false else nY j J (i64.wrap (I+1))else(nU j.aC C.aKl C.Top).bind λak=>if(decide (ak<0))=true then some false else nY j J (i64.wrap (I+1))else sH j aJ 0
def EH(j:M.aE):Option Bool:=
 (bA j.Now 0 999999990000).bind λx1=>if(!x1)=true then some false else(bA j.aKk 1 1000000).bind λx4=>if(!x4)=true then some false else(dF j.aC).bind λx7=>if(!x7)=true then some false else if(decide ((j.aKq.length:Int)>6))=true then some false else(bA j.aKn 1 1000000000000).bind λC=>if(!C)=true then some false else(DK j.aKu).bind λI=>if(!I)=true then some false else if((j.aK0.length:Int) !=3)=true then some false else if((j.aKr.length:Int) !=3)=true then some false else nY j aJ 0
def GC(C:M.aKv)(j:Int):Option Bool:=
 some (C.aKb==j)
def kV(C:List M.aKv)(I:M.aKv->Option Bool):Nat->Int->Option Int
 |0,_=>none
 |J+1,j=>if(decide (j<(List.length C:Int)))=true then(idx C j).bind λx7=>(I x7).bind λU=>if U=true then some j else kV C I J (i64.wrap (j+1))else some (-1)
def AS(j:List M.aKv)(C:M.aKv->Option Bool):Option Int:=
 kV j C aJ 0
def Fh(j:M.aN)(C:Int):Option Int:=
 (AS j.aKi (λI=>GC I C)).bind λx1=>some x1
def eJ  :Option M.aKo:=
 some ⟨4,0,0,[],false⟩
def ED(C:M.aN)(p1:Int)(p2:ByteArray)(p3:ByteArray):Option (M.aKo×Bool):=
 (Fh C p1).bind λx1=>(if(decide (x1<0))=true then((eJ).bind λx4=>(some (x4,false)))else((idx C.aKi x1).bind λx6=>((sV x6 p2 p3).bind λj=>(if(decide (j<0))=true then((eJ).bind λI=>(some (I,false)))else((idx x6.aKs j).bind λJ=>((nK J.aKo).bind λU=>(some (U,true))))))))
def Di(j:Int)(C:List Int):Option Int:=
 (app 8 ([j]) C).bind λx1=>(app 8 ([j]++C) ([j])).bind λx3=>(EB (([j]++C)++[j])).bind λx5=>some x5
def vV(j:Int)(C:ByteArray):Option Int:=
 (uG (bF C)).bind λx1=>(Di j x1).bind λx3=>if(x3==0)=true then some 1 else some x3
def lC(x5:Int):Nat->Int->List Int->Option (List Int)
 |0,_,_=>none
 |I+1,j,C=>if(decide (j>=0))=true then if(decide (0<=(i64.wrap (8*j))))=true then(app 1 C ([u8.wrap (Int.fdiv x5 (2^(min (i64.wrap (8*j)).toNat i64.bits)))])).bind λJ=>lC x5 I (i64.wrap (j-1)) (C++[u8.wrap (Int.fdiv x5 (2^(min (i64.wrap (8*j)).toNat i64.bits)))])else none else some C
def HW(j:M.aKl)(C:ByteArray)(I:Int):Option (List Int):=
 (vV 107 j.Name).bind λx1=>(vV 109 C).bind λx3=>(Di (i64.wrap (1+I)) ([103,x1,x3])).bind λx5=>lC x5 aJ 5 []
def GK(C:M.bK)(j:Int):Option Bool:=
 some (C.Id==j)
def lQ(C:List M.bK)(I:M.bK->Option Bool):Nat->Int->Option Int
 |0,_=>none
 |J+1,j=>if(decide (j<(List.length C:Int)))=true then(idx C j).bind λx7=>(I x7).bind λU=>if U=true then some j else lQ C I J (i64.wrap (j+1))else some (-1)
def Bq(j:List M.bK)(C:M.bK->Option Bool):Option Int:=
 lQ j C aJ 0
def Fk(j:M.aE)(C:Int):Option Int:=
 (Bq j.aKq (λI=>GK I C)).bind λx1=>some x1
def LF(j:M.aE)(C:ByteArray):Option M.aKl:=
 (AN C).bind λx1=>if(decide (x1<0))=true then some ⟨⟨#[]⟩,0,[],false⟩else if(decide (x1>=(j.aK0.length)))=true then some ⟨⟨#[]⟩,0,[],false⟩else(idx j.aK0 x1).bind λx5=>some x5
def CU(j:M.aKl)(C:Int):Option Bool:=
 (DR j).bind λx1=>if x1=true then if(decide (C>(i64.wrap (j.aKb-2))))=true then if(decide (C<=j.aKb))=true then some (decide (C>=1))else some false else some false else some false
def Dw(j:List ByteArray)(C:ByteArray):Option Bool:=
 (Ae j C).bind λx1=>some (decide (x1>=0))
def GR(j:M.aKl)(C:ByteArray):Option Bool:=
 (Dw j.aLG C).bind λx1=>some x1
def E9(j:M.aKl)(I:ByteArray)(C:Int):Option M.aKo:=
 (DR j).bind λx1=>(if(!x1)=true then((eJ).bind λx4=>(some x4))else((CU j C).bind λx6=>(if(!x6)=true then(some ⟨1,404,j.aKb,[],false⟩)else((GR j I).bind λx9=>(if(!x9)=true then(some ⟨1,404,j.aKb,[],false⟩)else((HW j I C).bind λJ=>(some ⟨1,200,C,J,j.aLK⟩)))))))
def DZ(J:M.aN)(j:M.aKl)(C:Int)(I:ByteArray)(U:Bool):Option M.aKo:=
 (ED J C j.Name I).bind λx1=>(if x1.2=true then(some x1.1)else(if U=true then((E9 j I C).bind λx5=>(some x5))else((eJ).bind λx7=>(some x7))))
def Gp(C:M.aE)(j:M.bK)(U:ByteArray):Option M.aKo:=
 (mJ C j.aKl j.Top).bind λx1=>(if(!x1.2)=true then((eJ).bind λx4=>(some x4))else((AN j.aKl).bind λx6=>(if(decide (x6<0))=true then((eJ).bind λx9=>(some x9))else((LF C j.aKl).bind λI=>((DZ x1.1.aKi I j.aKb U C.aK4).bind λJ=>(some J))))))
def Gf(j:M.bK)(I:ByteArray)(C:M.aKo):Option (M.bK×Bool):=
 (kY j).bind λx1=>(app 24 x1.aT ([⟨I,C.aKb⟩])).bind λx3=>if(C.aLV !=200)=true then(kY j).bind λJ=>some (J,false)else if(C.aKb !=j.aKb)=true then(kY j).bind λU=>some (U,false)else(D8 j).bind λaf=>if(!af)=true then(kY j).bind λah=>some (ah,false)else(D8 ⟨x1.Id,x1.aKl,x1.Top,x1.aKb,x1.aT++[⟨I,C.aKb⟩],x1.aKh⟩).bind λai=>if(!ai)=true then(kY j).bind λaj=>some (aj,false)else some (⟨x1.Id,x1.aKl,x1.Top,x1.aKb,x1.aT++[⟨I,C.aKb⟩],x1.aKh⟩,true)
def BS(j:M.aY)(p1:Int):Option Bool:=
 ((bA j.aKx 1 9).bind λx8=>if(!x8)=true then some true else(bA j.R 0 3).bind λC=>if(!C)=true then some true else if(j.aKx==4)=true then some (j.R !=0)else if(j.aKx==9)=true then some (j.R !=0)else some false).bind λx1=>if x1=true then some false else(if(j.aKx==5)=true then some true else if(j.aKx==6)=true then some true else if(j.aKx==7)=true then some true else some (j.aKx==8)).bind λI=>(if I=true then(cG j.aK5).bind λJ=>if(!J)=true then some true else some false else some (!(j.aK5.toList==(⟨#[]⟩:ByteArray).toList))).bind λU=>if U=true then some false else if(j.aKx==1)=true then(bA j.N 0 1000).bind λai=>some ai else if(j.aKx==2)=true then(bA j.N 0 3).bind λaj=>some aj else(if(j.aKx==3)=true then some (j.aKx==3)else some (j.aKx==4)).bind λak=>if ak=true then(bA j.N 0 p1).bind λal=>some al else(if(j.aKx==6)=true then some (j.aKx==6)else if(j.aKx==7)=true then some (j.aKx==7)else some (j.aKx==8)).bind λao=>if ao=true then(bA j.N 0 100).bind λaq=>some aq else some (j.N==0)
def Dt(j:M.aO)(C:M.bD)(I:ByteArray)(J:Int):Option (M.aO×Bool):=
 (oI j).bind λx1=>(app 72 x1.aKw ([⟨j.aKk,j.aLE,C,I,J⟩])).bind λx3=>(yA j).bind λU=>if(!U)=true then(oI j).bind λae=>some (ae,false)else(yA ⟨x1.aKk,i64.wrap (x1.aLE+1),x1.aKw++[⟨j.aKk,j.aLE,C,I,J⟩]⟩).bind λaf=>if(!af)=true then(oI j).bind λah=>some (ah,false)else some (⟨x1.aKk,i64.wrap (x1.aLE+1),x1.aKw++[⟨j.aKk,j.aLE,C,I,J⟩]⟩,true)
def Bt(C:M.aD)(j:M.cH):Option (M.aD×Bool):=
 (mH C j.Key).bind λx1=>if(decide (x1>=0))=true then(idx C.aKg x1).bind λx4=>(oT x4.aF j.Field j.N).bind λx9=>if(!x9.2)=true then(bH C).bind λah=>some (ah,false)else(lD C j.Key x9.1).bind λI=>some (I.1,I.2)else(oT ⟨[]⟩ j.Field j.N).bind λJ=>if(!J.2)=true then(bH C).bind λai=>some (ai,false)else(lD C j.Key J.1).bind λU=>some (U.1,U.2)
def AY(I:List M.cH):Nat->Int->ByteArray->Int->List M.aKy->Option M.aD
 |0,_,_,_,_=>none
 |aj+1,j,U,af,J=>if(decide (j<(List.length I:Int)))=true then(idx I j).bind λak=>(Bt (⟨U,J,af⟩:M.aD) ak).bind λC=>AY I aj (i64.wrap (j+1)) C.1.Name C.1.aK7 C.1.aKg else some (⟨U,J,af⟩:M.aD)
def G4(j:M.aD)(C:List M.cH):Option M.aD:=
 (bH j).bind λx1=>AY C aJ 0 x1.Name x1.aK7 x1.aKg
def Hn(j:M.aH):Option M.aD:=
 (G4 j.aK1 j.aK3.aO.aKw).bind λx1=>some x1
def En(j:M.aH)(C:M.bD)(I:ByteArray)(J:Int):Option (M.aH×Bool):=
 (uF j).bind λx1=>(Dt j.aK3.aO C I J).bind λx3=>(Hn j).bind λx5=>(Bt x5 ⟨j.aK3.aO.aKk,j.aK3.aO.aLE,C,I,J⟩).bind λx7=>(zN j).bind λx9=>if(!x9)=true then some (x1,false)else if(!x3.2)=true then some (x1,false)else if(!x7.2)=true then some (x1,false)else some (⟨x1.aK1,x1.aLT,⟨x3.1,x1.aK3.aLI,x1.aK3.aK8⟩⟩,true)
def Cd(j:M.aKe)(C:M.aH):Option (M.aKe×Bool):=
 (pX j ⟨j.aKl,j.Top,j.aKd,j.aKi,j.bJ,C,j.aLC,j.aK9⟩).bind λx1=>some (x1.1,x1.2)
def FT(j:M.aE)(J:M.bK)(U:Int)(p3:ByteArray)(p4:Int):Option (M.aE×Bool):=
 (uV j).bind λx1=>(mJ j J.aKl J.Top).bind λx3=>if(!x3.2)=true then some (x1,false)else(rE U).bind λx6=>(En x3.1.aH x6 p3 p4).bind λx8=>(Cd x3.1 x8.1).bind λC=>(yV j.aC C.1).bind λI=>if(!x8.2)=true then some (x1,false)else if(!C.2)=true then some (x1,false)else if(!I.2)=true then some (x1,false)else some (⟨x1.Now,x1.aK4,x1.aKk,I.1,x1.aKq,x1.aKn,x1.aKu,x1.aKp,x1.aK0,x1.aKr⟩,true)
def DY(j:Int):Option Int:=
 some (if(if j<1000 then j else 1000)>(-1)then if j<1000 then j else 1000 else -1)
def fT(x1:M.aKh):Nat->Int->Int->List Int->Option (M.aKh×M.Ask)
 |0,_,_,_=>none
 |U+1,I,J,C=>if(decide (I<0))=true then some ((⟨x1.aLA,I,C,J,true,x1.aLR⟩:M.aKh),(⟨0,0,0,(⟨#[]⟩:ByteArray),0⟩:M.Ask))else if(decide (I>=(List.length x1.aLA:Int)))=true then some ((⟨x1.aLA,I,C,J,true,x1.aLR⟩:M.aKh),(⟨0,0,0,(⟨#[]⟩:ByteArray),0⟩:M.Ask))else(idx x1.aLA I).bind λj=>(BS j (List.length x1.aLA:Int)).bind λak=>if(!ak)=true then some ((⟨x1.aLA,I,C,J,true,x1.aLR⟩:M.aKh),(⟨0,0,0,(⟨#[]⟩:ByteArray),0⟩:M.Ask))else if(decide (J>=60))=true then some ((⟨x1.aLA,I,C,J,true,x1.aLR⟩:M.aKh),(⟨0,0,0,(⟨#[]⟩:ByteArray),0⟩:M.Ask))else if(j.aKx==1)=true then(idx C j.R).bind λax=>fT x1 U (i64.wrap (I+1)) (i64.wrap (J+1)) (List.set C j.R.toNat j.N)else if(j.aKx==2)=true then(idx C j.R).bind λal=>(DY al).bind λao=>(idx C j.N).bind λaq=>(DY aq).bind λar=>(DY (i64.wrap (ao+ar))).bind λav=>fT x1 U (i64.wrap (I+1)) (i64.wrap (J+1)) (List.set C j.R.toNat av)else if(j.aKx==3)=true then(idx C j.R).bind λaw=>if(aw==0)=true then fT x1 U j.N (i64.wrap (J+1)) C else fT x1 U (i64.wrap (I+1)) (i64.wrap (J+1)) C else if(j.aKx==4)=true then fT x1 U j.N (i64.wrap (J+1)) C else if(j.aKx==5)=true then some ((⟨x1.aLA,i64.wrap (I+1),C,i64.wrap (J+1),x1.aLU,true⟩:M.aKh),(⟨1,j.R,0,j.aK5,0⟩:M.Ask))else if(j.aKx==6)=true then some ((⟨x1.aLA,i64.wrap (I+1),C,i64.wrap (J+1),x1.aLU,true⟩:M.aKh),(⟨2,j.R,j.N,j.aK5,0⟩:M.Ask))else if(j.aKx==7)=true then(idx C j.R).bind λai=>some ((⟨x1.aLA,i64.wrap (I+1),C,i64.wrap (J+1),x1.aLU,x1.aLR⟩:M.aKh),(⟨3,0,j.N,j.aK5,ai⟩:M.Ask))else if(j.aKx==8)=true then(idx C j.R).bind λaj=>some ((⟨x1.aLA,i64.wrap (I+1),C,i64.wrap (J+1),x1.aLU,x1.aLR⟩:M.aKh),(⟨4,0,j.N,j.aK5,aj⟩:M.Ask))else if(j.aKx==9)=true then some ((⟨x1.aLA,i64.wrap (I+1),C,i64.wrap (J+1),true,x1.aLR⟩:M.aKh),(⟨0,0,0,(⟨#[]⟩:ByteArray),0⟩:M.Ask))else fT x1 U (i64.wrap (I+1)) (i64.wrap (J+1)) C
def iI(j:M.aKh):Option (M.aKh×M.Ask):=
 (pI j).bind λx1=>if j.aLU=true then some (x1,⟨0,0,0,⟨#[]⟩,0⟩)else if j.aLR=true then some (x1,⟨0,0,0,⟨#[]⟩,0⟩)else if((j.aLN.length:Int) !=4)=true then some (x1,⟨0,0,0,⟨#[]⟩,0⟩)else if(decide (j.aLM<0))=true then some (x1,⟨0,0,0,⟨#[]⟩,0⟩)else fT x1 aJ x1.Pc x1.aLM x1.aLN
def AD(C:M.aKh)(j:Int)(I:Int):Option (M.aKh×Bool):=
 (pI C).bind λx1=>if(!C.aLR)=true then some (x1,false)else if(decide (j<0))=true then some (x1,false)else if(decide (j>=(C.aLN.length)))=true then some (x1,false)else(bA I (-1) 1000).bind λx6=>if(!x6)=true then some (x1,false)else(idx x1.aLN j).bind λx9=>some (⟨x1.aLA,x1.Pc,x1.aLN.set j.toNat I,x1.aLM,x1.aLU,false⟩,true)
def I9(U:M.aE)(p1:Int):Option (M.aE×Int):=
 (uV U).bind λx1=>(Fk U p1).bind λx3=>(EH U).bind λx5=>if(!x5)=true then some (x1,-1)else if(decide (x3<0))=true then some (x1,-1)else(idx U.aKq x3).bind λx9=>(kY x9).bind λC=>(iI C.aKh).bind λj=>if(j.2.aKx==1)=true then(Gp U C j.2.aK5).bind λaj=>(Gf C j.2.aK5 aj).bind λai=>(AD j.1 j.2.R aj.aLV).bind λak=>(idx x1.aKq x3).bind λav=>some (⟨x1.Now,x1.aK4,x1.aKk,x1.aC,x1.aKq.set x3.toNat ⟨ai.1.Id,ai.1.aKl,ai.1.Top,ai.1.aKb,ai.1.aT,ak.1⟩,x1.aKn,x1.aKu,x1.aKp,x1.aK0,x1.aKr⟩,j.2.aKx)else if(j.2.aKx==2)=true then(kT U C j.2.N j.2.aK5).bind λal=>(AD j.1 j.2.R al).bind λao=>(idx x1.aKq x3).bind λaw=>some (⟨x1.Now,x1.aK4,x1.aKk,x1.aC,x1.aKq.set x3.toNat ⟨C.Id,C.aKl,C.Top,C.aKb,C.aT,ao.1⟩,x1.aKn,x1.aKu,x1.aKp,x1.aK0,x1.aKr⟩,j.2.aKx)else if(j.2.aKx==3)=true then(yQ x1 C j.2.N j.2.aK5 (if j.2.Value>0 then j.2.Value else 0)).bind λI=>(idx I.1.aKq x3).bind λax=>some (⟨I.1.Now,I.1.aK4,I.1.aKk,I.1.aC,List.set I.1.aKq x3.toNat ⟨C.Id,C.aKl,C.Top,C.aKb,C.aT,j.1⟩,I.1.aKn,I.1.aKu,I.1.aKp,I.1.aK0,I.1.aKr⟩,j.2.aKx)else if(j.2.aKx==4)=true then(FT x1 C j.2.N j.2.aK5 (if j.2.Value>0 then j.2.Value else 0)).bind λJ=>(idx J.1.aKq x3).bind λaq=>some (⟨J.1.Now,J.1.aK4,J.1.aKk,J.1.aC,List.set J.1.aKq x3.toNat ⟨C.Id,C.aKl,C.Top,C.aKb,C.aT,j.1⟩,J.1.aKn,J.1.aKu,J.1.aKp,J.1.aK0,J.1.aKr⟩,j.2.aKx)else(idx x1.aKq x3).bind λar=>some (⟨x1.Now,x1.aK4,x1.aKk,x1.aC,x1.aKq.set x3.toNat ⟨C.Id,C.aKl,C.Top,C.aKb,C.aT,j.1⟩,x1.aKn,x1.aKu,x1.aKp,x1.aK0,x1.aKr⟩,j.2.aKx)
theorem cO(x a b:Int):bG x a b=some (inR x a b):=by unfold bG inR;grind
theorem bX(x a b:Int):bA x a b=some (inR x a b):=by unfold bA inR;grind
def T8(r:M.aKo)(b:Bool):Int:=if b=true then 76 else i64.wrap (16+(r.aLZ.length))
theorem MK(r:M.aKo)(b:Bool):Cx r b=some (T8 r b):=by cases b<;>rfl
theorem Mn(r:M.aKo)(b:Bool):CG r b=some (T8 r b):=by cases b<;>rfl
def Xg(v:Int)(x:M.aK2):Int:=i64.wrap (v+T8 x.aKo (x.aKo.aLX==3))
def KD(s:M.aN):Int:=s.aKi.foldl (λv c=>c.aKs.foldl Xg v) 0
theorem MN{s:M.aN}(C:s.ok):Cv s=some (KD s):=by have hm:=aZ C.aKi.1;refine Ki (L:=fP s) (E:=some) C.aKi.1 (λn v k hk=> ?_) (λn v=> ?_) 0;(have hc:=C.aKi.2 _ (qG hk);have U:=aZ hc.aKs.1;simp only[fP];rw[jF (bE hk),bM wg];refine Ki (xs:=s.aKi[k].aKs) (L:=lU s k (λI _=>fP s n I ((k+1:Nat)))) (E:=λI=>fP s n I ((k+1:Nat))) hc.aKs.1 (λn v j J=> ?_) (λn v=> ?_) v;(simp only[lU];rw[aK hk,qA,jF (bE J),aK J,qA,MK,qA,bM wg];rfl);·simp only[lU];rw[aK hk,qA,jG wb]);·simp only[fP];rw[jG wb]
theorem Mr{s:M.aN}(C:s.ok):CB s=some (KD s):=by have hm:=aZ C.aKi.1;refine Ki (L:=fZ s) (E:=some) C.aKi.1 (λn v k hk=> ?_) (λn v=> ?_) 0;(have hc:=C.aKi.2 _ (qG hk);have U:=aZ hc.aKs.1;simp only[fZ];rw[jF (bE hk),bM wg,aK hk,qA];refine Ki (xs:=s.aKi[k].aKs) (L:=lT s.aKi[k] (λI _=>fZ s n I ((k+1:Nat)))) (E:=λI=>fZ s n I ((k+1:Nat))) hc.aKs.1 (λn v j J=> ?_) (λn v=> ?_) v;(simp only[lT];rw[jF (bE J),aK J,qA,Mn,qA,bM wg];rfl);·simp only[lT];rw[jG wb]);·simp only[fZ];rw[jG wb]
def TJ(b:UInt8):Bool:=(decide (97<=b.toNat)&&decide (b.toNat<=122))||(decide (48<=b.toNat)&&decide (b.toNat<=57))
def SJ(s:ByteArray):Bool:=XB s TJ&&decide (s.size<=12)
theorem Q7{s:ByteArray}(j:s.size<=maxLen):Cs s=some (SJ s):=by
 have C:=aZ j
 unfold Cs SJ
 rw[LZ (L:=mW s) (g:=TJ) (F:=some false) (E:=some (decide (s.size<=12))) j (λn k hk=> ?_) (λn=> ?_),bI]
 ·simp only[mW]
  rw[jF (bE hk),KZ hk,qA,bM wg]
  generalize s[k]=b
  unfold TJ
  simp only[jY,qM,qL,Bool.not_eq_true']
  repeat' split
  all_goals first|rfl|(omega)
 ·simp only[mW];simp;omega
theorem Nl{s:ByteArray}(j:s.size<=maxLen):Bw s=some (SJ s):=by
 have C:=aZ j
 unfold Bw SJ
 rw[LZ (L:=gX s) (g:=TJ) (F:=some false) (E:=some (decide (s.size<=12))) j (λn k hk=> ?_) (λn=> ?_),bI]
 ·simp only[gX]
  rw[jF (bE hk),KZ hk,qA,bM wg]
  generalize s[k]=b
  unfold TJ
  simp only[jY,qM,qL,Bool.not_eq_true',decide_eq_false_iff_not]
  repeat' split
  all_goals first|rfl|(omega)
 ·simp only[gX];simp;omega
def Ec(k:M.bD):Bool:=inR k.aKx 1 3&&(inR k.N (-1000000000000) 1000000000000&&(SJ k.aK5&&((k.aKx !=2||k.N==0)&&(k.aKx !=1||(k.aK5.toList==(⟨#[]⟩:ByteArray).toList)))))
theorem oM{k:M.bD}(hk:k.ok):gQ k=some (Ec k):=by have j:=Q7 hk.aK5;unfold gQ Ec;simp only[cO,j];grind
theorem sZ{k:M.bD}(hk:k.ok):kG k=some (Ec k):=by have j:=Nl hk.aK5;unfold kG Ec;simp only[bX,j];grind
theorem Hj{k:M.bD}(h:Ec k=true):k.aK5.size<=12:=by unfold Ec SJ at h;simp_all
def Oa(k:M.bD):Nat:=if Ec k=true then if(k.aKx==2)=true then 1+k.aK5.size else 7+k.aK5.size else 0
theorem NC{k:M.bD}(hk:k.ok):∃l,mT k=some l/\l.length=Oa k:=by
 unfold mT Oa
 rw[oM hk,qA]
 by_cases h:Ec k=true
 ·have J:=Hj h
  have I:=aP k.aK5
  rw[jG wY,jF h,YC]
  by_cases h2:(k.aKx==2)=true
  ·have h3:¬(k.aKx !=2)=true:=by simp[bne,h2]
   rw[jF h2]
   have C:∀n r,r.length<=7->bT k (n+1) 5 r=some (r++bF k.aK5):=by intro n r j;simp only[bT];rw[jF we,jG h3,dK wg,qA]
   exact⟨_,C (18446744073709551609+6) _ wb,wV⟩
  ·have h3:(k.aKx !=2)=true:=by simp[bne,h2]
   rw[jG h2]
   have st:∀n (v:Nat) r,r.length<=7->v<=5->∃x:Int,bT k (n+1) v r=bT k n (v-1) (r++[x]):=by intro n v r j U;apply Exists.intro;simp only[bT];rw[jF wb,jF h3,jF jo,dK wV,qA,bO (n:=v-1) wg wg]
   obtain⟨x1,e1⟩:=st (18446744073709551609+6) 5 ([u8.wrap k.aKx]) wb wb
   obtain⟨x2,e2⟩:=st (18446744073709551609+5) 4 ([u8.wrap k.aKx]++[x1]) wb wb
   obtain⟨x3,e3⟩:=st (18446744073709551609+4) 3 ([u8.wrap k.aKx]++[x1]++[x2]) wb wb
   obtain⟨x4,e4⟩:=st (18446744073709551609+3) 2 ([u8.wrap k.aKx]++[x1]++[x2]++[x3]) wb wb
   obtain⟨x5,e5⟩:=st (18446744073709551609+2) 1 ([u8.wrap k.aKx]++[x1]++[x2]++[x3]++[x4]) wb wb
   obtain⟨x6,e6⟩:=st (18446744073709551609+1) 0 ([u8.wrap k.aKx]++[x1]++[x2]++[x3]++[x4]++[x5]) wb wb
   have e7:∀n r,r.length<=7->bT k (n+1) (-1) r=some (r++bF k.aK5):=by intro n r j;simp only[bT];rw[jG we,dK wg,qA]
   exact⟨_,e1.trans (e2.trans (e3.trans (e4.trans (e5.trans (e6.trans (e7 _ _ wb)))))),wV⟩
 simp_all
theorem Nr{k:M.bD}(hk:k.ok):∃l,lB k=some l/\l.length=Oa k:=by
 unfold lB Oa
 rw[sZ hk,qA]
 by_cases h:Ec k=true
 ·have I:=Hj h
  have C:=aP k.aK5
  rw[jG wY,jF h,YC]
  by_cases h2:(k.aKx==2)=true
  ·have h3:¬(k.aKx !=2)=true:=by simp[bne,h2]
   rw[jF h2,jG h3,dK wV,qA]
   exact⟨_,rfl,wV⟩
  ·have h3:(k.aKx !=2)=true:=by simp[bne,h2]
   rw[jG h2,jF h3]
   have st:∀n (v:Nat) r,r.length<=7->v<=5->∃x:Int,cQ k (n+1) v r=cQ k n (v-1) (r++[x]):=by intro n v r j J;apply Exists.intro;simp only[cQ];rw[jF wb,jF jo,dK wV,qA,bO (n:=v-1) wg wg]
   obtain⟨x1,e1⟩:=st (18446744073709551609+6) 5 ([u8.wrap k.aKx]) wb wb
   obtain⟨x2,e2⟩:=st (18446744073709551609+5) 4 ([u8.wrap k.aKx]++[x1]) wb wb
   obtain⟨x3,e3⟩:=st (18446744073709551609+4) 3 ([u8.wrap k.aKx]++[x1]++[x2]) wb wb
   obtain⟨x4,e4⟩:=st (18446744073709551609+3) 2 ([u8.wrap k.aKx]++[x1]++[x2]++[x3]) wb wb
   obtain⟨x5,e5⟩:=st (18446744073709551609+2) 1 ([u8.wrap k.aKx]++[x1]++[x2]++[x3]++[x4]) wb wb
   obtain⟨x6,e6⟩:=st (18446744073709551609+1) 0 ([u8.wrap k.aKx]++[x1]++[x2]++[x3]++[x4]++[x5]) wb wb
   have e7:∀n r,r.length<=7->cQ k (n+1) (-1) r=some (r++bF k.aK5):=by intro n r j;simp only[cQ];rw[jG we,dK wg,qA]
   exact⟨_,e1.trans (e2.trans (e3.trans (e4.trans (e5.trans (e6.trans (e7 _ _ wb)))))),wV⟩
 simp_all
def Ka(sl:Bool)(b:UInt8):Bool:=(decide (97<=b.toNat)&&decide (b.toNat<=122))||(sl&&decide (b.toNat=47))
def Te(s:ByteArray)(n:Int)(sl:Bool):Bool:=XB s (Ka sl)&&inR s.size 1 n
def oO(s:ByteArray):Bool:=XB s (Ka false)&&inR s.size 1 8
theorem dX{s:ByteArray}(j:s.size<=maxLen):cU s=some (oO s):=by
 have C:=aZ j
 unfold cU oO
 rw[LZ (L:=vC s) (g:=Ka false) (F:=some false) (E:=some (inR s.size 1 8)) j (λn k hk=> ?_) (λn=> ?_),bI]
 ·simp only[vC]
  rw[jF (bE hk),KZ hk,qA,bM wg]
  generalize s[k]=b
  unfold Ka
  simp only[qM,qL,Bool.false_and,Bool.or_false]
  repeat' split
  all_goals first|rfl|(omega)
 ·simp only[vC];rw[jG wb,cO,qA]
theorem K2{s:ByteArray}{m:Int}{sl:Bool}(j:s.size<=maxLen):Ct s m sl=some (Te s m sl):=by
 have C:=aZ j
 unfold Ct Te
 rw[LZ (L:=mY s m sl) (g:=Ka sl) (F:=some false) (E:=some (inR s.size 1 m)) j (λn k hk=> ?_) (λn=> ?_),bI]
 ·simp only[mY]
  rw[jF (bE hk),KZ hk,qA,bM wg]
  generalize s[k]=b
  unfold Ka
  cases sl<;>simp only[jY,qM,qL,Bool.not_eq_true',Bool.false_and,Bool.or_false,Bool.true_and,beq_eq_false_iff_ne,ne_eq,qD,jI,jH]
  all_goals repeat' split
  all_goals first|rfl|(omega)
 ·simp only[mY];rw[jG wb,bX,qA]
theorem dG{s:ByteArray}(j:s.size<=maxLen):cG s=some (oO s):=by unfold cG;rw[K2 j,qA];rfl
def Vi(x:M.aR):Bool:=oO x.Name&&inR x.N 0 1000000000
def HI(l:List M.aR)(k:Nat):Bool:=(l[k]?).any Vi&&(decide (k=0)||(l[k-1]?).any λy=>(l[k]?).any λx=>Op.bytesLess y.Name.toList x.Name.toList)
def cV(r:M.aF):Bool:=(List.range r.aKj.length).all (HI r.aKj)&&decide (r.aKj.length<=6)
theorem tP{r:M.aF}(C:r.ok):cA r=some (cV r):=by
 have J:=aZ C.aKj.1
 unfold cA cV
 rw[rO (L:=lW r) (g:=HI r.aKj) (F:=some false) (E:=some (decide (r.aKj.length<=6))) C.aKj.1 (λn k hk=> ?_) (λn=> ?_),bI]
 ·have I:=C.aKj.2 _ (qG hk)
  simp only[lW]
  rw[jF (bE hk),aK hk,qA,bM wg,dX I.Name,qA,cO,qA]
  unfold HI Vi
  rw[qF hk]
  by_cases h0:k=0
  ·subst h0;simp only[qf];generalize oO r.aKj[0].Name=a;generalize inR r.aKj[0].N 0 1000000000=b;cases a<;>cases b<;>simp
  ·have e:i64.wrap (k-1)=((k-1:Nat)):=by rw[bO wg wg];omega
   have j:k-1<r.aKj.length:=by omega
   rw[jF (c:=(decide ((k:Int)>0))=true) wV,e,aK j,qA,qF j]
   simp only[qf,h0,jd]
   generalize oO r.aKj[k].Name=a
   generalize inR r.aKj[k].N 0 1000000000=b
   generalize Op.bytesLess r.aKj[k-1].Name.toList r.aKj[k].Name.toList=c
   cases a<;>cases b<;>cases c<;>simp
 ·simp only[lW];simp;omega
theorem AJ{r:M.aF}(C:r.ok):dA r=some (cV r):=by
 have J:=aZ C.aKj.1
 unfold dA cV
 rw[rO (L:=mC r) (g:=HI r.aKj) (F:=some false) (E:=some (decide (r.aKj.length<=6))) C.aKj.1 (λn k hk=> ?_) (λn=> ?_),bI]
 ·have I:=C.aKj.2 _ (qG hk)
  simp only[mC]
  rw[jF (bE hk),aK hk,qA,bM wg,dG I.Name,qA,bX,qA]
  unfold HI Vi
  rw[qF hk]
  by_cases h0:k=0
  ·grind
  ·have e:i64.wrap (k-1)=((k-1:Nat)):=by rw[bO wg wg];omega
   have j:k-1<r.aKj.length:=by omega
   rw[jF (c:=(decide ((k:Int)>0))=true) wV,e,aK j,qA,qF j]
   simp only[qf,h0,jd]
   rw[D4 r.aKj[k-1].Name.toList r.aKj[k].Name.toList]
   generalize oO r.aKj[k].Name=a
   generalize inR r.aKj[k].N 0 1000000000=b
   generalize (Op.bytesLess r.aKj[k].Name.toList r.aKj[k-1].Name.toList||r.aKj[k].Name.toList==r.aKj[k-1].Name.toList)=c
   cases a<;>cases b<;>cases c<;>simp
 ·simp only[mC];simp;omega
theorem vT{r:M.aF}(h:cV r=true):r.aKj.length<=6/\∀x∈r.aKj,x.Name.size<=8/\0<=x.N/\x.N<=1000000000:=by unfold cV at h;simp only[qM,qL,qR,qS]at h;refine⟨h.2,λx j=> ?_⟩;obtain⟨k,hk,rfl⟩:=List.getElem_of_mem j;have:=h.1 k hk;unfold HI Vi oO inR at this;rw[qF hk]at this;simp only[qf,qM,qL]at this;omega
theorem CV{r:List Int}{n:Nat}(I:r.length<=1500000)(C:n<=1000000000000):∃l,cK r n=some l/\l.length=r.length+(uv n).length:=by
 have j:inR n 0 1000000000000=true:=by unfold inR;simp;omega
 unfold cK
 rw[dK wV,qA,cO,qA,j,jG wb]
 refine Ye (L:=dI) (b:=λv=>u8.wrap (i64.wrap (BitVec.ofInt i64.bits (i64.wrap (BitVec.ofInt i64.bits v&&&BitVec.ofInt i64.bits 127).toNat)|||BitVec.ofInt i64.bits 128).toNat)) (c:=λv=>u8.wrap v) (λm n r h1 h2=> ?_) (λm n r h1=> ?_) 8 aJ n r wg wg wG wg
 ·simp only[dI];rw[jF wV,uvf]
 ·simp only[dI];rw[jG wV]
theorem CS{r:List Int}{n:Nat}(I:r.length<=1500000)(C:n<=1000000000000):∃l,cW r n=some l/\l.length=r.length+(uv n).length:=by
 have j:inR n 0 1000000000000=true:=by unfold inR;simp;omega
 unfold cW eA
 rw[dK wV,qA,qA,bX,qA,j,jG wb]
 refine Ye (L:=dH) (b:=λv=>u8.wrap (i64.wrap ((Int.tmod v 128)+128))) (c:=λv=>u8.wrap v) (λm n r h1 h2=> ?_) (λm n r h1=> ?_) 8 aJ n r wg wg wG wg
 ·simp only[dH];rw[jF wV,uvt h2]
 ·simp only[dH];rw[jG wV]
def DT(x:M.aR):Nat:=(uv x.Name.size).length+x.Name.size+(uv x.N.toNat).length
def Ow(r:M.aF):Nat:=if cV r=true then(uv r.aKj.length).length+dO DT r.aKj else 0
theorem LL{r b:List Int}(C:r.length<=1000)(hb:b.length<=1000):∃l,cJ r b=some l/\l.length=r.length+((uv b.length).length+b.length):=by obtain⟨l,e,j⟩:=CV (r:=r) (n:=b.length) wg wg;have h9:=J6 b.length wg;refine⟨l++b,?_,wV⟩;unfold cJ;rw[e,qA,dK wg,qA]
theorem Kt{r:M.aF}(hr:r.ok):∃l,hJ r=some l/\l.length=Ow r:=by
 unfold hJ Ow
 rw[tP hr,qA]
 by_cases h:cV r=true
 ·obtain⟨h6,I⟩:=vT h
  have U:∀x∈r.aKj,DT x<=26:=by intro x j;have:=I x j;have h1:=J6 x.Name.size wg;have h2:=J6 x.N.toNat wg;unfold DT;omega
  have hsum:=eN U
  obtain⟨l,e,J⟩:=CV (r:=[]) (n:=r.aKj.length) wb wg
  have h9:=J6 r.aKj.length wg
  rw[jG wY,jF h,e,qA]
  have:=U0 (xs:=r.aKj) (w:=DT) (B:=900) (L:=dL r) (λn k hk q hq=> ?_) (λn q=> ?_) aJ 0 l wG wg (by simp at J⊢;omega)
  ·obtain⟨z,e2,hz⟩:=this;exact⟨z,e2,by simp at J hz;omega⟩
  ·have j:=I _ (qG hk);have hw2:=U _ (qG hk);obtain⟨a,ea,ha⟩:=LL (r:=q) (b:=bF r.aKj[k].Name) wg (by rw[aP];omega);rw[aP]at ha;have hn:=J6 r.aKj[k].Name.size wg;obtain⟨b,C,hb⟩:=CV (r:=a) (n:=r.aKj[k].N.toNat) wg wg;rw[jT j.2.1]at C;refine⟨b,by unfold DT;omega,?_⟩;simp only[dL];rw[jF (bE hk),aK hk,qA,ea,qA,C,qA,bM wg]
  ·simp only[dL];rw[jG wb]
 simp_all
theorem Lx{r b:List Int}(C:r.length<=1000)(hb:b.length<=1000):∃l,kA r b=some l/\l.length=r.length+((uv b.length).length+b.length):=by obtain⟨l,e,j⟩:=CS (r:=r) (n:=b.length) wg wg;have h9:=J6 b.length wg;refine⟨l++b,?_,wV⟩;unfold kA;rw[e,qA,dK wg,qA]
theorem Ky{r:M.aF}(hr:r.ok):∃l,gY r=some l/\l.length=Ow r:=by
 unfold gY Ow
 rw[AJ hr,qA]
 by_cases h:cV r=true
 ·obtain⟨h6,I⟩:=vT h
  have hw:∀x∈r.aKj,DT x<=26:=by intro x j;have:=I x j;have h1:=J6 x.Name.size wg;have h2:=J6 x.N.toNat wg;unfold DT;omega
  have hsum:=eN hw
  obtain⟨l,e,J⟩:=CS (r:=[]) (n:=r.aKj.length) wb wg
  have h9:=J6 r.aKj.length wg
  rw[jG wY,jF h,e,qA]
  have:=U0 (xs:=r.aKj) (w:=DT) (B:=900) (L:=dN r) (λn k hk q hq=> ?_) (λn q=> ?_) aJ 0 l wG wg (by simp at J⊢;omega)
  ·obtain⟨z,e2,hz⟩:=this;exact⟨z,e2,by simp at J hz;omega⟩
  ·have j:=I _ (qG hk);obtain⟨a,U,ha⟩:=Lx (r:=q) (b:=bF r.aKj[k].Name) wg (by rw[aP];omega);rw[aP]at ha;have hn:=J6 r.aKj[k].Name.size wg;obtain⟨b,C,hb⟩:=CS (r:=a) (n:=r.aKj[k].N.toNat) wg wg;rw[jT j.2.1]at C;refine⟨b,by unfold DT;omega,?_⟩;simp only[dN];rw[jF (bE hk),aK hk,qA,U,qA,C,qA,bM wg]
  ·simp only[dN];rw[jG wb]
 simp_all
def Og(v:Int)(x:M.aKy):Int:=i64.wrap (v+((Oa x.Key)+(Ow x.aF)))
def JO(s:M.aD):Int:=s.aKg.foldl Og 0
def HH(d:M.aKc):Int:=d.aKm.foldl (λv s=>i64.wrap (v+JO s)) 0
def Tb(b:M.aKe):Int:=i64.wrap ((i64.wrap ((i64.wrap (KD b.aKi+i64.wrap (HH b.bJ.aK1+(b.bJ.Log.length))))+JO b.aH.aK1))+(i64.wrap (40*(b.aH.aK3.aO.aKw.length))))
theorem It{s:M.aD}(j:s.ok):BI s=some (JO s):=by have hm:=aZ j.aKg.1;refine Ki (L:=nH s) (E:=some) j.aKg.1 (λn v k hk=> ?_) (λn v=> ?_) 0;(have C:=j.aKg.2 _ (qG hk);obtain⟨a,I,U⟩:=NC C.Key;obtain⟨b,J,hb⟩:=Kt C.aF;simp only[nH];rw[jF (bE hk),aK hk,qA,I,qA,J,qA,bM wg,U,hb];unfold Og;rw[wrap_add,Int.add_assoc]);·simp only[nH];rw[jG wb]
theorem KG{d:M.aKc}(j:d.ok):Br d=some (HH d):=by have I:=aZ j.aKm.1;refine Ki (L:=iX d) (E:=some) j.aKm.1 (λn v k hk=> ?_) (λn v=> ?_) 0;(have C:=j.aKm.2 _ (qG hk);simp only[iX];rw[jF (bE hk),aK hk,qA,It C,qA,bM wg]);·simp only[iX];rw[jG wb]
theorem PS{b:M.aKe}(hb:b.ok):Dc b=some (Tb b):=by unfold Dc D0 Tb;rw[MN hb.aKi,qA,KG hb.bJ.aK1,qA,qA,It hb.aH.aK1,qA]
theorem Ic{s:M.aD}(j:s.ok):BC s=some (JO s):=by have hm:=aZ j.aKg.1;refine Ki (L:=nA s) (E:=some) j.aKg.1 (λn v k hk=> ?_) (λn v=> ?_) 0;(have C:=j.aKg.2 _ (qG hk);obtain⟨a,I,U⟩:=Nr C.Key;obtain⟨b,J,hb⟩:=Ky C.aF;simp only[nA];rw[jF (bE hk),aK hk,qA,I,qA,J,qA,bM wg,U,hb];unfold Og;rw[Zv]);·simp only[nA];rw[jG wb]
theorem Km{d:M.aKc}(j:d.ok):Bk d=some (HH d):=by have I:=aZ j.aKm.1;refine Ki (L:=iU d) (E:=some) j.aKm.1 (λn v k hk=> ?_) (λn v=> ?_) 0;(have C:=j.aKm.2 _ (qG hk);simp only[iU];rw[jF (bE hk),aK hk,qA,Ic C,qA,bM wg]);·simp only[iU];rw[jG wb]
theorem P1{b:M.aKe}(hb:b.ok):CY b=some (Tb b):=by unfold CY DO Tb;rw[Mr hb.aKi,qA,Km hb.bJ.aK1,qA,qA,Ic hb.aH.aK1,qA]
def bZ(x y:M.bD):Int:=if Ec x=true/\Ec y=true then if x.aKx=y.aKx then if x.N=y.N then if Op.bytesLess x.aK5.toList y.aK5.toList=true then -1 else if(x.aK5.toList==y.aK5.toList)=true then 0 else 1 else if x.N<y.N then -1 else 1 else if x.aKx<y.aKx then -1 else 1 else 0
theorem Ak{x y:M.bD}(j:x.ok)(C:y.ok):bV x y=some (bZ x y):=by
 unfold bV Cu bZ
 rw[oM j,oM C]
 cases h1:Ec x
 ·simp
 simp only[ite_not]
 repeat' split
 all_goals first|rfl|(omega)|(simp_all;done)|(omega)
theorem Af{x y:M.bD}(j:x.ok)(C:y.ok):eT x y=some (bZ x y):=by
 have key:Lib.compareBytes x.aK5.data.toList y.aK5.data.toList=if Op.bytesLess x.aK5.toList y.aK5.toList=true then -1 else if(x.aK5.toList==y.aK5.toList)=true then 0 else 1:=by rw[IG,<-ByteArray.toList_eq,<-ByteArray.toList_eq]
 unfold eT zY Cw rK bZ
 rw[sZ j,sZ C]
 simp only[qA,key]
 cases h1:Ec x
 ·simp
 cases h2:Ec y
 ·simp
 simp only[qB,qD,jH,jI,and_self,qL,ite_not]
 repeat' split
 all_goals first|rfl|(omega)|(done)|(omega)
theorem Ld{p:M.aKe->Option Bool}{f:M.aKe->Bool}{xs:List M.aKe}(j:xs.length<=maxLen)(C:∀x∈xs,p x=some (f x)):mG xs p=some (gJ f xs):=by
 have I:=aZ j
 unfold mG
 rw[oQ (L:=dU xs p) (f:=f) (A:=λi=>some (i:Int)) (E:=some (-1)) j (λn k hk=>by
  simp only[dU]
  rw[jF (bE hk),aK hk,qA,C _ (qG hk),qA,bM wg]) (λn=>by
  simp only[dU]
  rw[jG wb]),tK]
theorem NU{p:M.bK->Option Bool}{f:M.bK->Bool}{xs:List M.bK}(j:xs.length<=maxLen)(C:∀x∈xs,p x=some (f x)):Bq xs p=some (gJ f xs):=by
 have I:=aZ j
 unfold Bq
 rw[oQ (L:=lQ xs p) (f:=f) (A:=λi=>some (i:Int)) (E:=some (-1)) j (λn k hk=>by
  simp only[lQ]
  rw[jF (bE hk),aK hk,qA,C _ (qG hk),qA,bM wg]) (λn=>by
  simp only[lQ]
  rw[jG wb]),tK]
theorem MH{p:M.aKv->Option Bool}{f:M.aKv->Bool}{xs:List M.aKv}(j:xs.length<=maxLen)(C:∀x∈xs,p x=some (f x)):AS xs p=some (gJ f xs):=by
 have I:=aZ j
 unfold AS
 rw[oQ (L:=kV xs p) (f:=f) (A:=λi=>some (i:Int)) (E:=some (-1)) j (λn k hk=>by
  simp only[kV]
  rw[jF (bE hk),aK hk,qA,C _ (qG hk),qA,bM wg]) (λn=>by
  simp only[kV]
  rw[jG wb]),tK]
