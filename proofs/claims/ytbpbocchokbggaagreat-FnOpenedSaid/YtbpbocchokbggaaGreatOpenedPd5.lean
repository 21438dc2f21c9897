/-
  Helper text. No conditions.
-/
import Derived.Test.YtbpbocchokbggaaGreatOpenedPd4
set_option linter.all false
namespace Go.Proofs.YtbpbocchokbggaaGreat.gen
open Go Go.Sh
open Go.IntKind (i64)
def MB(s:M.aF)(v:Int)(a p:ByteArray)(x:M.aHH):M.aF×Bool:=if mM (λc:M.aHM=>c.aHA==v) s.aHC<0 then(s,false)else if(lL s&&lL (⟨Nn s v a p x⟩:M.aF))=true then((⟨Nn s v a p x⟩:M.aF),true)else(s,false)
theorem TG{c:M.aHM}{a p:ByteArray}{x:M.aHH}(hc:c.ok)(U:c.aHS.length<=1073741824)(C:a.size<=maxLen)(I:p.size<=maxLen)(J:x.ok):M.aHM.ok (Kh c a p x):=by unfold Kh;refine⟨hc.aHA,?_⟩;dsimp only;split;(refine⟨by rw[qN];exact hc.aHS.1,λy j=> ?_⟩;rcases jD j with j|rfl;(exact hc.aHS.2 y j);·exact⟨C,I,J⟩);·refine⟨by simp only[qE,qJ,qK];unfold maxLen;omega,λy j=> ?_⟩;rcases qP.1 j with j|j;(exact hc.aHS.2 y j);·rw[qQ.1 j];exact⟨C,I,J⟩
theorem O0{s:M.aF}{v:Int}{a p:ByteArray}{x:M.aHH}(C:s.ok)(hz:M.aF.sz s<=1073741824)(J:a.size<=maxLen)(U:p.size<=maxLen)(hx:x.ok):M.aF.ok (⟨Nn s v a p x⟩:M.aF):=by unfold Nn;split;(rename_i c hc;refine⟨⟨by show List.length (List.set _ _ _)<=_;rw[qN];exact C.aHC.1,λy I=> ?_⟩⟩;have j:=jC hc;have z:=eU (f:=M.aHM.sz) j;rcases jD I with I|rfl;(exact C.aHC.2 y I);·exact TG (C.aHC.2 c j) (by simp only[M.aF.sz]at hz;simp only[M.aHM.sz]at z;omega) J U hx);·exact C
theorem U8{s:M.aF}{v:Int}{a p:ByteArray}{x:M.aHH}{j:Nat}(C:mM (λc:M.aHM=>c.aHA==v) s.aHC=(j:Int))(I:j<s.aHC.length):Nn s v a p x=s.aHC.set j (Kh s.aHC[j] a p x):=by unfold Nn;rw[C,qH,qF I]
theorem Us{c:M.aHM}{a p:ByteArray}{x:M.aHH}{i:Nat}(j:mM (Gc a p) c.aHS=(i:Int)):Kh c a p x=(⟨c.aHA,c.aHS.set i (⟨a,p,x⟩:M.aHU)⟩:M.aHM):=by unfold Kh;rw[j,if_pos jF,qH]
theorem Tq{c:M.aHM}{a p:ByteArray}{x:M.aHH}(h:¬mM (Gc a p) c.aHS>=0):Kh c a p x=(⟨c.aHA,c.aHS++[(⟨a,p,x⟩:M.aHU)]⟩:M.aHM):=by unfold Kh;rw[if_neg h]
theorem GU{s:M.aF}{v:Int}{a p:ByteArray}{x:M.aHH}(C:s.ok)(J:M.aF.sz s<=1073741824)(ha:a.size<=maxLen)(hp:p.size<=maxLen)(hx:x.ok)(zx:M.aHH.sz x<=1073741824):oT s v a p x=some (MB s v a p x):=by
 have hout:=O0 (v:=v) (a:=a) (p:=p) (x:=x) C J ha hp hx
 unfold oT MB
 rw[C3 s J,qA,Fw C,qA]
 by_cases h:mM (λc:M.aHM=>c.aHA==v) s.aHC<0
 ·rw[if_pos (by simpa using h),if_pos h]
 ·rw[if_neg (by simpa using h),if_neg h]
  obtain⟨j,ej,I⟩:=iF h
  rw[U8 ej I]at hout⊢
  have hc:=C.aHC.2 _ (qG I)
  have z1:=eU (f:=M.aHM.sz) (qG I)
  have hl:s.aHC[j].aHS.length<=1073741824:=by simp only[M.aF.sz]at J;simp only[M.aHM.sz]at z1;omega
  rw[Hk x zx,qA,ej,aK I,qA,Hm hc,qA,qH]
  by_cases h2:mM (Gc a p) s.aHC[j].aHS>=0
  ·obtain⟨i,U,hi⟩:=iF (f:=Gc a p) (xs:=s.aHC[j].aHS) jF;rw[Us U]at hout⊢;rw[if_pos (by simpa using h2),U,aK hi,qA,qH,rH C,qA,rH hout,qA];generalize lL (⟨s.aHC.set j _⟩:M.aF)=b;cases lL s<;>cases b<;>rfl
  ·rw[Tq h2]at hout⊢;rw[if_neg (by simpa using h2),dY jV,qA,rH C,qA,rH hout,qA];generalize lL (⟨s.aHC.set j _⟩:M.aF)=b;cases lL s<;>cases b<;>rfl
theorem TR{s:M.aF}{v:Int}{a p:ByteArray}{x:M.aHH}(h:(MB s v a p x).2=true):lL (MB s v a p x).1=true:=by unfold MB at h⊢;split at h;(cases h);·rename_i j;rw[if_neg j];split at h;(rename_i h1;rw[if_pos h1];exact(Bool.and_eq_true_iff.1 h1).2);·cases h
theorem WX{s:M.aF}{v:Int}{a p:ByteArray}{x:M.aHH}(j:s.ok)(U:M.aF.sz s<=1073741824)(C:a.size<=maxLen)(I:p.size<=maxLen)(J:x.ok):M.aF.ok (MB s v a p x).1:=by unfold MB;split;(exact j);·split;(exact O0 j U C I J);·exact j
theorem X8{x a b:Int}(h:inR x a b=true):a<=x/\x<=b:=by unfold inR at h;simpa using h
theorem Ki{s:M.aF}(h:lL s=true):M.aF.sz s<=65536:=by
 unfold lL at h
 rw[qM]at h
 have h2:s.aHC.length<=4:=by simpa using h.2
 have hc:∀c∈s.aHC,M.aHM.sz c<=4096:=by
  intro c hc
  obtain⟨k,hk,rfl⟩:=List.getElem_of_mem hc
  have h3:=qR.1 h.1 k (qS.2 hk)
  unfold GD at h3
  rw[qF hk,qf,qM,qM]at h3
  have h4:=h3.1.2
  unfold E2 at h4
  rw[qM]at h4
  have h5:s.aHC[k].aHS.length<=12:=by simpa using h4.2
  have he:∀x∈s.aHC[k].aHS,M.aHU.sz x<=100:=by
   intro x U
   obtain⟨i,J,rfl⟩:=List.getElem_of_mem U
   have h6:=qR.1 h4.1 i (qS.2 J)
   unfold CS at h6
   rw[qF J,qf,qM,qM,qM]at h6
   obtain⟨j,C,I,_⟩:=h6
   unfold nY at j C
   rw[qM]at j C
   have r1:=X8 j.2
   have r2:=X8 C.2
   unfold FJ at I
   rw[qM,qM,qM]at I
   have r3:s.aHC[k].aHS[i].aHH.aH3.length<=60:=by have:=I.2.2.2;simp at this;omega
   simp only[M.aHU.sz,M.aHH.sz]
   omega
  have:=dR he
  simp only[M.aHM.sz]
  omega
 have:=dR hc
 simp only[M.aF.sz]
 omega
theorem Q6{l:List M.bB}:∀{s:M.aC},s.ok->l.length<=maxLen->(∀w∈l,M.bB.ok w)->M.aC.sz s<=536870912->(Ec s l).ok/\M.aC.sz (Ec s l)<=536870912:=by
 induction l with
 |nil=>intro s j _ _ C;exact⟨j,C⟩
 |cons w l ih=>
  intro s j J I C
  have h:=K5 j (I w jH) C
  exact ih (s:=(Ni s w).1) h.1 (by simp only[qJ]at J;omega) (λy U=>I y (by simp[U])) h.2
def H7(o:M.aJ)(k:M.Key)(f:ByteArray)(n:Int):M.aJ:=(⟨o.aHI,i64.wrap (o.aHj+1),o.aHW++[(⟨o.aHI,o.aHj,k,f,n⟩:M.bB)]⟩:M.aJ)
def Qj(o:M.aJ)(k:M.Key)(f:ByteArray)(n:Int):M.aJ×Bool:=if uC o=true then if uC (H7 o k f n)=true then(H7 o k f n,true)else(o,false)else(o,false)
theorem W9{o:M.aJ}{k:M.Key}{f:ByteArray}{n:Int}(C:o.ok)(hl:o.aHW.length<=1073741824)(hk:k.ok)(J:f.size<=maxLen)(U:inI n):(H7 o k f n).ok:=
 ⟨C.aHI,bJ _,⟨by show(o.aHW++_).length<=maxLen;unfold maxLen;simp;omega,λy I=>by have j:y∈o.aHW++[(⟨o.aHI,o.aHj,k,f,n⟩:M.bB)]:=I;simp only[qP,qq,qO,or_false]at j;rcases j with I|rfl;(exact C.aHW.2 y I);·exact⟨C.aHI,C.aHj,hk,J,U⟩⟩⟩
theorem DO{o:M.aJ}{k:M.Key}{f:ByteArray}{n:Int}(j:o.ok)(J:M.aJ.sz o<=536870912)(hk:k.ok)(C:f.size<=maxLen)(I:inI n):iM o k f n=some (Qj o k f n):=by
 have U:o.aHW.length<=536870912:=by simp only[M.aJ.sz]at J;omega
 have e:=sE (W9 (k:=k) (f:=f) (n:=n) j jF hk C I)
 unfold H7 at e
 unfold iM Qj
 rw[CU o jF,qA,sE j,qA,dY jV,qA,e,qA]
 unfold H7
 cases uC o
 ·simp
 ·cases uC (⟨o.aHI,i64.wrap (o.aHj+1),o.aHW++[(⟨o.aHI,o.aHj,k,f,n⟩:M.bB)]⟩:M.aJ)<;>simp
def ZF(r:M.aE)(k:M.Key)(f:ByteArray)(n:Int):Bool:=CX r&&((Qj r.aHY.aJ k f n).2&&(Ni (Ec r.aHa r.aHY.aJ.aHW) (⟨0,0,k,f,n⟩:M.bB)).2)
def aDz(r:M.aE)(k:M.Key)(f:ByteArray)(n:Int):M.aE:=(⟨r.aHa,r.aHw,(⟨(Qj r.aHY.aJ k f n).1,r.aHY.aHr,r.aHY.aHe⟩:M.aHY)⟩:M.aE)
def nWL(r:M.aE)(k:M.Key)(f:ByteArray)(n:Int):M.aE×Bool:=if ZF r k f n=true then(aDz r k f n,true)else(r,false)
theorem aBN{α:Type}(a b c:Bool)(x y:α):(if(!a)=true then y else if(!b)=true then y else if(!c)=true then y else x)=if(a&&(b&&c))=true then x else y:=by cases a<;>cases b<;>cases c<;>rfl
theorem JQ{r:M.aE}{k:M.Key}{f:ByteArray}{n:Int}(j:r.ok)(U:M.aE.sz r<=536870912)(hk:k.ok)(I:f.size<=maxLen)(J:inI n):mW r k f n=some (nWL r k f n):=by have C:=U;simp only[M.aE.sz,M.aHY.sz]at C;obtain⟨q2,q3⟩:=Q6 j.aHa j.aHY.aJ.aHW.1 j.aHY.aJ.aHW.2 jF;have q1:=FW j.aHa j.aHY.aJ.aHW.1 j.aHY.aJ.aHW.2 jF;unfold mW Be;rw[Eo r jF,DO j.aHY.aJ jF hk I J,q1,BJ j];simp only[qA];rw[BS (w:=(⟨0,0,k,f,n⟩:M.bB)) q2 ⟨by unfold inI;simp,by unfold inI;simp,hk,I,J⟩ jF];simp only[qA,aBN];unfold nWL ZF aDz;cases (CX r&&((Qj r.aHY.aJ k f n).2&&(Ni (Ec r.aHa r.aHY.aJ.aHW) (⟨0,0,k,f,n⟩:M.bB)).2))<;>simp
def sI:List ByteArray:=[(⟨#[98,97,110,107]⟩:ByteArray),(⟨#[110,101,119,115]⟩:ByteArray),(⟨#[115,104,111,112]⟩:ByteArray)]
def En(a:ByteArray):Int:=mM (λx:ByteArray=>x.toList==a.toList) sI
theorem Na:sI.length<=maxLen:=by unfold sI maxLen;simp
theorem A4{a:ByteArray}:mQ a=some (En a):=by unfold mQ mY;rw[<-sI.eq_1];rw[findAll (L:=cD sI a) (f:=λx:ByteArray=>x.toList==a.toList) (A:=λi=>some (i:Int)) (E:=some (-1)) Na (λm k hk=> ?_) (λm=> ?_),pM];(rfl);(have j:k<3:=hk;simp only[cD];rw[if_pos (aY hk),aK hk,qA,bD jF,Bool.beq_comm]);·simp only[cD];rw[if_neg jO]
def Me(l:List ByteArray)(k:Nat):Bool:=(l[k]?).any nY&&(decide (k=0)||(l[k-1]?).any λy=>(l[k]?).any λx=>Op.bytesLess y.toList x.toList)
def LD(s:M.aHL):Bool:=(List.range s.aHl.length).all (Me s.aHl)&&(nY s.Name&&(inR s.aHA 1 1000000000000&&inR (s.aHl.length:Int) 1 6))
theorem E1{s:M.aHL}(C:s.ok):zN s=some (LD s):=by
 have J:=le_max C.aHl.1
 unfold zN LD
 rw[oZ (L:=lR s) (g:=Me s.aHl) (F:=some false) (E:=some (nY s.Name&&(inR s.aHA 1 1000000000000&&inR (s.aHl.length:Int) 1 6))) C.aHl.1 (λn k hk=> ?_) (λn=> ?_),bA]
 ·have I:=C.aHl.2 _ (qG hk)
  simp only[lR]
  rw[if_pos (aY hk),aK hk,qA,bD jF,dB I,qA]
  unfold Me
  rw[qF hk]
  generalize lR s n ((k+1:Nat):Int)=Z
  by_cases h0:k=0
  ·subst h0;simp only[qf];cases nY s.aHl[0]<;>simp
  ·have e:i64.wrap ((k:Int)-1)=((k-1:Nat):Int):=by rw[bO jF jF];omega
   have j:k-1<s.aHl.length:=by omega
   rw[if_pos (c:=(decide ((k:Int)>0))=true) jG,e,aK j,qA,qF j]
   simp only[qf,h0,decide_false,Bool.false_or]
   cases nY s.aHl[k]<;>cases Op.bytesLess s.aHl[k-1].toList s.aHl[k].toList<;>simp
 ·simp only[lR];rw[if_neg jO,dB C.Name,qA,cK,qA,cK,qA,bA,bA]
theorem EW{s:M.aHL}(C:s.ok):zJ s=some (LD s):=by
 have J:=le_max C.aHl.1
 unfold zJ LD
 rw[oZ (L:=lN s) (g:=Me s.aHl) (F:=some false) (E:=some (nY s.Name&&(inR s.aHA 1 1000000000000&&inR (s.aHl.length:Int) 1 6))) C.aHl.1 (λn k hk=> ?_) (λn=> ?_),bA]
 ·have I:=C.aHl.2 _ (qG hk)
  simp only[lN]
  rw[if_pos (aY hk),aK hk,qA,bD jF,dJ I,qA]
  unfold Me
  rw[qF hk]
  generalize lN s n ((k+1:Nat):Int)=Z
  by_cases h0:k=0
  ·subst h0;simp only[qf];cases nY s.aHl[0]<;>simp
  ·have e:i64.wrap ((k:Int)-1)=((k-1:Nat):Int):=by rw[bO jF jF];omega
   have j:k-1<s.aHl.length:=by omega
   rw[if_pos (c:=(decide ((k:Int)>0))=true) jG,e,aK j,qA,qF j,RU]
   simp only[qf,h0,decide_false,Bool.false_or]
   cases nY s.aHl[k]<;>cases Op.bytesLess s.aHl[k-1].toList s.aHl[k].toList<;>simp
 ·simp only[lN];rw[if_neg jO,dJ C.Name,qA,bU,qA,bU,qA,bA,bA]
def EB(l:List M.aO)(k:Nat):Bool:=(l[k]?).any (λx=>inR x.aHI 1 1000000&&inR x.Seq 0 1000000)&&(decide (k=0)||(l[k-1]?).any λy=>(l[k]?).any λx=>decide (y.aHI<x.aHI))
def FK(l:List M.bB)(k:Nat):Bool:=(l[k]?).any El
def F9(s:M.aHO):Bool:=(List.range s.aO.length).all (EB s.aO)&&((List.range s.aHd.length).all (FK s.aHd)&&(iJ s.aC&&((s.aC.Name.toList==(⟨#[110,111,116,101,115]⟩:ByteArray).toList)&&decide ((s.aO.length:Int)<=60))))
theorem Cc{s:M.aHO}(j:s.ok):sC s=some (F9 s):=by
 have U:=le_max j.aO.1
 have J:=le_max j.aHd.1
 unfold sC F9
 rw[oZ (L:=hY s) (g:=EB s.aO) (F:=some false) (E:=kT s fuel 0) j.aO.1 (λn k hk=> ?_) (λn=> ?_),
  oZ (L:=kT s) (g:=FK s.aHd) (F:=some false) (E:=some (iJ s.aC&&((s.aC.Name.toList==(⟨#[110,111,116,101,115]⟩:ByteArray).toList)&&decide ((s.aO.length:Int)<=60)))) j.aHd.1 (λn k hk=> ?_) (λn=> ?_),bA,bA]
 ·have I:=j.aHd.2 _ (qG hk);simp only[kT];rw[if_pos (aY hk),aK hk,qA,bD jF,Bm I,qA,fR];unfold FK;rw[qF hk,qf]
 ·simp only[kT];rw[if_neg jO,Au j.aC,qA,bA,bA]
 ·simp only[hY]
  rw[if_pos (aY hk),aK hk,qA,bD jF,cK,qA,cK,qA]
  unfold EB
  rw[qF hk]
  generalize hY s n ((k+1:Nat):Int)=Z
  by_cases h0:k=0
  ·subst h0;simp only[qf];cases inR s.aO[0].aHI 1 1000000<;>cases inR s.aO[0].Seq 0 1000000<;>simp
  ·have e:i64.wrap ((k:Int)-1)=((k-1:Nat):Int):=by rw[bO jF jF];omega
   have C:k-1<s.aO.length:=by omega
   have ed:decide (s.aO[k-1].aHI>=s.aO[k].aHI)= !decide (s.aO[k-1].aHI<s.aO[k].aHI):=by rw[Bool.eq_iff_iff];simp
   rw[if_pos (c:=(decide ((k:Int)>0))=true) jG,e,aK C,qA,qF C,ed]
   simp only[qf,h0,decide_false,Bool.false_or]
   cases inR s.aO[k].aHI 1 1000000<;>cases inR s.aO[k].Seq 0 1000000<;>cases decide (s.aO[k-1].aHI<s.aO[k].aHI)<;>simp
 ·simp only[hY];rw[if_neg jO]
theorem Lk{s:M.aHO}(j:s.ok):AS s=some (F9 s):=by
 have U:=le_max j.aO.1
 have J:=le_max j.aHd.1
 unfold AS F9
 rw[oZ (L:=iA s) (g:=EB s.aO) (F:=some false) (E:=kV s fuel 0) j.aO.1 (λn k hk=> ?_) (λn=> ?_),
  oZ (L:=kV s) (g:=FK s.aHd) (F:=some false) (E:=some (iJ s.aC&&((s.aC.Name.toList==(⟨#[110,111,116,101,115]⟩:ByteArray).toList)&&decide ((s.aO.length:Int)<=60)))) j.aHd.1 (λn k hk=> ?_) (λn=> ?_),bA,bA]
 ·have I:=j.aHd.2 _ (qG hk);simp only[kV];rw[if_pos (aY hk),aK hk,qA,bD jF,Dp I,qA,fR];unfold FK;rw[qF hk,qf]
 ·simp only[kV];rw[if_neg jO,Eh j.aC,qA,bA,bA]
 ·simp only[iA]
  rw[if_pos (aY hk),aK hk,qA,bD jF,bU,qA,bU,qA]
  unfold EB
  rw[qF hk]
  generalize iA s n ((k+1:Nat):Int)=Z
  by_cases h0:k=0
  ·subst h0;simp only[qf];cases inR s.aO[0].aHI 1 1000000<;>cases inR s.aO[0].Seq 0 1000000<;>simp
  ·have e:i64.wrap ((k:Int)-1)=((k-1:Nat):Int):=by rw[bO jF jF];omega
   have C:k-1<s.aO.length:=by omega
   have ed:decide (s.aO[k].aHI<=s.aO[k-1].aHI)= !decide (s.aO[k-1].aHI<s.aO[k].aHI):=by rw[Bool.eq_iff_iff];simp
   rw[if_pos (c:=(decide ((k:Int)>0))=true) jG,e,aK C,qA,qF C,ed]
   simp only[qf,h0,decide_false,Bool.false_or]
   cases inR s.aO[k].aHI 1 1000000<;>cases inR s.aO[k].Seq 0 1000000<;>cases decide (s.aO[k-1].aHI<s.aO[k].aHI)<;>simp
 ·simp only[iA];rw[if_neg jO]
def Ge(p:M.bC)(k:Nat):Bool:=(p.aT[k]?).any λx=>nY x.aHv&&(x.aHA==p.aHA)
def DA(p:M.bC):Bool:=(List.range p.aT.length).all (Ge p)&&(inR p.Id 1 1000000000000&&(nY p.aHL&&(nY p.Top&&(inR p.aHA 1 1000000000000&&decide ((p.aT.length:Int)<=8)))))
theorem Ds{p:M.bC}(j:p.ok):uG p=some (DA p):=by have I:=le_max j.aT.1;unfold uG DA;rw[oZ (L:=tK p) (g:=Ge p) (F:=some false) (E:=some (inR p.Id 1 1000000000000&&(nY p.aHL&&(nY p.Top&&(inR p.aHA 1 1000000000000&&decide ((p.aT.length:Int)<=8)))))) j.aT.1 (λn k hk=> ?_) (λn=> ?_),bA];(have C:=j.aT.2 _ (qG hk);simp only[tK];rw[if_pos (aY hk),aK hk,qA,bD jF,dB C.aHv,qA];unfold Ge;rw[qF hk,qf];simp only[vV,fR,WT]);·simp only[tK];rw[if_neg jO];simp only[dB j.aHL,dB j.Top,cK,qA,bA]
theorem Dx{p:M.bC}(j:p.ok):uF p=some (DA p):=by have I:=le_max j.aT.1;unfold uF DA;rw[oZ (L:=tQ p) (g:=Ge p) (F:=some false) (E:=some (inR p.Id 1 1000000000000&&(nY p.aHL&&(nY p.Top&&(inR p.aHA 1 1000000000000&&decide ((p.aT.length:Int)<=8)))))) j.aT.1 (λn k hk=> ?_) (λn=> ?_),bA];(have C:=j.aT.2 _ (qG hk);simp only[tQ];rw[if_pos (aY hk),aK hk,qA,bD jF,dJ C.aHv,qA];unfold Ge;rw[qF hk,qf];simp only[vV,fR,WT]);·simp only[tQ];rw[if_neg jO];simp only[dJ j.aHL,dJ j.Top,bU,qA,bA]
theorem JA{s:ByteArray}(j:s.size<=maxLen):xW s=some (PF s 30 true):=by
 have C:=le_max j
 unfold xW PF
 rw[IM (L:=dM s) (g:=Kc true) (F:=some false) (E:=some (inR (s.size:Int) 1 30)) j (λn k hk=> ?_) (λn=> ?_),bA]
 ·simp only[dM]
  rw[if_pos (aY hk),HZ hk,qA,bD jF]
  generalize s[k]=b
  unfold Kc
  generalize dM s n ((k+1:Nat):Int)=Z
  simp only[Bool.or_eq_true,qM,qL,Bool.not_eq_true',decide_eq_false_iff_not,Bool.true_and,bne_iff_ne,ne_eq]
  repeat' split
  all_goals first|rfl|(exfalso;omega)
 ·simp only[dM];rw[if_neg jO,cK,qA]
theorem JY{s:ByteArray}(j:s.size<=maxLen):yA s=some (PF s 30 true):=by unfold yA;rw[H3 j,qA]
def Qa(x y:M.dO):Bool:=x.aH4&&((y.Name.toList==x.Name.toList)&&(!y.aH4||(!x.aHo|| !y.aHo)))
def IJ(l:List M.dO)(k:Nat)(x:M.dO):Bool:=(List.range k).all λj=> !((l[j]?).any (Qa x))
def Ml(l:List M.dO)(k:Nat):Bool:=(l[k]?).any λx=>PF x.Name 30 true&&(inR x.bC 1 1000000000000&&IJ l k x)
def Gy(t:M.aM):Bool:=(List.range t.aHR.length).all (Ml t.aHR)&&decide ((t.aHR.length:Int)<=12)
theorem S8{t:M.aM}{x:M.dO}{k:Nat}{K:Int->Option Bool}(I:t.aHR.length<=maxLen)(hk:k<=t.aHR.length):cQ t (k:Int) x K fuel 0=if IJ t.aHR k x=true then K (k:Int)else some false:=by
 have U:=le_max I
 refine oZ (L:=cQ t (k:Int) x K) (g:=λj=> !((t.aHR[j]?).any (Qa x))) (F:=some false) (E:=K (k:Int)) (qh hk I) (λn j J=> ?_) (λn=> ?_)
 ·have C:j<t.aHR.length:=by omega
  simp only[cQ]
  rw[if_pos (aY J),aK C,qA,bD jF,qF C,qf]
  unfold Qa
  generalize cQ t (k:Int) x K n ((j+1:Nat):Int)=Z
  cases x.aH4<;>cases (t.aHR[j].Name.toList==x.Name.toList)<;>cases t.aHR[j].aH4<;>cases x.aHo<;>cases t.aHR[j].aHo<;>simp
 ·simp only[cQ];rw[if_neg jO]
theorem SU{t:M.aM}{x:M.dO}{k:Nat}{C:Option Bool}(hm:t.aHR.length<=maxLen)(hk:k<=t.aHR.length):cR t (k:Int) x (λ_=>C) fuel 0=if IJ t.aHR k x=true then C else some false:=by
 have hm':=le_max hm
 have J:(t.aHR.take k).length=k:=by rw[qV];omega
 have:=oZ (N:=k) (L:=cR t (k:Int) x (λ_=>C)) (g:=λj=> !((t.aHR[j]?).any (Qa x))) (F:=some false) (E:=C) (qh hk hm) (λn j U=> ?_) (λn=> ?_)
 ·exact this
 ·have I:j<t.aHR.length:=by omega
  simp only[cR,qH,J]
  rw[if_pos (aY U),aK (by rw[J];exact U),qA,bD jF,qF I,qf,List.getElem_take]
  unfold Qa
  generalize cR t (k:Int) x (λ_=>C) n ((j+1:Nat):Int)=Z
  cases x.aH4<;>cases (t.aHR[j].Name.toList==x.Name.toList)<;>cases t.aHR[j].aH4<;>cases x.aHo<;>cases t.aHR[j].aHo<;>simp
 ·simp only[cR,qH,J];rw[if_neg jO]
theorem IQ{t:M.aM}(j:t.ok):xJ t=some (Gy t):=by have I:=le_max j.aHR.1;unfold xJ Gy;rw[oZ (L:=fX t) (g:=Ml t.aHR) (F:=some false) (E:=some (decide ((t.aHR.length:Int)<=12))) j.aHR.1 (λn k hk=> ?_) (λn=> ?_),bA];(have C:=j.aHR.2 _ (qG hk);simp only[fX];rw[if_pos (aY hk),aK hk,qA,bD jF,JA C.Name,qA,cK,qA,S8 j.aHR.1 jF];unfold Ml;rw[qF hk,qf];generalize fX t n ((k+1:Nat):Int)=Z;cases PF t.aHR[k].Name 30 true<;>cases inR t.aHR[k].bC 1 1000000000000<;>cases IJ t.aHR k t.aHR[k]<;>simp);·simp only[fX];rw[if_neg jO]
theorem Iu{t:M.aM}(j:t.ok):wU t=some (Gy t):=by have I:=le_max j.aHR.1;unfold wU Gy;rw[oZ (L:=fY t) (g:=Ml t.aHR) (F:=some false) (E:=some (decide ((t.aHR.length:Int)<=12))) j.aHR.1 (λn k hk=> ?_) (λn=> ?_),bA];(have C:=j.aHR.2 _ (qG hk);simp only[fY];rw[if_pos (aY hk),aK hk,qA,bD jF,JY C.Name,qA,bU,qA,CF jF,qA,SU j.aHR.1 jF];unfold Ml;rw[qF hk,qf];generalize fY t n ((k+1:Nat):Int)=Z;cases PF t.aHR[k].Name 30 true<;>cases inR t.aHR[k].bC 1 1000000000000<;>cases IJ t.aHR k t.aHR[k]<;>simp);·simp only[fY];rw[if_neg jO]
theorem QK:sI.length=3:=rfl
theorem U9{a:ByteArray}{k:Nat}(hk:k<sI.length):(En a==(k:Int))=(a.toList==(sI[k]).toList):=by
 have d:∀i j:Nat,(J:i<sI.length)->(C:j<sI.length)->(sI[i]).toList=(sI[j]).toList->i=j:=by
  intro i j J C h
  have U:(⟨#[98,97,110,107]⟩:ByteArray).toList=[98,97,110,107]:=by rw[ByteArray.toList_eq]
  have e1:(⟨#[110,101,119,115]⟩:ByteArray).toList=[110,101,119,115]:=by rw[ByteArray.toList_eq]
  have e2:(⟨#[115,104,111,112]⟩:ByteArray).toList=[115,104,111,112]:=by rw[ByteArray.toList_eq]
  rw[QK]at J C
  rcases i with _|_|_|i<;>rcases j with _|_|_|j<;>first|rfl|(exfalso;omega)|(exfalso;simp[sI,U,e1,e2]at h)
 have hf:=iF (f:=λx:ByteArray=>x.toList==a.toList) (xs:=sI)
 have I:=Iv (λx:ByteArray=>x.toList==a.toList) sI
 unfold En
 rw[Bool.eq_iff_iff,beq_iff_eq,beq_iff_eq]
 constructor
 ·intro h
  have h2:sI.findIdx? (λx:ByteArray=>x.toList==a.toList)=some k:=by
   unfold mM at h
   cases e:sI.findIdx? (λx:ByteArray=>x.toList==a.toList)with
   |none=>rw[e]at h;simp only at h;omega
   |some i=>rw[e]at h;simp only at h;congr 1;omega
  have:=(List.findIdx?_eq_some_iff_getElem.1 h2).2.1
  exact(eq_of_beq this).symm
 ·intro h
  have hex:sI.any (λx:ByteArray=>x.toList==a.toList)=true:=List.any_eq_true.2 ⟨sI[k],qG hk,by rw[h];exact beq_self_eq_true _⟩
  rw[hex]at I
  obtain⟨j,e,C⟩:=hf (by have:=of_decide_eq_true I;omega)
  rw[e]
  have h2:sI.findIdx? (λx:ByteArray=>x.toList==a.toList)=some j:=by
   unfold mM at e
   cases e2:sI.findIdx? (λx:ByteArray=>x.toList==a.toList)with
   |none=>rw[e2]at e;simp only at e;omega
   |some i=>rw[e2]at e;simp only at e;congr 1;omega
  have:=(List.findIdx?_eq_some_iff_getElem.1 h2).2.1
  rw[d j k C hk (by rw[eq_of_beq this,h])]
def DS(w:M.World)(k:Nat):Bool:=(w.aHQ[k]?).any λx=>DA x&&(decide (x.Id<w.aHK)&&((decide (k=0)||(w.aHQ[k-1]?).any λy=>decide (y.Id<x.Id))&&decide (0<=mM (nAt x.aHL x.Top) w.aA.aHE)))
def HO(w:M.World)(k:Nat):Bool:=(w.aHZ[k]?).any λx=>LD x&&((sI[k]?).any (λj=>x.Name.toList==j.toList)&&(w.aHT[k]?).any F9)
def zZ(w:M.World):Bool:=decide (w.aHZ.length=3)&&(decide (w.aHT.length=3)&&(decide (w.aHQ.length<=6)&&((List.range 3).all (HO w)&&((List.range w.aHQ.length).all (DS w)&&(inR w.Now 0 999999990000&&(inR w.aHI 1 1000000&&(pI w.aA&&(inR w.aHK 1 1000000000000&&Gy w.aHR))))))))
theorem Ez{w:M.World}(j:M.World.sz w<=1048576):M.aA.sz w.aA<=1048576:=by simp only[M.World.sz]at j;omega
theorem Tk{w:M.World}(C:w.ok){E:Option Bool}(I:∀n,dZ w (n+1) (w.aHQ.length:Int)=E):dZ w fuel 0=if(List.range w.aHQ.length).all (DS w)=true then E else some false:=by
 have U:=le_max C.aHQ.1
 refine oZ (L:=dZ w) (g:=DS w) (F:=some false) (E:=E) C.aHQ.1 (λn k hk=> ?_) I
 have J:=C.aHQ.2 _ (qG hk)
 simp only[dZ]
 rw[if_pos (aY hk),aK hk,qA,bD jF,Ds J,qA,xX C.aA,qA]
 unfold DS
 rw[qF hk,qf]
 generalize dZ w n ((k+1:Nat):Int)=Z
 have e1:decide (w.aHQ[k].Id>=w.aHK)= !decide (w.aHQ[k].Id<w.aHK):=by rw[Bool.eq_iff_iff];simp
 have e2:decide (mM (nAt w.aHQ[k].aHL w.aHQ[k].Top) w.aA.aHE<0)= !decide (0<=mM (nAt w.aHQ[k].aHL w.aHQ[k].Top) w.aA.aHE):=by rw[Bool.eq_iff_iff];simp
 rw[e1]
 simp only[e2]
 by_cases h0:k=0
 ·subst h0;cases DA w.aHQ[0]<;>cases decide (w.aHQ[0].Id<w.aHK)<;>cases decide (0<=mM (nAt w.aHQ[0].aHL w.aHQ[0].Top) w.aA.aHE)<;>simp
 ·have e:i64.wrap ((k:Int)-1)=((k-1:Nat):Int):=by rw[bO jF jF];omega
  have j:k-1<w.aHQ.length:=by omega
  have e3:decide (w.aHQ[k-1].Id>=w.aHQ[k].Id)= !decide (w.aHQ[k-1].Id<w.aHQ[k].Id):=by rw[Bool.eq_iff_iff];simp
  rw[if_pos (c:=(decide ((k:Int)>0))=true) jG,e,aK j,qA,qF j,e3]
  simp only[qf,h0,decide_false,Bool.false_or]
  cases DA w.aHQ[k]<;>cases decide (w.aHQ[k].Id<w.aHK)<;>cases decide (w.aHQ[k-1].Id<w.aHQ[k].Id)<;>cases decide (0<=mM (nAt w.aHQ[k].aHL w.aHQ[k].Top) w.aA.aHE)<;>simp
theorem SH{w:M.World}(C:w.ok){E:Option Bool}(I:∀n,fI w (n+1) (w.aHQ.length:Int)=E):fI w fuel 0=if(List.range w.aHQ.length).all (DS w)=true then E else some false:=by
 have U:=le_max C.aHQ.1
 refine oZ (L:=fI w) (g:=DS w) (F:=some false) (E:=E) C.aHQ.1 (λn k hk=> ?_) I
 have J:=C.aHQ.2 _ (qG hk)
 simp only[fI]
 rw[if_pos (aY hk),aK hk,qA,bD jF,Dx J,qA,CP C.aA,qA]
 unfold DS
 rw[qF hk,qf]
 generalize fI w n ((k+1:Nat):Int)=Z
 have e1:decide (w.aHQ[k].Id>=w.aHK)= !decide (w.aHQ[k].Id<w.aHK):=by rw[Bool.eq_iff_iff];simp
 have e2:decide (mM (nAt w.aHQ[k].aHL w.aHQ[k].Top) w.aA.aHE<0)= !decide (0<=mM (nAt w.aHQ[k].aHL w.aHQ[k].Top) w.aA.aHE):=by rw[Bool.eq_iff_iff];simp
 rw[e1]
 simp only[e2]
 by_cases h0:k=0
 ·subst h0;cases DA w.aHQ[0]<;>cases decide (w.aHQ[0].Id<w.aHK)<;>cases decide (0<=mM (nAt w.aHQ[0].aHL w.aHQ[0].Top) w.aA.aHE)<;>simp
 ·have e:i64.wrap ((k:Int)-1)=((k-1:Nat):Int):=by rw[bO jF jF];omega
  have j:k-1<w.aHQ.length:=by omega
  have e3:decide (w.aHQ[k].Id<=w.aHQ[k-1].Id)= !decide (w.aHQ[k-1].Id<w.aHQ[k].Id):=by rw[Bool.eq_iff_iff];simp
  rw[if_pos (c:=(decide ((k:Int)>0))=true) jG,e,aK j,qA,qF j,e3]
  simp only[qf,h0,decide_false,Bool.false_or]
  cases DA w.aHQ[k]<;>cases decide (w.aHQ[k].Id<w.aHK)<;>cases decide (w.aHQ[k-1].Id<w.aHQ[k].Id)<;>cases decide (0<=mM (nAt w.aHQ[k].aHL w.aHQ[k].Top) w.aA.aHE)<;>simp
theorem Gl{w:M.World}(J:w.ok)(hz:∀b∈w.aA.aHE,M.aHB.sz b.bP.aHa<=1048576):iU w=some (zZ w):=by
 unfold iU zZ
 by_cases h1:w.aHZ.length=3
 ·by_cases h2:w.aHT.length=3
  ·have e3:decide ((w.aHQ.length:Int)>6)= !decide (w.aHQ.length<=6):=by rw[Bool.eq_iff_iff];simp;omega
   rw[if_neg (by rw[h1];simp),if_neg (by rw[h2];simp),e3,decide_eq_true h1,decide_eq_true h2]
   rw[oZ (N:=3) (L:=mS w) (g:=HO w) (F:=some false) (E:=dZ w fuel 0) jN (λn k hk=> ?_) (λn=> ?_),
    Tk J (E:=some (inR w.Now 0 999999990000&&(inR w.aHI 1 1000000&&(pI w.aA&&(inR w.aHK 1 1000000000000&&Gy w.aHR))))) (λn=> ?_)]
   ·cases decide (w.aHQ.length<=6)<;>cases (List.range 3).all (HO w)<;>cases (List.range w.aHQ.length).all (DS w)<;>simp
   ·simp only[dZ];rw[if_neg jO];simp only[cK,CA J.aA hz,IQ J.aHR,qA,bA]
   ·have j:k<w.aHZ.length:=by omega
    have C:k<w.aHT.length:=by omega
    have I:k<sI.length:=by rw[QK];exact hk
    have U:vC=some sI:=rfl
    simp only[mS,U,qA]
    rw[if_pos jG,aK j,qA,bD jF,E1 (J.aHZ.2 _ (qG j)),qA,aK I,qA,aK C,qA,Cc (J.aHT.2 _ (qG C)),qA]
    unfold HO
    rw[qF j,qF C,qF I]
    simp only[qf]
    generalize mS w n ((k+1:Nat):Int)=Z
    have gen:∀(a b c:Bool),(if(!a)=true then some false else if(!b)=true then some false else if(!c)=true then some false else Z)=if(a&&(b&&c))=true then Z else some false:=by intro a b c;cases a<;>cases b<;>cases c<;>rfl
    exact gen _ _ _
   ·simp only[mS];rw[if_neg jH]
  ·rw[if_neg (by rw[h1];simp),if_pos jG,decide_eq_false h2];simp
 ·rw[if_pos jG,decide_eq_false h1];simp
theorem Gp{w:M.World}(J:w.ok)(U:∀b∈w.aA.aHE,M.aHB.sz b.bP.aHa<=1048576):nL w=some (zZ w):=by
 unfold nL zZ
 have e3:decide ((w.aHQ.length:Int)>6)= !decide (w.aHQ.length<=6):=by rw[Bool.eq_iff_iff];simp;omega
 have e1:((w.aHZ.length:Int) !=3)= !decide (w.aHZ.length=3):=by rw[Bool.eq_iff_iff];simp;omega
 have e2:((w.aHT.length:Int) !=3)= !decide (w.aHT.length=3):=by rw[Bool.eq_iff_iff];simp;omega
 simp only[bU,CH J.aA U,Iu J.aHR,qA,e1,e2,e3]
 by_cases h1:w.aHZ.length=3
 ·by_cases h2:w.aHT.length=3
  ·rw[SH J (E:=kD w fuel 0) (λn=>by
     simp only[fI]
     rw[if_neg jO]),
    oZ (N:=3) (L:=kD w) (g:=HO w) (F:=some false) (E:=some true) jN (λn k hk=> ?_) (λn=> ?_)]
   ·rw[decide_eq_true h1,decide_eq_true h2];cases inR w.Now 0 999999990000<;>cases inR w.aHI 1 1000000<;>cases pI w.aA<;>cases decide (w.aHQ.length<=6)<;>cases inR w.aHK 1 1000000000000<;>cases Gy w.aHR<;>cases (List.range 3).all (HO w)<;>cases (List.range w.aHQ.length).all (DS w)<;>rfl
   ·have j:k<w.aHZ.length:=by omega
    have C:k<w.aHT.length:=by omega
    have I:k<sI.length:=by rw[QK];exact hk
    simp only[kD]
    rw[if_pos (aY j),aK j,qA,bD jF,EW (J.aHZ.2 _ (qG j)),qA,A4,qA,aK C,qA,Lk (J.aHT.2 _ (qG C)),qA,vV,U9 I]
    unfold HO
    rw[qF j,qF C,qF I]
    simp only[qf]
    generalize kD w n ((k+1:Nat):Int)=Z
    have gen:∀(a b c:Bool),(if(!a)=true then some false else if b=true then if(!c)=true then some false else Z else some false)=if(a&&(b&&c))=true then Z else some false:=by intro a b c;cases a<;>cases b<;>cases c<;>rfl
    exact gen _ _ _
   ·simp only[kD];rw[if_neg (by rw[h1];simp)]
  ·rw[decide_eq_true h1,decide_eq_false h2];cases inR w.Now 0 999999990000<;>cases inR w.aHI 1 1000000<;>cases pI w.aA<;>cases decide (w.aHQ.length<=6)<;>cases inR w.aHK 1 1000000000000<;>cases Gy w.aHR<;>rfl
 ·rw[decide_eq_false h1];cases inR w.Now 0 999999990000<;>cases inR w.aHI 1 1000000<;>cases pI w.aA<;>cases decide (w.aHQ.length<=6)<;>cases inR w.aHK 1 1000000000000<;>cases Gy w.aHR<;>rfl
theorem Rt{w:M.World}(j:M.World.sz w<=1048576):∀b∈w.aA.aHE,M.aHB.sz b.bP.aHa<=1048576:=λb hb=>DP (by have h1:=Ez j;have h2:=eU (f:=M.aHD.sz) hb;simp only[M.aA.sz]at h1;omega)
theorem CV{w:M.World}(j:w.ok)(C:M.World.sz w<=1048576):iU w=some (zZ w):=Gl j (Rt C)
theorem He{w:M.World}(j:w.ok)(C:M.World.sz w<=1048576):nL w=some (zZ w):=Gp j (Rt C)
def okC(b:List Int)(i h:Int):Prop:=b.length<=1048576/\(∀x∈b,0<=x/\x<=255)/\0<=i/\i<=1048576/\inI h
def Dr{α:Type}(b:List Int)(P:α->Prop)(o:Option (Int×Int×α)):Prop:=∃i h r,o=some (i,h,r)/\okC b i h/\P r
theorem Dr.ret{α:Type}{b:List Int}{P:α->Prop}{i h:Int}{r:α}(hc:okC b i h)(j:P r):Dr b P (some (i,h,r)):=⟨i,h,r,rfl,hc,j⟩
theorem Dr.bnd{α β:Type}{b:List Int}{P:β->Prop}{Q:α->Prop}{o:Option (Int×Int×α)}{f:Int×Int×α->Option (Int×Int×β)}(C:Dr b Q o)(j:∀i h r,okC b i h->Q r->Dr b P (f (i,h,r))):Dr b P (o.bind f):=by obtain⟨i,h,r,rfl,hc,I⟩:=C;exact j i h r hc I
theorem Dr.Ha{α β:Type}{b:List Int}{P:β->Prop}{Q:α->Prop}{o:Option α}{f:α->Option (Int×Int×β)}(C:∃r,o=some r/\Q r)(j:∀r,Q r->Dr b P (f r)):Dr b P (o.bind f):=by obtain⟨r,rfl,I⟩:=C;exact j r I
theorem Dr.mono{α:Type}{b:List Int}{P Q:α->Prop}{o:Option (Int×Int×α)}(h:∀r,P r->Q r)(C:Dr b P o):Dr b Q o:=by obtain⟨i,j,r,e,hc,I⟩:=C;exact⟨i,j,r,e,hc,h r I⟩
theorem Ca{σ R:Type}{L:Nat->Int->σ->Option R}{I:Nat->σ->Prop}{Q:Option R->Prop}(h1:∀n (k:Nat) s,I (k+1) s->(∀s',I k s'->Q (L n (k:Int) s'))->Q (L (n+1) ((k+1:Nat):Int) s))(J:∀n s,I 0 s->Q (L (n+1) 0 s)):∀(n k:Nat) (s:σ),k<n->I k s->Q (L n (k:Int) s)
 |0,_,_,h,_=>by omega
 |n+1,0,s,_,j=>J n s j
 |n+1,k+1,s,h,j=>h1 n k s j λs' C=>Ca h1 J n k s' jF C
theorem Yn{σ R:Type}{N:Nat}{L:Nat->Int->σ->Option R}{I:Nat->σ->Prop}{Q:Option R->Prop}(h1:∀n (k:Nat) s,k<N->I k s->(∀s',I (k+1) s'->Q (L n ((k+1:Nat):Int) s'))->Q (L (n+1) (k:Int) s))(h2:∀n s,I N s->Q (L (n+1) (N:Int) s)):∀(n k:Nat) (s:σ),N-k<n->k<=N->I k s->Q (L n (k:Int) s)
 |0,_,_,h,_,_=>by omega
 |n+1,k,s,h,hk,C=>by
  rcases Nat.lt_or_ge k N with hlt|hge
  ·exact h1 n k s hlt C λs' j=>Yn h1 h2 n (k+1) s' jF jF j
  ·have e:k=N:=by omega
   subst e
   exact h2 n s C
theorem nJ{k:Nat}(h:k<=9223372036854775808):k<fuel:=by unfold fuel;omega
theorem Pg(x:BitVec IntKind.i64.bits):0<=i64.wrap ((x&&&BitVec.ofInt IntKind.i64.bits 255).toNat:Int)/\i64.wrap ((x&&&BitVec.ofInt IntKind.i64.bits 255).toNat:Int)<=255:=by
 have h1:(x&&&BitVec.ofInt IntKind.i64.bits 255).toNat<=255:=by rw[BitVec.toNat_and];exact qh Nat.and_le_right jI
 rw[bO jF jF]
 omega
theorem Ie{b:List Int}{i h:Int}(hc:okC b i h):Dr b (λr=>0<=r/\r<=255) (uH (⟨b,i,h⟩:M.aQ)):=by
 obtain⟨h1,h2,h3,h4,h5⟩:=hc
 unfold uH
 by_cases hl:i<(b.length:Int)
 ·rw[if_pos (by simpa using hl)]
  obtain⟨k,rfl⟩:=Int.eq_ofNat_of_zero_le h3
  have hk:k<b.length:=by omega
  show Dr b _ ((idx b (k:Int)).bind _)
  rw[aK hk,qA]
  refine .ret ⟨h1,h2,?_,?_,bJ _⟩ (Pg _)
  ·show 0<=i64.wrap ((k:Int)+1);rw[bD jF];omega
  ·show i64.wrap ((k:Int)+1)<=_;rw[bD jF];omega
 ·rw[if_neg (by simpa using hl)];exact .ret ⟨h1,h2,h3,h4,bJ _⟩ (Pg _)
theorem QO{x n:Int}(j:0<=x)(C:0<n):x%n<=x:=by have h1:=Int.emod_add_mul_ediv x n;have h2:0<=n*(x/n):=Int.mul_nonneg jF (Int.ediv_nonneg j jF);omega
theorem U2{x n:Int}(C:0<=x)(j:0<n):0<=Int.tmod x n/\Int.tmod x n<n:=by rw[Int.tmod_eq_emod_of_nonneg C];exact⟨Int.emod_nonneg _ jF,Int.emod_lt_of_pos _ j⟩
theorem aW{b:List Int}{i h n:Int}(hc:okC b i h):Dr b (λr=>0<=r/\(0<n->r<n)/\r<=16777215) (aG (⟨b,i,h⟩:M.aQ) n):=by
 unfold aG
 by_cases h0:n<=0
 ·rw[if_pos (by simpa using h0)];exact .ret hc ⟨jF,jF,jF⟩
 ·rw[if_neg (by simpa using h0)]
  by_cases h1:n<=256
  ·rw[if_pos (by simpa using h1)]
   refine .bnd (Ie hc) λi1 v1 j I U=> ?_
   rw[if_neg jG]
   have:=U2 U.1 (show 0<n by omega)
   exact .ret I ⟨this.1,λ_=>this.2,by show Int.tmod j n<=_;omega⟩
  ·rw[if_neg (by simpa using h1)]
   refine .bnd (Ie hc) λi1 v1 j I U=>.bnd (Ie I) λi2 v2 C c2 q2=>.bnd (Ie c2) λi3 v3 J c3 q3=> ?_
   rw[if_neg jG]
   dsimp only
   rw[bO (n:=j*65536) jF jF,bO (n:=C*256) jF jF,bO (n:=j*65536+C*256) jF jF,bO jF jF]
   have:=U2 (show 0<=j*65536+C*256+J by omega) (show 0<n by omega)
   have h3:=Int.tmod_eq_emod_of_nonneg (b:=n) (show 0<=j*65536+C*256+J by omega)
   have h4:=QO (n:=n) (show 0<=j*65536+C*256+J by omega) (show 0<n by omega)
   exact .ret c3 ⟨this.1,λ_=>this.2,jF⟩
theorem Ay{b:List Int}{i h n:Int}(hc:okC b i h):Dr b (λ_=>True) (cF (⟨b,i,h⟩:M.aQ) n):=by unfold cF;exact .bnd (aW hc) λi1 J I j C=>.ret j trivial
theorem uE{b:List Int}{i h:Int}{l:List Int}(P:Int->Prop)(J:0<l.length)(I:∀x∈l,P x)(hc:okC b i h):Dr b P (bN (⟨b,i,h⟩:M.aQ) l):=by
 unfold bN
 refine .bnd (aW hc) λi1 v1 U C j=> ?_
 dsimp only
 obtain⟨k,rfl⟩:=Int.eq_ofNat_of_zero_le j.1
 have:=j.2.1 jF
 have hk:k<l.length:=by omega
 rw[aK hk,qA]
 exact .ret C (I _ (qG hk))
theorem BT{b:List Int}{i h:Int}{l:List ByteArray}(P:ByteArray->Prop)(J:0<l.length)(I:∀x∈l,P x)(hc:okC b i h):Dr b P (eC (⟨b,i,h⟩:M.aQ) l):=by
 unfold eC
 refine .bnd (aW hc) λi1 v1 U C j=> ?_
 dsimp only
 obtain⟨k,rfl⟩:=Int.eq_ofNat_of_zero_le j.1
 have:=j.2.1 jF
 have hk:k<l.length:=by omega
 rw[aK hk,qA]
 exact .ret C (I _ (qG hk))
theorem Sn{b:List Int}:∀(n k:Nat) (v:Int),b.length-k<n->k<=b.length->b.length<=1048576->inI v->∃h,oK b n v (k:Int)=some (⟨b,0,h⟩:M.aQ)/\inI h
 |0,_,_,h,_,_,_=>by omega
 |n+1,k,v,h,hk,C,j=>by simp only[oK];by_cases h1:k<b.length;(rw[if_pos (aY h1)];by_cases h2:(k:Int)<4000;(rw[if_pos (by simpa using h2),aK h1,qA,bD jF];exact Sn n (k+1) _ jF jF C (bJ _));·rw[if_neg (by simpa using h2)];exact⟨v,rfl,j⟩);·rw[if_neg jG];exact⟨v,rfl,j⟩
theorem Zm{b:List Int}(j:b.length<=1048576)(hb:∀x∈b,0<=x/\x<=255):∃h,C7 b=some (⟨b,0,h⟩:M.aQ)/\okC b 0 h:=by unfold C7;obtain⟨h,e1,e2⟩:=Sn (b:=b) fuel 0 (i64.wrap (193017+(List.length b:Int))) (nJ jF) jF j (bJ _);exact⟨h,e1,j,hb,jF,jF,e2⟩
theorem BW{r:Int}(h:0<=r):∃k:Nat,r=(k:Int):=⟨r.toNat,jF⟩
theorem K3{n:Int}(h1: -1000000000000000<=n)(h2:n<=1000000000000000):inI n:=by unfold inI;omega
theorem E7{s:ByteArray}(h:s.size<=8):s.size<=maxLen:=by unfold maxLen;omega
theorem wrap_small{n:Int}(h1: -1000000000000000<=n)(h2:n<=1000000000000000):i64.wrap n=n:=bO jF jF
theorem H4{b:List Int}{i h:Int}(hc:okC b i h):Dr b (λs=>s.size<=8) (nP (⟨b,i,h⟩:M.aQ)):=by unfold nP;exact .bnd (BT (λs=>s.size<=8) jI jI hc) λi1 J I j C=>.ret j C
theorem PT{b:List Int}{i h:Int}(hc:okC b i h):Dr b (λs=>s.size<=8) (xQ (⟨b,i,h⟩:M.aQ)):=by unfold xQ;exact .bnd (BT (λs=>s.size<=8) jI jI hc) λi1 J I j C=>.ret j C
theorem Ba{b:List Int}{i h:Int}(hc:okC b i h):Dr b (λs=>s.size<=8) (dC (⟨b,i,h⟩:M.aQ)):=by unfold dC;exact .bnd (BT (λs=>s.size<=8) jI jI hc) λi1 J I j C=>.ret j C
theorem CM{a:ByteArray}:rL a=some (En a):=by unfold rL;rw[show vC=some sI from rfl,qA];rw[findAll (L:=kR a sI) (f:=λx:ByteArray=>x.toList==a.toList) (A:=λi=>some (i:Int)) (E:=some (-1)) Na (λm k hk=> ?_) (λm=> ?_),pM];(rfl);(have j:k<3:=hk;simp only[kR];rw[if_pos (aY hk),aK hk,qA,bD jF]);·simp only[kR];rw[if_neg jO]
def Ty(d:Int):M.World:=if 1<=d/\d<=1000000 then(⟨0,true,d,(⟨([]:List M.aHD)⟩:M.aA),([]:List M.bC),1,(⟨([]:List M.dO)⟩:M.aM),(⟨([]:List M.mI)⟩:M.aHN),
   sI.map (λx=>(⟨x,1,[(⟨#[99,111,100,101]⟩:ByteArray),(⟨#[100,97,116,97]⟩:ByteArray),(⟨#[105,110,100,101,120]⟩:ByteArray),(⟨#[115,116,121,108,101]⟩:ByteArray)],x.toList==(⟨#[110,101,119,115]⟩:ByteArray).toList⟩:M.aHL)),
   sI.map (λ_=>(⟨(⟨(⟨#[110,111,116,101,115]⟩:ByteArray),([]:List M.aHV),0⟩:M.aC),([]:List M.aO),([]:List M.bB)⟩:M.aHO))⟩:M.World)
  else(⟨0,false,0,(⟨([]:List M.aHD)⟩:M.aA),([]:List M.bC),0,(⟨([]:List M.dO)⟩:M.aM),(⟨([]:List M.mI)⟩:M.aHN),([]:List M.aHL),([]:List M.aHO)⟩:M.World)
theorem aBZ:∃n,fuel=n+4:=⟨fuel-4,jM⟩
theorem L3{d:Int}:AK d=some (Ty d):=by unfold AK Ty aZ;by_cases h:1<=d/\d<=1000000;(rw[if_pos h,if_pos (by simpa using h.1),qA,if_neg (by simpa using h.2)];obtain⟨n,j⟩:=aBZ;rw[j];rfl);·rw[if_neg h];by_cases h1:1<=d;(rw[if_pos (by simpa using h1),qA,if_pos jG]);·rw[if_neg (by simpa using h1),qA,if_pos jH]
theorem VC{l:List M.bC}{f:Int}(j:l.length<=maxLen):BD l f=some (mM (λp:M.bC=>p.Id==f) l):=by have C:=le_max j;unfold BD;rw[findAll (L:=pS l f) (f:=λp:M.bC=>p.Id==f) (A:=λi=>some (i:Int)) (E:=some (-1)) j (λm k hk=> ?_) (λm=> ?_),pM];(simp only[pS];rw[if_pos (aY hk),aK hk,qA,bD jF]);·simp only[pS];rw[if_neg jO]
def NX(w:M.World)(f:Int):Int:=mM (λp:M.bC=>p.Id==f) w.aHQ
theorem Ko{w:M.World}{f:Int}(j:w.ok):Aa w f=some (NX w f):=by unfold Aa;rw[VC j.aHQ.1,qA];rfl
theorem Fq{w:M.World}{f:Int}(j:w.ok):wP w f=some (NX w f):=by unfold wP;rw[KW (p:=λC=>xF C f) (f:=λp:M.bC=>p.Id==f) j.aHQ.1 (λx _=>rfl),qA];rfl
theorem aAL{b:List Int}{i1 U:Int}{J:ByteArray}(c1:okC b i1 U)(q1:J.size<=8):∃r:ByteArray×Int×Int,((cF (⟨b,i1,U⟩:M.aQ) 3).bind λj=>if j.2.2=true then(nP (⟨b,j.1,j.2.1⟩:M.aQ)).bind λC=>some (C.2.2,C.1,C.2.1)else some (J,j.1,j.2.1))=some r/\(r.1.size<=8/\okC b r.2.1 r.2.2):=by obtain⟨i2,v2,r2,e2,I,q2⟩:=Ay (n:=3) c1;rw[e2,qA];dsimp only;split;(obtain⟨i3,v3,r3,e3,c3,q3⟩:=H4 I;rw[e3,qA];exact⟨_,rfl,q3,c3⟩);·exact⟨_,rfl,q1,I⟩
theorem Ts(k:Nat):(decide (((k+1:Nat):Int)>0))=true:=decide_eq_true jF
theorem KC:¬(decide ((0:Int)>0))=true:=by simp
theorem KS{k:Nat}(h:k+1<=100000):i64.wrap (((k+1:Nat):Int)-1)=(k:Int):=by rw[wrap_small jF jF];omega
theorem bgI{x:Int}(h: -1000000000000000<=x/\x<=1000000000000000):inI x:=K3 h.1 h.2
theorem Ws{r n:Int}(q:0<=r/\(0<n->r<n)/\r<=16777215): -1000000000000000<=r/\r<=1000000000000000:=⟨jF,jF⟩
theorem aDg{x:Int}(q: -1000000000000<=x/\x<=1000000000000/\(x<=256\/x=1000000000000)): -1000000000000000<=x/\x<=1000000000000000:=⟨jF,jF⟩
theorem aGX{r n:Int}(q:0<=r/\(0<n->r<n)/\r<=16777215)(j:0<n)(h:n<=1000):0<=r/\r<=1000:=⟨q.1,by have:=q.2.1 j;omega⟩
theorem s16{s:ByteArray}(h:s.size<=16):s.size<=maxLen:=by unfold maxLen;omega
theorem ml{n:Nat}(h:n<=1000000):n<=maxLen:=by unfold maxLen;omega
theorem BF{α:Type}{b:Nat}{xs ys:List α}(h:xs.length+ys.length<=1000000)(hb:b<=1000):app b xs ys=some (xs++ys):=dY (qh (Nat.mul_le_mul h hb) jF)
def Of(k:M.Key):Prop:=M.Key.ok k/\k.aHi.size<=16
theorem mkKey{a n:Int}{s:ByteArray}(h1: -1000000000000000<=a/\a<=1000000000000000)(h2: -1000000000000000<=n/\n<=1000000000000000)(h3:s.size<=16):Of (⟨a,n,s⟩:M.Key):=⟨⟨bgI h1,bgI h2,s16 h3⟩,h3⟩
def Q0(k:M.Key):Prop:=k.aHb=1/\0<=k.N/\k.N<=5/\k.aHi=(⟨#[]⟩:ByteArray)
theorem Q0.any{k:M.Key}(h:Q0 k):Of k:=by obtain⟨a,n,s⟩:=k;obtain⟨h1,h2,h3,h4⟩:=h;dsimp only at h1 h2 h3 h4;subst h4;exact mkKey jF jF jI
def N0(k:M.Key):Prop:=Of k/\(k.aHb=1->k.N<=256\/k.N=1000000000000)
theorem Q0.auto{k:M.Key}(h:Q0 k):N0 k:=⟨h.any,λ_=>.inl (by have:=h.2.2.1;omega)⟩
theorem zW{b:List Int}{i h:Int}(C:okC b i h):Dr b Q0 (dN (⟨b,i,h⟩:M.aQ)):=by
 unfold dN
 refine .bnd (aW C) λi1 U J I j=> ?_
 have:=j.2.1 jF
 exact .ret I ⟨rfl,j.1,by show J<=5;omega,rfl⟩
theorem Nz{b:List Int}{i h:Int}(C:okC b i h):Dr b (λx=> -1000000000000<=x/\x<=1000000000000/\(x<=256\/x=1000000000000)) (yF (⟨b,i,h⟩:M.aQ)):=by
 unfold yF
 refine .bnd (aW C) λi1 v1 r1 I j=> ?_
 have:=j.2.1 jF
 have:=j.1
 exact .bnd (uE (λx=> -1000000000000<=x/\x<=1000000000000/\(x<=256\/x=1000000000000)) jH (λx U=>by simp only[qq,qO,or_false]at U;omega) I) λi2 v2 r2 J q2=>.ret J q2
theorem VB{b:List Int}{i h:Int}(U:okC b i h):Dr b N0 (BZ (⟨b,i,h⟩:M.aQ)):=by
 unfold BZ
 refine .bnd (BT (λs=>s.size<=16) jI jI U) λi1 v1 r1 c1 J=>.bnd (aW c1) λi2 v2 r2 C q2=> ?_
 dsimp only
 split
 ·exact .ret C ⟨mkKey jF jF J,λh=>by have h':(2:Int)=1:=h;omega⟩
 split
 ·exact .bnd (Nz C) λi3 v3 r3 I j=>.ret I ⟨mkKey jF (aDg j) J,λh=>by have h':(3:Int)=1:=h;omega⟩
 ·exact .bnd (Nz C) λi3 v3 r3 I j=>.ret I ⟨mkKey jF (aDg j) jI,λ_=>j.2.2⟩
theorem Qw{b:List Int}{i h:Int}(c0:okC b i h):Dr b Of (AF (⟨b,i,h⟩:M.aQ)):=by
 unfold AF
 refine .bnd (VB c0) λi1 v1 r1 c1 q1=>.bnd (aW c1) λi2 v2 r2 I q2=> ?_
 dsimp only
 have hk:=q1.1
 split
 ·exact .bnd (aW I) λi3 U J C j=>.ret C ⟨⟨bgI (Ws j),hk.1.N,hk.1.aHi⟩,hk.2⟩
 split
 ·exact .bnd (uE (λx=> -1000000000000000<=x/\x<=1000000000000000) jI jI I) λi3 U J C j=>.ret C ⟨⟨hk.1.aHb,bgI j,hk.1.aHi⟩,hk.2⟩
 split
 ·exact .bnd (BT (λs=>s.size<=16) jI jI I) λi3 U J C j=>.ret C ⟨⟨hk.1.aHb,hk.1.N,s16 j⟩,j⟩
 ·exact .ret I hk
def Lr(r:M.aD):Prop:=r.ok/\cC r=true
