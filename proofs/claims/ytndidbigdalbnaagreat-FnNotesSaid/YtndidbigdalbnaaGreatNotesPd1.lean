/-
  Helper text. No conditions.
-/
import Derived.Test.YtndidbigdalbnaaGreatNotesPd0
set_option linter.all false
namespace Go.Proofs.YtndidbigdalbnaaGreat.gen
open Go Go.Sh
open Go.IntKind (i64)
theorem Gz{p:M.aK2->Option Bool}{f:M.aK2->Bool}{xs:List M.aK2}(j:xs.length<=maxLen)(C:∀x∈xs,p x=some (f x)):mP xs p=some (gJ f xs):=by
 have I:=aZ j
 unfold mP
 rw[oQ (L:=dV xs p) (f:=f) (A:=λi=>some (i:Int)) (E:=some (-1)) j (λn k hk=>by
  simp only[dV]
  rw[jF (bE hk),aK hk,qA,C _ (qG hk),qA,bM wg]) (λn=>by
  simp only[dV]
  rw[jG wF]),tK]
theorem MI{p:M.aD->Option Bool}{f:M.aD->Bool}{xs:List M.aD}(j:xs.length<=maxLen)(C:∀x∈xs,p x=some (f x)):oA xs p=some (gJ f xs):=by
 have I:=aZ j
 unfold oA
 rw[oQ (L:=eD xs p) (f:=f) (A:=λi=>some (i:Int)) (E:=some (-1)) j (λn k hk=>by
  simp only[eD]
  rw[jF (bE hk),aK hk,qA,C _ (qG hk),qA,bM wg]) (λn=>by
  simp only[eD]
  rw[jG wF]),tK]
theorem Ih{p:M.aKy->Option Bool}{f:M.aKy->Bool}{xs:List M.aKy}(j:xs.length<=maxLen)(C:∀x∈xs,p x=some (f x)):lL xs p=some (gJ f xs):=by
 have I:=aZ j
 unfold lL
 rw[oQ (L:=eP xs p) (f:=f) (A:=λi=>some (i:Int)) (E:=some (-1)) j (λn k hk=>by
  simp only[eP]
  rw[jF (bE hk),aK hk,qA,C _ (qG hk),qA,bM wg]) (λn=>by
  simp only[eP]
  rw[jG wF]),tK]
theorem Hl{p:M.aR->Option Bool}{f:M.aR->Bool}{xs:List M.aR}(j:xs.length<=maxLen)(C:∀x∈xs,p x=some (f x)):oG xs p=some (gJ f xs):=by
 have I:=aZ j
 unfold oG
 rw[oQ (L:=eB xs p) (f:=f) (A:=λi=>some (i:Int)) (E:=some (-1)) j (λn k hk=>by
  simp only[eB]
  rw[jF (bE hk),aK hk,qA,C _ (qG hk),qA,bM wg]) (λn=>by
  simp only[eB]
  rw[jG wF]),tK]
def nAt(a b:ByteArray)(x:M.aKe):Bool:=(x.aKl.toList==a.toList)&&(x.Top.toList==b.toList)
theorem lF{s:M.aC}{a b:ByteArray}(j:s.ok):dZ s a b=some (gJ (nAt a b) s.aKf):=by have C:=aZ j.aKf.1;unfold dZ;rw[oQ (L:=iN s a b) (f:=nAt a b) (A:=λi=>some (i:Int)) (E:=some (-1)) j.aKf.1 (λm k hk=> ?_) (λm=> ?_),tK];(simp only[iN];rw[jF (bE hk),aK hk,qA,bM wg,aAo];rfl);·simp only[iN];rw[jG wF]
theorem xN{s:M.aC}{a b:ByteArray}(j:s.ok):nU s a b=some (gJ (nAt a b) s.aKf):=by unfold nU;rw[Ld (f:=nAt a b) j.aKf.1 (λx _=>by simp only[xV,bI];rfl),qA]
def EC(l:List M.aKy)(k:Nat):Bool:=(l[k]?).any (λx=>Ec x.Key&&cV x.aF)&&(decide (k=0)||(l[k-1]?).any λy=>(l[k]?).any λx=>decide (bZ y.Key x.Key<0))
def iM(s:M.aD):Bool:=(List.range s.aKg.length).all (EC s.aKg)&&(oO s.Name&&(decide (s.aKg.length<=16)&&inR s.aK7 0 1000000))
def GS(x:M.cH):Bool:=inR x.aKk 1 1000000&&(inR x.Seq 1 1000000&&(Ec x.Key&&(oO x.Field&&inR x.N 0 1000000000)))
def GN(o:M.aO)(k:Nat):Bool:=(o.aKw[k]?).any λx=>GS x&&((x.aKk==o.aKk)&&(x.Seq==i64.wrap ((i64.wrap (o.aLE-(o.aKw.length)))+k)))
def uO(o:M.aO):Bool:=(List.range o.aKw.length).all (GN o)&&(inR o.aKk 1 1000000&&(inR o.aLE 1 1000000&&decide (o.aKw.length<=20)))
theorem B2{s:M.aD}(C:s.ok):oP s=some (iM s):=by
 have U:=aZ C.aKg.1
 unfold oP iM
 rw[rO (L:=lN s) (g:=EC s.aKg) (F:=some false) (E:=some (oO s.Name&&(decide (s.aKg.length<=16)&&inR s.aK7 0 1000000))) C.aKg.1 (λn k hk=> ?_) (λn=> ?_),bI]
 ·have I:=C.aKg.2 _ (qG hk)
  simp only[lN]
  rw[jF (bE hk),aK hk,qA,bM wg,oM I.Key,qA,tP I.aF,qA]
  unfold EC
  rw[qF hk]
  generalize lN s n (k+1)=Z
  by_cases h0:k=0
  ·subst h0;simp only[qf];generalize Ec s.aKg[0].Key=a;generalize cV s.aKg[0].aF=b;cases a<;>cases b<;>simp
  ·have e:i64.wrap (k-1)=((k-1:Nat)):=by rw[bO wg wg];omega
   have j:k-1<s.aKg.length:=by omega
   have J:=C.aKg.2 _ (qG j)
   rw[jF (c:=(decide ((k:Int)>0))=true) wV,e,aK j,qA,Ak J.Key I.Key,qA,qF j]
   simp only[qf,h0,jd,ja]
   generalize Ec s.aKg[k].Key=a
   generalize cV s.aKg[k].aF=b
   by_cases hc:bZ s.aKg[k-1].Key s.aKg[k].Key<0
   ·rw[jG (c:=(decide (bZ s.aKg[k-1].Key s.aKg[k].Key>=0))=true) wV];cases a<;>cases b<;>simp[hc]
   ·rw[jF (c:=(decide (bZ s.aKg[k-1].Key s.aKg[k].Key>=0))=true) wV];cases a<;>cases b<;>simp[hc]
 ·simp only[lN];rw[jG wF,dX C.Name,qA,cO,qA,bI,bI];congr 3;simp;omega
theorem CT{x:M.cH}(j:x.ok):lV x=some (GS x):=by unfold lV GS;simp only[cO,oM j.Key,dX j.Field,qA,bI]
theorem BR{s:M.aD}(C:s.ok):cC s=some (iM s):=by
 have U:=aZ C.aKg.1
 unfold cC iM
 rw[rO (L:=lO s) (g:=EC s.aKg) (F:=some false) (E:=some (oO s.Name&&(decide (s.aKg.length<=16)&&inR s.aK7 0 1000000))) C.aKg.1 (λn k hk=> ?_) (λn=> ?_),bI]
 ·have I:=C.aKg.2 _ (qG hk)
  simp only[lO]
  rw[jF (bE hk),aK hk,qA,bM wg,sZ I.Key,qA,AJ I.aF,qA]
  unfold EC
  rw[qF hk]
  generalize lO s n (k+1)=Z
  by_cases h0:k=0
  ·subst h0;simp only[qf];generalize Ec s.aKg[0].Key=a;generalize cV s.aKg[0].aF=b;cases a<;>cases b<;>simp
  ·have e:i64.wrap (k-1)=((k-1:Nat)):=by rw[bO wg wg];omega
   have j:k-1<s.aKg.length:=by omega
   have J:=C.aKg.2 _ (qG j)
   rw[jF (c:=(decide ((k:Int)>0))=true) wV,e,aK j,qA,Af J.Key I.Key,qA,qF j]
   simp only[qf,h0,jd,ja]
   generalize Ec s.aKg[k].Key=a
   generalize cV s.aKg[k].aF=b
   by_cases hc:bZ s.aKg[k-1].Key s.aKg[k].Key<0
   ·rw[jG (c:=(decide (bZ s.aKg[k-1].Key s.aKg[k].Key>=0))=true) wV];cases a<;>cases b<;>simp[hc]
   ·rw[jF (c:=(decide (bZ s.aKg[k-1].Key s.aKg[k].Key>=0))=true) wV];cases a<;>cases b<;>simp[hc]
 ·simp only[lO];rw[jG wF,dG C.Name,qA,bX,qA,bI,bI];congr 3;simp;omega
theorem Fo{x:M.cH}(j:x.ok):pR x=some (GS x):=by unfold pR GS;simp only[bX,sZ j.Key,dG j.Field,qA,bI]
theorem tO{o:M.aO}(j:o.ok):kR o=some (uO o):=by have I:=aZ j.aKw.1;unfold kR uO;rw[rO (L:=oZ o) (g:=GN o) (F:=some false) (E:=some true) j.aKw.1 (λn k hk=> ?_) (λn=> ?_)];(simp only[cO,qA];by_cases h:o.aKw.length<=20;(rw[jG (c:=(decide ((o.aKw.length:Int)>20))=true) wV];cases (List.range o.aKw.length).all (GN o)<;>cases inR o.aKk 1 1000000<;>cases inR o.aLE 1 1000000<;>simp[h]);·rw[jF (c:=(decide ((o.aKw.length:Int)>20))=true) wV];cases inR o.aKk 1 1000000<;>cases inR o.aLE 1 1000000<;>simp[h]);(have C:=j.aKw.2 _ (qG hk);simp only[oZ];rw[jF (bE hk),aK hk,qA,bM wg,CT C,qA];unfold GN;rw[qF hk,qf];simp only[yJ,iD,aAo]);·simp only[oZ];rw[jG wF]
theorem Gc{o:M.aO}(j:o.ok):yA o=some (uO o):=by have I:=aZ j.aKw.1;unfold yA uO;rw[rO (L:=pA o) (g:=GN o) (F:=some false) (E:=some (inR o.aKk 1 1000000&&(inR o.aLE 1 1000000&&decide (o.aKw.length<=20)))) j.aKw.1 (λn k hk=> ?_) (λn=> ?_),bI];(have C:=j.aKw.2 _ (qG hk);simp only[pA];rw[jF (bE hk),aK hk,qA,bM wg,Fo C,qA];unfold GN;rw[qF hk,qf];simp only[yJ,iD,aAo]);·simp only[pA];rw[jG wF];simp only[bX,qA,bI];congr 3;simp;omega
def DU(r:M.aH):Bool:=iM r.aK1&&((r.aK1.Name.toList==(⟨#[110,111,116,101,115]⟩:ByteArray).toList)&&(inR r.aLT 0 1000000000000&&uO r.aK3.aO))
theorem Dg{r:M.aH}(j:r.ok):rD r=some (DU r):=by unfold rD DU;simp only[B2 j.aK1,cO,tO j.aK3.aO,qA,bI]
theorem H9{r:M.aH}(j:r.ok):zN r=some (DU r):=by unfold zN DU;simp only[BR j.aK1,bX,Gc j.aK3.aO,qA,bI]
theorem HB{α:Type}{f:α->Bool}{xs:List α}{k:Nat}(hk:k<xs.length)(I:f xs[k]=true):(gJ f xs==k)=(List.range k).all (λj=> !((xs[j]?).any f)):=by
 rw[jR]
 simp only[beq_iff_eq,qR,qS]
 constructor
 ·intro h j C
  unfold gJ at h
  cases e:xs.findIdx? f with
  |none=>rw[e]at h;simp only at h;omega
  |some i=>
   rw[e]at h
   simp only at h
   have:i=k:=by omega
   subst this
   have:=(List.findIdx?_eq_some_iff_getElem.1 e).2.2 j C
   rw[qF wg]
   simpa using this
 ·intro h;have e:xs.findIdx? f=some k:=List.findIdx?_eq_some_iff_getElem.2 ⟨hk,I,λj C=>by have:=h j C;rw[qF wg]at this;simpa using this⟩;unfold gJ;rw[e]
def IF(a b:ByteArray)(x:M.aK2):Bool:=(x.aKl.toList==a.toList)&&(x.aLQ.toList==b.toList)
theorem Jk{c:M.aKv}{a b:ByteArray}(hc:c.ok):sV c a b=some (gJ (IF a b) c.aKs):=by unfold sV;rw[Gz (f:=IF a b) hc.aKs.1 (λx _=>by simp only[yY,bI];rfl),qA]
def Iy(r:M.aKo):Bool:=inR r.aLX 1 4&&(inR r.aLV 0 999&&(inR r.aKb 0 1000000000000&&decide ((r.aLZ.length:Int)<=60)))
theorem Mf(r:M.aKo):A3 r=some (Iy r):=by unfold A3 Iy;simp only[cO,qA,bI]
theorem Hp(r:M.aKo):xC r=some (Iy r):=by unfold xC Iy;simp only[bX,qA,bI]
def aBL(l:List M.aK2)(k:Nat)(x:M.aK2):Bool:=(List.range k).all λj=> !((l[j]?).any (IF x.aKl x.aLQ))
def EI(l:List M.aK2)(k:Nat):Bool:=(l[k]?).any λx=>oO x.aKl&&(oO x.aLQ&&(Iy x.aKo&&aBL l k x))
def HO(l:List M.aK2):Bool:=(List.range l.length).all (EI l)&&decide (l.length<=12)
theorem Mu{l:List M.aK2}(I:l.length<=maxLen/\∀x∈l,M.aK2.ok x):xD l=some (HO l):=by
 have hm:=aZ I.1
 unfold xD HO
 rw[rO (L:=fU l) (g:=EI l) (F:=some false) (E:=some (decide (l.length<=12))) I.1 (λn k hk=> ?_) (λn=> ?_),bI]
 ·have J:=I.2 _ (qG hk)
  simp only[fU]
  rw[jF (bE hk),aK hk,qA,bM wg,dX J.aKl,qA,dX J.aLQ,qA,Mf,qA]
  rw[rO (N:=k) (L:=iL l k l[k] (λ_=>fU l n ((k+1:Nat)))) (g:=λj=> !((l[j]?).any (IF l[k].aKl l[k].aLQ))) (F:=some false) (E:=fU l n ((k+1:Nat))) (by have:=I.1;omega) (λn j U=> ?_) (λn=> ?_)]
  ·unfold EI aBL;rw[qF hk,qf];simp only[iD,aAo]
  ·have C:j<l.length:=by omega
   simp only[iL]
   rw[jF (bE U),aK C,qA,bM wg,aAo,qF C,qf,iD]
   rfl
  ·simp only[iL];rw[jG wF]
 ·simp only[fU];rw[jG wF];simp;omega
theorem Nw{c:M.aKv}{Z:Option Bool}(hc:c.ok):gB c (λ_=>Z) aJ 0=if(List.range c.aKs.length).all (EI c.aKs)=true then Z else some false:=by have I:=aZ hc.aKs.1;refine rO (L:=gB c (λ_=>Z)) hc.aKs.1 (λn k hk=> ?_) (λn=> ?_);(have C:=hc.aKs.2 _ (qG hk);simp only[gB];rw[jF (bE hk),aK hk,qA,bM wg,dG C.aKl,qA,dG C.aLQ,qA,Jk hc,qA,Hp,qA,yJ,HB hk (by simp[IF])];unfold EI aBL;rw[qF hk,qf];generalize gB c (λ_=>Z) n (k+1)=Y;generalize oO c.aKs[k].aKl=a;generalize oO c.aKs[k].aLQ=b;generalize Iy c.aKs[k].aKo=d;generalize (List.range k).all (λj=> !((c.aKs[j]?).any (IF c.aKs[k].aKl c.aKs[k].aLQ)))=e;cases a<;>cases b<;>cases d<;>cases e<;>rfl);·simp only[gB];rw[jG wF]
theorem Nx{c:M.aKv}{Z:Option Bool}(hc:c.ok):fQ c (λ_=>Z) aJ 0=if(List.range c.aKs.length).all (EI c.aKs)=true then Z else some false:=by have I:=aZ hc.aKs.1;refine rO (L:=fQ c (λ_=>Z)) hc.aKs.1 (λn k hk=> ?_) (λn=> ?_);(have C:=hc.aKs.2 _ (qG hk);simp only[fQ];rw[jF (bE hk),aK hk,qA,bM wg,dG C.aKl,qA,dG C.aLQ,qA,Jk hc,qA,Hp,qA,yJ,HB hk (by simp[IF])];unfold EI aBL;rw[qF hk,qf];generalize fQ c (λ_=>Z) n (k+1)=Y;generalize oO c.aKs[k].aKl=a;generalize oO c.aKs[k].aLQ=b;generalize Iy c.aKs[k].aKo=d;generalize (List.range k).all (λj=> !((c.aKs[j]?).any (IF c.aKs[k].aKl c.aKs[k].aLQ)))=e;cases a<;>cases b<;>cases d<;>cases e<;>rfl);·simp only[fQ];rw[jG wF]
def JE(l:List M.aKv)(k:Nat):Bool:=(l[k]?).any (λc=>inR c.aKb 1 1000000000000&&HO c.aKs)&&(decide (k=0)||(l[k-1]?).any λd=>(l[k]?).any λc=>decide (d.aKb<c.aKb))
def mR(s:M.aN):Bool:=(List.range s.aKi.length).all (JE s.aKi)&&decide (s.aKi.length<=4)
theorem sP{s:M.aN}(C:s.ok):dC s=some (mR s):=by
 have J:=aZ C.aKi.1
 unfold dC mR
 rw[rO (L:=fR s) (g:=JE s.aKi) (F:=some false) (E:=some (decide (s.aKi.length<=4))) C.aKi.1 (λn k hk=> ?_) (λn=> ?_),bI]
 ·have I:=C.aKi.2 _ (qG hk)
  simp only[fR]
  rw[jF (bE hk),aK hk,qA,bM wg,cO,qA,Mu I.aKs]
  simp only[qA]
  unfold JE
  rw[qF hk]
  generalize fR s n (k+1)=Z
  by_cases h0:k=0
  ·subst h0;simp only[qf];generalize inR s.aKi[0].aKb 1 1000000000000=a;generalize HO s.aKi[0].aKs=b;cases a<;>cases b<;>simp
  ·have e:i64.wrap (k-1)=((k-1:Nat)):=by rw[bO wg wg];omega
   have j:k-1<s.aKi.length:=by omega
   rw[jF (c:=(decide ((k:Int)>0))=true) wV,e,aK j,qA,qF j]
   simp only[qf,h0,jd,ja]
   generalize inR s.aKi[k].aKb 1 1000000000000=a
   generalize HO s.aKi[k].aKs=b
   by_cases hc:s.aKi[k-1].aKb<s.aKi[k].aKb
   ·rw[jG (c:=(decide (s.aKi[k-1].aKb>=s.aKi[k].aKb))=true) wV];cases a<;>cases b<;>simp[hc]
   ·rw[jF (c:=(decide (s.aKi[k-1].aKb>=s.aKi[k].aKb))=true) wV];cases a<;>cases b<;>simp[hc]
 ·simp only[fR];rw[jG wF];simp;omega
theorem Mi{s:M.aN}(C:s.ok):AG s=some (mR s):=by
 have U:=aZ C.aKi.1
 unfold AG mR
 rw[rO (L:=gA s) (g:=JE s.aKi) (F:=some false) (E:=some (decide (s.aKi.length<=4))) C.aKi.1 (λn k hk=> ?_) (λn=> ?_),bI]
 ·have I:=C.aKi.2 _ (qG hk)
  simp only[gA]
  rw[jF (bE hk),aK hk,qA,bM wg,bX,qA,Nw I,Nx I]
  unfold JE HO
  rw[qF hk]
  generalize gA s n (k+1)=Z
  have J:(decide ((List.length s.aKi[k].aKs:Int)>12))= !decide (s.aKi[k].aKs.length<=12):=by by_cases h:s.aKi[k].aKs.length<=12;(simp[h];omega);·simp[h];omega
  rw[J]
  by_cases h0:k=0
  ·subst h0;simp only[qf];generalize inR s.aKi[0].aKb 1 1000000000000=a;generalize (List.range s.aKi[0].aKs.length).all (EI s.aKi[0].aKs)=b;generalize decide (s.aKi[0].aKs.length<=12)=d;cases a<;>cases b<;>cases d<;>simp
  ·have e:i64.wrap (k-1)=((k-1:Nat)):=by rw[bO wg wg];omega
   have j:k-1<s.aKi.length:=by omega
   rw[jF (c:=(decide ((k:Int)>0))=true) wV,e,aK j,qA,qF j]
   simp only[qf,h0,jd,ja]
   generalize inR s.aKi[k].aKb 1 1000000000000=a
   generalize (List.range s.aKi[k].aKs.length).all (EI s.aKi[k].aKs)=b
   generalize decide (s.aKi[k].aKs.length<=12)=d
   by_cases hc:s.aKi[k-1].aKb<s.aKi[k].aKb
   ·rw[jG (c:=(decide (s.aKi[k].aKb<=s.aKi[k-1].aKb))=true) wV];cases a<;>cases b<;>cases d<;>simp[hc]
   ·rw[jF (c:=(decide (s.aKi[k].aKb<=s.aKi[k-1].aKb))=true) wV];cases a<;>cases b<;>cases d<;>simp[hc]
 ·simp only[gA];rw[jG wF];simp;omega
theorem RJ{p:M.aKd}(j:p.aKl.size<=maxLen):∀(n k:Nat) (v:Int),k<=3->3-k<n->∃r,cZ p n v k=some r
 |0,k,v,_,h=>by omega
 |n+1,k,v,h3,h=>by
  simp only[cZ]
  have C:(List.length ([p.aLL,p.aLH,p.aLB]))=3:=rfl
  by_cases hk:k<3
  ·rw[jF wV,aK (by rw[C];exact hk),qA,cO,qA,bM wg]
   obtain⟨I,e1⟩:=RJ j n (k+1) ([p.aLL,p.aLH,p.aLB][k]'(by rw[C];exact hk)) wg wg
   obtain⟨J,e2⟩:=RJ j n (k+1) v wg wg
   rw[e1,e2]
   repeat' split
   all_goals exact⟨_,rfl⟩
  ·have:k=3:=by omega
   subst this
   rw[jG wb,dX j]
   exact⟨_,rfl⟩
theorem RI{p:M.aKd}(j:p.aKl.size<=maxLen):∀(n:Nat) (v k:Int),0<=v->eG p n v k=cZ p n v k
 |0,_,_,_=>rfl
 |n+1,v,k,I=>by
  simp only[eG,cZ]
  rw[dX j,dG j]
  cases hx:idx ([p.aLL,p.aLH,p.aLB]) k with
  |none=>rfl
  |some x=>
   simp only[qA,cO,bX]
   cases hi:inR x 0 1000000000000 with
   |false=>rfl
   |true=>
    have C:0<=x:=by unfold inR at hi;simp at hi;exact hi.1
    by_cases e0:x=0
    ·subst e0
     have:(if 0>v then 0 else v)=v:=by rw[jG wg]
     rw[this,RI j n v _ I]
     rfl
    ·by_cases e1:x<=v
     ·have e2:(decide (x<=v))=true:=by simpa using e1
      simp[e0,e1]
     ·have:(if x>v then x else v)=x:=by rw[jF wg]
      rw[this,RI j n x _ C]
      simp[e0,e1]
def aEt(p:M.aKd):Bool:=(oH p).getD false
theorem EZ{p:M.aKd}(j:p.ok):oH p=some (aEt p):=by obtain⟨r,e⟩:=RJ j.aKl aJ 0 0 wg wG;have e2:oH p=some r:=e;unfold aEt;rw[e2];rfl
theorem Jt{p:M.aKd}(j:p.ok):Al p=some (aEt p):=by rw[<-EZ j];exact RI j.aKl aJ 0 0 wg
def BL(a:ByteArray)(x:M.aD):Bool:=x.Name.toList==a.toList
theorem Dh{d:M.aKc}{a:ByteArray}(j:d.ok):mS d a=some (gJ (BL a) d.aKm):=by have C:=aZ j.aKm.1;unfold mS;rw[oQ (L:=nO d a) (f:=BL a) (A:=λi=>some (i:Int)) (E:=some (-1)) j.aKm.1 (λm k hk=> ?_) (λm=> ?_),tK];(simp only[nO];rw[jF (bE hk),aK hk,qA,bM wg];rfl);·simp only[nO];rw[jG wF]
theorem E6{d:M.aKc}{a:ByteArray}(j:d.ok):rC d a=some (gJ (BL a) d.aKm):=by unfold rC;rw[MI (f:=BL a) j.aKm.1 (λx _=>by simp only[Aa];rfl),qA]
def mV(a:ByteArray)(x:M.aR):Bool:=x.Name.toList==a.toList
def cY(r:M.aF)(a:ByteArray):Int×Bool:=match r.aKj.find? (mV a)with|some x=>(x.N,true)|none=>(0,false)
theorem L6{r:M.aF}{a:ByteArray}(j:r.aKj.length<=9223372036854775807):∀(n k:Nat),r.aKj.length-k<n->k<=r.aKj.length->tY r a n k=some (match(r.aKj.drop k).find? (mV a)with|some x=>(x.N,true)|none=>(0,false))
 |0,k,h,_=>by omega
 |n+1,k,h,hk=>by
  simp only[tY]
  rcases jS k r.aKj.length with h1|h1
  ·rw[jF (bE h1),aK h1,qA,bM wg,L6 j n (k+1) wg h1,qX h1,List.find?_cons]
   cases e:mV a r.aKj[k]with
   |true=>rw[jF (show(r.aKj[k].Name.toList==a.toList)=true from e)]
   |false=>rw[jG (by rw[show(r.aKj[k].Name.toList==a.toList)=false from e];simp)]
  ·have:k=r.aKj.length:=by omega
   subst this
   rw[jG wF,qa]
   rfl
theorem tB{r:M.aF}{a:ByteArray}(C:r.ok):kM r a=some (cY r a):=by have j:=aZ C.aKj.1;have:=L6 (a:=a) j aJ 0 wG wg;exact this
theorem mQ{r:M.aF}{a:ByteArray}(J:r.ok):iA r a=some (cY r a):=by
 unfold iA B1 cY
 rw[Hl (f:=mV a) J.aKj.1 (λx _=>by simp only[yO];rfl),qA,qA]
 by_cases h:gJ (mV a) r.aKj<0
 ·rw[jF wM]
  have:r.aKj.find? (mV a)=none:=by have h2:=Lu (mV a) r.aKj;rw[decide_eq_false wg]at h2;rw[List.find?_eq_none];intro x U C;have h3:r.aKj.any (mV a)=true:=List.any_eq_true.2 ⟨x,U,C⟩;rw[<-h2]at h3;cases h3
  rw[this]
 ·obtain⟨k,e,hk⟩:=cT h
  rw[jG wM,e,aK hk,qA]
  have e2:r.aKj.findIdx? (mV a)=some k:=by
   unfold gJ at e
   cases e3:r.aKj.findIdx? (mV a)with
   |none=>rw[e3]at e;simp only at e;omega
   |some i=>rw[e3]at e;simp only at e;congr 1;omega
  have e4:=List.findIdx?_eq_some_iff_getElem.1 e2
  have:r.aKj.find? (mV a)=some r.aKj[k]:=by rw[List.find?_eq_some_iff_getElem];exact⟨e4.2.1,k,hk,rfl,λj I=>by simpa using e4.2.2 j I⟩
  rw[this]
def Kz(a:ByteArray)(x y:M.aKy):Bool:=decide ((cY x.aF a).1<(cY y.aF a).1)||(((cY x.aF a).1==(cY y.aF a).1)&&decide (bZ x.Key y.Key<0))
theorem Rv{x y:M.aKy}{a:ByteArray}(j:x.ok)(C:y.ok):Ea x y a=some (Kz a x y):=by unfold Ea Kz;simp only[tB j.aF,tB C.aF,Ak j.Key C.Key,qA,bI];cases decide ((cY x.aF a).1<(cY y.aF a).1)<;>simp
theorem L0{x y:M.aKy}{a:ByteArray}(j:x.ok)(C:y.ok):Ab x y a=some (Kz a x y):=by unfold Ab Kz;simp only[mQ j.aF,mQ C.aF,Af j.Key C.Key,qA,bI];cases decide ((cY x.aF a).1<(cY y.aF a).1)<;>simp
theorem Fe(x:List Int)(j:x.length<=1073741824):eA x=some x:=by unfold eA;rw[Ip j wg,qA]
theorem Kh(x:M.aKo)(j:M.aKo.sz x<=1073741824):vY x=some x:=by simp only[M.aKo.sz]at j;unfold vY;rw[Ip wg wg,qA]
theorem Kn(x:M.aKo)(j:M.aKo.sz x<=1073741824):nK x=some x:=by simp only[M.aKo.sz]at j;unfold nK;rw[Fe _ wg,qA]
theorem Ol(x:M.aKv)(j:M.aKv.sz x<=1073741824):Cl x=some x:=by
 have C:x.aKs.length<=1073741824:=by simp only[M.aKv.sz]at j;omega
 unfold Cl
 exact CQ (xs:=x.aKs) (L:=oY x) (b:=88) (E:=λr=>some { x with aKs:=r }) C wg (λn r k hk=>by
  simp only[oY]
  rw[jF (bE hk),aK hk,qA,Kh _ (by have:=dW (f:=M.aK2.sz) (qG hk);simp only[M.aKv.sz]at j;simp only[M.aK2.sz]at this;omega),qA,bM wg]) (λn r=>by
  simp only[oY]
  rw[jG wF])
theorem ES(x:M.aN)(j:M.aN.sz x<=1073741824):dY x=some x:=by
 have C:x.aKi.length<=1073741824:=by simp only[M.aN.sz]at j;omega
 unfold dY
 exact CQ (xs:=x.aKi) (L:=sU x) (b:=32) (E:=λr=>some { x with aKi:=r }) C wg (λn r k hk=>by
  simp only[sU]
  rw[jF (bE hk),aK hk,qA,Ol _ (by have:=dW (f:=M.aKv.sz) (qG hk);simp only[M.aN.sz]at j;omega),qA,bM wg]) (λn r=>by
  simp only[sU]
  rw[jG wF])
theorem KL(x:M.aN)(I:M.aN.sz x<=1073741824):yB x=some x:=by
 have J:x.aKi.length<=1073741824:=by simp only[M.aN.sz]at I;omega
 unfold yB
 exact CQ (xs:=x.aKi) (L:=fO x) (b:=32) (E:=λr=>some { x with aKi:=r }) J wg (λn r k hk=>by
  have hz:=dW (f:=M.aKv.sz) (qG hk)
  simp only[M.aN.sz]at I
  have hz2:x.aKi[k].aKs.length+dO M.aK2.sz x.aKi[k].aKs<=M.aKv.sz x.aKi[k]:=by simp only[M.aKv.sz];omega
  simp only[fO]
  rw[jF (bE hk),aK hk,qA,bM wg]
  exact CQ (xs:=x.aKi[k].aKs) (b:=88) (L:=iS x.aKi[k] (λv q=>(app 32 r ([⟨x.aKi[k].aKb,q⟩])).bind λ_=>fO x n (k+1) (r++[(⟨x.aKi[k].aKb,q⟩:M.aKv)]))) wg wg (λm q j C=>by
   have U:=dW (f:=M.aK2.sz) (qG C)
   simp only[iS]
   rw[jF (bE C),aK C,qA,Kn _ (by simp only[M.aK2.sz]at U;omega),qA,bM wg]) (λm q=>by
   simp only[iS]
   rw[jG wF])) (λn r=>by
  simp only[fO]
  rw[jG wF])
theorem CA(x:M.aF)(j:M.aF.sz x<=1073741824):cR x=some x:=by simp only[M.aF.sz]at j;unfold cR;rw[Ip wg wg,qA]
theorem H3(x:M.aKy)(j:M.aKy.sz x<=1073741824):Bm x=some x:=by simp only[M.aKy.sz]at j;unfold Bm;rw[CA _ wg,qA]
theorem pM(x:M.aD)(j:M.aD.sz x<=1073741824):cP x=some x:=by
 have C:x.aKg.length<=1073741824:=by simp only[M.aD.sz]at j;omega
 unfold cP
 exact CQ (xs:=x.aKg) (L:=vA x) (b:=56) (E:=λr=>some { x with aKg:=r }) C wg (λn r k hk=>by
  simp only[vA]
  rw[jF (bE hk),aK hk,qA,H3 _ (by have:=dW (f:=M.aKy.sz) (qG hk);simp only[M.aD.sz]at j;omega),qA,bM wg]) (λn r=>by
  simp only[vA]
  rw[jG wF])
theorem CI(x:M.aKc)(j:M.aKc.sz x<=1073741824):fS x=some x:=by
 have C:x.aKm.length<=1073741824:=by simp only[M.aKc.sz]at j;omega
 unfold fS
 rw[Ip (by simp only[M.aKc.sz]at j;omega) wg,qA]
 exact CQ (xs:=x.aKm) (L:=vD x) (b:=48) (E:=λr=>some { x with aKm:=r }) C wg (λn r k hk=>by
  simp only[vD]
  rw[jF (bE hk),aK hk,qA,pM _ (by have:=dW (f:=M.aD.sz) (qG hk);simp only[M.aKc.sz]at j;omega),qA,bM wg]) (λn r=>by
  simp only[vD]
  rw[jG wF])
theorem GW(x:M.bJ)(j:M.bJ.sz x<=1073741824):Aq x=some x:=by simp only[M.bJ.sz]at j;unfold Aq;rw[CI _ wg,qA,Ip wg wg,qA]
theorem EK(x:M.aO)(j:M.aO.sz x<=1073741824):vZ x=some x:=by simp only[M.aO.sz]at j;unfold vZ;rw[Ip wg wg,qA]
theorem PW(x:M.aK3)(j:M.aK3.sz x<=1073741824):As x=some x:=by simp only[M.aK3.sz]at j;unfold As;rw[EK _ wg,qA]
theorem EP(x:M.aH)(j:M.aH.sz x<=1073741824):xB x=some x:=by simp only[M.aH.sz]at j;unfold xB;rw[pM _ wg,qA,PW _ wg,qA]
theorem Aw(x:M.aKe)(j:M.aKe.sz x<=1073741824):gL x=some x:=by simp only[M.aKe.sz]at j;unfold gL;rw[ES _ wg,qA,GW _ wg,qA,EP _ wg,qA]
theorem xM(x:M.aF)(j:M.aF.sz x<=1073741824):bW x=some x:=by simp only[M.aF.sz]at j;unfold bW;rw[Ip wg wg,qA]
theorem Ja(x:M.aKy)(j:M.aKy.sz x<=1073741824):A5 x=some x:=by simp only[M.aKy.sz]at j;unfold A5;rw[xM _ wg,qA]
theorem kZ(x:M.aD)(j:M.aD.sz x<=1073741824):bH x=some x:=by
 have C:x.aKg.length<=1073741824:=by simp only[M.aD.sz]at j;omega
 unfold bH
 exact CQ (xs:=x.aKg) (L:=nF x) (b:=56) (E:=λr=>some { x with aKg:=r }) C wg (λn r k hk=>by
  simp only[nF]
  rw[jF (bE hk),aK hk,qA,Ja _ (by have:=dW (f:=M.aKy.sz) (qG hk);simp only[M.aD.sz]at j;omega),qA,bM wg]) (λn r=>by
  simp only[nF]
  rw[jG wF])
theorem xS(x:M.aKc)(j:M.aKc.sz x<=1073741824):eC x=some x:=by
 have C:x.aKm.length<=1073741824:=by simp only[M.aKc.sz]at j;omega
 unfold eC
 rw[Ip (by simp only[M.aKc.sz]at j;omega) wg,qA]
 exact CQ (xs:=x.aKm) (L:=iV x) (b:=48) (E:=λr=>some { x with aKm:=r }) C wg (λn r k hk=>by
  simp only[iV]
  rw[jF (bE hk),aK hk,qA,kZ _ (by have:=dW (f:=M.aD.sz) (qG hk);simp only[M.aKc.sz]at j;omega),qA,bM wg]) (λn r=>by
  simp only[iV]
  rw[jG wF])
theorem Jg(x:M.bJ)(j:M.bJ.sz x<=1073741824):AM x=some x:=by simp only[M.bJ.sz]at j;unfold AM;rw[xS _ wg,qA,Fe _ wg,qA]
theorem Hm(x:M.aO)(j:M.aO.sz x<=1073741824):oI x=some x:=by simp only[M.aO.sz]at j;unfold oI;rw[Ip wg wg,qA]
theorem Po(x:M.aK3)(j:M.aK3.sz x<=1073741824):Cq x=some x:=by simp only[M.aK3.sz]at j;unfold Cq;rw[Hm _ wg,qA]
theorem Gu(x:M.aH)(j:M.aH.sz x<=1073741824):uF x=some x:=by simp only[M.aH.sz]at j;unfold uF;rw[kZ _ wg,qA,Po _ wg,qA]
theorem Bd(x:M.aKe)(j:M.aKe.sz x<=1073741824):eR x=some x:=by simp only[M.aKe.sz]at j;unfold eR;rw[KL _ wg,qA,Jg _ wg,qA,Gu _ wg,qA]
theorem GY(x:M.aC)(j:M.aC.sz x<=1073741824):gM x=some x:=by
 have C:x.aKf.length<=1073741824:=by simp only[M.aC.sz]at j;omega
 unfold gM
 exact CQ (xs:=x.aKf) (L:=rT x) (b:=328) (E:=λr=>some { x with aKf:=r }) C wg (λn r k hk=>by
  simp only[rT]
  rw[jF (bE hk),aK hk,qA,Aw _ (by have:=dW (f:=M.aKe.sz) (qG hk);simp only[M.aC.sz]at j;omega),qA,bM wg]) (λn r=>by
  simp only[rT]
  rw[jG wF])
theorem D3(x:M.aC)(j:M.aC.sz x<=1073741824):dB x=some x:=by
 have C:x.aKf.length<=1073741824:=by simp only[M.aC.sz]at j;omega
 unfold dB
 exact CQ (xs:=x.aKf) (L:=kE x) (b:=328) (E:=λr=>some { x with aKf:=r }) C wg (λn r k hk=>by
  simp only[kE]
  rw[jF (bE hk),aK hk,qA,Bd _ (by have:=dW (f:=M.aKe.sz) (qG hk);simp only[M.aC.sz]at j;omega),qA,bM wg]) (λn r=>by
  simp only[kE]
  rw[jG wF])
def nPl(f:M.aKy->Bool)(l:List M.aKy):Nat->Nat
 |0=>0
 |k+1=>if(l[k]?).any f=true then nPl f l k else k+1
theorem Wd(f:M.aKy->Bool)(l:List M.aKy):∀k,nPl f l k<=k
 |0=>by simp[nPl]
 |k+1=>by unfold nPl;split;(exact Nat.le_succ_of_le (Wd f l k));·exact qg _
theorem Yj{α:Type}{l:List α}{i:Int}{x:α}(h:idx l i=some x):x∈l:=jD (pK h).2.1
theorem Ew{α:Type}{l:List α}{k:Nat}(h:k<=l.length):B6 l k=some (l.take k):=by unfold B6;rw[jF ⟨wg,wM⟩,qH]
def aA0(a:ByteArray)(out:List M.aKy)(x:M.aKy):List M.aKy:=
 if(cY x.aF a).2=true then out.take (nPl (Kz a x) out out.length)++(x::out.drop (nPl (Kz a x) out out.length))else out
def Nj(s:M.aD)(a:ByteArray):List M.aKy:=s.aKg.foldl (aA0 a) []
theorem Vb(a:ByteArray)(out:List M.aKy)(x:M.aKy):(aA0 a out x).length<=out.length+1:=by unfold aA0;have:=Wd (Kz a x) out out.length;split;(simp only[qE,qV,qJ,qW];omega);·omega
theorem U6{a:ByteArray}{out:List M.aKy}{x y:M.aKy}(h:y∈aA0 a out x):y=x\/y∈out:=by unfold aA0 at h;split at h;(rcases qP.1 h with h|h;(exact .inr (qk h));·rcases qq.1 h with h|h;(exact .inl h);·exact .inr (qv h));·exact .inr h
theorem Yb{a:ByteArray}{l:List M.aKy}{x:M.aKy}{K:Int->Option (List M.aKy)}(J:l.length<=1500000)(I:x.ok)(C:∀y∈l,M.aKy.ok y):
  ∀(n k:Nat),k<n->k<=l.length->rP a l x K n k=K (nPl (Kz a x) l k)
 |0,k,h,_=>by omega
 |n+1,0,h,_=>by simp only[rP,nPl];rw[jG wb]
 |n+1,k+1,h,hk=>by
  have j:k<l.length:=by omega
  have e:i64.wrap (((k+1:Nat))-1)=k:=by rw[bO wg wg];omega
  simp only[rP]
  rw[jF wb,e,aK j,qA,Rv I (C _ (qG j)),qA,nPl,qF j,qf]
  cases hc:Kz a x l[k]with
  |true=>rw[jF rfl,jF rfl];exact Yb J I C n k wg wg
  |false=>rw[jG wb,jG wb]
theorem Xu{a:ByteArray}{l:List M.aKy}{x:M.aKy}{K:Int->Option (List M.aKy)}(J:l.length<=1500000)(I:x.ok)(C:∀y∈l,M.aKy.ok y):
  ∀(n k:Nat),k<n->k<=l.length->sI a l x K n k=K (nPl (Kz a x) l k)
 |0,k,h,_=>by omega
 |n+1,0,h,_=>by simp only[sI,nPl];rw[jG wb]
 |n+1,k+1,h,hk=>by
  have j:k<l.length:=by omega
  have e:i64.wrap (((k+1:Nat))-1)=k:=by rw[bO wg wg];omega
  simp only[sI]
  rw[jF wb,e,aK j,qA,L0 I (C _ (qG j)),qA,nPl,qF j,qf]
  cases hc:Kz a x l[k]with
  |true=>rw[jF rfl,jF rfl];exact Xu J I C n k wg wg
  |false=>rw[jG wb,jG wb]
theorem aAf{s:M.aD}{a:ByteArray}(C:s.ok)(hz:M.aD.sz s<=1500000):C4 s a=some (Nj s a)/\(Nj s a).length<=s.aKg.length/\∀y∈Nj s a,M.aKy.ok y:=by
 have hl:s.aKg.length<=1500000:=by simp only[M.aD.sz]at hz;omega
 unfold C4 Nj
 refine Qa (L:=nW s a) (xs:=s.aKg) (step:=aA0 a) (I:=λk out=>out.length<=k/\∀y∈out,M.aKy.ok y) (E:=λout=>some out) C.aKg.1 (λout k hk j=>⟨?_,λy J=> ?_⟩) (λn out k hk j=> ?_) (λn out j=> ?_) [] ⟨qg _,wb⟩
 ·have:=Vb a out s.aKg[k];have:=j.1;omega
 ·rcases U6 J with rfl|J;(exact C.aKg.2 _ (qG hk));·exact j.2 y J
 ·have hx:=C.aKg.2 _ (qG hk)
  have U:M.aKy.sz s.aKg[k]<=1073741824:=by have:=dW (f:=M.aKy.sz) (qG hk);simp only[M.aD.sz]at hz;omega
  have hi1:=j.1
  simp only[nW]
  rw[jF (bE hk),aK hk,qA,tB hx.aF,qA,bM wg,iD]
  unfold aA0
  by_cases hg:(cY s.aKg[k].aF a).2=true
  ·have hp:=Wd (Kz a s.aKg[k]) out out.length;rw[jF hg,jF hg,Yb wg hx j.2 aJ out.length wG (qg _)];generalize nPl (Kz a s.aKg[k]) out out.length=p at hp;simp only[qH];rw[Ew hp,qA,dK wB,qA,H3 _ U,qA,dK jw,qA,dK js,qA,qT,List.singleton_append]
  ·rw[jG hg,jG hg]
 ·simp only[nW];rw[jG wF]
theorem Wi{s:M.aD}{a:ByteArray}(C:s.ok)(hz:M.aD.sz s<=1500000):CZ s a=some (Nj s a)/\(Nj s a).length<=s.aKg.length/\∀y∈Nj s a,M.aKy.ok y:=by
 have hl:s.aKg.length<=1500000:=by simp only[M.aD.sz]at hz;omega
 unfold CZ Nj
 refine Qa (L:=nT s a) (xs:=s.aKg) (step:=aA0 a) (I:=λk out=>out.length<=k/\∀y∈out,M.aKy.ok y) (E:=λout=>some out) C.aKg.1 (λout k hk j=>⟨?_,λy J=> ?_⟩) (λn out k hk j=> ?_) (λn out j=> ?_) [] ⟨qg _,wb⟩
 ·have:=Vb a out s.aKg[k];have:=j.1;omega
 ·rcases U6 J with rfl|J;(exact C.aKg.2 _ (qG hk));·exact j.2 y J
 ·have hx:=C.aKg.2 _ (qG hk)
  have U:M.aKy.sz s.aKg[k]<=1073741824:=by have:=dW (f:=M.aKy.sz) (qG hk);simp only[M.aD.sz]at hz;omega
  have hi1:=j.1
  simp only[nT]
  rw[jF (bE hk),aK hk,qA,mQ hx.aF,qA,bM wg,iD]
  unfold aA0
  by_cases hg:(cY s.aKg[k].aF a).2=true
  ·have hp:=Wd (Kz a s.aKg[k]) out out.length;rw[jF hg,jF hg,Xu wg hx j.2 aJ out.length wG (qg _)];generalize nPl (Kz a s.aKg[k]) out out.length=p at hp;simp only[qH];rw[Ja _ U,qA,NX ⟨wg,by simpa using hp,wb,jz⟩,qA,List.singleton_append]
  ·rw[jG hg,jG hg]
 ·simp only[nT];rw[jG wF]
theorem Zh{a:ByteArray}{l:List M.aKy}(j:∀y∈l,M.aKy.ok y):∀(n:Nat) (v:Int),oF a l n v=gR a l n v
 |0,v=>rfl
 |n+1,v=>by
  simp only[oF,gR,Zh j n]
  cases h1:idx l (i64.wrap (v-1))with
  |none=>rfl
  |some x=>
   have C:=(j x (Yj h1)).aF
   simp only[qA,tB C,mQ C]
   cases h2:idx l v with
   |none=>rfl
   |some y=>
    have I:=(j y (Yj h2)).aF
    simp only[qA,tB I,mQ I]
theorem XN{a:ByteArray}{l:List M.aKy}(C:∀y∈l,M.aKy.ok y)(I:l.length<=1500000):∀(n k:Nat),l.length-k<n->1<=k->∃r,gR a l n k=some r
 |0,k,h,_=>by omega
 |n+1,k,h,h1=>by
  simp only[gR]
  by_cases hk:k<l.length
  ·have e:i64.wrap (k-1)=((k-1:Nat)):=by rw[bO wg wg];omega
   have j:k-1<l.length:=by omega
   rw[jF (bE hk),e,aK j,qA,mQ (C _ (qG j)).aF,qA,aK hk,qA,mQ (C _ (qG hk)).aF,qA,bM wg]
   split
   ·exact⟨_,rfl⟩
   ·exact XN C I n (k+1) wg wg
  ·rw[jG wV];exact⟨_,rfl⟩
def P8(s:M.aD)(a:ByteArray):M.bD×M.bD×Bool:=(mB s a).getD (⟨0,0,⟨#[]⟩⟩,⟨0,0,⟨#[]⟩⟩,false)
theorem GJ{s:M.aD}{a:ByteArray}(U:s.ok)(j:M.aD.sz s<=1500000):mB s a=some (P8 s a):=by
 obtain⟨e,hl,I⟩:=Wi (a:=a) U j
 have C:s.aKg.length<=1500000:=by simp only[M.aD.sz]at j;omega
 obtain⟨r,J⟩:=XN (a:=a) I wg aJ 1 wG wg
 have:mB s a=some r:=by unfold mB;rw[e,qA];exact J
 unfold P8
 rw[this]
 rfl
theorem K9{s:M.aD}{a:ByteArray}(j:s.ok)(C:M.aD.sz s<=1500000):zX s a=some (P8 s a):=by obtain⟨e,J,I⟩:=aAf (a:=a) j C;obtain⟨e2,_⟩:=Wi (a:=a) j C;rw[<-GJ j C];unfold zX mB;rw[e,e2,qA,qA];exact Zh I _ _
def H2(l:List M.aD)(k:Nat):Bool:=(l[k]?).any iM&&(decide (k=0)||(l[k-1]?).any λy=>(l[k]?).any λx=>Op.bytesLess y.Name.toList x.Name.toList)
def FB(x y:M.aV):Bool:=(x.aD.toList==y.aD.toList)&&(x.Field.toList==y.Field.toList)
def Qk(l:List M.aV)(k:Nat)(x:M.aV):Bool:=(List.range k).all λj=> !((l[j]?).any λy=>FB y x)
def II(d:M.aKc)(k:Nat):Bool:=(d.aKz[k]?).any λu=>decide (0<=gJ (BL u.aD) d.aKm)&&(oO u.Field&&(!((d.aKm[(gJ (BL u.aD) d.aKm).toNat]?).any λs=>(P8 s u.Field).2.2)&&Qk d.aKz k u))
def nDb(d:M.aKc):Bool:=(List.range d.aKm.length).all (H2 d.aKm)&&((List.range d.aKz.length).all (II d)&&(oO d.Name&&(inR d.aKb 0 1000&&(decide (d.aKm.length<=4)&&decide (d.aKz.length<=4)))))
theorem ZX{l:List M.aV}{k:Nat}{x:M.aV}(hk:k<=l.length):(l.take k).any (FB x)= !(Qk l k x):=by
 have hc:∀y,FB y x=FB x y:=λy=>by unfold FB;rw[BEq.comm (a:=y.aD.toList),BEq.comm (a:=y.Field.toList)]
 unfold Qk
 rw[jR]
 simp only[List.any_eq_true,Bool.not_eq_true',List.all_eq_false,qS,Bool.not_eq_true,Bool.not_eq_false',hc]
 constructor
 ·rintro⟨y,J,C⟩;obtain⟨j,I,rfl⟩:=List.mem_iff_getElem.1 J;rw[qV]at I;refine⟨j,wg,?_⟩;rw[qF wg,qf];rw[List.getElem_take]at C;simp[C]
 ·rintro⟨j,I,C⟩;rw[qF wg,qf]at C;refine⟨l[j],List.mem_iff_getElem.2 ⟨j,wO,by rw[List.getElem_take]⟩,by simpa using C⟩
theorem PC{l:List M.aV}{x:M.aV}(j:l.length<=maxLen):lR l x=some (l.any (FB x)):=by
 have C:=aZ j
 have:pB l x=some (gJ (FB x) l):=by unfold pB;rw[oQ (L:=eO l x) (f:=FB x) (A:=λi=>some (i:Int)) (E:=some (-1)) j (λm k hk=> ?_) (λm=> ?_),tK];(simp only[eO];rw[jF (bE hk),aK hk,qA,bM wg];rfl);·simp only[eO];rw[jG wF]
 unfold lR
 rw[this,qA,Lu]
theorem W2{d:M.aKc}{u:M.aV}{k:Nat}{K:Int->Option Bool}(I:d.aKz.length<=maxLen)(hk:k<=d.aKz.length):iK d k u K aJ 0=if Qk d.aKz k u=true then K k else some false:=by
 have U:=aZ I
 refine rO (L:=iK d k u K) (g:=λj=> !((d.aKz[j]?).any λy=>FB y u)) (F:=some false) (E:=K k) (qh hk I) (λn j J=> ?_) (λn=> ?_)
 ·have C:j<d.aKz.length:=by omega
  simp only[iK]
  rw[jF (bE J),aK C,qA,bM wg,qF C,qf,iD]
  rfl
 ·simp only[iK];rw[jG wF]
theorem N8{d:M.aKc}(C:M.aKc.sz d<=1500000):∀s∈d.aKm,M.aD.sz s<=1500000:=λs j=>by have:=dW (f:=M.aD.sz) j;simp only[M.aKc.sz]at C;omega
theorem VJ(a b:List UInt8):(Op.bytesLess a b||a==b)= !(Op.bytesLess b a):=by have h:=D4 b a;cases h1:Op.bytesLess b a<;>cases h2:(Op.bytesLess a b||a==b)<;>simp_all
theorem xH{d:M.aKc}(C:d.ok)(hz:M.aKc.sz d<=1500000):cX d=some (nDb d):=by
 have hm:=aZ C.aKm.1
 have hm2:=aZ C.aKz.1
 unfold cX nDb
 rw[rO (L:=fW d) (g:=H2 d.aKm) (F:=some false) (E:=fX d aJ 0) C.aKm.1 (λn k hk=> ?_) (λn=> ?_),
  rO (L:=fX d) (g:=II d) (F:=some false) (E:=some (oO d.Name&&(inR d.aKb 0 1000&&(decide (d.aKm.length<=4)&&decide (d.aKz.length<=4))))) C.aKz.1 (λn k hk=> ?_) (λn=> ?_),bI,bI]
 ·have U:=C.aKz.2 _ (qG hk)
  simp only[fX]
  rw[jF (bE hk),aK hk,qA,Dh C,qA,bM wg]
  unfold II
  rw[qF hk,qf,dX U.Field,qA]
  by_cases h:gJ (BL d.aKz[k].aD) d.aKm<0
  ·rw[jF wM,decide_eq_false wg];simp
  ·obtain⟨j,e,J⟩:=cT h
   have hs:=C.aKm.2 _ (qG J)
   rw[jG wM,e,aK J,qA,K9 hs (N8 hz _ (qG J)),qA,qH,qF J,qf,W2 C.aKz.1 wg]
   have:decide (0<=(j:Int))=true:=by simp
   rw[this]
   generalize fX d n (k+1)=Z
   cases oO d.aKz[k].Field<;>cases (P8 d.aKm[j] d.aKz[k].Field).2.2<;>cases Qk d.aKz k d.aKz[k]<;>simp
 ·simp only[fX]
  rw[jG wF,dX C.Name,qA,cO,qA,bI,bI,bI]
  congr 3
  have e1:decide ((d.aKm.length:Int)<=4)=decide (d.aKm.length<=4):=by rw[jR];simp;omega
  have e2:decide ((d.aKz.length:Int)<=4)=decide (d.aKz.length<=4):=by rw[jR];simp;omega
  rw[e1,e2]
 ·have U:=C.aKm.2 _ (qG hk)
  simp only[fW]
  rw[jF (bE hk),aK hk,qA,bM wg,B2 U,qA]
  unfold H2
  rw[qF hk]
  generalize fW d n (k+1)=Z
  by_cases h0:k=0
  ·subst h0;simp only[qf];cases iM d.aKm[0]<;>simp
  ·have e:i64.wrap (k-1)=((k-1:Nat)):=by rw[bO wg wg];omega
   have I:k-1<d.aKm.length:=by omega
   rw[jF (c:=(decide ((k:Int)>0))=true) wV,e,aK I,qA,qF I]
   simp only[qf,h0,jd,ja]
   cases iM d.aKm[k]<;>cases Op.bytesLess d.aKm[k-1].Name.toList d.aKm[k].Name.toList<;>simp
 ·simp only[fW];rw[jG wF]
