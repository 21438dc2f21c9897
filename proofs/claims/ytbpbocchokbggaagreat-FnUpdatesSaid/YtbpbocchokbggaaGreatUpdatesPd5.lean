/-
  Helper text. No conditions.
-/
import Derived.Test.YtbpbocchokbggaaGreatUpdatesPd4
set_option linter.all false
namespace Go.Proofs.YtbpbocchokbggaaGreat.gen
open Go Go.Sh
open Go.IntKind (i64)
theorem LD{s:M.aC}{v:Int}(j:s.ok)(J:inI v)(C:M.aC.sz s<=1073741824):Ar s v=some (CR s v):=by
 have I:s.aI1.length<=1073741824:=by simp only[M.aC.sz]at C;omega
 have U:=le_max j.aI1.1
 unfold Ar
 rw[mY s C,qA,Kx (l:=s.aI1) (f:=λc:M.aI5=>decide (c.aI0<v)) (L:=mO s v s) (S:=N9 s v) j.aI1.1 (λn k hk=> ?_) (λn=> ?_)]
 ·unfold N9 CR;rw[pX j,qA,pX (LZ j J I _),qA,mY s C,qA];show _=some (if(cP s&&cP (⟨Cl s v (Hl s v)⟩:M.aC))=true then _ else _);unfold Hl;generalize cP (⟨Cl s v (List.takeWhile (λc:M.aI5=>decide (c.aI0<v)) s.aI1).length⟩:M.aC)=b;cases cP s<;>cases b<;>rfl
 ·simp only[mO];rw[if_pos (aW hk),aJ hk,qA,bF jB];by_cases h:s.aI1[k].aI0<v;(rw[if_pos (by simpa using h),if_pos (by simpa using h)]);·rw[if_neg (by simpa using h),if_neg (by simpa using h)];rw[LF jQ,qA,qH];rfl
 ·simp only[mO];rw[if_neg jK];rw[LF jQ,qA,qH];rfl
theorem Jn{s:M.aC}{v:Int}(j:s.ok)(I:inI v)(J:M.aC.sz s<=1073741824):M.aC.ok (CR s v).1:=by
 have C:s.aI1.length<=1073741824:=by simp only[M.aC.sz]at J;omega
 unfold CR
 split
 ·exact LZ j I C _
 ·exact j
theorem Hr{s:M.aC}{v:Int}(h:(CR s v).2=true):cP (CR s v).1=true:=by unfold CR at h⊢;split at h;(rename_i h1;rw[if_pos h1];exact(Bool.and_eq_true_iff.1 h1).2);·cases h
def KX(c:M.aI5)(a p:ByteArray)(x:M.aI8):M.aI5:=(⟨c.aI0,if iJ (DV a p) c.aJB>=0 then c.aJB.set (iJ (DV a p) c.aJB).toNat (⟨a,p,x⟩:M.aJE)else c.aJB++[(⟨a,p,x⟩:M.aJE)]⟩:M.aI5)
def N7(s:M.aC)(v:Int)(a p:ByteArray)(x:M.aI8):List M.aI5:=match s.aI1[(iJ (λc:M.aI5=>c.aI0==v) s.aI1).toNat]? with
 |some c=>s.aI1.set (iJ (λc:M.aI5=>c.aI0==v) s.aI1).toNat (KX c a p x)
 |none=>s.aI1
def HC(s:M.aC)(v:Int)(a p:ByteArray)(x:M.aI8):M.aC×Bool:=if iJ (λc:M.aI5=>c.aI0==v) s.aI1<0 then(s,false)else if(cP s&&cP (⟨N7 s v a p x⟩:M.aC))=true then((⟨N7 s v a p x⟩:M.aC),true)else(s,false)
theorem UR{c:M.aI5}{a p:ByteArray}{x:M.aI8}(hc:c.ok)(U:c.aJB.length<=1073741824)(C:a.size<=maxLen)(I:p.size<=maxLen)(J:x.ok):M.aI5.ok (KX c a p x):=by unfold KX;refine⟨hc.aI0,?_⟩;dsimp only;split;(refine⟨by rw[qN];exact hc.aJB.1,λy j=> ?_⟩;rcases jA j with j|rfl;(exact hc.aJB.2 y j);·exact⟨C,I,J⟩);·refine⟨by simp only[qE,qJ,qK];unfold maxLen;omega,λy j=> ?_⟩;rcases qP.1 j with j|j;(exact hc.aJB.2 y j);·rw[qQ.1 j];exact⟨C,I,J⟩
theorem Mh{s:M.aC}{v:Int}{a p:ByteArray}{x:M.aI8}(C:s.ok)(hz:M.aC.sz s<=1073741824)(J:a.size<=maxLen)(U:p.size<=maxLen)(hx:x.ok):M.aC.ok (⟨N7 s v a p x⟩:M.aC):=by unfold N7;split;(rename_i c hc;refine⟨⟨by show List.length (List.set _ _ _)<=_;rw[qN];exact C.aI1.1,λy I=> ?_⟩⟩;have j:=qz hc;have z:=cN (f:=M.aI5.sz) j;rcases jA I with I|rfl;(exact C.aI1.2 y I);·exact UR (C.aI1.2 c j) (by simp only[M.aC.sz]at hz;simp only[M.aI5.sz]at z;omega) J U hx);·exact C
theorem aAG(b:ByteArray):∀(n i:Nat) (r:List UInt8),b.size-i<=n->ByteArray.toList.loop b i r=r.reverse++b.data.toList.drop i:=by
 intro n
 induction n with
 |zero=>
  intro i r h
  unfold ByteArray.toList.loop
  rw[if_neg jB,List.drop_eq_nil_of_le (by show b.data.toList.length<=i;have:b.data.toList.length=b.size:=rfl;omega),qX]
 |succ n I=>
  intro i r h
  unfold ByteArray.toList.loop
  by_cases hi:i<b.size
  ·have j:i<b.data.toList.length:=hi;rw[if_pos hi,I (i+1) _ jB,qW j,List.reverse_cons,qT];congr 1;show b.get! i::_=_;congr 1;have C:i<b.data.size:=hi;show b.data[i]! =b.data[i];exact getElem!_pos b.data i C
  ·rw[if_neg hi,List.drop_eq_nil_of_le (by show b.data.toList.length<=i;have:b.data.toList.length=b.size:=rfl;omega),qX]
theorem PL(b:ByteArray):b.toList=b.data.toList:=by unfold ByteArray.toList;rw[aAG b b.size 0 [] jB];simp
theorem SK{a b:ByteArray}(h:(a.toList==b.toList)=true):a=b:=by have h:=eq_of_beq h;rw[PL,PL]at h;cases a;cases b;congr 1;exact Array.toList_inj.1 h
theorem VG{α:Type}{f:α->Bool}{l:List α}{k:Nat}(h:iJ f l=(k:Int))(hk:k<l.length):f l[k]=true:=by
 unfold iJ at h
 cases e:l.findIdx? f with
 |none=>rw[e]at h;simp only at h;omega
 |some i=>
  rw[e]at h
  simp only at h
  have:i=k:=by omega
  subst this
  exact(List.findIdx?_eq_some_iff_getElem.1 e).2.1
theorem Qs{s:M.aC}{v:Int}{a p:ByteArray}{x:M.aI8}{j:Nat}(C:iJ (λc:M.aI5=>c.aI0==v) s.aI1=(j:Int))(I:j<s.aI1.length):N7 s v a p x=s.aI1.set j (KX s.aI1[j] a p x):=by unfold N7;rw[C,qH,qF I]
theorem P1{c:M.aI5}{a p:ByteArray}{x:M.aI8}{i:Nat}(j:iJ (DV a p) c.aJB=(i:Int)):KX c a p x=(⟨c.aI0,c.aJB.set i (⟨a,p,x⟩:M.aJE)⟩:M.aI5):=by unfold KX;rw[j,if_pos jB,qH]
theorem Oq{c:M.aI5}{a p:ByteArray}{x:M.aI8}(h:¬iJ (DV a p) c.aJB>=0):KX c a p x=(⟨c.aI0,c.aJB++[(⟨a,p,x⟩:M.aJE)]⟩:M.aI5):=by unfold KX;rw[if_neg h]
theorem DW{s:M.aC}{v:Int}{a p:ByteArray}{x:M.aI8}(C:s.ok)(J:M.aC.sz s<=1073741824)(ha:a.size<=maxLen)(hp:p.size<=maxLen)(hx:x.ok)(zx:M.aI8.sz x<=1073741824):kY s v a p x=some (HC s v a p x):=by
 have hout:=Mh (v:=v) (a:=a) (p:=p) (x:=x) C J ha hp hx
 unfold kY HC
 rw[uU s J,qA,DM C,qA]
 by_cases h:iJ (λc:M.aI5=>c.aI0==v) s.aI1<0
 ·rw[if_pos (by simpa using h),if_pos h]
 ·rw[if_neg (by simpa using h),if_neg h]
  obtain⟨j,ej,I⟩:=dK h
  rw[Qs ej I]at hout⊢
  have hc:=C.aI1.2 _ (qG I)
  have z1:=cN (f:=M.aI5.sz) (qG I)
  have hl:s.aI1[j].aJB.length<=1073741824:=by simp only[M.aC.sz]at J;simp only[M.aI5.sz]at z1;omega
  rw[H0 x zx,qA,ej,aJ I,qA,H5 hc,qA,qH]
  by_cases h2:iJ (DV a p) s.aI1[j].aJB>=0
  ·obtain⟨i,U,hi⟩:=dK (f:=DV a p) (xs:=s.aI1[j].aJB) jB;rw[P1 U]at hout⊢;rw[if_pos (by simpa using h2),U,aJ hi,qA,qH,rQ C,qA,rQ hout,qA];generalize cP (⟨s.aI1.set j _⟩:M.aC)=b;cases cP s<;>cases b<;>rfl
  ·rw[Oq h2]at hout⊢;rw[if_neg (by simpa using h2),dS jS,qA,rQ C,qA,rQ hout,qA];generalize cP (⟨s.aI1.set j _⟩:M.aC)=b;cases cP s<;>cases b<;>rfl
theorem HA{s:M.aC}{v:Int}{a p:ByteArray}{x:M.aI8}(I:s.ok)(hz:M.aC.sz s<=1073741824)(ha:a.size<=maxLen)(hp:p.size<=maxLen)(hx:x.ok)(zx:M.aI8.sz x<=1073741824):uB s v a p x=some (HC s v a p x):=by
 have hout:=Mh (v:=v) (a:=a) (p:=p) (x:=x) I hz ha hp hx
 unfold uB HC
 rw[mY s hz,qA,DL I,qA]
 by_cases h:iJ (λc:M.aI5=>c.aI0==v) s.aI1<0
 ·rw[if_pos (by simpa using h),if_pos h]
 ·rw[if_neg (by simpa using h),if_neg h]
  obtain⟨j,ej,J⟩:=dK h
  rw[Qs ej J]at hout⊢
  have hc:=I.aI1.2 _ (qG J)
  have z1:=cN (f:=M.aI5.sz) (qG J)
  have hl:s.aI1[j].aJB.length<=1073741824:=by simp only[M.aC.sz]at hz;simp only[M.aI5.sz]at z1;omega
  rw[ej,aJ J,qA,H4 hc,qA,qH]
  by_cases h2:iJ (DV a p) s.aI1[j].aJB>=0
  ·obtain⟨i,U,hi⟩:=dK (f:=DV a p) (xs:=s.aI1[j].aJB) jB;rw[P1 U]at hout⊢;have C:=VG U hi;unfold DV at C;rw[qM]at C;have e1:=SK C.1;have e2:=SK C.2;rw[if_pos (by simpa using h2),Cf x zx,qA,U,aJ hi,qA,qH,e1,e2,pX I,qA,pX hout,qA];generalize cP (⟨s.aI1.set j _⟩:M.aC)=b;cases cP s<;>cases b<;>rfl
  ·rw[Oq h2]at hout⊢;rw[if_neg (by simpa using h2),Cf x zx,qA,dS jS,qA,pX I,qA,pX hout,qA];generalize cP (⟨s.aI1.set j _⟩:M.aC)=b;cases cP s<;>cases b<;>rfl
theorem IL{s:M.aC}{v:Int}{a p:ByteArray}{x:M.aI8}(h:(HC s v a p x).2=true):cP (HC s v a p x).1=true:=by unfold HC at h⊢;split at h;(cases h);·rename_i j;rw[if_neg j];split at h;(rename_i h1;rw[if_pos h1];exact(Bool.and_eq_true_iff.1 h1).2);·cases h
theorem LS{s:M.aC}{v:Int}{a p:ByteArray}{x:M.aI8}(j:s.ok)(U:M.aC.sz s<=1073741824)(C:a.size<=maxLen)(I:p.size<=maxLen)(J:x.ok):M.aC.ok (HC s v a p x).1:=by unfold HC;split;(exact j);·split;(exact Mh j U C I J);·exact j
theorem Tv{x a b:Int}(h:inR x a b=true):a<=x/\x<=b:=by unfold inR at h;simpa using h
theorem Bn{s:M.aC}(h:cP s=true):M.aC.sz s<=65536:=by
 unfold cP at h
 rw[qM]at h
 have h2:s.aI1.length<=4:=by simpa using h.2
 have hc:∀c∈s.aI1,M.aI5.sz c<=4096:=by
  intro c hc
  obtain⟨k,hk,rfl⟩:=List.getElem_of_mem hc
  have h3:=qR.1 h.1 k (qS.2 hk)
  unfold FF at h3
  rw[qF hk,qd,qM,qM]at h3
  have h4:=h3.1.2
  unfold FQ at h4
  rw[qM]at h4
  have h5:s.aI1[k].aJB.length<=12:=by simpa using h4.2
  have he:∀x∈s.aI1[k].aJB,M.aJE.sz x<=100:=by
   intro x U
   obtain⟨i,J,rfl⟩:=List.getElem_of_mem U
   have h6:=qR.1 h4.1 i (qS.2 J)
   unfold Dj at h6
   rw[qF J,qd,qM,qM,qM]at h6
   obtain⟨j,C,I,_⟩:=h6
   unfold oJ at j C
   rw[qM]at j C
   have r1:=Tv j.2
   have r2:=Tv C.2
   unfold Gw at I
   rw[qM,qM,qM]at I
   have r3:s.aI1[k].aJB[i].aI8.aJr.length<=60:=by have:=I.2.2.2;simp at this;omega
   simp only[M.aJE.sz,M.aI8.sz]
   omega
  have:=eB he
  simp only[M.aI5.sz]
  omega
 have:=eB hc
 simp only[M.aC.sz]
 omega
theorem Pe{s:M.aC}(h:cP s=true):iJ (λc:M.aI5=>c.aI0==0) s.aI1<0:=by apply Classical.byContradiction;intro U;obtain⟨j,J,I⟩:=dK U;have C:=VG J I;unfold cP at h;rw[qM]at h;have h3:=qR.1 h.1 j (qS.2 I);unfold FF at h3;rw[qF I,qd,qM,qM]at h3;have:=Tv h3.1.1;simp at C;omega
def FH(r:M.aIz):Int:=max r.aJX (max r.aJT r.aJP)
theorem NP(a b:Int):AR a b=some (max a b):=by unfold AR;split<;>(rename_i h;simp at h;congr 1;omega)
theorem HG(r:M.aIz):uD r=some (FH r):=by unfold uD FH;rw[NP,qA,NP,qA]
theorem HK(r:M.aIz):uA r=some (FH r):=by unfold uA FH;congr 1;split<;>split<;>omega
def Ct(r:M.aIz)(v:Int):M.aIz×Bool:=if(PB r&&(decide (1<=v)&&(r.aJP==0&&PB (⟨r.aI7,v,r.aJT,r.aJX⟩:M.aIz))))=true then((⟨r.aI7,v,r.aJT,r.aJX⟩:M.aIz),true)else(r,false)
theorem Ix{r:M.aIz}{v:Int}(j:r.ok)(C:inI v):wB r v=some (Ct r v):=by unfold wB Ct;have h2:M.aIz.ok (⟨r.aI7,v,r.aJT,r.aJX⟩:M.aIz):=⟨j.aI7,C,j.aJT,j.aJX⟩;rw[nN j,nN h2];simp only[qA];rw[show decide (1<=v)= !decide (v<1)from by rw[<-decide_not];congr 1;rw[Int.not_lt],show(r.aJP==0)= !(r.aJP !=0)from by simp[bne]];generalize PB (⟨r.aI7,v,r.aJT,r.aJX⟩:M.aIz)=a;cases PB r<;>cases a<;>cases decide (v<1)<;>cases (r.aJP !=0)<;>rfl
theorem Ik{r:M.aIz}{v:Int}(j:r.ok)(C:inI v):vT r v=some (Ct r v):=by unfold vT Ct;have h2:M.aIz.ok (⟨r.aI7,v,r.aJT,r.aJX⟩:M.aIz):=⟨j.aI7,C,j.aJT,j.aJX⟩;rw[sK j,sK h2];simp only[qA];rw[show decide (1<=v)= !decide (v<1)from by rw[<-decide_not];congr 1;rw[Int.not_lt],show(r.aJP==0)= !(r.aJP !=0)from by simp[bne]];generalize PB (⟨r.aI7,v,r.aJT,r.aJX⟩:M.aIz)=a;cases PB r<;>cases a<;>cases decide (v<1)<;>cases (r.aJP !=0)<;>rfl
theorem Uz{r:M.aIz}{v:Int}(j:r.ok)(C:inI v):M.aIz.ok (Ct r v).1:=by unfold Ct;split;(exact⟨j.aI7,C,j.aJT,j.aJX⟩);·exact j
theorem TC(r:M.aIz)(v:Int):M.aIz.sz (Ct r v).1=M.aIz.sz r:=by unfold Ct;split<;>rfl
def UD(r:M.aIz)(ok:Bool):M.aIz×Int:=if(PB r && !(r.aJP==0))=true then if ok=true then((⟨r.aI7,0,r.aJP,r.aJX⟩:M.aIz),r.aJT)else((⟨r.aI7,0,r.aJT,r.aJX⟩:M.aIz),r.aJP)else(r,0)
theorem Ke{r:M.aIz}{ok:Bool}(j:r.ok):yW r ok=some (UD r ok):=by unfold yW UD;rw[nN j,qA];cases PB r<;>cases ok<;>cases (r.aJP==0)<;>simp
theorem JT{r:M.aIz}{ok:Bool}(j:r.ok):yU r ok=some (UD r ok):=by unfold yU UD;rw[sK j,qA];cases PB r<;>cases ok<;>cases (r.aJP==0)<;>simp
theorem aAV{r:M.aIz}{ok:Bool}(j:r.ok):M.aIz.ok (UD r ok).1:=by
 have z:inI 0:=by unfold inI;simp
 unfold UD
 split
 ·split;(exact⟨j.aI7,z,j.aJP,j.aJX⟩);·exact⟨j.aI7,z,j.aJT,j.aJX⟩
 ·exact j
theorem aAU(r:M.aIz)(ok:Bool):M.aIz.sz (UD r ok).1=M.aIz.sz r:=by unfold UD;split;(split<;>rfl);·rfl
theorem R9{l:List M.bC}:∀{s:M.aD},s.ok->l.length<=maxLen->(∀w∈l,M.bC.ok w)->M.aD.sz s<=536870912->(EL s l).ok/\M.aD.sz (EL s l)<=536870912:=by
 induction l with
 |nil=>intro s j _ _ C;exact⟨j,C⟩
 |cons w l ih=>
  intro s j J I C
  have h:=LR j (I w jD) C
  exact ih (s:=(N3 s w).1) h.1 (by simp only[qJ]at J;omega) (λy U=>I y (by simp[U])) h.2
def IZ(o:M.aK)(k:M.Key)(f:ByteArray)(n:Int):M.aK:=(⟨o.aJA,i64.wrap (o.aJd+1),o.aJM++[(⟨o.aJA,o.aJd,k,f,n⟩:M.bC)]⟩:M.aK)
def Ra(o:M.aK)(k:M.Key)(f:ByteArray)(n:Int):M.aK×Bool:=if vM o=true then if vM (IZ o k f n)=true then(IZ o k f n,true)else(o,false)else(o,false)
theorem Yu{o:M.aK}{k:M.Key}{f:ByteArray}{n:Int}(C:o.ok)(hl:o.aJM.length<=1073741824)(hk:k.ok)(J:f.size<=maxLen)(U:inI n):(IZ o k f n).ok:=
 ⟨C.aJA,bK _,⟨by show(o.aJM++_).length<=maxLen;unfold maxLen;simp;omega,λy I=>by have j:y∈o.aJM++[(⟨o.aJA,o.aJd,k,f,n⟩:M.bC)]:=I;simp only[qP,qo,qO,or_false]at j;rcases j with I|rfl;(exact C.aJM.2 y I);·exact⟨C.aJA,C.aJd,hk,J,U⟩⟩⟩
theorem Eo{o:M.aK}{k:M.Key}{f:ByteArray}{n:Int}(j:o.ok)(J:M.aK.sz o<=536870912)(hk:k.ok)(C:f.size<=maxLen)(I:inI n):iW o k f n=some (Ra o k f n):=by
 have U:o.aJM.length<=536870912:=by simp only[M.aK.sz]at J;omega
 have e:=sL (Yu (k:=k) (f:=f) (n:=n) j jB hk C I)
 unfold IZ at e
 unfold iW Ra
 rw[Dk o jB,qA,sL j,qA,dS jS,qA,e,qA]
 unfold IZ
 cases vM o
 ·simp
 ·cases vM (⟨o.aJA,i64.wrap (o.aJd+1),o.aJM++[(⟨o.aJA,o.aJd,k,f,n⟩:M.bC)]⟩:M.aK)<;>simp
def aBA(r:M.aG)(k:M.Key)(f:ByteArray)(n:Int):Bool:=Dm r&&((Ra r.aJR.aK k f n).2&&(N3 (EL r.aJQ r.aJR.aK.aJM) (⟨0,0,k,f,n⟩:M.bC)).2)
def aFk(r:M.aG)(k:M.Key)(f:ByteArray)(n:Int):M.aG:=(⟨r.aJQ,r.aJm,(⟨(Ra r.aJR.aK k f n).1,r.aJR.aJh,r.aJR.aJY⟩:M.aJR)⟩:M.aG)
def nWL(r:M.aG)(k:M.Key)(f:ByteArray)(n:Int):M.aG×Bool:=if aBA r k f n=true then(aFk r k f n,true)else(r,false)
theorem aC1{α:Type}(a b c:Bool)(x y:α):(if(!a)=true then y else if(!b)=true then y else if(!c)=true then y else x)=if(a&&(b&&c))=true then x else y:=by cases a<;>cases b<;>cases c<;>rfl
theorem Kz{r:M.aG}{k:M.Key}{f:ByteArray}{n:Int}(j:r.ok)(U:M.aG.sz r<=536870912)(hk:k.ok)(I:f.size<=maxLen)(J:inI n):nK r k f n=some (nWL r k f n):=by have C:=U;simp only[M.aG.sz,M.aJR.sz]at C;obtain⟨q2,q3⟩:=R9 j.aJQ j.aJR.aK.aJM.1 j.aJR.aK.aJM.2 jB;have q1:=GK j.aJQ j.aJR.aK.aJM.1 j.aJR.aK.aJM.2 jB;unfold nK BA;rw[E4 r jB,Eo j.aJR.aK jB hk I J,q1,Cc j];simp only[qA];rw[Cj (w:=(⟨0,0,k,f,n⟩:M.bC)) q2 ⟨by unfold inI;simp,by unfold inI;simp,hk,I,J⟩ jB];simp only[qA,aC1];unfold nWL aBA aFk;cases (Dm r&&((Ra r.aJR.aK k f n).2&&(N3 (EL r.aJQ r.aJR.aK.aJM) (⟨0,0,k,f,n⟩:M.bC)).2))<;>simp
def sO:List ByteArray:=[(⟨#[98,97,110,107]⟩:ByteArray),(⟨#[110,101,119,115]⟩:ByteArray),(⟨#[115,104,111,112]⟩:ByteArray)]
def Ah(a:ByteArray):Int:=iJ (λx:ByteArray=>x.toList==a.toList) sO
theorem NV:sO.length<=maxLen:=by unfold sO maxLen;simp
theorem C4{a:ByteArray}:pZ a=some (Ah a):=by unfold pZ nM;rw[<-sO.eq_1];rw[findAll (L:=cM sO a) (f:=λx:ByteArray=>x.toList==a.toList) (A:=λi=>some (i:Int)) (E:=some (-1)) NV (λm k hk=> ?_) (λm=> ?_),uH];(rfl);(have j:k<3:=hk;simp only[cM];rw[if_pos (aW hk),aJ hk,qA,bF jB,Bool.beq_comm]);·simp only[cM];rw[if_neg jK]
def MY(l:List ByteArray)(k:Nat):Bool:=(l[k]?).any oJ&&(decide (k=0)||(l[k-1]?).any λy=>(l[k]?).any λx=>Op.bytesLess y.toList x.toList)
def EZ(s:M.aI7):Bool:=(List.range s.aJW.length).all (MY s.aJW)&&(oJ s.Name&&(inR s.aI0 1 1000000000000&&inR (s.aJW.length:Int) 1 6))
theorem Bu{s:M.aI7}(C:s.ok):uM s=some (EZ s):=by
 have J:=le_max C.aJW.1
 unfold uM EZ
 rw[pR (L:=mC s) (g:=MY s.aJW) (F:=some false) (E:=some (oJ s.Name&&(inR s.aI0 1 1000000000000&&inR (s.aJW.length:Int) 1 6))) C.aJW.1 (λn k hk=> ?_) (λn=> ?_),bA]
 ·have I:=C.aJW.2 _ (qG hk)
  simp only[mC]
  rw[if_pos (aW hk),aJ hk,qA,bF jB,dM I,qA]
  unfold MY
  rw[qF hk]
  generalize mC s n ((k+1:Nat):Int)=Z
  by_cases h0:k=0
  ·subst h0;simp only[qd];cases oJ s.aJW[0]<;>simp
  ·have e:i64.wrap ((k:Int)-1)=((k-1:Nat):Int):=by rw[bN jB jB];omega
   have j:k-1<s.aJW.length:=by omega
   rw[if_pos (c:=(decide ((k:Int)>0))=true) jC,e,aJ j,qA,qF j]
   simp only[qd,h0,decide_false,Bool.false_or]
   cases oJ s.aJW[k]<;>cases Op.bytesLess s.aJW[k-1].toList s.aJW[k].toList<;>simp
 ·simp only[mC];rw[if_neg jK,dM C.Name,qA,cH,qA,cH,qA,bA,bA]
theorem Cv{s:M.aI7}(C:s.ok):uK s=some (EZ s):=by
 have J:=le_max C.aJW.1
 unfold uK EZ
 rw[pR (L:=lZ s) (g:=MY s.aJW) (F:=some false) (E:=some (oJ s.Name&&(inR s.aI0 1 1000000000000&&inR (s.aJW.length:Int) 1 6))) C.aJW.1 (λn k hk=> ?_) (λn=> ?_),bA]
 ·have I:=C.aJW.2 _ (qG hk)
  simp only[lZ]
  rw[if_pos (aW hk),aJ hk,qA,bF jB,eH I,qA]
  unfold MY
  rw[qF hk]
  generalize lZ s n ((k+1:Nat):Int)=Z
  by_cases h0:k=0
  ·subst h0;simp only[qd];cases oJ s.aJW[0]<;>simp
  ·have e:i64.wrap ((k:Int)-1)=((k-1:Nat):Int):=by rw[bN jB jB];omega
   have j:k-1<s.aJW.length:=by omega
   rw[if_pos (c:=(decide ((k:Int)>0))=true) jC,e,aJ j,qA,qF j,S6]
   simp only[qd,h0,decide_false,Bool.false_or]
   cases oJ s.aJW[k]<;>cases Op.bytesLess s.aJW[k-1].toList s.aJW[k].toList<;>simp
 ·simp only[lZ];rw[if_neg jK,eH C.Name,qA,cK,qA,cK,qA,bA,bA]
def Fm(l:List M.aP)(k:Nat):Bool:=(l[k]?).any (λx=>inR x.aJA 1 1000000&&inR x.Seq 0 1000000)&&(decide (k=0)||(l[k-1]?).any λy=>(l[k]?).any λx=>decide (y.aJA<x.aJA))
def Gx(l:List M.bC)(k:Nat):Bool:=(l[k]?).any EY
def GR(s:M.aJC):Bool:=(List.range s.aP.length).all (Fm s.aP)&&((List.range s.aJU.length).all (Gx s.aJU)&&(iR s.aD&&((s.aD.Name.toList==(⟨#[110,111,116,101,115]⟩:ByteArray).toList)&&decide ((s.aP.length:Int)<=60))))
theorem CC{s:M.aJC}(j:s.ok):sI s=some (GR s):=by
 have U:=le_max j.aP.1
 have J:=le_max j.aJU.1
 unfold sI GR
 rw[pR (L:=iG s) (g:=Fm s.aP) (F:=some false) (E:=lB s fuel 0) j.aP.1 (λn k hk=> ?_) (λn=> ?_),
  pR (L:=lB s) (g:=Gx s.aJU) (F:=some false) (E:=some (iR s.aD&&((s.aD.Name.toList==(⟨#[110,111,116,101,115]⟩:ByteArray).toList)&&decide ((s.aP.length:Int)<=60)))) j.aJU.1 (λn k hk=> ?_) (λn=> ?_),bA,bA]
 ·have I:=j.aJU.2 _ (qG hk);simp only[lB];rw[if_pos (aW hk),aJ hk,qA,bF jB,BK I,qA,gM];unfold Gx;rw[qF hk,qd]
 ·simp only[lB];rw[if_neg jK,AS j.aD,qA,bA,bA]
 ·simp only[iG]
  rw[if_pos (aW hk),aJ hk,qA,bF jB,cH,qA,cH,qA]
  unfold Fm
  rw[qF hk]
  generalize iG s n ((k+1:Nat):Int)=Z
  by_cases h0:k=0
  ·subst h0;simp only[qd];cases inR s.aP[0].aJA 1 1000000<;>cases inR s.aP[0].Seq 0 1000000<;>simp
  ·have e:i64.wrap ((k:Int)-1)=((k-1:Nat):Int):=by rw[bN jB jB];omega
   have C:k-1<s.aP.length:=by omega
   have ed:decide (s.aP[k-1].aJA>=s.aP[k].aJA)= !decide (s.aP[k-1].aJA<s.aP[k].aJA):=by rw[Bool.eq_iff_iff];simp
   rw[if_pos (c:=(decide ((k:Int)>0))=true) jC,e,aJ C,qA,qF C,ed]
   simp only[qd,h0,decide_false,Bool.false_or]
   cases inR s.aP[k].aJA 1 1000000<;>cases inR s.aP[k].Seq 0 1000000<;>cases decide (s.aP[k-1].aJA<s.aP[k].aJA)<;>simp
 ·simp only[iG];rw[if_neg jK]
theorem L9{s:M.aJC}(j:s.ok):Bf s=some (GR s):=by
 have U:=le_max j.aP.1
 have J:=le_max j.aJU.1
 unfold Bf GR
 rw[pR (L:=iH s) (g:=Fm s.aP) (F:=some false) (E:=lE s fuel 0) j.aP.1 (λn k hk=> ?_) (λn=> ?_),
  pR (L:=lE s) (g:=Gx s.aJU) (F:=some false) (E:=some (iR s.aD&&((s.aD.Name.toList==(⟨#[110,111,116,101,115]⟩:ByteArray).toList)&&decide ((s.aP.length:Int)<=60)))) j.aJU.1 (λn k hk=> ?_) (λn=> ?_),bA,bA]
 ·have I:=j.aJU.2 _ (qG hk);simp only[lE];rw[if_pos (aW hk),aJ hk,qA,bF jB,DT I,qA,gM];unfold Gx;rw[qF hk,qd]
 ·simp only[lE];rw[if_neg jK,ES j.aD,qA,bA,bA]
 ·simp only[iH]
  rw[if_pos (aW hk),aJ hk,qA,bF jB,cK,qA,cK,qA]
  unfold Fm
  rw[qF hk]
  generalize iH s n ((k+1:Nat):Int)=Z
  by_cases h0:k=0
  ·subst h0;simp only[qd];cases inR s.aP[0].aJA 1 1000000<;>cases inR s.aP[0].Seq 0 1000000<;>simp
  ·have e:i64.wrap ((k:Int)-1)=((k-1:Nat):Int):=by rw[bN jB jB];omega
   have C:k-1<s.aP.length:=by omega
   have ed:decide (s.aP[k].aJA<=s.aP[k-1].aJA)= !decide (s.aP[k-1].aJA<s.aP[k].aJA):=by rw[Bool.eq_iff_iff];simp
   rw[if_pos (c:=(decide ((k:Int)>0))=true) jC,e,aJ C,qA,qF C,ed]
   simp only[qd,h0,decide_false,Bool.false_or]
   cases inR s.aP[k].aJA 1 1000000<;>cases inR s.aP[k].Seq 0 1000000<;>cases decide (s.aP[k-1].aJA<s.aP[k].aJA)<;>simp
 ·simp only[iH];rw[if_neg jK]
def GY(p:M.bG)(k:Nat):Bool:=(p.aV[k]?).any λx=>oJ x.aJk&&(x.aI0==p.aI0)
def Fy(p:M.bG):Bool:=(List.range p.aV.length).all (GY p)&&(inR p.Id 1 1000000000000&&(oJ p.aI7&&(oJ p.Top&&(inR p.aI0 1 1000000000000&&decide ((p.aV.length:Int)<=8)))))
theorem DY{p:M.bG}(j:p.ok):uN p=some (Fy p):=by have I:=le_max j.aV.1;unfold uN Fy;rw[pR (L:=tK p) (g:=GY p) (F:=some false) (E:=some (inR p.Id 1 1000000000000&&(oJ p.aI7&&(oJ p.Top&&(inR p.aI0 1 1000000000000&&decide ((p.aV.length:Int)<=8)))))) j.aV.1 (λn k hk=> ?_) (λn=> ?_),bA];(have C:=j.aV.2 _ (qG hk);simp only[tK];rw[if_pos (aW hk),aJ hk,qA,bF jB,dM C.aJk,qA];unfold GY;rw[qF hk,qd];simp only[wN,gM,Yf]);·simp only[tK];rw[if_neg jK];simp only[dM j.aI7,dM j.Top,cH,qA,bA]
theorem OS{p:M.bG}(j:p.ok):CY p=some (Fy p):=by have I:=le_max j.aV.1;unfold CY Fy;rw[pR (L:=tU p) (g:=GY p) (F:=some false) (E:=some (inR p.Id 1 1000000000000&&(oJ p.aI7&&(oJ p.Top&&(inR p.aI0 1 1000000000000&&decide ((p.aV.length:Int)<=8)))))) j.aV.1 (λn k hk=> ?_) (λn=> ?_),bA];(have C:=j.aV.2 _ (qG hk);simp only[tU];rw[if_pos (aW hk),aJ hk,qA,bF jB,eH C.aJk,qA];unfold GY;rw[qF hk,qd];simp only[wN,gM,Yf]);·simp only[tU];rw[if_neg jK];simp only[eH j.aI7,eH j.Top,cK,qA,bA]
theorem Kj{s:ByteArray}(j:s.size<=maxLen):yS s=some (Qx s 30 true):=by
 have C:=le_max j
 unfold yS Qx
 rw[JD (L:=dY s) (g:=KT true) (F:=some false) (E:=some (inR (s.size:Int) 1 30)) j (λn k hk=> ?_) (λn=> ?_),bA]
 ·simp only[dY]
  rw[if_pos (aW hk),IP hk,qA,bF jB]
  generalize s[k]=b
  unfold KT
  generalize dY s n ((k+1:Nat):Int)=Z
  simp only[Bool.or_eq_true,qM,qL,Bool.not_eq_true',decide_eq_false_iff_not,Bool.true_and,bne_iff_ne,ne_eq]
  repeat' split
  all_goals first|rfl|(exfalso;omega)
 ·simp only[dY];rw[if_neg jK,cH,qA]
theorem KE{s:ByteArray}(j:s.size<=maxLen):yV s=some (Qx s 30 true):=by unfold yV;rw[IW j,qA]
def Q1(x y:M.mV):Bool:=x.aJx&&((y.Name.toList==x.Name.toList)&&(!y.aJx||(!x.aJf|| !y.aJf)))
def JA(l:List M.mV)(k:Nat)(x:M.mV):Bool:=(List.range k).all λj=> !((l[j]?).any (Q1 x))
def M9(l:List M.mV)(k:Nat):Bool:=(l[k]?).any λx=>Qx x.Name 30 true&&(inR x.bG 1 1000000000000&&JA l k x)
def JM(t:M.aQ):Bool:=(List.range t.aJJ.length).all (M9 t.aJJ)&&decide ((t.aJJ.length:Int)<=12)
theorem Uj{t:M.aQ}{x:M.mV}{k:Nat}{K:Int->Option Bool}(I:t.aJJ.length<=maxLen)(hk:k<=t.aJJ.length):cZ t (k:Int) x K fuel 0=if JA t.aJJ k x=true then K (k:Int)else some false:=by
 have U:=le_max I
 refine pR (L:=cZ t (k:Int) x K) (g:=λj=> !((t.aJJ[j]?).any (Q1 x))) (F:=some false) (E:=K (k:Int)) (qf hk I) (λn j J=> ?_) (λn=> ?_)
 ·have C:j<t.aJJ.length:=by omega
  simp only[cZ]
  rw[if_pos (aW J),aJ C,qA,bF jB,qF C,qd]
  unfold Q1
  generalize cZ t (k:Int) x K n ((j+1:Nat):Int)=Z
  cases x.aJx<;>cases (t.aJJ[j].Name.toList==x.Name.toList)<;>cases t.aJJ[j].aJx<;>cases x.aJf<;>cases t.aJJ[j].aJf<;>simp
 ·simp only[cZ];rw[if_neg jK]
theorem T7{t:M.aQ}{x:M.mV}{k:Nat}{C:Option Bool}(hm:t.aJJ.length<=maxLen)(hk:k<=t.aJJ.length):dA t (k:Int) x (λ_=>C) fuel 0=if JA t.aJJ k x=true then C else some false:=by
 have hm':=le_max hm
 have J:(t.aJJ.take k).length=k:=by rw[qU];omega
 have:=pR (N:=k) (L:=dA t (k:Int) x (λ_=>C)) (g:=λj=> !((t.aJJ[j]?).any (Q1 x))) (F:=some false) (E:=C) (qf hk hm) (λn j U=> ?_) (λn=> ?_)
 ·exact this
 ·have I:j<t.aJJ.length:=by omega
  simp only[dA,qH,J]
  rw[if_pos (aW U),aJ (by rw[J];exact U),qA,bF jB,qF I,qd,List.getElem_take]
  unfold Q1
  generalize dA t (k:Int) x (λ_=>C) n ((j+1:Nat):Int)=Z
  cases x.aJx<;>cases (t.aJJ[j].Name.toList==x.Name.toList)<;>cases t.aJJ[j].aJx<;>cases x.aJf<;>cases t.aJJ[j].aJf<;>simp
 ·simp only[dA,qH,J];rw[if_neg jK]
theorem JF{t:M.aQ}(j:t.ok):yF t=some (JM t):=by have I:=le_max j.aJJ.1;unfold yF JM;rw[pR (L:=fX t) (g:=M9 t.aJJ) (F:=some false) (E:=some (decide ((t.aJJ.length:Int)<=12))) j.aJJ.1 (λn k hk=> ?_) (λn=> ?_),bA];(have C:=j.aJJ.2 _ (qG hk);simp only[fX];rw[if_pos (aW hk),aJ hk,qA,bF jB,Kj C.Name,qA,cH,qA,Uj j.aJJ.1 jB];unfold M9;rw[qF hk,qd];generalize fX t n ((k+1:Nat):Int)=Z;cases Qx t.aJJ[k].Name 30 true<;>cases inR t.aJJ[k].bG 1 1000000000000<;>cases JA t.aJJ k t.aJJ[k]<;>simp);·simp only[fX];rw[if_neg jK]
theorem Jm{t:M.aQ}(j:t.ok):xP t=some (JM t):=by have I:=le_max j.aJJ.1;unfold xP JM;rw[pR (L:=fY t) (g:=M9 t.aJJ) (F:=some false) (E:=some (decide ((t.aJJ.length:Int)<=12))) j.aJJ.1 (λn k hk=> ?_) (λn=> ?_),bA];(have C:=j.aJJ.2 _ (qG hk);simp only[fY];rw[if_pos (aW hk),aJ hk,qA,bF jB,KE C.Name,qA,cK,qA,Da jB,qA,T7 j.aJJ.1 jB];unfold M9;rw[qF hk,qd];generalize fY t n ((k+1:Nat):Int)=Z;cases Qx t.aJJ[k].Name 30 true<;>cases inR t.aJJ[k].bG 1 1000000000000<;>cases JA t.aJJ k t.aJJ[k]<;>simp);·simp only[fY];rw[if_neg jK]
theorem RH:sO.length=3:=rfl
theorem Wh{a:ByteArray}{k:Nat}(hk:k<sO.length):(Ah a==(k:Int))=(a.toList==(sO[k]).toList):=by
 have d:∀i j:Nat,(J:i<sO.length)->(C:j<sO.length)->(sO[i]).toList=(sO[j]).toList->i=j:=by
  intro i j J C h
  have U:(⟨#[98,97,110,107]⟩:ByteArray).toList=[98,97,110,107]:=by rw[ByteArray.toList_eq]
  have e1:(⟨#[110,101,119,115]⟩:ByteArray).toList=[110,101,119,115]:=by rw[ByteArray.toList_eq]
  have e2:(⟨#[115,104,111,112]⟩:ByteArray).toList=[115,104,111,112]:=by rw[ByteArray.toList_eq]
  rw[RH]at J C
  rcases i with _|_|_|i<;>rcases j with _|_|_|j<;>first|rfl|(exfalso;omega)|(exfalso;simp[sO,U,e1,e2]at h)
 have hf:=dK (f:=λx:ByteArray=>x.toList==a.toList) (xs:=sO)
 have I:=Ht (λx:ByteArray=>x.toList==a.toList) sO
 unfold Ah
 rw[Bool.eq_iff_iff,beq_iff_eq,beq_iff_eq]
 constructor
 ·intro h
  have h2:sO.findIdx? (λx:ByteArray=>x.toList==a.toList)=some k:=by
   unfold iJ at h
   cases e:sO.findIdx? (λx:ByteArray=>x.toList==a.toList)with
   |none=>rw[e]at h;simp only at h;omega
   |some i=>rw[e]at h;simp only at h;congr 1;omega
  have:=(List.findIdx?_eq_some_iff_getElem.1 h2).2.1
  exact(eq_of_beq this).symm
 ·intro h
  have hex:sO.any (λx:ByteArray=>x.toList==a.toList)=true:=List.any_eq_true.2 ⟨sO[k],qG hk,by rw[h];exact beq_self_eq_true _⟩
  rw[hex]at I
  obtain⟨j,e,C⟩:=hf (by have:=of_decide_eq_true I;omega)
  rw[e]
  have h2:sO.findIdx? (λx:ByteArray=>x.toList==a.toList)=some j:=by
   unfold iJ at e
   cases e2:sO.findIdx? (λx:ByteArray=>x.toList==a.toList)with
   |none=>rw[e2]at e;simp only at e;omega
   |some i=>rw[e2]at e;simp only at e;congr 1;omega
  have:=(List.findIdx?_eq_some_iff_getElem.1 h2).2.1
  rw[d j k C hk (by rw[eq_of_beq this,h])]
def FW(w:M.World)(k:Nat):Bool:=(w.aJI[k]?).any λx=>Fy x&&(decide (x.Id<w.aJG)&&((decide (k=0)||(w.aJI[k-1]?).any λy=>decide (y.Id<x.Id))&&decide (0<=iJ (nAt x.aI7 x.Top) w.aA.aI4)))
def IB(w:M.World)(k:Nat):Bool:=(w.aJL[k]?).any λx=>EZ x&&((sO[k]?).any (λj=>x.Name.toList==j.toList)&&(w.aJK[k]?).any GR)
def zO(w:M.World):Bool:=decide (w.aJL.length=3)&&(decide (w.aJK.length=3)&&(decide (w.aJI.length<=6)&&((List.range 3).all (IB w)&&((List.range w.aJI.length).all (FW w)&&(inR w.Now 0 999999990000&&(inR w.aJA 1 1000000&&(oP w.aA&&(inR w.aJG 1 1000000000000&&JM w.aJJ))))))))
theorem Dx{w:M.World}(j:M.World.sz w<=1048576):M.aA.sz w.aA<=1048576:=by simp only[M.World.sz]at j;omega
theorem Uw{w:M.World}(C:w.ok){E:Option Bool}(I:∀n,eD w (n+1) (w.aJI.length:Int)=E):eD w fuel 0=if(List.range w.aJI.length).all (FW w)=true then E else some false:=by
 have U:=le_max C.aJI.1
 refine pR (L:=eD w) (g:=FW w) (F:=some false) (E:=E) C.aJI.1 (λn k hk=> ?_) I
 have J:=C.aJI.2 _ (qG hk)
 simp only[eD]
 rw[if_pos (aW hk),aJ hk,qA,bF jB,DY J,qA,uV C.aA,qA]
 unfold FW
 rw[qF hk,qd]
 generalize eD w n ((k+1:Nat):Int)=Z
 have e1:decide (w.aJI[k].Id>=w.aJG)= !decide (w.aJI[k].Id<w.aJG):=by rw[Bool.eq_iff_iff];simp
 have e2:decide (iJ (nAt w.aJI[k].aI7 w.aJI[k].Top) w.aA.aI4<0)= !decide (0<=iJ (nAt w.aJI[k].aI7 w.aJI[k].Top) w.aA.aI4):=by rw[Bool.eq_iff_iff];simp
 rw[e1]
 simp only[e2]
 by_cases h0:k=0
 ·subst h0;cases Fy w.aJI[0]<;>cases decide (w.aJI[0].Id<w.aJG)<;>cases decide (0<=iJ (nAt w.aJI[0].aI7 w.aJI[0].Top) w.aA.aI4)<;>simp
 ·have e:i64.wrap ((k:Int)-1)=((k-1:Nat):Int):=by rw[bN jB jB];omega
  have j:k-1<w.aJI.length:=by omega
  have e3:decide (w.aJI[k-1].Id>=w.aJI[k].Id)= !decide (w.aJI[k-1].Id<w.aJI[k].Id):=by rw[Bool.eq_iff_iff];simp
  rw[if_pos (c:=(decide ((k:Int)>0))=true) jC,e,aJ j,qA,qF j,e3]
  simp only[qd,h0,decide_false,Bool.false_or]
  cases Fy w.aJI[k]<;>cases decide (w.aJI[k].Id<w.aJG)<;>cases decide (w.aJI[k-1].Id<w.aJI[k].Id)<;>cases decide (0<=iJ (nAt w.aJI[k].aI7 w.aJI[k].Top) w.aA.aI4)<;>simp
theorem TQ{w:M.World}(C:w.ok){E:Option Bool}(I:∀n,fI w (n+1) (w.aJI.length:Int)=E):fI w fuel 0=if(List.range w.aJI.length).all (FW w)=true then E else some false:=by
 have U:=le_max C.aJI.1
 refine pR (L:=fI w) (g:=FW w) (F:=some false) (E:=E) C.aJI.1 (λn k hk=> ?_) I
 have J:=C.aJI.2 _ (qG hk)
 simp only[fI]
 rw[if_pos (aW hk),aJ hk,qA,bF jB,OS J,qA,vH C.aA,qA]
 unfold FW
 rw[qF hk,qd]
 generalize fI w n ((k+1:Nat):Int)=Z
 have e1:decide (w.aJI[k].Id>=w.aJG)= !decide (w.aJI[k].Id<w.aJG):=by rw[Bool.eq_iff_iff];simp
 have e2:decide (iJ (nAt w.aJI[k].aI7 w.aJI[k].Top) w.aA.aI4<0)= !decide (0<=iJ (nAt w.aJI[k].aI7 w.aJI[k].Top) w.aA.aI4):=by rw[Bool.eq_iff_iff];simp
 rw[e1]
 simp only[e2]
 by_cases h0:k=0
 ·subst h0;cases Fy w.aJI[0]<;>cases decide (w.aJI[0].Id<w.aJG)<;>cases decide (0<=iJ (nAt w.aJI[0].aI7 w.aJI[0].Top) w.aA.aI4)<;>simp
 ·have e:i64.wrap ((k:Int)-1)=((k-1:Nat):Int):=by rw[bN jB jB];omega
  have j:k-1<w.aJI.length:=by omega
  have e3:decide (w.aJI[k].Id<=w.aJI[k-1].Id)= !decide (w.aJI[k-1].Id<w.aJI[k].Id):=by rw[Bool.eq_iff_iff];simp
  rw[if_pos (c:=(decide ((k:Int)>0))=true) jC,e,aJ j,qA,qF j,e3]
  simp only[qd,h0,decide_false,Bool.false_or]
  cases Fy w.aJI[k]<;>cases decide (w.aJI[k].Id<w.aJG)<;>cases decide (w.aJI[k-1].Id<w.aJI[k].Id)<;>cases decide (0<=iJ (nAt w.aJI[k].aI7 w.aJI[k].Top) w.aA.aI4)<;>simp
theorem G6{w:M.World}(J:w.ok)(hz:∀b∈w.aA.aI4,M.aI2.sz b.bR.aJQ<=1048576):gY w=some (zO w):=by
 unfold gY zO
 by_cases h1:w.aJL.length=3
 ·by_cases h2:w.aJK.length=3
  ·have e3:decide ((w.aJI.length:Int)>6)= !decide (w.aJI.length<=6):=by rw[Bool.eq_iff_iff];simp;omega
   rw[if_neg (by rw[h1];simp),if_neg (by rw[h2];simp),e3,decide_eq_true h1,decide_eq_true h2]
   rw[pR (N:=3) (L:=nH w) (g:=IB w) (F:=some false) (E:=eD w fuel 0) jJ (λn k hk=> ?_) (λn=> ?_),
    Uw J (E:=some (inR w.Now 0 999999990000&&(inR w.aJA 1 1000000&&(oP w.aA&&(inR w.aJG 1 1000000000000&&JM w.aJJ))))) (λn=> ?_)]
   ·cases decide (w.aJI.length<=6)<;>cases (List.range 3).all (IB w)<;>cases (List.range w.aJI.length).all (FW w)<;>simp
   ·simp only[eD];rw[if_neg jK];simp only[cH,C3 J.aA hz,JF J.aJJ,qA,bA]
   ·have j:k<w.aJL.length:=by omega
    have C:k<w.aJK.length:=by omega
    have I:k<sO.length:=by rw[RH];exact hk
    have U:vW=some sO:=rfl
    simp only[nH,U,qA]
    rw[if_pos jC,aJ j,qA,bF jB,Bu (J.aJL.2 _ (qG j)),qA,aJ I,qA,aJ C,qA,CC (J.aJK.2 _ (qG C)),qA]
    unfold IB
    rw[qF j,qF C,qF I]
    simp only[qd]
    generalize nH w n ((k+1:Nat):Int)=Z
    have gen:∀(a b c:Bool),(if(!a)=true then some false else if(!b)=true then some false else if(!c)=true then some false else Z)=if(a&&(b&&c))=true then Z else some false:=by intro a b c;cases a<;>cases b<;>cases c<;>rfl
    exact gen _ _ _
   ·simp only[nH];rw[if_neg jD]
  ·rw[if_neg (by rw[h1];simp),if_pos jC,decide_eq_false h2];simp
 ·rw[if_pos jC,decide_eq_false h1];simp
theorem MS{w:M.World}(J:w.ok)(U:∀b∈w.aA.aI4,M.aI2.sz b.bR.aJQ<=1048576):uP w=some (zO w):=by
 unfold uP zO
 have e3:decide ((w.aJI.length:Int)>6)= !decide (w.aJI.length<=6):=by rw[Bool.eq_iff_iff];simp;omega
 have e1:((w.aJL.length:Int) !=3)= !decide (w.aJL.length=3):=by rw[Bool.eq_iff_iff];simp;omega
 have e2:((w.aJK.length:Int) !=3)= !decide (w.aJK.length=3):=by rw[Bool.eq_iff_iff];simp;omega
 simp only[cK,Dc J.aA U,Jm J.aJJ,qA,e1,e2,e3]
 by_cases h1:w.aJL.length=3
 ·by_cases h2:w.aJK.length=3
  ·rw[TQ J (E:=kI w fuel 0) (λn=>by
     simp only[fI]
     rw[if_neg jK]),
    pR (N:=3) (L:=kI w) (g:=IB w) (F:=some false) (E:=some true) jJ (λn k hk=> ?_) (λn=> ?_)]
   ·rw[decide_eq_true h1,decide_eq_true h2];cases inR w.Now 0 999999990000<;>cases inR w.aJA 1 1000000<;>cases oP w.aA<;>cases decide (w.aJI.length<=6)<;>cases inR w.aJG 1 1000000000000<;>cases JM w.aJJ<;>cases (List.range 3).all (IB w)<;>cases (List.range w.aJI.length).all (FW w)<;>rfl
   ·have j:k<w.aJL.length:=by omega
    have C:k<w.aJK.length:=by omega
    have I:k<sO.length:=by rw[RH];exact hk
    simp only[kI]
    rw[if_pos (aW j),aJ j,qA,bF jB,Cv (J.aJL.2 _ (qG j)),qA,C4,qA,aJ C,qA,L9 (J.aJK.2 _ (qG C)),qA,wN,Wh I]
    unfold IB
    rw[qF j,qF C,qF I]
    simp only[qd]
    generalize kI w n ((k+1:Nat):Int)=Z
    have gen:∀(a b c:Bool),(if(!a)=true then some false else if b=true then if(!c)=true then some false else Z else some false)=if(a&&(b&&c))=true then Z else some false:=by intro a b c;cases a<;>cases b<;>cases c<;>rfl
    exact gen _ _ _
   ·simp only[kI];rw[if_neg (by rw[h1];simp)]
  ·rw[decide_eq_true h1,decide_eq_false h2];cases inR w.Now 0 999999990000<;>cases inR w.aJA 1 1000000<;>cases oP w.aA<;>cases decide (w.aJI.length<=6)<;>cases inR w.aJG 1 1000000000000<;>cases JM w.aJJ<;>rfl
 ·rw[decide_eq_false h1];cases inR w.Now 0 999999990000<;>cases inR w.aJA 1 1000000<;>cases oP w.aA<;>cases decide (w.aJI.length<=6)<;>cases inR w.aJG 1 1000000000000<;>cases JM w.aJJ<;>rfl
theorem SD{w:M.World}(j:M.World.sz w<=1048576):∀b∈w.aA.aI4,M.aI2.sz b.bR.aJQ<=1048576:=λb hb=>xV (by have h1:=Dx j;have h2:=cN (f:=M.aI3.sz) hb;simp only[M.aA.sz]at h1;omega)
theorem BU{w:M.World}(j:w.ok)(C:M.World.sz w<=1048576):gY w=some (zO w):=G6 j (SD C)
theorem E3{w:M.World}(j:w.ok)(C:M.World.sz w<=1048576):uP w=some (zO w):=MS j (SD C)
def okC(b:List Int)(i h:Int):Prop:=b.length<=1048576/\(∀x∈b,0<=x/\x<=255)/\0<=i/\i<=1048576/\inI h
def Dr{α:Type}(b:List Int)(P:α->Prop)(o:Option (Int×Int×α)):Prop:=∃i h r,o=some (i,h,r)/\okC b i h/\P r
theorem Dr.ret{α:Type}{b:List Int}{P:α->Prop}{i h:Int}{r:α}(hc:okC b i h)(j:P r):Dr b P (some (i,h,r)):=⟨i,h,r,rfl,hc,j⟩
theorem Dr.bnd{α β:Type}{b:List Int}{P:β->Prop}{Q:α->Prop}{o:Option (Int×Int×α)}{f:Int×Int×α->Option (Int×Int×β)}(C:Dr b Q o)(j:∀i h r,okC b i h->Q r->Dr b P (f (i,h,r))):Dr b P (o.bind f):=by obtain⟨i,h,r,rfl,hc,I⟩:=C;exact j i h r hc I
theorem Dr.Gl{α β:Type}{b:List Int}{P:β->Prop}{Q:α->Prop}{o:Option α}{f:α->Option (Int×Int×β)}(C:∃r,o=some r/\Q r)(j:∀r,Q r->Dr b P (f r)):Dr b P (o.bind f):=by obtain⟨r,rfl,I⟩:=C;exact j r I
theorem Dr.mono{α:Type}{b:List Int}{P Q:α->Prop}{o:Option (Int×Int×α)}(h:∀r,P r->Q r)(C:Dr b P o):Dr b Q o:=by obtain⟨i,j,r,e,hc,I⟩:=C;exact⟨i,j,r,e,hc,h r I⟩
theorem CA{σ R:Type}{L:Nat->Int->σ->Option R}{I:Nat->σ->Prop}{Q:Option R->Prop}(h1:∀n (k:Nat) s,I (k+1) s->(∀s',I k s'->Q (L n (k:Int) s'))->Q (L (n+1) ((k+1:Nat):Int) s))(J:∀n s,I 0 s->Q (L (n+1) 0 s)):∀(n k:Nat) (s:σ),k<n->I k s->Q (L n (k:Int) s)
 |0,_,_,h,_=>by omega
 |n+1,0,s,_,j=>J n s j
 |n+1,k+1,s,h,j=>h1 n k s j λs' C=>CA h1 J n k s' jB C
theorem ZL{σ R:Type}{N:Nat}{L:Nat->Int->σ->Option R}{I:Nat->σ->Prop}{Q:Option R->Prop}(h1:∀n (k:Nat) s,k<N->I k s->(∀s',I (k+1) s'->Q (L n ((k+1:Nat):Int) s'))->Q (L (n+1) (k:Int) s))(h2:∀n s,I N s->Q (L (n+1) (N:Int) s)):∀(n k:Nat) (s:σ),N-k<n->k<=N->I k s->Q (L n (k:Int) s)
 |0,_,_,h,_,_=>by omega
 |n+1,k,s,h,hk,C=>by
  rcases Nat.lt_or_ge k N with hlt|hge
  ·exact h1 n k s hlt C λs' j=>ZL h1 h2 n (k+1) s' jB jB j
  ·have e:k=N:=by omega
   subst e
   exact h2 n s C
theorem mI{k:Nat}(h:k<=9223372036854775808):k<fuel:=by unfold fuel;omega
theorem P8(x:BitVec IntKind.i64.bits):0<=i64.wrap ((x&&&BitVec.ofInt IntKind.i64.bits 255).toNat:Int)/\i64.wrap ((x&&&BitVec.ofInt IntKind.i64.bits 255).toNat:Int)<=255:=by
 have h1:(x&&&BitVec.ofInt IntKind.i64.bits 255).toNat<=255:=by rw[BitVec.toNat_and];exact qf Nat.and_le_right jE
 rw[bN jB jB]
 omega
theorem I9{b:List Int}{i h:Int}(hc:okC b i h):Dr b (λr=>0<=r/\r<=255) (uO (⟨b,i,h⟩:M.aM)):=by
 obtain⟨h1,h2,h3,h4,h5⟩:=hc
 unfold uO
 by_cases hl:i<(b.length:Int)
 ·rw[if_pos (by simpa using hl)]
  obtain⟨k,rfl⟩:=Int.eq_ofNat_of_zero_le h3
  have hk:k<b.length:=by omega
  show Dr b _ ((idx b (k:Int)).bind _)
  rw[aJ hk,qA]
  refine .ret ⟨h1,h2,?_,?_,bK _⟩ (P8 _)
  ·show 0<=i64.wrap ((k:Int)+1);rw[bF jB];omega
  ·show i64.wrap ((k:Int)+1)<=_;rw[bF jB];omega
 ·rw[if_neg (by simpa using hl)];exact .ret ⟨h1,h2,h3,h4,bK _⟩ (P8 _)
theorem RL{x n:Int}(j:0<=x)(C:0<n):x%n<=x:=by have h1:=Int.emod_add_mul_ediv x n;have h2:0<=n*(x/n):=Int.mul_nonneg jB (Int.ediv_nonneg j jB);omega
theorem V9{x n:Int}(C:0<=x)(j:0<n):0<=Int.tmod x n/\Int.tmod x n<n:=by rw[Int.tmod_eq_emod_of_nonneg C];exact⟨Int.emod_nonneg _ jB,Int.emod_lt_of_pos _ j⟩
theorem aT{b:List Int}{i h n:Int}(hc:okC b i h):Dr b (λr=>0<=r/\(0<n->r<n)/\r<=16777215) (aF (⟨b,i,h⟩:M.aM) n):=by
 unfold aF
 by_cases h0:n<=0
 ·rw[if_pos (by simpa using h0)];exact .ret hc ⟨jB,jB,jB⟩
 ·rw[if_neg (by simpa using h0)]
  by_cases h1:n<=256
  ·rw[if_pos (by simpa using h1)]
   refine .bnd (I9 hc) λi1 v1 j I U=> ?_
   rw[if_neg jC]
   have:=V9 U.1 (show 0<n by omega)
   exact .ret I ⟨this.1,λ_=>this.2,by show Int.tmod j n<=_;omega⟩
  ·rw[if_neg (by simpa using h1)]
   refine .bnd (I9 hc) λi1 v1 j I U=>.bnd (I9 I) λi2 v2 C c2 q2=>.bnd (I9 c2) λi3 v3 J c3 q3=> ?_
   rw[if_neg jC]
   dsimp only
   rw[bN (n:=j*65536) jB jB,bN (n:=C*256) jB jB,bN (n:=j*65536+C*256) jB jB,bN jB jB]
   have:=V9 (show 0<=j*65536+C*256+J by omega) (show 0<n by omega)
   have h3:=Int.tmod_eq_emod_of_nonneg (b:=n) (show 0<=j*65536+C*256+J by omega)
   have h4:=RL (n:=n) (show 0<=j*65536+C*256+J by omega) (show 0<n by omega)
   exact .ret c3 ⟨this.1,λ_=>this.2,jB⟩
theorem Ab{b:List Int}{i h n:Int}(hc:okC b i h):Dr b (λ_=>True) (cC (⟨b,i,h⟩:M.aM) n):=by unfold cC;exact .bnd (aT hc) λi1 J I j C=>.ret j trivial
theorem uL{b:List Int}{i h:Int}{l:List Int}(P:Int->Prop)(J:0<l.length)(I:∀x∈l,P x)(hc:okC b i h):Dr b P (bO (⟨b,i,h⟩:M.aM) l):=by
 unfold bO
 refine .bnd (aT hc) λi1 v1 U C j=> ?_
 dsimp only
 obtain⟨k,rfl⟩:=Int.eq_ofNat_of_zero_le j.1
 have:=j.2.1 jB
 have hk:k<l.length:=by omega
 rw[aJ hk,qA]
 exact .ret C (I _ (qG hk))
