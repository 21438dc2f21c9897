/-
  Helper text. No conditions.
-/
import Derived.Test.YtjlnkcoeghonfaaGreatRunPagePq3
set_option linter.all false
namespace Go.Proofs.YtjlnkcoeghonfaaGreat.gen
open Go Go.Sh
open Go.IntKind (i64)
theorem O0{α:Type}{f:α->Nat}(q:α->Bool):∀(l:List α),bA f (l.filter q)<=bA f l
 |[]=>qf _
 |x::l=>by have h:=O0 (f:=f) q l;rw[List.filter_cons];split;(simp only[bA];omega);·simp only[bA];omega
theorem Yb{x y:M.Key}(C:Dv x=true)(I:Dv y=true):decide (bP y x<=0)= !decide (bP x y<0):=by have J:=Ch x.aKA.toList y.aKA.toList;have j:=Ch y.aKA.toList x.aKA.toList;unfold bP;rw[if_pos (show Dv y=true/\Dv x=true from⟨I,C⟩),if_pos (show Dv x=true/\Dv y=true from⟨C,I⟩)];by_cases hk:x.aJz=y.aJz;(rw[if_pos hk.symm,if_pos hk];by_cases hn:x.N=y.N;(rw[if_pos hn.symm,if_pos hn];rw[show(y.aKA.toList==x.aKA.toList)=(x.aKA.toList==y.aKA.toList)from Bool.beq_comm]at*;generalize Op.bytesLess x.aKA.toList y.aKA.toList=a at*;generalize Op.bytesLess y.aKA.toList x.aKA.toList=b at*;generalize (x.aKA.toList==y.aKA.toList)=c at*;revert J j;cases a<;>cases b<;>cases c<;>decide);·rw[if_neg (λe=>hn (Eq.symm e)),if_neg hn];by_cases hlt:x.N<y.N;(rw[if_neg (show ¬y.N<x.N by omega),if_pos hlt];decide);·rw[if_pos (show y.N<x.N by omega),if_neg hlt];decide);·rw[if_neg (λe=>hk (Eq.symm e)),if_neg hk];by_cases hlt:x.aJz<y.aJz;(rw[if_neg (show ¬y.aJz<x.aJz by omega),if_pos hlt];decide);·rw[if_pos (show y.aJz<x.aJz by omega),if_neg hlt];decide
def tB(k:M.Key)(g:M.dF):Bool:=Dv k&&((!g.aKg||Dv g.Low)&&((!g.aKV||Dv g.aKZ)&&((!g.aKg||decide (bP g.Low k<=0))&&(!g.aKV||decide (bP k g.aKZ<=0)))))
theorem Mr{k:M.Key}{g:M.dF}(hk:k.ok)(C:g.Low.ok)(j:g.aKZ.ok):Ag k g=some (tB k g):=by unfold Ag tB;simp only[mD hk,mD C,mD j,vW C hk,vW hk j,qA];generalize decide (bP g.Low k<=0)=a1;generalize decide (bP k g.aKZ<=0)=a2;generalize g.aKg=a3;generalize g.aKV=a4;generalize Dv k=a5;generalize Dv g.Low=a6;generalize Dv g.aKZ=a7;cases a1<;>cases a2<;>cases a3<;>cases a4<;>cases a5<;>cases a6<;>cases a7<;>rfl
theorem Mp{k:M.Key}{g:M.dF}(hk:k.ok)(C:g.Low.ok)(j:g.aKZ.ok):zU k g=some (tB k g):=by
 have h2:(!(decide (bP k g.aKZ>0)))=decide (bP k g.aKZ<=0):=by rw[<-decide_not,decide_eq_decide];omega
 have h1:Dv k=true->Dv g.Low=true->(!(decide (bP k g.Low<0)))=decide (bP g.Low k<=0):=λa b=>(Yb a b).symm
 unfold zU tB
 simp only[oZ hk,oZ C,oZ j,vM hk C,vM hk j,qA,h2]
 generalize (!(decide (bP k g.Low<0)))=a0 at*
 generalize decide (bP g.Low k<=0)=a1 at*
 generalize decide (bP k g.aKZ<=0)=a2
 generalize g.aKg=a3
 generalize g.aKV=a4
 generalize Dv k=a5 at*
 generalize Dv g.Low=a6 at*
 generalize Dv g.aKZ=a7
 cases a5
 ·rfl
 cases a6
 ·cases a3<;>cases a4<;>cases a7<;>cases a2<;>cases a1<;>cases a0<;>rfl
 ·obtain rfl:=h1 rfl rfl;cases a0<;>cases a2<;>cases a3<;>cases a4<;>cases a7<;>rfl
theorem PE{α R:Type}{xs:List α}{q:α->Bool}{E:List α->Option R}{L:Nat->Int->Int->List α->Option R}
  (h1:∀n (i j:Nat) (r:List α) (hj:j<r.length) (hi:i<r.length),r.length=xs.length->r[j]∈xs->L (n+1) (i:Int) (j:Int) r=if q r[j]=true then L n (i:Int) ((j+1:Nat):Int) r else L n ((i+1:Nat):Int) ((j+1:Nat):Int) (r.set i r[j]))
  (h2:∀n (i:Nat) (r:List α),i<=r.length->L (n+1) (i:Int) (r.length:Int) r=E (r.take i)):
  ∀(n i j:Nat) (r:List α),xs.length-j<n->j<=xs.length->i<=j->r.length=xs.length->r.take i=(xs.take j).filter (λx=> !q x)->r.drop j=xs.drop j->L n (i:Int) (j:Int) r=E (xs.filter λx=> !q x)
 |0,i,j,r,hn,_,_,_,_,_=>by omega
 |n+1,i,j,r,hn,hj,hi,hr,ht,hd=>by
  rcases Nat.lt_or_ge j xs.length with h|h
  ·have I:j<r.length:=by omega
   have U:r[j]=xs[j]:=by have:=congrArg (λl=>l[0]?) hd;simp only[List.getElem?_drop,Nat.add_zero,qF I,qF h,qb]at this;exact this
   have C:r.drop (j+1)=xs.drop (j+1):=by have:=congrArg (List.drop 1) hd;simpa only[List.drop_drop]using this
   have J:xs.take (j+1)=xs.take j++[xs[j]]:=(List.take_append_getElem h).symm
   rw[h1 n i j r I jD hr (by rw[U];exact qG h)]
   cases hq:q r[j]with
   |true=>
    rw[if_pos rfl]
    refine PE h1 h2 n i (j+1) r jD h jD hr ?_ C
    rw[ht,J,List.filter_append,<-U]
    simp[hq]
   |false=>
    rw[if_neg jF]
    refine PE h1 h2 n (i+1) (j+1) (r.set i r[j]) jD h jD (by simpa using hr) ?_ ?_
    ·rw[J,List.filter_append,<-ht,<-U]
     have hl:i<(r.set i r[j]).length:=by rw[qN];omega
     rw[<-List.take_append_getElem hl,List.getElem_set_self,List.take_set_of_le (qf i)]
     simp[hq]
    ·rw[List.drop_set_of_lt jD];exact C
  ·have e:j=r.length:=by omega
   subst e
   rw[h2 n i r hi,ht,List.take_of_length_le jD]
def LA(s:M.aD)(g:M.dF):M.aD×Int:=if lQ s=true then((⟨s.Name,s.aJm.filter (λx=> !tB x.Key g),s.aKG⟩:M.aD),i64.wrap ((List.length s.aJm:Int)-(List.length (s.aJm.filter (λx=> !tB x.Key g)):Int)))else(s,0)
theorem NC{α:Type}{f:α->Bool}{l:List α}{k:Nat}(h:k<l.length):(l.take (k+1)).filter f=(l.take k).filter f++(if f l[k]=true then[l[k]]else[]):=by rw[<-List.take_append_getElem h,List.filter_append];congr 1;rw[List.filter_cons,List.filter_nil]
theorem XZ{s:M.aD}(hz:M.aD.sz s<=1500000){x:M.aJt}(j:x∈s.aJm):M.aJt.sz x<=1500000:=by have:=dW (f:=M.aJt.sz) j;simp only[M.aD.sz]at hz;omega
theorem Gu{s:M.aD}{g:M.dF}(C:s.ok)(U:g.Low.ok)(J:g.aKZ.ok)(hz:M.aD.sz s<=1500000):pZ s g=some (LA s g):=by
 have hn:s.aJm.length<=1500000:=by simp only[M.aD.sz]at hz;omega
 have key:∀(n k:Nat) (r:List M.aJt),s.aJm.length-k<n->k<=s.aJm.length->r=(s.aJm.take k).filter (λx=> !tB x.Key g)->hM s g n (k:Int) r=some ((⟨s.Name,s.aJm.filter (λx=> !tB x.Key g),s.aKG⟩:M.aD),i64.wrap ((List.length s.aJm:Int)-(List.length (s.aJm.filter (λx=> !tB x.Key g)):Int))):=by
  intro n
  induction n with
  |zero=>intro k r h;omega
  |succ n I=>
   intro k r hk hle j
   simp only[hM]
   rcases Nat.lt_or_ge k s.aJm.length with hlt|hge
   ·have hx:=C.aJm.2 _ (qG hlt)
    have hrl:r.length<=1500000:=by rw[j];refine qg (List.length_filter_le _ _) ?_;rw[qU];omega
    rw[if_pos (bE hlt),aH hlt,qA,Mr hx.Key U J,qA]
    cases hq:tB s.aJm[k].Key g with
    |true=>
     rw[if_neg jF,bG jD]
     refine I (k+1) r jD hlt ?_
     rw[NC hlt,hq,<-j]
     simp
    |false=>
     rw[if_pos jF,HK _ (qg (XZ hz (qG hlt)) jD),qA,eH jP,qA,bG jD]
     refine I (k+1) _ jD hlt ?_
     rw[NC hlt,hq,<-j]
     simp
   ·have e:k=s.aJm.length:=by omega
    subst e
    rw[if_neg jK,j,List.take_length]
 unfold pZ LA
 rw[CS C,qA,rN s jD]
 cases lQ s with
 |false=>rfl
 |true=>
  rw[if_neg jF,if_pos rfl]
  exact key fuel 0 [] jI jD jF
theorem Gv{s:M.aD}{g:M.dF}(hs:s.ok)(hl:g.Low.ok)(hh:g.aKZ.ok)(hz:M.aD.sz s<=1500000):pM s g=some (LA s g):=by
 have hn:s.aJm.length<=1500000:=by simp only[M.aD.sz]at hz;omega
 have hp:∀x∈s.aJm,iY x g=some (tB x.Key g):=λx C=>by unfold iY;rw[Mp (hs.aJm.2 x C).Key hl hh,qA]
 unfold pM LA
 rw[iF s jD,qA,Ay hs,qA]
 cases lQ s with
 |false=>rfl
 |true=>
  rw[if_neg jF,if_pos rfl,HX (f:=λx=>tB x.Key g) hs.aJm.1 hp,qA]
  unfold mF
  cases hf:s.aJm.findIdx? (λx=>tB x.Key g)with
  |none=>
   rw[if_pos jF]
   rw[List.findIdx?_eq_none_iff]at hf
   rw[List.filter_eq_self.2 (λx C=>by simp[hf x C])]
  |some k=>
   obtain⟨hk,hqk,U⟩:=List.findIdx?_eq_some_iff_getElem.1 hf
   have hne:((k:Int)== -1)=false:=beq_eq_false_iff_ne.2 jD
   simp only[hne,qD,if_false]
   rw[bG jD]
   refine PE (xs:=s.aJm) (q:=λx=>tB x.Key g) (L:=eI s g s) (E:=λl=>some ((⟨s.Name,l,s.aKG⟩:M.aD),i64.wrap ((List.length s.aJm:Int)-(List.length l:Int)))) (λn i j r I J hrl hmem=> ?_) (λn i r J=> ?_) fuel k (k+1) s.aJm jI hk jD rfl ?_ rfl
   ·simp only[eI];rw[if_pos (bE I),aH I,qA,hp _ hmem,qA,aH J,qA];rw[bG (n:=i) jD,bG (n:=j) jD,qH];cases tB r[j].Key g<;>rfl
   ·simp only[eI];rw[if_neg jK,show Ea r (i:Int)=some (r.drop i)from by unfold Ea;rw[if_pos ⟨jD,by simpa using J⟩,qH],qA,qH]
   ·rw[NC hk];have:(s.aJm.take k).filter (λx=> !tB x.Key g)=s.aJm.take k:=List.filter_eq_self.2 (λx C=>by obtain⟨j,I,rfl⟩:=List.mem_iff_getElem.1 C;rw[qU]at I;rw[List.getElem_take];have:=U j jD;simpa using this);rw[this];simp[hqk]
theorem Th{s:M.aD}{g:M.dF}(j:s.ok):(LA s g).1.ok/\M.aD.sz (LA s g).1<=M.aD.sz s:=by unfold LA;split;(refine⟨⟨j.Name,⟨qg (List.length_filter_le _ _) j.aJm.1,λy C=>j.aJm.2 y (jA.1 C).1⟩,j.aKG⟩,?_⟩;have h4:=List.length_filter_le (λx:M.aJt=> !tB x.Key g) s.aJm;have h5:=O0 (f:=M.aJt.sz) (λx:M.aJt=> !tB x.Key g) s.aJm;simp only[M.aD.sz];omega);·exact⟨j,qf _⟩
def RV(s:M.aD)(k:M.Key)(r:M.aC):M.aD×Bool:=if mF (sW k) s.aJm<0 then F8 s k r else(s,false)
theorem OK{s:M.aD}{k:M.Key}{r:M.aC}(C:s.ok)(hk:k.ok)(J:r.ok)(I:bU r=true)(hz:M.aD.sz s<=1073741824)(j:M.aC.sz r<=1073741824):CB s k r=some (RV s k r):=by unfold CB RV;rw[yR C,qA,rN s hz,Cu C hk J I hz j];by_cases h:mF (sW k) s.aJm<0;(rw[if_neg jE,if_pos h];rfl);·rw[if_pos jE,if_neg h];rfl
theorem OA{s:M.aD}{k:M.Key}{r:M.aC}(C:s.ok)(hk:k.ok)(J:r.ok)(I:bU r=true)(hz:M.aD.sz s<=1073741824)(j:M.aC.sz r<=1073741824):CN s k r=some (RV s k r):=by unfold CN RV;rw[Br C,qA,iF s hz,CC C hk J I hz j];by_cases h:mF (sW k) s.aJm<0;(rw[if_neg jE,if_pos h];rfl);·rw[if_pos jE,if_neg h];rfl
def YQ:M.dF:=(⟨false,false,(⟨0,0,(⟨#[]⟩:ByteArray)⟩:M.Key),(⟨0,0,(⟨#[]⟩:ByteArray)⟩:M.Key)⟩:M.dF)
def aAJ(s:M.aD)(o:M.Op):M.aD×Int×Bool:=if(Ia (eQ s o.Key) o.Field (i64.wrap ((dV (eQ s o.Key) o.Field).1+1))).2=true then((F8 s o.Key (Ia (eQ s o.Key) o.Field (i64.wrap ((dV (eQ s o.Key) o.Field).1+1))).1).1,i64.wrap ((dV (eQ s o.Key) o.Field).1+1),(F8 s o.Key (Ia (eQ s o.Key) o.Field (i64.wrap ((dV (eQ s o.Key) o.Field).1+1))).1).2)else(s,0,false)
def nOn(s:M.aD)(o:M.Op):M.aD×Int×Bool:=if o.aJz=1 then((F8 s o.Key o.aC).1,1,(F8 s o.Key o.aC).2)else if o.aJz=2 then((RV s o.Key o.aC).1,1,(RV s o.Key o.aC).2)else if o.aJz=3 then((LA s (⟨true,true,o.Key,o.Key⟩:M.dF)).1,(LA s (⟨true,true,o.Key,o.Key⟩:M.dF)).2,true)else if o.aJz=4 then if mF (sW o.Key) s.aJm<0 then(s,-1,true)else(s,(List.length (eQ s o.Key).aJq:Int),true)else if o.aJz=5 then((LA s YQ).1,(LA s YQ).2,true)else aAJ s o
theorem PM:M.Key.ok (⟨0,0,(⟨#[]⟩:ByteArray)⟩:M.Key):=⟨Qv,Qv,sz0⟩
theorem HH{s:M.aD}{k:M.Key}(h:¬mF (sW k) s.aJm<0):∃x,idx s.aJm (mF (sW k) s.aJm)=some x/\x.aC=eQ s k:=by obtain⟨j,e,C⟩:=eN h;refine⟨s.aJm[j],by rw[e,aH C],?_⟩;unfold eQ;rw[if_neg h,e,qH,qF C]
theorem Kb{s:M.aD}{k:M.Key}(h:mF (sW k) s.aJm<0):eQ s k=(⟨([]:List M.Field)⟩:M.aC):=by unfold eQ;rw[if_pos h]
theorem SO:bU (⟨([]:List M.Field)⟩:M.aC)=true:=by rfl
theorem Wo{s:M.aD}(h:lQ s=true)(k:M.Key):bU (eQ s k)=true:=by by_cases hf:mF (sW k) s.aJm<0;(rw[Kb hf];exact SO);·obtain⟨j,e,C⟩:=eN hf;obtain⟨x,e1,e2⟩:=HH hf;rw[<-e2];rw[e,aH C]at e1;obtain rfl:=qc e1;exact((KA (Be h).1).1 j _ (qF C)).2
theorem XL{r:M.aC}(h:bU r=true)(a:ByteArray)(n:Int):bU (Ia r a n).1=true:=by
 cases e:(Ia r a n).2 with
 |true=>exact G8 e
 |false=>
  unfold Ia Nn at e⊢
  rw[if_pos h]at e⊢
  split
  ·rename_i h2;rw[if_pos h2]at e;cases e
  ·exact h
structure UW (x:M.aD) (y:M.Op):Prop where
 s:x.ok
 o:K1 y
 n:nOp y=true
 t:lQ x=true
theorem UW.z{s:M.aD}{o:M.Op}(h:UW s o):M.aD.sz s<=10000:=J6 h.t
theorem UW.r{s:M.aD}{o:M.Op}(h:UW s o):M.aC.sz o.aC<=100:=NV (Bn h.n).2.2.2.2
theorem NB{s:M.aD}{o:M.Op}(h:UW s o):(eQ s o.Key).ok/\M.aC.sz (eQ s o.Key)<=100/\(Ia (eQ s o.Key) o.Field (i64.wrap ((dV (eQ s o.Key) o.Field).1+1))).1.ok/\bU (Ia (eQ s o.Key) o.Field (i64.wrap ((dV (eQ s o.Key) o.Field).1+1))).1=true:=by have h1:=Wo h.t o.Key;have h2:=FR (k:=o.Key) h.s;have h3:=(vO h1).1;exact⟨h2,NV h1,Nq h2 jD h.o.2.2.2.2 (Gx _),XL h1 _ _⟩
theorem RX{s:M.aD}{o:M.Op}(h:UW s o):Ga s o=some (nOn s o):=by have hz:=h.z;have j:=h.r;obtain⟨i1,i2,i3,i4⟩:=NB h;have i5:=NV i4;unfold Ga nOn;rw[Br h.s,qA,CC h.s h.o.2.2.1 h.o.2.2.2.1 (Bn h.n).2.2.2.2 jD jD,OA h.s h.o.2.2.1 h.o.2.2.2.1 (Bn h.n).2.2.2.2 jD jD,Gv h.s h.o.2.2.1 h.o.2.2.1 jD,Gv (g:=(⟨false,false,(⟨0,0,(⟨#[]⟩:ByteArray)⟩:M.Key),(⟨0,0,(⟨#[]⟩:ByteArray)⟩:M.Key)⟩:M.dF)) h.s PM PM jD];by_cases k1:o.aJz=1;(rw[if_pos (by simpa using k1),if_pos k1];rfl);rw[if_neg (by simpa using k1),if_neg k1];by_cases k2:o.aJz=2;(rw[if_pos (by simpa using k2),if_pos k2];rfl);rw[if_neg (by simpa using k2),if_neg k2];by_cases k3:o.aJz=3;(rw[if_pos (by simpa using k3),if_pos k3];rfl);rw[if_neg (by simpa using k3),if_neg k3];by_cases k5:o.aJz=5;(rw[if_pos (by simpa using k5),if_neg jD,if_pos k5];rfl);rw[if_neg (by simpa using k5)];by_cases k4:o.aJz=4;(rw[if_pos (by simpa using k4),if_pos k4];by_cases hf:mF (sW o.Key) s.aJm<0;(rw[if_pos (by simpa using hf),if_pos hf]);·obtain⟨x,e1,e2⟩:=HH hf;rw[if_neg (by simpa using hf),if_neg hf,e1,qA,e2]);·rw[if_neg (by simpa using k4),if_neg k4,if_neg k5];unfold aAJ;by_cases hf:mF (sW o.Key) s.aJm<0;(rw[Kb hf]at i1 i2 i3 i4 i5⊢;rw[if_neg jE,kN i1,qA,D5 i1 jD h.o.2.2.2.2 (Gx _),qA,CC h.s h.o.2.2.1 i3 i4 jD jD];cases (Ia (⟨([]:List M.Field)⟩:M.aC) o.Field (i64.wrap ((dV (⟨([]:List M.Field)⟩:M.aC) o.Field).1+1))).2<;>rfl);·obtain⟨x,e1,e2⟩:=HH hf;rw[if_pos jE,e1,qA,e2,kN i1,qA,D5 i1 jD h.o.2.2.2.2 (Gx _),qA,CC h.s h.o.2.2.1 i3 i4 jD jD];cases (Ia (eQ s o.Key) o.Field (i64.wrap ((dV (eQ s o.Key) o.Field).1+1))).2<;>rfl
theorem RD{s:M.aD}{o:M.Op}(h:UW s o):∃x,EV s o.Key o.Field=some x/\x.2.2=(aAJ s o).2.2/\(x.2.2=true->x=aAJ s o):=by have hz:=h.z;obtain⟨i1,i2,i3,i4⟩:=NB h;have i5:=NV i4;unfold EV aAJ;rw[yR h.s,qA];by_cases hf:mF (sW o.Key) s.aJm<0;(rw[Kb hf]at i1 i2 i3 i4 i5⊢;rw[if_neg jE,pA i1,qA,DO i1 jD h.o.2.2.2.2 (Gx _),qA,Cu h.s h.o.2.2.1 i3 i4 jD jD,qA];cases (Ia (⟨([]:List M.Field)⟩:M.aC) o.Field (i64.wrap ((dV (⟨([]:List M.Field)⟩:M.aC) o.Field).1+1))).2;(exact⟨_,rfl,rfl,λe=>by cases e⟩);·exact⟨_,rfl,rfl,λ_=>rfl⟩);·obtain⟨x,e1,e2⟩:=HH hf;rw[if_pos jE,e1,qA,e2,pA i1,qA,DO i1 jD h.o.2.2.2.2 (Gx _),qA,Cu h.s h.o.2.2.1 i3 i4 jD jD,qA];cases (Ia (eQ s o.Key) o.Field (i64.wrap ((dV (eQ s o.Key) o.Field).1+1))).2;(exact⟨_,rfl,rfl,λe=>by cases e⟩);·exact⟨_,rfl,rfl,λ_=>rfl⟩
theorem Oq{s:M.aD}{o:M.Op}(h:UW s o):∃x,CH s o=some x/\x.2.2=(nOn s o).2.2/\(x.2.2=true->x=nOn s o):=by
 have hz:=h.z
 have j:=h.r
 have same:∀{m:Option (M.aD×Int×Bool)} {y:M.aD×Int×Bool},m=some y->∃x,m=some x/\x.2.2=y.2.2/\(x.2.2=true->x=y):=λe=>⟨_,e,rfl,λ_=>rfl⟩
 unfold CH nOn
 rw[yR h.s,qA,rN s jD,Cu h.s h.o.2.2.1 h.o.2.2.2.1 (Bn h.n).2.2.2.2 jD jD,OK h.s h.o.2.2.1 h.o.2.2.2.1 (Bn h.n).2.2.2.2 jD jD,Gu h.s h.o.2.2.1 h.o.2.2.1 jD,Gu (g:=(⟨false,false,(⟨0,0,(⟨#[]⟩:ByteArray)⟩:M.Key),(⟨0,0,(⟨#[]⟩:ByteArray)⟩:M.Key)⟩:M.dF)) h.s PM PM jD]
 by_cases k1:o.aJz=1
 ·rw[if_pos (by simpa using k1),if_pos k1];exact same rfl
 rw[if_neg (by simpa using k1),if_neg k1]
 by_cases k2:o.aJz=2
 ·rw[if_pos (by simpa using k2),if_pos k2];exact same rfl
 rw[if_neg (by simpa using k2),if_neg k2]
 by_cases k3:o.aJz=3
 ·rw[if_pos (by simpa using k3),if_pos k3];exact same rfl
 rw[if_neg (by simpa using k3),if_neg k3]
 by_cases k4:o.aJz=4
 ·rw[if_pos (by simpa using k4),if_pos k4];by_cases hf:mF (sW o.Key) s.aJm<0;(rw[if_pos (by simpa using hf),if_pos hf];exact same rfl);·obtain⟨x,e1,e2⟩:=HH hf;rw[if_neg (by simpa using hf),if_neg hf,qA,e1,qA,e2];exact same rfl
 rw[if_neg (by simpa using k4),if_neg k4]
 by_cases k5:o.aJz=5
 ·rw[if_pos (by simpa using k5),if_pos k5];exact same rfl
 ·rw[if_neg (by simpa using k5),if_neg k5];obtain⟨x,e1,e2,e3⟩:=RD h;rw[e1,qA];exact⟨_,rfl,e2,e3⟩
theorem N8{s:M.aD}{k:M.Key}{r:M.aC}(I:s.ok)(J:lQ s=true)(hk:k.ok)(C:r.ok)(j:bU r=true):(F8 s k r).1.ok/\M.aD.sz (F8 s k r).1<=10000:=by
 have hz:=J6 J
 refine⟨Ty I (by simp only[M.aD.sz]at hz;omega) hk C,?_⟩
 cases e:(F8 s k r).2 with
 |true=>exact J6 (OU j e)
 |false=>rw[Pv e];exact hz
theorem SR{s:M.aD}{o:M.Op}(h:UW s o):(nOn s o).1.ok/\M.aD.sz (nOn s o).1<=10000:=by
 have hz:=h.z
 have j:=(Bn h.n).2.2.2.2
 obtain⟨i1,i2,i3,i4⟩:=NB h
 have C:∀g,(LA s g).1.ok/\M.aD.sz (LA s g).1<=10000:=λg=>⟨(Th h.s).1,qg (Th h.s).2 hz⟩
 unfold nOn aAJ RV
 split
 ·exact N8 h.s h.t h.o.2.2.1 h.o.2.2.2.1 j
 split
 ·split;(exact N8 h.s h.t h.o.2.2.1 h.o.2.2.2.1 j);·exact⟨h.s,hz⟩
 split
 ·exact C _
 split
 ·split<;>exact⟨h.s,hz⟩
 split
 ·exact C _
 split
 ·exact N8 h.s h.t h.o.2.2.1 i3 i4
 ·exact⟨h.s,hz⟩
