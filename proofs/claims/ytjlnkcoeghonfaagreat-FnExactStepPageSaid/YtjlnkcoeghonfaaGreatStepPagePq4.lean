/-
  Helper text. No conditions.
-/
import Derived.Test.YtjlnkcoeghonfaaGreatStepPagePq3
set_option linter.all false
namespace Go.Proofs.YtjlnkcoeghonfaaGreat.gen
open Go Go.Sh
open Go.IntKind (i64)
theorem OW{α:Type}{f:α->Nat}(q:α->Bool):∀(l:List α),bA f (l.filter q)<=bA f l
 |[]=>qf _
 |x::l=>by have h:=OW (f:=f) q l;rw[List.filter_cons];split;(simp only[bA];omega);·simp only[bA];omega
theorem X5{x y:M.Key}(C:Dp x=true)(I:Dp y=true):decide (bP y x<=0)= !decide (bP x y<0):=by have J:=Cd x.aJ2.toList y.aJ2.toList;have j:=Cd y.aJ2.toList x.aJ2.toList;unfold bP;rw[if_pos (show Dp y=true/\Dp x=true from⟨I,C⟩),if_pos (show Dp x=true/\Dp y=true from⟨C,I⟩)];by_cases hk:x.aJr=y.aJr;(rw[if_pos hk.symm,if_pos hk];by_cases hn:x.N=y.N;(rw[if_pos hn.symm,if_pos hn];rw[show(y.aJ2.toList==x.aJ2.toList)=(x.aJ2.toList==y.aJ2.toList)from Bool.beq_comm]at*;generalize Op.bytesLess x.aJ2.toList y.aJ2.toList=a at*;generalize Op.bytesLess y.aJ2.toList x.aJ2.toList=b at*;generalize (x.aJ2.toList==y.aJ2.toList)=c at*;revert J j;cases a<;>cases b<;>cases c<;>decide);·rw[if_neg (λe=>hn (Eq.symm e)),if_neg hn];by_cases hlt:x.N<y.N;(rw[if_neg (show ¬y.N<x.N by omega),if_pos hlt];decide);·rw[if_pos (show y.N<x.N by omega),if_neg hlt];decide);·rw[if_neg (λe=>hk (Eq.symm e)),if_neg hk];by_cases hlt:x.aJr<y.aJr;(rw[if_neg (show ¬y.aJr<x.aJr by omega),if_pos hlt];decide);·rw[if_pos (show y.aJr<x.aJr by omega),if_neg hlt];decide
def tA(k:M.Key)(g:M.dE):Bool:=Dp k&&((!g.aKY||Dp g.Low)&&((!g.aKN||Dp g.aKR)&&((!g.aKY||decide (bP g.Low k<=0))&&(!g.aKN||decide (bP k g.aKR<=0)))))
theorem Ml{k:M.Key}{g:M.dE}(hk:k.ok)(C:g.Low.ok)(j:g.aKR.ok):Ae k g=some (tA k g):=by unfold Ae tA;simp only[mB hk,mB C,mB j,vT C hk,vT hk j,qA];generalize decide (bP g.Low k<=0)=a1;generalize decide (bP k g.aKR<=0)=a2;generalize g.aKY=a3;generalize g.aKN=a4;generalize Dp k=a5;generalize Dp g.Low=a6;generalize Dp g.aKR=a7;cases a1<;>cases a2<;>cases a3<;>cases a4<;>cases a5<;>cases a6<;>cases a7<;>rfl
theorem Mj{k:M.Key}{g:M.dE}(hk:k.ok)(C:g.Low.ok)(j:g.aKR.ok):zS k g=some (tA k g):=by
 have h2:(!(decide (bP k g.aKR>0)))=decide (bP k g.aKR<=0):=by rw[<-decide_not,decide_eq_decide];omega
 have h1:Dp k=true->Dp g.Low=true->(!(decide (bP k g.Low<0)))=decide (bP g.Low k<=0):=λa b=>(X5 a b).symm
 unfold zS tA
 simp only[oS hk,oS C,oS j,vH hk C,vH hk j,qA,h2]
 generalize (!(decide (bP k g.Low<0)))=a0 at*
 generalize decide (bP g.Low k<=0)=a1 at*
 generalize decide (bP k g.aKR<=0)=a2
 generalize g.aKY=a3
 generalize g.aKN=a4
 generalize Dp k=a5 at*
 generalize Dp g.Low=a6 at*
 generalize Dp g.aKR=a7
 cases a5
 ·rfl
 cases a6
 ·cases a3<;>cases a4<;>cases a7<;>cases a2<;>cases a1<;>cases a0<;>rfl
 ·obtain rfl:=h1 rfl rfl;cases a0<;>cases a2<;>cases a3<;>cases a4<;>cases a7<;>rfl
theorem PA{α R:Type}{xs:List α}{q:α->Bool}{E:List α->Option R}{L:Nat->Int->Int->List α->Option R}
  (h1:∀n (i j:Nat) (r:List α) (hj:j<r.length) (hi:i<r.length),r.length=xs.length->r[j]∈xs->L (n+1) (i:Int) (j:Int) r=if q r[j]=true then L n (i:Int) ((j+1:Nat):Int) r else L n ((i+1:Nat):Int) ((j+1:Nat):Int) (r.set i r[j]))
  (h2:∀n (i:Nat) (r:List α),i<=r.length->L (n+1) (i:Int) (r.length:Int) r=E (r.take i)):
  ∀(n i j:Nat) (r:List α),xs.length-j<n->j<=xs.length->i<=j->r.length=xs.length->r.take i=(xs.take j).filter (λx=> !q x)->r.drop j=xs.drop j->L n (i:Int) (j:Int) r=E (xs.filter λx=> !q x)
 |0,i,j,r,hn,_,_,_,_,_=>by omega
 |n+1,i,j,r,hn,hj,hi,hr,ht,hd=>by
  rcases Nat.lt_or_ge j xs.length with h|h
  ·have I:j<r.length:=by omega
   have U:r[j]=xs[j]:=by have:=congrArg (λl=>l[0]?) hd;simp only[List.getElem?_drop,Nat.add_zero,qF I,qF h,qb]at this;exact this
   have C:r.drop (j+1)=xs.drop (j+1):=by have:=congrArg (List.drop 1) hd;simpa only[List.drop_drop]using this
   have J:xs.take (j+1)=xs.take j++[xs[j]]:=(List.take_append_getElem h).symm
   rw[h1 n i j r I jD hr (by rw[U];exact qG h)]
   cases hq:q r[j]with
   |true=>
    rw[if_pos rfl]
    refine PA h1 h2 n i (j+1) r jD h jD hr ?_ C
    rw[ht,J,List.filter_append,<-U]
    simp[hq]
   |false=>
    rw[if_neg jF]
    refine PA h1 h2 n (i+1) (j+1) (r.set i r[j]) jD h jD (by simpa using hr) ?_ ?_
    ·rw[J,List.filter_append,<-ht,<-U]
     have hl:i<(r.set i r[j]).length:=by rw[qN];omega
     rw[<-List.take_append_getElem hl,List.getElem_set_self,List.take_set_of_le (qf i)]
     simp[hq]
    ·rw[List.drop_set_of_lt jD];exact C
  ·have e:j=r.length:=by omega
   subst e
   rw[h2 n i r hi,ht,List.take_of_length_le jD]
def Lt(s:M.aD)(g:M.dE):M.aD×Int:=if lO s=true then((⟨s.Name,s.aJe.filter (λx=> !tA x.Key g),s.aJ7⟩:M.aD),i64.wrap ((List.length s.aJe:Int)-(List.length (s.aJe.filter (λx=> !tA x.Key g)):Int)))else(s,0)
theorem Nx{α:Type}{f:α->Bool}{l:List α}{k:Nat}(h:k<l.length):(l.take (k+1)).filter f=(l.take k).filter f++(if f l[k]=true then[l[k]]else[]):=by rw[<-List.take_append_getElem h,List.filter_append];congr 1;rw[List.filter_cons,List.filter_nil]
theorem XT{s:M.aD}(hz:M.aD.sz s<=1048576){x:M.aJl}(j:x∈s.aJe):M.aJl.sz x<=1048576:=by have:=eD (f:=M.aJl.sz) j;simp only[M.aD.sz]at hz;omega
theorem Gn{s:M.aD}{g:M.dE}(C:s.ok)(U:g.Low.ok)(J:g.aKR.ok)(hz:M.aD.sz s<=1048576):pU s g=some (Lt s g):=by
 have hn:s.aJe.length<=1048576:=by simp only[M.aD.sz]at hz;omega
 have key:∀(n k:Nat) (r:List M.aJl),s.aJe.length-k<n->k<=s.aJe.length->r=(s.aJe.take k).filter (λx=> !tA x.Key g)->hH s g n (k:Int) r=some ((⟨s.Name,s.aJe.filter (λx=> !tA x.Key g),s.aJ7⟩:M.aD),i64.wrap ((List.length s.aJe:Int)-(List.length (s.aJe.filter (λx=> !tA x.Key g)):Int))):=by
  intro n
  induction n with
  |zero=>intro k r h;omega
  |succ n I=>
   intro k r hk hle j
   simp only[hH]
   rcases Nat.lt_or_ge k s.aJe.length with hlt|hge
   ·have hx:=C.aJe.2 _ (qG hlt)
    have hrl:r.length<=1048576:=by rw[j];refine qg (List.length_filter_le _ _) ?_;rw[qU];omega
    rw[if_pos (bE hlt),aH hlt,qA,Ml hx.Key U J,qA]
    cases hq:tA s.aJe[k].Key g with
    |true=>
     rw[if_neg jF,bG jD]
     refine I (k+1) r jD hlt ?_
     rw[Nx hlt,hq,<-j]
     simp
    |false=>
     rw[if_pos jF,HE _ (qg (XT hz (qG hlt)) jD),qA,eH jP,qA,bG jD]
     refine I (k+1) _ jD hlt ?_
     rw[Nx hlt,hq,<-j]
     simp
   ·have e:k=s.aJe.length:=by omega
    subst e
    rw[if_neg jK,j,List.take_length]
 unfold pU Lt
 rw[CM C,qA,rJ s jD]
 cases lO s with
 |false=>rfl
 |true=>
  rw[if_neg jF,if_pos rfl]
  exact key fuel 0 [] jI jD jF
theorem Gp{s:M.aD}{g:M.dE}(hs:s.ok)(hl:g.Low.ok)(hh:g.aKR.ok)(hz:M.aD.sz s<=1048576):pH s g=some (Lt s g):=by
 have hn:s.aJe.length<=1048576:=by simp only[M.aD.sz]at hz;omega
 have hp:∀x∈s.aJe,iV x g=some (tA x.Key g):=λx C=>by unfold iV;rw[Mj (hs.aJe.2 x C).Key hl hh,qA]
 unfold pH Lt
 rw[iD s jD,qA,Aw hs,qA]
 cases lO s with
 |false=>rfl
 |true=>
  rw[if_neg jF,if_pos rfl,HR (f:=λx=>tA x.Key g) hs.aJe.1 hp,qA]
  unfold mD
  cases hf:s.aJe.findIdx? (λx=>tA x.Key g)with
  |none=>
   rw[if_pos jF]
   rw[List.findIdx?_eq_none_iff]at hf
   rw[List.filter_eq_self.2 (λx C=>by simp[hf x C])]
  |some k=>
   obtain⟨hk,hqk,U⟩:=List.findIdx?_eq_some_iff_getElem.1 hf
   have hne:((k:Int)== -1)=false:=beq_eq_false_iff_ne.2 jD
   simp only[hne,qD,if_false]
   rw[bG jD]
   refine PA (xs:=s.aJe) (q:=λx=>tA x.Key g) (L:=eI s g s) (E:=λl=>some ((⟨s.Name,l,s.aJ7⟩:M.aD),i64.wrap ((List.length s.aJe:Int)-(List.length l:Int)))) (λn i j r I J hrl hmem=> ?_) (λn i r J=> ?_) fuel k (k+1) s.aJe jI hk jD rfl ?_ rfl
   ·simp only[eI];rw[if_pos (bE I),aH I,qA,hp _ hmem,qA,aH J,qA];rw[bG (n:=i) jD,bG (n:=j) jD,qH];cases tA r[j].Key g<;>rfl
   ·simp only[eI];rw[if_neg jK,show D3 r (i:Int)=some (r.drop i)from by unfold D3;rw[if_pos ⟨jD,by simpa using J⟩,qH],qA,qH]
   ·rw[Nx hk];have:(s.aJe.take k).filter (λx=> !tA x.Key g)=s.aJe.take k:=List.filter_eq_self.2 (λx C=>by obtain⟨j,I,rfl⟩:=List.mem_iff_getElem.1 C;rw[qU]at I;rw[List.getElem_take];have:=U j jD;simpa using this);rw[this];simp[hqk]
theorem Tb{s:M.aD}{g:M.dE}(j:s.ok):(Lt s g).1.ok/\M.aD.sz (Lt s g).1<=M.aD.sz s:=by unfold Lt;split;(refine⟨⟨j.Name,⟨qg (List.length_filter_le _ _) j.aJe.1,λy C=>j.aJe.2 y (jA.1 C).1⟩,j.aJ7⟩,?_⟩;have h4:=List.length_filter_le (λx:M.aJl=> !tA x.Key g) s.aJe;have h5:=OW (f:=M.aJl.sz) (λx:M.aJl=> !tA x.Key g) s.aJe;simp only[M.aD.sz];omega);·exact⟨j,qf _⟩
def RR(s:M.aD)(k:M.Key)(r:M.aA):M.aD×Bool:=if mD (sU k) s.aJe<0 then FZ s k r else(s,false)
theorem OG{s:M.aD}{k:M.Key}{r:M.aA}(C:s.ok)(hk:k.ok)(J:r.ok)(I:bU r=true)(hz:M.aD.sz s<=1073741824)(j:M.aA.sz r<=1073741824):Cw s k r=some (RR s k r):=by unfold Cw RR;rw[yP C,qA,rJ s hz,Cq C hk J I hz j];by_cases h:mD (sU k) s.aJe<0;(rw[if_neg jE,if_pos h];rfl);·rw[if_pos jE,if_neg h];rfl
theorem Ov{s:M.aD}{k:M.Key}{r:M.aA}(C:s.ok)(hk:k.ok)(J:r.ok)(I:bU r=true)(hz:M.aD.sz s<=1073741824)(j:M.aA.sz r<=1073741824):CH s k r=some (RR s k r):=by unfold CH RR;rw[Bn C,qA,iD s hz,Cx C hk J I hz j];by_cases h:mD (sU k) s.aJe<0;(rw[if_neg jE,if_pos h];rfl);·rw[if_pos jE,if_neg h];rfl
def YI:M.dE:=(⟨false,false,(⟨0,0,(⟨#[]⟩:ByteArray)⟩:M.Key),(⟨0,0,(⟨#[]⟩:ByteArray)⟩:M.Key)⟩:M.dE)
def aAC(s:M.aD)(o:M.Op):M.aD×Int×Bool:=if(H4 (eP s o.Key) o.Field (i64.wrap ((dU (eP s o.Key) o.Field).1+1))).2=true then((FZ s o.Key (H4 (eP s o.Key) o.Field (i64.wrap ((dU (eP s o.Key) o.Field).1+1))).1).1,i64.wrap ((dU (eP s o.Key) o.Field).1+1),(FZ s o.Key (H4 (eP s o.Key) o.Field (i64.wrap ((dU (eP s o.Key) o.Field).1+1))).1).2)else(s,0,false)
def nOn(s:M.aD)(o:M.Op):M.aD×Int×Bool:=if o.aJr=1 then((FZ s o.Key o.aA).1,1,(FZ s o.Key o.aA).2)else if o.aJr=2 then((RR s o.Key o.aA).1,1,(RR s o.Key o.aA).2)else if o.aJr=3 then((Lt s (⟨true,true,o.Key,o.Key⟩:M.dE)).1,(Lt s (⟨true,true,o.Key,o.Key⟩:M.dE)).2,true)else if o.aJr=4 then if mD (sU o.Key) s.aJe<0 then(s,-1,true)else(s,(List.length (eP s o.Key).aJi:Int),true)else if o.aJr=5 then((Lt s YI).1,(Lt s YI).2,true)else aAC s o
theorem PI:M.Key.ok (⟨0,0,(⟨#[]⟩:ByteArray)⟩:M.Key):=⟨Qr,Qr,sz0⟩
theorem HB{s:M.aD}{k:M.Key}(h:¬mD (sU k) s.aJe<0):∃x,idx s.aJe (mD (sU k) s.aJe)=some x/\x.aA=eP s k:=by obtain⟨j,e,C⟩:=eN h;refine⟨s.aJe[j],by rw[e,aH C],?_⟩;unfold eP;rw[if_neg h,e,qH,qF C]
theorem J5{s:M.aD}{k:M.Key}(h:mD (sU k) s.aJe<0):eP s k=(⟨([]:List M.Field)⟩:M.aA):=by unfold eP;rw[if_pos h]
theorem SJ:bU (⟨([]:List M.Field)⟩:M.aA)=true:=by rfl
theorem Wj{s:M.aD}(h:lO s=true)(k:M.Key):bU (eP s k)=true:=by by_cases hf:mD (sU k) s.aJe<0;(rw[J5 hf];exact SJ);·obtain⟨j,e,C⟩:=eN hf;obtain⟨x,e1,e2⟩:=HB hf;rw[<-e2];rw[e,aH C]at e1;obtain rfl:=qc e1;exact((Ku (Bb h).1).1 j _ (qF C)).2
theorem XF{r:M.aA}(h:bU r=true)(a:ByteArray)(n:Int):bU (H4 r a n).1=true:=by
 cases e:(H4 r a n).2 with
 |true=>exact GZ e
 |false=>
  unfold H4 Nh at e⊢
  rw[if_pos h]at e⊢
  split
  ·rename_i h2;rw[if_pos h2]at e;cases e
  ·exact h
structure UQ (x:M.aD) (y:M.Op):Prop where
 s:x.ok
 o:KV y
 n:nOp y=true
 t:lO x=true
theorem UQ.z{s:M.aD}{o:M.Op}(h:UQ s o):M.aD.sz s<=10000:=J0 h.t
theorem UQ.r{s:M.aD}{o:M.Op}(h:UQ s o):M.aA.sz o.aA<=100:=NQ (Bj h.n).2.2.2.2
theorem Nw{s:M.aD}{o:M.Op}(h:UQ s o):(eP s o.Key).ok/\M.aA.sz (eP s o.Key)<=100/\(H4 (eP s o.Key) o.Field (i64.wrap ((dU (eP s o.Key) o.Field).1+1))).1.ok/\bU (H4 (eP s o.Key) o.Field (i64.wrap ((dU (eP s o.Key) o.Field).1+1))).1=true:=by have h1:=Wj h.t o.Key;have h2:=FL (k:=o.Key) h.s;have h3:=(vK h1).1;exact⟨h2,NQ h1,Nk h2 jD h.o.2.2.2.2 (Gr _),XF h1 _ _⟩
theorem RT{s:M.aD}{o:M.Op}(h:UQ s o):F5 s o=some (nOn s o):=by have hz:=h.z;have j:=h.r;obtain⟨i1,i2,i3,i4⟩:=Nw h;have i5:=NQ i4;unfold F5 nOn;rw[Bn h.s,qA,Cx h.s h.o.2.2.1 h.o.2.2.2.1 (Bj h.n).2.2.2.2 jD jD,Ov h.s h.o.2.2.1 h.o.2.2.2.1 (Bj h.n).2.2.2.2 jD jD,Gp h.s h.o.2.2.1 h.o.2.2.1 jD,Gp (g:=(⟨false,false,(⟨0,0,(⟨#[]⟩:ByteArray)⟩:M.Key),(⟨0,0,(⟨#[]⟩:ByteArray)⟩:M.Key)⟩:M.dE)) h.s PI PI jD];by_cases k1:o.aJr=1;(rw[if_pos (by simpa using k1),if_pos k1];rfl);rw[if_neg (by simpa using k1),if_neg k1];by_cases k2:o.aJr=2;(rw[if_pos (by simpa using k2),if_pos k2];rfl);rw[if_neg (by simpa using k2),if_neg k2];by_cases k3:o.aJr=3;(rw[if_pos (by simpa using k3),if_pos k3];rfl);rw[if_neg (by simpa using k3),if_neg k3];by_cases k5:o.aJr=5;(rw[if_pos (by simpa using k5),if_neg jD,if_pos k5];rfl);rw[if_neg (by simpa using k5)];by_cases k4:o.aJr=4;(rw[if_pos (by simpa using k4),if_pos k4];by_cases hf:mD (sU o.Key) s.aJe<0;(rw[if_pos (by simpa using hf),if_pos hf]);·obtain⟨x,e1,e2⟩:=HB hf;rw[if_neg (by simpa using hf),if_neg hf,e1,qA,e2]);·rw[if_neg (by simpa using k4),if_neg k4,if_neg k5];unfold aAC;by_cases hf:mD (sU o.Key) s.aJe<0;(rw[J5 hf]at i1 i2 i3 i4 i5⊢;rw[if_neg jE,kL i1,qA,DY i1 jD h.o.2.2.2.2 (Gr _),qA,Cx h.s h.o.2.2.1 i3 i4 jD jD];cases (H4 (⟨([]:List M.Field)⟩:M.aA) o.Field (i64.wrap ((dU (⟨([]:List M.Field)⟩:M.aA) o.Field).1+1))).2<;>rfl);·obtain⟨x,e1,e2⟩:=HB hf;rw[if_pos jE,e1,qA,e2,kL i1,qA,DY i1 jD h.o.2.2.2.2 (Gr _),qA,Cx h.s h.o.2.2.1 i3 i4 jD jD];cases (H4 (eP s o.Key) o.Field (i64.wrap ((dU (eP s o.Key) o.Field).1+1))).2<;>rfl
theorem Ry{s:M.aD}{o:M.Op}(h:UQ s o):∃x,EO s o.Key o.Field=some x/\x.2.2=(aAC s o).2.2/\(x.2.2=true->x=aAC s o):=by have hz:=h.z;obtain⟨i1,i2,i3,i4⟩:=Nw h;have i5:=NQ i4;unfold EO aAC;rw[yP h.s,qA];by_cases hf:mD (sU o.Key) s.aJe<0;(rw[J5 hf]at i1 i2 i3 i4 i5⊢;rw[if_neg jE,oT i1,qA,DI i1 jD h.o.2.2.2.2 (Gr _),qA,Cq h.s h.o.2.2.1 i3 i4 jD jD,qA];cases (H4 (⟨([]:List M.Field)⟩:M.aA) o.Field (i64.wrap ((dU (⟨([]:List M.Field)⟩:M.aA) o.Field).1+1))).2;(exact⟨_,rfl,rfl,λe=>by cases e⟩);·exact⟨_,rfl,rfl,λ_=>rfl⟩);·obtain⟨x,e1,e2⟩:=HB hf;rw[if_pos jE,e1,qA,e2,oT i1,qA,DI i1 jD h.o.2.2.2.2 (Gr _),qA,Cq h.s h.o.2.2.1 i3 i4 jD jD,qA];cases (H4 (eP s o.Key) o.Field (i64.wrap ((dU (eP s o.Key) o.Field).1+1))).2;(exact⟨_,rfl,rfl,λe=>by cases e⟩);·exact⟨_,rfl,rfl,λ_=>rfl⟩
theorem Ok{s:M.aD}{o:M.Op}(h:UQ s o):∃x,CC s o=some x/\x.2.2=(nOn s o).2.2/\(x.2.2=true->x=nOn s o):=by
 have hz:=h.z
 have j:=h.r
 have same:∀{m:Option (M.aD×Int×Bool)} {y:M.aD×Int×Bool},m=some y->∃x,m=some x/\x.2.2=y.2.2/\(x.2.2=true->x=y):=λe=>⟨_,e,rfl,λ_=>rfl⟩
 unfold CC nOn
 rw[yP h.s,qA,rJ s jD,Cq h.s h.o.2.2.1 h.o.2.2.2.1 (Bj h.n).2.2.2.2 jD jD,OG h.s h.o.2.2.1 h.o.2.2.2.1 (Bj h.n).2.2.2.2 jD jD,Gn h.s h.o.2.2.1 h.o.2.2.1 jD,Gn (g:=(⟨false,false,(⟨0,0,(⟨#[]⟩:ByteArray)⟩:M.Key),(⟨0,0,(⟨#[]⟩:ByteArray)⟩:M.Key)⟩:M.dE)) h.s PI PI jD]
 by_cases k1:o.aJr=1
 ·rw[if_pos (by simpa using k1),if_pos k1];exact same rfl
 rw[if_neg (by simpa using k1),if_neg k1]
 by_cases k2:o.aJr=2
 ·rw[if_pos (by simpa using k2),if_pos k2];exact same rfl
 rw[if_neg (by simpa using k2),if_neg k2]
 by_cases k3:o.aJr=3
 ·rw[if_pos (by simpa using k3),if_pos k3];exact same rfl
 rw[if_neg (by simpa using k3),if_neg k3]
 by_cases k4:o.aJr=4
 ·rw[if_pos (by simpa using k4),if_pos k4];by_cases hf:mD (sU o.Key) s.aJe<0;(rw[if_pos (by simpa using hf),if_pos hf];exact same rfl);·obtain⟨x,e1,e2⟩:=HB hf;rw[if_neg (by simpa using hf),if_neg hf,qA,e1,qA,e2];exact same rfl
 rw[if_neg (by simpa using k4),if_neg k4]
 by_cases k5:o.aJr=5
 ·rw[if_pos (by simpa using k5),if_pos k5];exact same rfl
 ·rw[if_neg (by simpa using k5),if_neg k5];obtain⟨x,e1,e2,e3⟩:=Ry h;rw[e1,qA];exact⟨_,rfl,e2,e3⟩
theorem N3{s:M.aD}{k:M.Key}{r:M.aA}(I:s.ok)(J:lO s=true)(hk:k.ok)(C:r.ok)(j:bU r=true):(FZ s k r).1.ok/\M.aD.sz (FZ s k r).1<=10000:=by
 have hz:=J0 J
 refine⟨Ts I (by simp only[M.aD.sz]at hz;omega) hk C,?_⟩
 cases e:(FZ s k r).2 with
 |true=>exact J0 (OQ j e)
 |false=>rw[Pr e];exact hz
theorem SM{s:M.aD}{o:M.Op}(h:UQ s o):(nOn s o).1.ok/\M.aD.sz (nOn s o).1<=10000:=by
 have hz:=h.z
 have j:=(Bj h.n).2.2.2.2
 obtain⟨i1,i2,i3,i4⟩:=Nw h
 have C:∀g,(Lt s g).1.ok/\M.aD.sz (Lt s g).1<=10000:=λg=>⟨(Tb h.s).1,qg (Tb h.s).2 hz⟩
 unfold nOn aAC RR
 split
 ·exact N3 h.s h.t h.o.2.2.1 h.o.2.2.2.1 j
 split
 ·split;(exact N3 h.s h.t h.o.2.2.1 h.o.2.2.2.1 j);·exact⟨h.s,hz⟩
 split
 ·exact C _
 split
 ·split<;>exact⟨h.s,hz⟩
 split
 ·exact C _
 split
 ·exact N3 h.s h.t h.o.2.2.1 i3 i4
 ·exact⟨h.s,hz⟩
