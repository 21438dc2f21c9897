/-
  Helper text. No conditions.
-/
import Derived.Test.YtbpbocchokbggaaGreatWriteNotePq3
set_option linter.all false
namespace Go.Proofs.YtbpbocchokbggaaGreat.gen
open Go Go.Sh
open Go.IntKind (i64)
theorem Lf{α:Type}{f:α->Nat}(q:α->Bool):∀(l:List α),aV f (l.filter q)<=aV f l
 |[]=>qf _
 |x::l=>by have h:=Lf (f:=f) q l;rw[List.filter_cons];split;(simp only[aV];omega);·simp only[aV];omega
theorem T5{x y:M.Key}(C:Bn x=true)(I:Bn y=true):decide (bH y x<=0)= !decide (bH x y<0):=by have J:=zX x.aEj.toList y.aEj.toList;have j:=zX y.aEj.toList x.aEj.toList;unfold bH;rw[if_pos (show Bn y=true/\Bn x=true from⟨I,C⟩),if_pos (show Bn x=true/\Bn y=true from⟨C,I⟩)];by_cases hk:x.aEc=y.aEc;(rw[if_pos hk.symm,if_pos hk];by_cases hn:x.N=y.N;(rw[if_pos hn.symm,if_pos hn];rw[show(y.aEj.toList==x.aEj.toList)=(x.aEj.toList==y.aEj.toList)from Bool.beq_comm]at*;generalize Op.bytesLess x.aEj.toList y.aEj.toList=a at*;generalize Op.bytesLess y.aEj.toList x.aEj.toList=b at*;generalize (x.aEj.toList==y.aEj.toList)=c at*;revert J j;cases a<;>cases b<;>cases c<;>decide);·rw[if_neg (λe=>hn (Eq.symm e)),if_neg hn];by_cases hlt:x.N<y.N;(rw[if_neg (show ¬y.N<x.N by omega),if_pos hlt];decide);·rw[if_pos (show y.N<x.N by omega),if_neg hlt];decide);·rw[if_neg (λe=>hk (Eq.symm e)),if_neg hk];by_cases hlt:x.aEc<y.aEc;(rw[if_neg (show ¬y.aEc<x.aEc by omega),if_pos hlt];decide);·rw[if_pos (show y.aEc<x.aEc by omega),if_neg hlt];decide
def oP(k:M.Key)(g:M.cP):Bool:=Bn k&&((!g.aFD||Bn g.Low)&&((!g.aE1||Bn g.aE7)&&((!g.aFD||decide (bH g.Low k<=0))&&(!g.aE1||decide (bH k g.aE7<=0)))))
theorem Jf{k:M.Key}{g:M.cP}(hk:k.ok)(C:g.Low.ok)(j:g.aE7.ok):wC k g=some (oP k g):=by unfold wC oP;simp only[kC hk,kC C,kC j,rR C hk,rR hk j,qA];generalize decide (bH g.Low k<=0)=a1;generalize decide (bH k g.aE7<=0)=a2;generalize g.aFD=a3;generalize g.aE1=a4;generalize Bn k=a5;generalize Bn g.Low=a6;generalize Bn g.aE7=a7;cases a1<;>cases a2<;>cases a3<;>cases a4<;>cases a5<;>cases a6<;>cases a7<;>rfl
theorem Jd{k:M.Key}{g:M.cP}(hk:k.ok)(C:g.Low.ok)(j:g.aE7.ok):vK k g=some (oP k g):=by
 have h2:(!(decide (bH k g.aE7>0)))=decide (bH k g.aE7<=0):=by rw[<-decide_not,decide_eq_decide];omega
 have h1:Bn k=true->Bn g.Low=true->(!(decide (bH k g.Low<0)))=decide (bH g.Low k<=0):=λa b=>(T5 a b).symm
 unfold vK oP
 simp only[lZ hk,lZ C,lZ j,rK hk C,rK hk j,qA,h2]
 generalize (!(decide (bH k g.Low<0)))=a0 at*
 generalize decide (bH g.Low k<=0)=a1 at*
 generalize decide (bH k g.aE7<=0)=a2
 generalize g.aFD=a3
 generalize g.aE1=a4
 generalize Bn k=a5 at*
 generalize Bn g.Low=a6 at*
 generalize Bn g.aE7=a7
 cases a5
 ·rfl
 cases a6
 ·cases a3<;>cases a4<;>cases a7<;>cases a2<;>cases a1<;>cases a0<;>rfl
 ·obtain rfl:=h1 rfl rfl;cases a0<;>cases a2<;>cases a3<;>cases a4<;>cases a7<;>rfl
theorem LV{α R:Type}{xs:List α}{q:α->Bool}{E:List α->Option R}{L:Nat->Int->Int->List α->Option R}
  (h1:∀n (i j:Nat) (r:List α) (hj:j<r.length) (hi:i<r.length),r.length=xs.length->r[j]∈xs->L (n+1) (i:Int) (j:Int) r=if q r[j]=true then L n (i:Int) ((j+1:Nat):Int) r else L n ((i+1:Nat):Int) ((j+1:Nat):Int) (r.set i r[j]))
  (h2:∀n (i:Nat) (r:List α),i<=r.length->L (n+1) (i:Int) (r.length:Int) r=E (r.take i)):
  ∀(n i j:Nat) (r:List α),xs.length-j<n->j<=xs.length->i<=j->r.length=xs.length->r.take i=(xs.take j).filter (λx=> !q x)->r.drop j=xs.drop j->L n (i:Int) (j:Int) r=E (xs.filter λx=> !q x)
 |0,i,j,r,hn,_,_,_,_,_=>by omega
 |n+1,i,j,r,hn,hj,hi,hr,ht,hd=>by
  rcases Nat.lt_or_ge j xs.length with h|h
  ·have I:j<r.length:=by omega
   have U:r[j]=xs[j]:=by have:=congrArg (λl=>l[0]?) hd;simp only[List.getElem?_drop,Nat.add_zero,qF I,qF h,qb]at this;exact this
   have C:r.drop (j+1)=xs.drop (j+1):=by have:=congrArg (List.drop 1) hd;simpa only[List.drop_drop]using this
   have J:xs.take (j+1)=xs.take j++[xs[j]]:=(List.take_append_getElem h).symm
   rw[h1 n i j r I jD hr (by rw[U];exact qG h)]
   cases hq:q r[j]with
   |true=>
    rw[if_pos rfl]
    refine LV h1 h2 n i (j+1) r jD h jD hr ?_ C
    rw[ht,J,List.filter_append,<-U]
    simp[hq]
   |false=>
    rw[if_neg jF]
    refine LV h1 h2 n (i+1) (j+1) (r.set i r[j]) jD h jD (by simpa using hr) ?_ ?_
    ·rw[J,List.filter_append,<-ht,<-U]
     have hl:i<(r.set i r[j]).length:=by rw[qN];omega
     rw[<-List.take_append_getElem hl,List.getElem_set_self,List.take_set_of_le (qf i)]
     simp[hq]
    ·rw[List.drop_set_of_lt jD];exact C
  ·have e:j=r.length:=by omega
   subst e
   rw[h2 n i r hi,ht,List.take_of_length_le jD]
def It(s:M.aC)(g:M.cP):M.aC×Int:=if kZ s=true then((⟨s.Name,s.aEM.filter (λx=> !oP x.Key g),s.aEo⟩:M.aC),i64.wrap ((List.length s.aEM:Int)-(List.length (s.aEM.filter (λx=> !oP x.Key g)):Int)))else(s,0)
theorem Ka{α:Type}{f:α->Bool}{l:List α}{k:Nat}(h:k<l.length):(l.take (k+1)).filter f=(l.take k).filter f++(if f l[k]=true then[l[k]]else[]):=by rw[<-List.take_append_getElem h,List.filter_append];congr 1;rw[List.filter_cons,List.filter_nil]
theorem TT{s:M.aC}(hz:M.aC.sz s<=1048576){x:M.aES}(j:x∈s.aEM):M.aES.sz x<=1048576:=by have:=gL (f:=M.aES.sz) j;simp only[M.aC.sz]at hz;omega
theorem DM{s:M.aC}{g:M.cP}(C:s.ok)(U:g.Low.ok)(J:g.aE7.ok)(hz:M.aC.sz s<=1048576):mQ s g=some (It s g):=by
 have hn:s.aEM.length<=1048576:=by simp only[M.aC.sz]at hz;omega
 have key:∀(n k:Nat) (r:List M.aES),s.aEM.length-k<n->k<=s.aEM.length->r=(s.aEM.take k).filter (λx=> !oP x.Key g)->gB s g n (k:Int) r=some ((⟨s.Name,s.aEM.filter (λx=> !oP x.Key g),s.aEo⟩:M.aC),i64.wrap ((List.length s.aEM:Int)-(List.length (s.aEM.filter (λx=> !oP x.Key g)):Int))):=by
  intro n
  induction n with
  |zero=>intro k r h;omega
  |succ n I=>
   intro k r hk hle j
   simp only[gB]
   rcases Nat.lt_or_ge k s.aEM.length with hlt|hge
   ·have hx:=C.aEM.2 _ (qG hlt)
    have hrl:r.length<=1048576:=by rw[j];refine qg (List.length_filter_le _ _) ?_;rw[qU];omega
    rw[if_pos (bL hlt),aM hlt,qA,Jf hx.Key U J,qA]
    cases hq:oP s.aEM[k].Key g with
    |true=>
     rw[if_neg jF,bI jD]
     refine I (k+1) r jD hlt ?_
     rw[Ka hlt,hq,<-j]
     simp
    |false=>
     rw[if_pos jF,EK _ (qg (TT hz (qG hlt)) jD),qA,fR (by simp only[qJ,qK];omega),qA,bI jD]
     refine I (k+1) _ jD hlt ?_
     rw[Ka hlt,hq,<-j]
     simp
   ·have e:k=s.aEM.length:=by omega
    subst e
    rw[if_neg jK,j,List.take_length]
 unfold mQ It
 rw[CG C,qA,uX s jD]
 cases kZ s with
 |false=>rfl
 |true=>
  rw[if_neg jF,if_pos rfl]
  exact key fuel 0 [] jI jD jF
theorem DN{s:M.aC}{g:M.cP}(hs:s.ok)(hl:g.Low.ok)(hh:g.aE7.ok)(hz:M.aC.sz s<=1048576):mI s g=some (It s g):=by
 have hn:s.aEM.length<=1048576:=by simp only[M.aC.sz]at hz;omega
 have hp:∀x∈s.aEM,gX x g=some (oP x.Key g):=λx C=>by unfold gX;rw[Jd (hs.aEM.2 x C).Key hl hh,qA]
 unfold mI It
 rw[lA s jD,qA,Ai hs,qA]
 cases kZ s with
 |false=>rfl
 |true=>
  rw[if_neg jF,if_pos rfl,ET (f:=λx=>oP x.Key g) hs.aEM.1 hp,qA]
  unfold rY
  cases hf:s.aEM.findIdx? (λx=>oP x.Key g)with
  |none=>
   rw[if_pos jF]
   rw[List.findIdx?_eq_none_iff]at hf
   rw[List.filter_eq_self.2 (λx C=>by simp[hf x C])]
  |some k=>
   obtain⟨hk,hqk,U⟩:=List.findIdx?_eq_some_iff_getElem.1 hf
   have hne:((k:Int)== -1)=false:=beq_eq_false_iff_ne.2 jD
   simp only[hne,qD,if_false]
   rw[bI jD]
   refine LV (xs:=s.aEM) (q:=λx=>oP x.Key g) (L:=dL s g s) (E:=λl=>some ((⟨s.Name,l,s.aEo⟩:M.aC),i64.wrap ((List.length s.aEM:Int)-(List.length l:Int)))) (λn i j r I J hrl hmem=> ?_) (λn i r J=> ?_) fuel k (k+1) s.aEM jI hk jD rfl ?_ rfl
   ·simp only[dL];rw[if_pos (bL I),aM I,qA,hp _ hmem,qA,aM J,qA];rw[bI (n:=i) jD,bI (n:=j) jD,qH];cases oP r[j].Key g<;>rfl
   ·simp only[dL];rw[if_neg jK,show B4 r (i:Int)=some (r.drop i)from by unfold B4;rw[if_pos ⟨jD,by simpa using J⟩,qH],qA,qH]
   ·rw[Ka hk];have:(s.aEM.take k).filter (λx=> !oP x.Key g)=s.aEM.take k:=List.filter_eq_self.2 (λx C=>by obtain⟨j,I,rfl⟩:=List.mem_iff_getElem.1 C;rw[qU]at I;rw[List.getElem_take];have:=U j jD;simpa using this);rw[this];simp[hqk]
theorem Pq{s:M.aC}{g:M.cP}(j:s.ok):(It s g).1.ok/\M.aC.sz (It s g).1<=M.aC.sz s:=by unfold It;split;(refine⟨⟨j.Name,⟨qg (List.length_filter_le _ _) j.aEM.1,λy C=>j.aEM.2 y (jA.1 C).1⟩,j.aEo⟩,?_⟩;have h4:=List.length_filter_le (λx:M.aES=> !oP x.Key g) s.aEM;have h5:=Lf (f:=M.aES.sz) (λx:M.aES=> !oP x.Key g) s.aEM;simp only[M.aC.sz];omega);·exact⟨j,qf _⟩
def Oe(s:M.aC)(k:M.Key)(r:M.aA):M.aC×Bool:=if rY (rJ k) s.aEM<0 then Eh s k r else(s,false)
theorem K1{s:M.aC}{k:M.Key}{r:M.aA}(C:s.ok)(hk:k.ok)(J:r.ok)(I:bO r=true)(hz:M.aC.sz s<=1073741824)(j:M.aA.sz r<=1073741824):Ap s k r=some (Oe s k r):=by unfold Ap Oe;rw[yT C,qA,uX s hz,Co C hk J I hz j];by_cases h:rY (rJ k) s.aEM<0;(rw[if_neg jE,if_pos h];rfl);·rw[if_pos jE,if_neg h];rfl
theorem KS{s:M.aC}{k:M.Key}{r:M.aA}(C:s.ok)(hk:k.ok)(J:r.ok)(I:bO r=true)(hz:M.aC.sz s<=1073741824)(j:M.aA.sz r<=1073741824):AB s k r=some (Oe s k r):=by unfold AB Oe;rw[BO C,qA,lA s hz,Cv C hk J I hz j];by_cases h:rY (rJ k) s.aEM<0;(rw[if_neg jE,if_pos h];rfl);·rw[if_pos jE,if_neg h];rfl
def UH:M.cP:=(⟨false,false,(⟨0,0,(⟨#[]⟩:ByteArray)⟩:M.Key),(⟨0,0,(⟨#[]⟩:ByteArray)⟩:M.Key)⟩:M.cP)
def V6(s:M.aC)(o:M.Op):M.aC×Int×Bool:=if(KG (rE s o.Key) o.Field (i64.wrap ((fN (rE s o.Key) o.Field).1+1))).2=true then((Eh s o.Key (KG (rE s o.Key) o.Field (i64.wrap ((fN (rE s o.Key) o.Field).1+1))).1).1,i64.wrap ((fN (rE s o.Key) o.Field).1+1),(Eh s o.Key (KG (rE s o.Key) o.Field (i64.wrap ((fN (rE s o.Key) o.Field).1+1))).1).2)else(s,0,false)
def nOn(s:M.aC)(o:M.Op):M.aC×Int×Bool:=if o.aEc=1 then((Eh s o.Key o.aA).1,1,(Eh s o.Key o.aA).2)else if o.aEc=2 then((Oe s o.Key o.aA).1,1,(Oe s o.Key o.aA).2)else if o.aEc=3 then((It s (⟨true,true,o.Key,o.Key⟩:M.cP)).1,(It s (⟨true,true,o.Key,o.Key⟩:M.cP)).2,true)else if o.aEc=4 then if rY (rJ o.Key) s.aEM<0 then(s,-1,true)else(s,(List.length (rE s o.Key).aEN:Int),true)else if o.aEc=5 then((It s UH).1,(It s UH).2,true)else V6 s o
theorem L2:M.Key.ok (⟨0,0,(⟨#[]⟩:ByteArray)⟩:M.Key):=⟨S5,S5,sz0⟩
theorem EH{s:M.aC}{k:M.Key}(h:¬rY (rJ k) s.aEM<0):∃x,idx s.aEM (rY (rJ k) s.aEM)=some x/\x.aA=rE s k:=by obtain⟨j,e,C⟩:=kN h;refine⟨s.aEM[j],by rw[e,aM C],?_⟩;unfold rE;rw[if_neg h,e,qH,qF C]
theorem G4{s:M.aC}{k:M.Key}(h:rY (rJ k) s.aEM<0):rE s k=(⟨([]:List M.Field)⟩:M.aA):=by unfold rE;rw[if_pos h]
theorem OZ:bO (⟨([]:List M.Field)⟩:M.aA)=true:=by rfl
theorem So{s:M.aC}(h:kZ s=true)(k:M.Key):bO (rE s k)=true:=by by_cases hf:rY (rJ k) s.aEM<0;(rw[G4 hf];exact OZ);·obtain⟨j,e,C⟩:=kN hf;obtain⟨x,e1,e2⟩:=EH hf;rw[<-e2];rw[e,aM C]at e1;obtain rfl:=qc e1;exact((Hz (xY h).1).1 j _ (qF C)).2
theorem Tz{r:M.aA}(h:bO r=true)(a:ByteArray)(n:Int):bO (KG r a n).1=true:=by
 cases e:(KG r a n).2 with
 |true=>exact Sg e
 |false=>
  unfold KG JZ at e⊢
  rw[if_pos h]at e⊢
  split
  ·rename_i h2;rw[if_pos h2]at e;cases e
  ·exact h
structure QM (x:M.aC) (y:M.Op):Prop where
 s:x.ok
 o:HW y
 n:nOp y=true
 t:kZ x=true
theorem QM.z{s:M.aC}{o:M.Op}(h:QM s o):M.aC.sz s<=10000:=JD h.t
theorem QM.r{s:M.aC}{o:M.Op}(h:QM s o):M.aA.sz o.aA<=100:=ND (yG h.n).2.2.2.2
theorem J8{s:M.aC}{o:M.Op}(h:QM s o):(rE s o.Key).ok/\M.aA.sz (rE s o.Key)<=100/\(KG (rE s o.Key) o.Field (i64.wrap ((fN (rE s o.Key) o.Field).1+1))).1.ok/\bO (KG (rE s o.Key) o.Field (i64.wrap ((fN (rE s o.Key) o.Field).1+1))).1=true:=by have h1:=So h.t o.Key;have h2:=M9 (k:=o.Key) h.s;have h3:=(rL h1).1;exact⟨h2,ND h1,Rn h2 jD h.o.2.2.2.2 (FU _),Tz h1 _ _⟩
theorem Og{s:M.aC}{o:M.Op}(h:QM s o):DC s o=some (nOn s o):=by have hz:=h.z;have j:=h.r;obtain⟨i1,i2,i3,i4⟩:=J8 h;have i5:=ND i4;unfold DC nOn;rw[BO h.s,qA,Cv h.s h.o.2.2.1 h.o.2.2.2.1 (yG h.n).2.2.2.2 jD jD,KS h.s h.o.2.2.1 h.o.2.2.2.1 (yG h.n).2.2.2.2 jD jD,DN h.s h.o.2.2.1 h.o.2.2.1 jD,DN (g:=(⟨false,false,(⟨0,0,(⟨#[]⟩:ByteArray)⟩:M.Key),(⟨0,0,(⟨#[]⟩:ByteArray)⟩:M.Key)⟩:M.cP)) h.s L2 L2 jD];by_cases k1:o.aEc=1;(rw[if_pos (by simpa using k1),if_pos k1];rfl);rw[if_neg (by simpa using k1),if_neg k1];by_cases k2:o.aEc=2;(rw[if_pos (by simpa using k2),if_pos k2];rfl);rw[if_neg (by simpa using k2),if_neg k2];by_cases k3:o.aEc=3;(rw[if_pos (by simpa using k3),if_pos k3];rfl);rw[if_neg (by simpa using k3),if_neg k3];by_cases k5:o.aEc=5;(rw[if_pos (by simpa using k5),if_neg jD,if_pos k5];rfl);rw[if_neg (by simpa using k5)];by_cases k4:o.aEc=4;(rw[if_pos (by simpa using k4),if_pos k4];by_cases hf:rY (rJ o.Key) s.aEM<0;(rw[if_pos (by simpa using hf),if_pos hf]);·obtain⟨x,e1,e2⟩:=EH hf;rw[if_neg (by simpa using hf),if_neg hf,e1,qA,e2]);·rw[if_neg (by simpa using k4),if_neg k4,if_neg k5];unfold V6;by_cases hf:rY (rJ o.Key) s.aEM<0;(rw[G4 hf]at i1 i2 i3 i4 i5⊢;rw[if_neg jE,kO i1,qA,DA i1 jD h.o.2.2.2.2 (FU _),qA,Cv h.s h.o.2.2.1 i3 i4 jD jD];cases (KG (⟨([]:List M.Field)⟩:M.aA) o.Field (i64.wrap ((fN (⟨([]:List M.Field)⟩:M.aA) o.Field).1+1))).2<;>rfl);·obtain⟨x,e1,e2⟩:=EH hf;rw[if_pos jE,e1,qA,e2,kO i1,qA,DA i1 jD h.o.2.2.2.2 (FU _),qA,Cv h.s h.o.2.2.1 i3 i4 jD jD];cases (KG (rE s o.Key) o.Field (i64.wrap ((fN (rE s o.Key) o.Field).1+1))).2<;>rfl
theorem NU{s:M.aC}{o:M.Op}(h:QM s o):∃x,CI s o.Key o.Field=some x/\x.2.2=(V6 s o).2.2/\(x.2.2=true->x=V6 s o):=by have hz:=h.z;obtain⟨i1,i2,i3,i4⟩:=J8 h;have i5:=ND i4;unfold CI V6;rw[yT h.s,qA];by_cases hf:rY (rJ o.Key) s.aEM<0;(rw[G4 hf]at i1 i2 i3 i4 i5⊢;rw[if_neg jE,oF i1,qA,Dq i1 jD h.o.2.2.2.2 (FU _),qA,Co h.s h.o.2.2.1 i3 i4 jD jD,qA];cases (KG (⟨([]:List M.Field)⟩:M.aA) o.Field (i64.wrap ((fN (⟨([]:List M.Field)⟩:M.aA) o.Field).1+1))).2;(exact⟨_,rfl,rfl,λe=>by cases e⟩);·exact⟨_,rfl,rfl,λ_=>rfl⟩);·obtain⟨x,e1,e2⟩:=EH hf;rw[if_pos jE,e1,qA,e2,oF i1,qA,Dq i1 jD h.o.2.2.2.2 (FU _),qA,Co h.s h.o.2.2.1 i3 i4 jD jD,qA];cases (KG (rE s o.Key) o.Field (i64.wrap ((fN (rE s o.Key) o.Field).1+1))).2;(exact⟨_,rfl,rfl,λe=>by cases e⟩);·exact⟨_,rfl,rfl,λ_=>rfl⟩
theorem KJ{s:M.aC}{o:M.Op}(h:QM s o):∃x,Au s o=some x/\x.2.2=(nOn s o).2.2/\(x.2.2=true->x=nOn s o):=by
 have hz:=h.z
 have j:=h.r
 have same:∀{m:Option (M.aC×Int×Bool)} {y:M.aC×Int×Bool},m=some y->∃x,m=some x/\x.2.2=y.2.2/\(x.2.2=true->x=y):=λe=>⟨_,e,rfl,λ_=>rfl⟩
 unfold Au nOn
 rw[yT h.s,qA,uX s jD,Co h.s h.o.2.2.1 h.o.2.2.2.1 (yG h.n).2.2.2.2 jD jD,K1 h.s h.o.2.2.1 h.o.2.2.2.1 (yG h.n).2.2.2.2 jD jD,DM h.s h.o.2.2.1 h.o.2.2.1 jD,DM (g:=(⟨false,false,(⟨0,0,(⟨#[]⟩:ByteArray)⟩:M.Key),(⟨0,0,(⟨#[]⟩:ByteArray)⟩:M.Key)⟩:M.cP)) h.s L2 L2 jD]
 by_cases k1:o.aEc=1
 ·rw[if_pos (by simpa using k1),if_pos k1];exact same rfl
 rw[if_neg (by simpa using k1),if_neg k1]
 by_cases k2:o.aEc=2
 ·rw[if_pos (by simpa using k2),if_pos k2];exact same rfl
 rw[if_neg (by simpa using k2),if_neg k2]
 by_cases k3:o.aEc=3
 ·rw[if_pos (by simpa using k3),if_pos k3];exact same rfl
 rw[if_neg (by simpa using k3),if_neg k3]
 by_cases k4:o.aEc=4
 ·rw[if_pos (by simpa using k4),if_pos k4];by_cases hf:rY (rJ o.Key) s.aEM<0;(rw[if_pos (by simpa using hf),if_pos hf];exact same rfl);·obtain⟨x,e1,e2⟩:=EH hf;rw[if_neg (by simpa using hf),if_neg hf,qA,e1,qA,e2];exact same rfl
 rw[if_neg (by simpa using k4),if_neg k4]
 by_cases k5:o.aEc=5
 ·rw[if_pos (by simpa using k5),if_pos k5];exact same rfl
 ·rw[if_neg (by simpa using k5),if_neg k5];obtain⟨x,e1,e2,e3⟩:=NU h;rw[e1,qA];exact⟨_,rfl,e2,e3⟩
theorem Kw{s:M.aC}{k:M.Key}{r:M.aA}(I:s.ok)(J:kZ s=true)(hk:k.ok)(C:r.ok)(j:bO r=true):(Eh s k r).1.ok/\M.aC.sz (Eh s k r).1<=10000:=by
 have hz:=JD J
 refine⟨TG I (by simp only[M.aC.sz]at hz;omega) hk C,?_⟩
 cases e:(Eh s k r).2 with
 |true=>exact JD (P7 j e)
 |false=>rw[QL e];exact hz
theorem O2{s:M.aC}{o:M.Op}(h:QM s o):(nOn s o).1.ok/\M.aC.sz (nOn s o).1<=10000:=by
 have hz:=h.z
 have j:=(yG h.n).2.2.2.2
 obtain⟨i1,i2,i3,i4⟩:=J8 h
 have C:∀g,(It s g).1.ok/\M.aC.sz (It s g).1<=10000:=λg=>⟨(Pq h.s).1,qg (Pq h.s).2 hz⟩
 unfold nOn V6 Oe
 split
 ·exact Kw h.s h.t h.o.2.2.1 h.o.2.2.2.1 j
 split
 ·split;(exact Kw h.s h.t h.o.2.2.1 h.o.2.2.2.1 j);·exact⟨h.s,hz⟩
 split
 ·exact C _
 split
 ·split<;>exact⟨h.s,hz⟩
 split
 ·exact C _
 split
 ·exact Kw h.s h.t h.o.2.2.1 i3 i4
 ·exact⟨h.s,hz⟩
