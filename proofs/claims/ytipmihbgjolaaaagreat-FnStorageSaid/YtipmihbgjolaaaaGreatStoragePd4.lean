/-
  Helper text. No conditions.
-/
import Derived.Test.YtipmihbgjolaaaaGreatStoragePd3
set_option linter.unusedVariables false
set_option linter.unusedSimpArgs false
namespace Go.Proofs.YtipmihbgjolaaaaGreat.gen
open Go Go.Sh
open Go.IntKind (i64)
theorem doS{b:List Int}{x1:Int×Int×Bool}{N:Nat}(J:okB b)(U:b.length<=1048576)(hN:N<=6)(hx:x1.1=(N:Int)):∀(j k m:Nat) (p:Int) (C:List M.Op),k+j=N->j<m->inI p->C.length=k->(∀x∈C,Ht x)->iU b x1 m p (k:Int) C=some (TX b (IS b 100 100 200 100 j p C))
 |_,_,0,_,_,_,h,_,_,_=>by omega
 |0,k,m+1,p,C,hk,_,hp,ha,ho=>by simp only[iU,IS,TX];rw[hx,if_neg qd,BQ qc ho,qA,yB (Mq _) J,qA];cases eqL xG (Ca C) b<;>rfl
 |j+1,k,m+1,p,C,hk,hm,hp,ha,ho=>by
  simp only[iU,IS]
  rw[hx,if_pos qd,Jl J U hp,qA]
  cases h:op9 b p 100 100 200 100 with
  |none=>rfl
  |some x=>
   obtain⟨o,q⟩:=x
   obtain⟨k1,k2⟩:=Rq J U h
   simp only[qB,qD,if_false]
   rw[eJ qd,qA,bN qc]
   refine doS J U hN hx j (k+1) m q _ qc qc k2 (by simp[ha]) (λy I=> ?_)
   rcases List.mem_append.1 I with I|I
   ·exact ho y I
   ·rw[List.mem_singleton.1 I];exact k1
theorem Fk{b:List Int}(j:okB b)(C:b.length<=1048576):pF b=some (QX b 100 100 200 100):=by
 unfold pF QX
 rw[mV j C tD,qA]
 cases h:(nUv b 0).2.2 with
 |false=>rfl
 |true=>
  obtain⟨a,m,e,I,J,u3,u4,U,u6⟩:=AP j h
  rw[I]
  simp only[qB,qD,if_false,if_true]
  by_cases h6:(m:Int)>6
  ·rw[if_pos (by simpa using h6),if_pos h6]
  ·rw[if_neg (by simpa using h6),if_neg h6,qH];exact doS (x1:=((m:Int),(e:Int),true)) j C (N:=m) qc rfl m 0 fuel (e:Int) [] qc qj (Fq u4 C) rfl (λ_ h=>absurd h qe)
theorem P0{l:List M.Op}{b:List Int}(h:Ca l=b)(C:b≠[]):b=uv l.length++Jt enO l/\(∀o∈l,nOp o=true)/\l.length<=6:=by unfold Ca at h;split at h;(rename_i j;rw[qM,qL,qQ]at j;exact⟨h.symm,j.1,j.2⟩);·exact absurd h.symm C
def Cc(b:List Int):List M.Op×Bool:=QX b 100 100 200 100
theorem Gj{b:List Int}(j:okB b)(C:b.length<=1048576):pF b=some (Cc b):=Fk j C
theorem Mf{b:List Int}{U c2 c3 c4:Int}(hb:okB b)(hl:b.length<=1048576):∀(j:Nat) (p:Int) (C l:List M.Op),IS b U c2 c3 c4 j p C=some l->(∀x∈C,Ht x)->(∀x∈l,Ht x)
 |0,_,_,_,h,J=>by simp only[IS,qb]at h;rw[<-h];exact J
 |j+1,p,C,l,h,J=>by
  simp only[IS]at h
  cases e:op9 b p U c2 c3 c4 with
  |none=>rw[e]at h;cases h
  |some x=>
   obtain⟨o,q⟩:=x
   rw[e]at h
   refine Mf hb hl j q _ l h (λy I=> ?_)
   rcases List.mem_append.1 I with I|I
   ·exact J y I
   ·rw[List.mem_singleton.1 I];exact(Rq hb hl e).1
theorem Ij{b:List Int}(C:okB b)(hl:b.length<=1048576):(Cc b).1.length<=6/\∀o∈(Cc b).1,Ht o/\nOp o=true:=by
 have z:([]:List M.Op).length<=6/\∀o∈([]:List M.Op),Ht o/\nOp o=true:=⟨qe,λ_ h=>absurd h qe⟩
 unfold Cc QX
 split
 ·rename_i h
  obtain⟨a,m,e,u1,u2,u3,u4,u5,J⟩:=AP C h
  obtain rfl:a=0:=by omega
  rw[List.drop_zero]at J
  have j:b≠[]:=λh0=>by have:=congrArg List.length J;have h2:=MB m;rw[h0]at this;simp at this;omega
  rw[u1]
  dsimp only
  split
  ·exact z
  ·cases hr:IS b 100 100 200 100 (m:Int).toNat (e:Int) []with
   |none=>exact z
   |some l=>
    simp only[TX]
    split
    ·rename_i he;rw[Pp]at he;obtain⟨b1,U,b3⟩:=P0 he j;exact⟨b3,λo I=>⟨Mf C hl _ _ _ l hr (λ_ h=>absurd h qe) o I,U o I⟩⟩
    ·exact z
 ·exact z
theorem Cp{i:Int}{l:List Int}(j:l.length<=1048576):rX i l=some (Nk ([101,i]++([(List.length l:Int)]++l.map i64.wrap))):=by unfold rX;rw[DU j,qA,eJ qd,qA,K5 (by simp[maxLen];omega),qA]
def Rx(i:Int)(l:List Int):Int:=Nk ([101,i]++([(List.length l:Int)]++l.map i64.wrap))
def J9(b:List Int):Nat->Int->List (List Int)->List (List Int)×Int
 |0,p,C=>(C,p)
 |j+1,p,C=>if(nRb b p 4000).2.2=true then if(nUv b (nRb b p 4000).2.1).2.2=true then if((nUv b (nRb b p 4000).2.1).1 !=Rx (C.length:Int) (nRb b p 4000).1)=true then(C,p)else J9 b j (nUv b (nRb b p 4000).2.1).2.1 (C++[(nRb b p 4000).1])else(C,p)else(C,p)
def S6(b:List Int):List (List Int)×Int:=J9 b (b.length+1) 0 []
theorem Si{b:List Int}:nUv b (b.length:Int)=(0,0,false):=by unfold nUv;rw[if_neg qc,qH];unfold Ph;rw[qY qc]
theorem NH{b:List Int}(I:okB b)(J:b.length<=1048576):∀(j m a:Nat) (C:List (List Int)),b.length-a<j->j<=m->a<=b.length->C.length<=a->oG b m (a:Int) C=some (J9 b j (a:Int) C)
 |0,_,_,_,h,_,_,_=>by omega
 |_+1,0,_,_,_,h,_,_=>by omega
 |j+1,m+1,a,C,hj,hm,ha,hc=>by
  simp only[oG,J9]
  by_cases hlt:a<b.length
  case neg=>
   obtain rfl:a=b.length:=by omega
   rw[if_neg qe]
   have:(nRb b (b.length:Int) 4000).2.2=false:=by unfold nRb;rw[Si];rfl
   rw[this]
   rfl
  rw[if_pos qd,pD I J (Fq ha J),qA]
  cases h1:(nRb b (a:Int) 4000).2.2 with
  |false=>rfl
  |true=>
   obtain⟨s,U,e1,r1,r2,r3,r4,r5,r6,r7,r8⟩:=Ey I h1
   obtain rfl:a=U:=by omega
   rw[r1]
   simp only[qB,qD,if_false,if_true]
   rw[mV I J (Fq r4 J),qA]
   cases h2:(nUv b (e1:Int)).2.2 with
   |false=>rfl
   |true=>
    obtain⟨a2,v,e2,u1,u2,u3,u4,u5,u6⟩:=AP I h2
    obtain rfl:e1=a2:=by omega
    have g1:=MB s.length
    have g2:=MB v
    rw[u1]
    simp only[qB,qD,if_false,if_true]
    rw[Cp qc,qA]
    show(if((v:Int) !=Rx (C.length:Int) s)=true then _ else _)=_
    split
    ·rfl
    ·rw[eJ qd,qA];exact NH I J j m e2 _ qc qc u4 qd
theorem Hz{b:List Int}(j:okB b)(C:b.length<=1048576):wA b=some (S6 b):=by unfold wA S6;exact NH j C (b.length+1) fuel 0 [] qc qj qc qe
theorem MH{b:List Int}(J:okB b):∀(j a:Nat) (C:List (List Int)),a<=b.length->C.length<=a->(∀l∈C,okB l/\l.length<=4000)->(J9 b j (a:Int) C).1.length<=b.length/\∀l∈(J9 b j (a:Int) C).1,okB l/\l.length<=4000
 |0,a,C,ha,hc,h=>⟨by simp only[J9];omega,h⟩
 |j+1,a,C,ha,hc,h=>by
  simp only[J9]
  split
  ·rename_i h1
   obtain⟨s,U,e1,r1,r2,r3,r4,r5,r6,r7,r8⟩:=Ey J h1
   obtain rfl:a=U:=by omega
   rw[r1]
   dsimp only
   split
   ·rename_i h2
    obtain⟨a2,v,e2,u1,u2,u3,u4,u5,u6⟩:=AP J h2
    obtain rfl:e1=a2:=by omega
    have g1:=MB s.length
    rw[u1]
    dsimp only
    split
    ·exact⟨qh,h⟩
    ·refine MH J j e2 _ u4 qd (λl I=> ?_);rcases List.mem_append.1 I with I|I;(exact h l I);·rw[List.mem_singleton.1 I];exact⟨r8,qc⟩
   ·exact⟨qh,h⟩
  ·exact⟨qh,h⟩
theorem O6{b:List Int}(j:okB b):(S6 b).1.length<=b.length/\∀l∈(S6 b).1,okB l/\l.length<=4000:=MH j (b.length+1) 0 [] qc qe (λ_ h=>absurd h qe)
theorem HU{α:Type}{f:α->Nat}(q:α->Bool):∀(l:List α),jO f (l.filter q)<=jO f l
 |[]=>Nat.le_refl _
 |x::l=>by have h:=HU (f:=f) q l;rw[List.filter_cons];split;(simp only[jO];omega);·simp only[jO];omega
def yT(k:M.Key)(g:M.eX):Bool:=zQ k&&((!g.ZJ||zQ g.ZN)&&((!g.ZB||zQ g.ZH)&&((!g.ZJ||decide (cG g.ZN k<=0))&&(!g.ZB||decide (cG k g.ZH<=0)))))
theorem FO{k:M.Key}{g:M.eX}(j:k.ok)(I:g.ZN.ok)(C:g.ZH.ok):tO k g=some (yT k g):=by unfold tO yT;simp only[jN j,jN I,jN C,rE I j,rE j C,qA];generalize decide (cG g.ZN k<=0)=a1;generalize decide (cG k g.ZH<=0)=a2;generalize g.ZJ=a3;generalize g.ZB=a4;generalize zQ k=a5;generalize zQ g.ZN=a6;generalize zQ g.ZH=a7;cases a1<;>cases a2<;>cases a3<;>cases a4<;>cases a5<;>cases a6<;>cases a7<;>rfl
def GY(s:M.aA)(g:M.eX):M.aA×Int:=if gC s=true then((⟨s.Name,s.Y3.filter (λx=> !yT x.Key g),s.Zn⟩:M.aA),i64.wrap ((List.length s.Y3:Int)-(List.length (s.Y3.filter (λx=> !yT x.Key g)):Int)))else(s,0)
theorem JU{α:Type}{f:α->Bool}{l:List α}{k:Nat}(h:k<l.length):(l.take (k+1)).filter f=(l.take k).filter f++(if f l[k]=true then[l[k]]else[]):=by rw[<-List.take_append_getElem h,List.filter_append];congr 1;rw[List.filter_cons,List.filter_nil]
theorem QJ{s:M.aA}(C:M.aA.sz s<=1048576){x:M.Zd}(j:x∈s.Y3):M.Zd.sz x<=1048576:=by have:=iE (f:=M.Zd.sz) j;simp only[M.aA.sz]at C;omega
theorem Az{s:M.aA}{g:M.eX}(C:s.ok)(hl:g.ZN.ok)(U:g.ZH.ok)(I:M.aA.sz s<=1048576):mX s g=some (GY s g):=by
 have hn:s.Y3.length<=1048576:=by simp only[M.aA.sz]at I;omega
 have key:∀(n k:Nat) (r:List M.Zd),s.Y3.length-k<n->k<=s.Y3.length->r=(s.Y3.take k).filter (λx=> !yT x.Key g)->fV s g n (k:Int) r=some ((⟨s.Name,s.Y3.filter (λx=> !yT x.Key g),s.Zn⟩:M.aA),i64.wrap ((List.length s.Y3:Int)-(List.length (s.Y3.filter (λx=> !yT x.Key g)):Int))):=by
  intro n
  induction n with
  |zero=>intro k r h;omega
  |succ n J=>
   intro k r hk hle j
   simp only[fV]
   rcases Nat.lt_or_ge k s.Y3.length with hlt|hge
   ·have hx:=C.Y3.2 _ (qG hlt)
    have hrl:r.length<=1048576:=by rw[j];refine Nat.le_trans (List.length_filter_le _ _) ?_;rw[qU];omega
    rw[if_pos (aY hlt),aN hlt,qA,FO hx.Key hl U,qA]
    cases hq:yT s.Y3[k].Key g with
    |true=>
     rw[if_neg qe,bN qc]
     refine J (k+1) r qc hlt ?_
     rw[JU hlt,hq,<-j]
     simp
    |false=>
     rw[if_pos qe,BH _ (Nat.le_trans (QJ I (qG hlt)) qc),qA,eJ qt,qA,bN qc]
     refine J (k+1) _ qc hlt ?_
     rw[JU hlt,hq,<-j]
     simp
   ·have e:k=s.Y3.length:=by omega
    subst e
    rw[if_neg ql,j,List.take_length]
 unfold mX GY
 rw[uE C,qA,mA s qc]
 cases gC s with
 |false=>rfl
 |true=>
  rw[if_neg qe,if_pos rfl]
  exact key fuel 0 [] qj qc qe
theorem LW{s:M.aA}{g:M.eX}(j:s.ok):(GY s g).1.ok/\M.aA.sz (GY s g).1<=M.aA.sz s:=by unfold GY;split;(refine⟨⟨j.Name,⟨Nat.le_trans (List.length_filter_le _ _) j.Y3.1,λy C=>j.Y3.2 y (List.mem_filter.1 C).1⟩,j.Zn⟩,?_⟩;have I:=List.length_filter_le (λx:M.Zd=> !yT x.Key g) s.Y3;have J:=HU (f:=M.Zd.sz) (λx:M.Zd=> !yT x.Key g) s.Y3;simp only[M.aA.sz];omega);·exact⟨j,Nat.le_refl _⟩
def KN(s:M.aA)(k:M.Key)(r:M.aC):M.aA×Bool:=if pU (uH k) s.Y3<0 then zM s k r else(s,false)
theorem C4{s:M.aA}{k:M.Key}{r:M.aC}(C:s.ok)(U:k.ok)(hr:r.ok)(J:bO r=true)(I:M.aA.sz s<=1073741824)(j:M.aC.sz r<=1073741824):uA s k r=some (KN s k r):=by unfold uA KN;rw[uZ C,qA,mA s I,tV C U hr J I j];by_cases h:pU (uH k) s.Y3<0;(rw[if_neg qd,if_pos h];rfl);·rw[if_pos qd,if_neg h];rfl
def Rl:M.eX:=(⟨false,false,(⟨0,0,(⟨#[]⟩:ByteArray)⟩:M.Key),(⟨0,0,(⟨#[]⟩:ByteArray)⟩:M.Key)⟩:M.eX)
def TP(s:M.aA)(o:M.Op):M.aA×Int×Bool:=if(Fg (iI s o.Key) o.Field (i64.wrap ((gJ (iI s o.Key) o.Field).1+1))).2=true then((zM s o.Key (Fg (iI s o.Key) o.Field (i64.wrap ((gJ (iI s o.Key) o.Field).1+1))).1).1,i64.wrap ((gJ (iI s o.Key) o.Field).1+1),(zM s o.Key (Fg (iI s o.Key) o.Field (i64.wrap ((gJ (iI s o.Key) o.Field).1+1))).1).2)else(s,0,false)
def nOn(s:M.aA)(o:M.Op):M.aA×Int×Bool:=if o.Zi=1 then((zM s o.Key o.aC).1,1,(zM s o.Key o.aC).2)else if o.Zi=2 then((KN s o.Key o.aC).1,1,(KN s o.Key o.aC).2)else if o.Zi=3 then((GY s (⟨true,true,o.Key,o.Key⟩:M.eX)).1,(GY s (⟨true,true,o.Key,o.Key⟩:M.eX)).2,true)else if o.Zi=4 then if pU (uH o.Key) s.Y3<0 then(s,-1,true)else(s,(List.length (iI s o.Key).Y4:Int),true)else if o.Zi=5 then((GY s Rl).1,(GY s Rl).2,true)else TP s o
theorem KX:M.Key.ok (⟨0,0,(⟨#[]⟩:ByteArray)⟩:M.Key):=⟨tD,tD,sz0⟩
theorem Ji{s:M.aA}{k:M.Key}(h:¬pU (uH k) s.Y3<0):∃x,idx s.Y3 (pU (uH k) s.Y3)=some x/\x.aC=iI s k:=by obtain⟨j,e,C⟩:=kI h;refine⟨s.Y3[j],by rw[e,aN C],?_⟩;unfold iI;rw[if_neg h,e,qH,qF C]
theorem LP{s:M.aA}{k:M.Key}(h:pU (uH k) s.Y3<0):iI s k=(⟨([]:List M.Field)⟩:M.aC):=by unfold iI;rw[if_pos h]
theorem BE:bO (⟨([]:List M.Field)⟩:M.aC)=true:=by rfl
theorem O9{s:M.aA}(h:gC s=true)(k:M.Key):bO (iI s k)=true:=by by_cases hf:pU (uH k) s.Y3<0;(rw[LP hf];exact BE);·obtain⟨j,e,C⟩:=kI hf;obtain⟨x,e1,e2⟩:=Ji hf;rw[<-e2];rw[e,aN C]at e1;obtain rfl:=Option.some.inj e1;exact((D8 (sY h).1).1 j _ (qF C)).2
theorem L3{r:M.aC}(h:bO r=true)(a:ByteArray)(n:Int):bO (Fg r a n).1=true:=by
 cases e:(Fg r a n).2 with
 |true=>exact Ck e
 |false=>
  unfold Fg IB at e⊢
  rw[if_pos h]at e⊢
  split
  ·rename_i j;rw[if_pos j]at e;cases e
  ·exact h
structure PR (x:M.aA) (y:M.Op):Prop where
 s:x.ok
 o:Ht y
 n:nOp y=true
 t:gC x=true
theorem PR.z{s:M.aA}{o:M.Op}(h:PR s o):M.aA.sz s<=10000:=nQ h.t
theorem PR.r{s:M.aA}{o:M.Op}(h:PR s o):M.aC.sz o.aC<=100:=C1 (Ba h.n).2.2.2.2
theorem JT{s:M.aA}{o:M.Op}(h:PR s o):(iI s o.Key).ok/\M.aC.sz (iI s o.Key)<=100/\(Fg (iI s o.Key) o.Field (i64.wrap ((gJ (iI s o.Key) o.Field).1+1))).1.ok/\bO (Fg (iI s o.Key) o.Field (i64.wrap ((gJ (iI s o.Key) o.Field).1+1))).1=true:=by have j:=O9 h.t o.Key;have C:=DN (k:=o.Key) h.s;have I:=(rA j).1;exact⟨C,C1 j,IE C qc h.o.2.2.2.2 (cH _),L3 j _ _⟩
theorem Kt{s:M.aA}{o:M.Op}(h:PR s o):∃x,zA s o.Key o.Field=some x/\x.2.2=(TP s o).2.2/\(x.2.2=true->x=TP s o):=by have j:=h.z;obtain⟨i1,i2,i3,i4⟩:=JT h;have i5:=C1 i4;unfold zA TP;rw[uZ h.s,qA];by_cases hf:pU (uH o.Key) s.Y3<0;(rw[LP hf]at i1 i2 i3 i4 i5⊢;rw[if_neg qd,oK i1,qA,xJ i1 qc h.o.2.2.2.2 (cH _),qA,tV h.s h.o.2.2.1 i3 i4 qc qc,qA];cases (Fg (⟨([]:List M.Field)⟩:M.aC) o.Field (i64.wrap ((gJ (⟨([]:List M.Field)⟩:M.aC) o.Field).1+1))).2;(exact⟨_,rfl,rfl,λe=>by cases e⟩);·exact⟨_,rfl,rfl,λ_=>rfl⟩);·obtain⟨x,e1,e2⟩:=Ji hf;rw[if_pos qd,e1,qA,e2,oK i1,qA,xJ i1 qc h.o.2.2.2.2 (cH _),qA,tV h.s h.o.2.2.1 i3 i4 qc qc,qA];cases (Fg (iI s o.Key) o.Field (i64.wrap ((gJ (iI s o.Key) o.Field).1+1))).2;(exact⟨_,rfl,rfl,λe=>by cases e⟩);·exact⟨_,rfl,rfl,λ_=>rfl⟩
theorem Hy{s:M.aA}{o:M.Op}(h:PR s o):∃x,wE s o=some x/\x.2.2=(nOn s o).2.2/\(x.2.2=true->x=nOn s o):=by
 have C:=h.z
 have j:=h.r
 have same:∀{m:Option (M.aA×Int×Bool)} {y:M.aA×Int×Bool},m=some y->∃x,m=some x/\x.2.2=y.2.2/\(x.2.2=true->x=y):=λe=>⟨_,e,rfl,λ_=>rfl⟩
 unfold wE nOn
 rw[uZ h.s,qA,mA s qc,tV h.s h.o.2.2.1 h.o.2.2.2.1 (Ba h.n).2.2.2.2 qc qc,C4 h.s h.o.2.2.1 h.o.2.2.2.1 (Ba h.n).2.2.2.2 qc qc,Az h.s h.o.2.2.1 h.o.2.2.1 qc,Az (g:=(⟨false,false,(⟨0,0,(⟨#[]⟩:ByteArray)⟩:M.Key),(⟨0,0,(⟨#[]⟩:ByteArray)⟩:M.Key)⟩:M.eX)) h.s KX KX qc]
 by_cases k1:o.Zi=1
 ·rw[if_pos (by simpa using k1),if_pos k1];exact same rfl
 rw[if_neg (by simpa using k1),if_neg k1]
 by_cases k2:o.Zi=2
 ·rw[if_pos (by simpa using k2),if_pos k2];exact same rfl
 rw[if_neg (by simpa using k2),if_neg k2]
 by_cases k3:o.Zi=3
 ·rw[if_pos (by simpa using k3),if_pos k3];exact same rfl
 rw[if_neg (by simpa using k3),if_neg k3]
 by_cases k4:o.Zi=4
 ·rw[if_pos (by simpa using k4),if_pos k4];by_cases hf:pU (uH o.Key) s.Y3<0;(rw[if_pos (by simpa using hf),if_pos hf];exact same rfl);·obtain⟨x,e1,e2⟩:=Ji hf;rw[if_neg (by simpa using hf),if_neg hf,qA,e1,qA,e2];exact same rfl
 rw[if_neg (by simpa using k4),if_neg k4]
 by_cases k5:o.Zi=5
 ·rw[if_pos (by simpa using k5),if_pos k5];exact same rfl
 ·rw[if_neg (by simpa using k5),if_neg k5];obtain⟨x,e1,e2,e3⟩:=Kt h;rw[e1,qA];exact⟨_,rfl,e2,e3⟩
theorem Hf{s:M.aA}{k:M.Key}{r:M.aC}(U:s.ok)(ht:gC s=true)(I:k.ok)(J:r.ok)(C:bO r=true):(zM s k r).1.ok/\M.aA.sz (zM s k r).1<=10000:=by
 have j:=nQ ht
 refine⟨IN U (by simp only[M.aA.sz]at j;omega) I J,?_⟩
 cases e:(zM s k r).2 with
 |true=>exact nQ (AV C e)
 |false=>rw[Fh e];exact j
theorem PC{s:M.aA}{o:M.Op}(h:PR s o):(nOn s o).1.ok/\M.aA.sz (nOn s o).1<=10000:=by
 have j:=h.z
 have C:=(Ba h.n).2.2.2.2
 obtain⟨i1,i2,i3,i4⟩:=JT h
 have I:∀g,(GY s g).1.ok/\M.aA.sz (GY s g).1<=10000:=λg=>⟨(LW h.s).1,Nat.le_trans (LW h.s).2 j⟩
 unfold nOn TP KN
 split
 ·exact Hf h.s h.t h.o.2.2.1 h.o.2.2.2.1 C
 split
 ·split;(exact Hf h.s h.t h.o.2.2.1 h.o.2.2.2.1 C);·exact⟨h.s,j⟩
 split
 ·exact I _
 split
 ·split<;>exact⟨h.s,j⟩
 split
 ·exact I _
 split
 ·exact Hf h.s h.t h.o.2.2.1 i3 i4
 ·exact⟨h.s,j⟩
theorem Gs{d:M.YY}(h:nDb d=true):(∀(k:Nat) (j:k<d.Y5.length),gC d.Y5[k]=true)/\d.Name.size<=8/\d.Y5.length<=4/\d.Za.length<=4/\∀u∈d.Za,u.Field.size<=8:=by unfold nDb at h;simp only[qM,qL,qQ,qR]at h;obtain⟨I,J,C,_,U,h6⟩:=h;refine⟨λk j=> ?_,?_,U,h6,λu hu=> ?_⟩;(have:=I k j;unfold BG at this;rw[qF j,qM,Option.any_some]at this;exact this.1);(unfold nS inR at C;simp only[qM,qL]at C;omega);·obtain⟨k,j,rfl⟩:=List.getElem_of_mem hu;have:=J k j;unfold BZ nS inR at this;rw[qF j]at this;simp only[Option.any_some,qM,qL]at this;omega
def KS(d:M.YY)(j:Nat)(s:M.aA):M.YY:=(⟨d.Name,d.Y2,d.Y5.set j s,d.Za⟩:M.YY)
def LV(d:M.YY)(o:M.Op)(j:Nat)(s:M.aA):M.YY×Int×Bool:=if(nOn s o).2.2=true then if nDb (KS d j (nOn s o).1)=true then(KS d j (nOn s o).1,(nOn s o).2.1,true)else(d,0,false)else(d,0,false)
def Ns(d:M.YY)(o:M.Op):M.YY×Int×Bool:=if(nDb d&&nOp o)=true then(match d.Y5[(pU (zI o.aA) d.Y5).toNat]? with
 |some s=>if pU (zI o.aA) d.Y5<0 then(d,0,false)else LV d o (pU (zI o.aA) d.Y5).toNat s
 |none=>(d,0,false))else(d,0,false)
theorem L7{d:M.YY}{s:M.aA}{j:Nat}(C:d.ok)(I:s.ok):(KS d j s).ok:=⟨C.Name,C.Y2,⟨by show(d.Y5.set j s).length<=_;rw[qN];exact C.Y5.1,λy J=>by rcases List.mem_or_eq_of_mem_set J with h|rfl;(exact C.Y5.2 y h);·exact I⟩,C.Za⟩
theorem Q5{d:M.YY}{s:M.aA}{j:Nat}(C:M.YY.sz d<=1000000)(I:M.aA.sz s<=10000):M.YY.sz (KS d j s)<=1048576:=by have:=Hn (f:=M.aA.sz) (x:=s) (l:=d.Y5) (i:=j);simp only[KS,M.YY.sz,qN]at C⊢;omega
theorem JW{d:M.YY}{o:M.Op}(I:d.ok)(U:Ht o)(hz:M.YY.sz d<=1000000):wW d o=some (Ns d o):=by
 unfold wW Ns
 rw[vN d qc,qA,zL I,qA,oC I qc,qA,Gw U,qA]
 cases hD:nDb d with
 |false=>rfl
 |true=>
  cases hO:nOp o with
  |false=>rfl
  |true=>
   rw[if_neg qe,if_neg qe,if_pos (show(true&&true)=true from rfl)]
   by_cases hf:pU (zI o.aA) d.Y5<0
   ·rw[if_pos (by simpa using hf)];split;(rw[if_pos hf]);·rfl
   ·obtain⟨j,e,J⟩:=kI hf
    have ht:=(Gs hD).1 j J
    have hs:=I.Y5.2 _ (qG J)
    have C:PR d.Y5[j] o:=⟨hs,U,hO,ht⟩
    obtain⟨v1,v2⟩:=PC C
    rw[if_neg (by simpa using hf),e,qH,qF J]
    simp only[show ¬((j:Nat):Int)<0 from by omega,if_false]
    rw[aN J,qA]
    unfold LV
    obtain⟨x,e1,e2,e3⟩:=Hy C
    rw[e1,qA,qA,<-e2]
    cases hx:x.2.2 with
    |false=>rfl
    |true=>
     obtain rfl:=e3 hx
     rw[if_neg qe,if_pos rfl]
     have:=oC (L7 (j:=j) I v1) (Q5 hz v2)
     unfold KS at this⊢
     rw[this,qA]
     cases nDb (⟨d.Name,d.Y2,d.Y5.set j (nOn d.Y5[j] o).1,d.Za⟩:M.YY)<;>rfl
theorem Mn{d:M.YY}{o:M.Op}(C:d.ok)(U:Ht o)(hz:M.YY.sz d<=1000000):(Ns d o).1.ok/\M.YY.sz (Ns d o).1<=M.YY.sz d+10000:=by unfold Ns;split;(rename_i h;rw[qM]at h;by_cases hf:pU (zI o.aA) d.Y5<0;(split;(rw[if_pos hf];exact⟨C,qh⟩);·exact⟨C,qh⟩);·obtain⟨j,e,I⟩:=kI hf;have J:PR d.Y5[j] o:=⟨C.Y5.2 _ (qG I),U,h.2,(Gs h.1).1 j I⟩;obtain⟨v1,v2⟩:=PC J;rw[e,qH,qF I];simp only[show ¬((j:Nat):Int)<0 from by omega,if_false];unfold LV;split;(split;(refine⟨L7 C v1,?_⟩;have:=Hn (f:=M.aA.sz) (x:=(nOn d.Y5[j] o).1) (l:=d.Y5) (i:=j);simp only[KS,M.YY.sz,qN];omega);·exact⟨C,qh⟩);·exact⟨C,qh⟩);·exact⟨C,qh⟩
theorem RW{d:M.YY}(h:nDb d=true)(U:∀u∈d.Za,u.aA.size<=8):M.YY.sz d<=100000:=by obtain⟨C,h2,h3,h4,I⟩:=Gs h;have a1:=jW (w:=M.aA.sz) (b:=10000) (xs:=d.Y5) (λx j=>by obtain⟨k,J,rfl⟩:=List.getElem_of_mem j;exact nQ (C k J));have a2:=jW (w:=M.aM.sz) (b:=16) (xs:=d.Za) (λx j=>by have b1:=I x j;have b2:=U x j;simp only[M.aM.sz];omega);simp only[M.YY.sz];omega
theorem MK{l:List M.aA}{a:ByteArray}(h:0<=pU (zI a) l):∃x∈l,x.Name.toList=a.toList:=by obtain⟨k,e,C⟩:=kI (show ¬pU (zI a) l<0 by omega);obtain⟨_,j⟩:=yJ e;exact⟨_,qG C,by unfold zI at j;exact eq_of_beq j⟩
theorem K8{d:M.YY}(h:nDb d=true):∀u∈d.Za,u.aA.size<=8:=by intro u hu;obtain⟨J,_⟩:=Gs h;unfold nDb at h;simp only[qM,qL,qQ,qR]at h;obtain⟨k,C,rfl⟩:=List.getElem_of_mem hu;have:=h.2.1 k C;unfold BZ at this;rw[qF C]at this;simp only[Option.any_some,qM,qL]at this;obtain⟨x,hx,e⟩:=MK this.1;obtain⟨j,U,rfl⟩:=List.getElem_of_mem hx;have I:=(sY (J j U)).2.1;unfold nS inR at I;simp only[qM,qL]at I;have:=bsize e;omega
def J4(d0:M.YY):M.YY->List Int->List M.Op->M.YY×List Int×Bool
 |x,j,[]=>(x,j,true)
 |x,j,o::l=>if(Ns x o).2.2=true then J4 d0 (Ns x o).1 (j++[(Ns x o).2.1]) l else(d0,([]:List Int),false)
def By(d:M.YY)(l:List M.Op):M.YY×List Int×Bool:=if nDb d=true then if l.length>6 then(d,([]:List Int),false)else J4 d d [] l else(d,([]:List Int),false)
theorem NP{d0:M.YY}{l:List M.Op}(U:l.length<=6)(I:∀o∈l,Ht o)(C:M.YY.sz d0<=1000000):∀(n k:Nat) (x:M.YY) (ns:List Int),l.length-k<n->k<=l.length->x.ok->M.YY.sz x<=900000+10000*k->ns.length=k->pJ d0 l n (k:Int) x.Name x.Y2 ns x.Y5 x.Za=some (J4 d0 x ns (l.drop k))
 |0,_,_,_,h,_,_,_,_=>by omega
 |n+1,k,x,ns,hn,hk,J,hz,hs=>by
  simp only[pJ]
  rcases Nat.lt_or_ge k l.length with hlt|hge
  ·rw[if_pos (aY hlt),aN hlt,qA]
   show((wW x l[k]).bind _)=_
   have j:=I _ (qG hlt)
   obtain⟨v1,v2⟩:=Mn J j qc
   rw[JW J j qc,qA,qW hlt]
   simp only[J4]
   cases (Ns x l[k]).2.2 with
   |false=>
    rw[if_pos qe,if_neg qe,vN d0 qc,qA]
   |true=>
    rw[if_neg qe,if_pos rfl,eJ qd,qA,bN qc]
    exact NP U I C n (k+1) _ _ qc hlt v1 (Nat.le_trans v2 qc) (by simp[hs])
  ·have e:k=l.length:=by omega
   subst e
   rw[if_neg ql,qZ]
   rfl
theorem D5{d:M.YY}{l:List M.Op}(j:d.ok)(I:l.length<=1000)(C:∀o∈l,Ht o)(U:M.YY.sz d<=1048576):tC d l=some (By d l):=by
 unfold tC By
 rw[vN d qc,qA,oC j qc,qA]
 cases hD:nDb d with
 |false=>rfl
 |true=>
  have J:=RW hD (K8 hD)
  rw[if_neg qe,if_pos rfl]
  by_cases h6:l.length>6
  ·rw[if_pos qd,if_pos h6]
  ·rw[if_neg qd,if_neg h6];exact NP qc C qc fuel 0 d [] qj qc j qc rfl
theorem RQ{d:M.YY}{o:M.Op}(h:(Ns d o).2.2=true):nDb (Ns d o).1=true:=by unfold Ns at h⊢;split at h;(rename_i C;rw[if_pos C];split at h;(rename_i s U;split at h;(cases h);·rename_i I;rw[if_neg I];unfold LV at h⊢;split at h;(rename_i J;rw[if_pos J];split at h;(rename_i j;rw[if_pos j];exact j);·cases h);·cases h);·cases h);·cases h
theorem Kf{d0:M.YY}(J:d0.ok):∀{l:List M.Op} {x:M.YY} {ns:List Int},(∀o∈l,Ht o)->x.ok->nDb x=true->(J4 d0 x ns l).1=d0\/((J4 d0 x ns l).1.ok/\nDb (J4 d0 x ns l).1=true)
 |[],x,ns,_,C,j=>.inr ⟨C,j⟩
 |o::l,x,ns,I,C,j=>by have hz:=RW j (K8 j);simp only[J4];split;(rename_i h;exact Kf J (λy U=>I y (by simp[U])) (Mn C (I o qe) qc).1 (RQ h));·exact .inl rfl
theorem Hq{d:M.YY}{l:List M.Op}(C:d.ok)(J:∀o∈l,Ht o):(By d l).1=d\/((By d l).1.ok/\M.YY.sz (By d l).1<=100000):=by unfold By;split;(rename_i h;split;(exact .inl rfl);·rcases Kf C J C h (ns:=[])with e|⟨I,j⟩;(exact .inl e);·exact .inr ⟨I,RW j (K8 j)⟩);·exact .inl rfl
def G7:M.YY->Nat->List (List Int)->M.YY×Int
 |d,i,[]=>(d,(i:Int))
 |d,i,e::l=>if(Cc e).2=true then G7 (By d (Cc e).1).1 (i+1) l else(d,(i:Int))
def Ju(d:M.bG):M.YY×Int:=G7 d.Zf 0 (S6 d.ZD).1
theorem Ls{x3:List (List Int)×Int}(J:x3.1.length<=1048576)(C:∀l∈x3.1,okB l/\l.length<=4000):∀(n k:Nat) (d:M.YY),x3.1.length-k<n->k<=x3.1.length->d.ok->M.YY.sz d<=1048576->mS x3 n (k:Int) d.Name d.Y2 d.Y5 d.Za=some (G7 d k (x3.1.drop k))
 |0,_,_,h,_,_,_=>by omega
 |n+1,k,d,hn,hk,j,U=>by
  simp only[mS]
  rcases Nat.lt_or_ge k x3.1.length with hlt|hge
  ·obtain⟨I,b2⟩:=C _ (qG hlt)
   obtain⟨o1,o2⟩:=Ij I qc
   rw[if_pos (aY hlt),aN hlt,qA,Gj I qc,qA,qW hlt]
   simp only[G7]
   cases (Cc x3.1[k]).2 with
   |false=>rfl
   |true=>
    rw[if_neg qe,if_pos rfl]
    show((tC d (Cc x3.1[k]).1).bind _)=_
    rw[D5 j qc (λo h=>(o2 o h).1) U,qA,bN qc]
    rcases Hq j (λo h=>(o2 o h).1)with e|⟨v1,v2⟩
    ·rw[e];exact Ls J C n (k+1) d qc hlt j U
    ·exact Ls J C n (k+1) _ qc hlt v1 qc
  ·have e:k=x3.1.length:=by omega
   subst e
   rw[if_neg ql,qZ]
   rfl
theorem Ho{d:M.bG}(j:d.ok)(I:M.bG.sz d<=1048576):uP d=some (Ju d):=by
 have C:M.YY.sz d.Zf<=1048576:=by simp only[M.bG.sz]at I;omega
 have U:d.ZD.length<=1048576:=by simp only[M.bG.sz]at I;omega
 obtain⟨g1,J⟩:=O6 j.ZD
 unfold uP Ju
 rw[vN d.Zf qc,qA,Hz j.ZD qc,qA]
 exact Ls (x3:=S6 d.ZD) qc J fuel 0 d.Zf qj qc j.Zf C
theorem EH:∀{l:List (List Int)} {d:M.YY} {i:Nat},(∀e∈l,okB e/\e.length<=4000)->d.ok->M.YY.sz d<=1048576->(G7 d i l).1.ok/\M.YY.sz (G7 d i l).1<=1048576
 |[],d,i,_,j,C=>⟨j,C⟩
 |e::l,d,i,I,j,C=>by obtain⟨U,b2⟩:=I e qe;obtain⟨o1,o2⟩:=Ij U qc;simp only[G7];split;(rcases Hq j (λo h=>(o2 o h).1)with e'|⟨v1,v2⟩;(rw[e'];exact EH (λx J=>I x (by simp[J])) j C);·exact EH (λx J=>I x (by simp[J])) v1 qc);·exact⟨j,C⟩
theorem NQ{d:M.bG}(j:d.ok)(C:M.bG.sz d<=1048576):(Ju d).1.ok/\M.YY.sz (Ju d).1<=1048576:=EH (O6 j.ZD).2 j.Zf (by simp only[M.bG.sz]at C;omega)
def PS(l:List Int)(i:Int)(b:List Int):List Int:=l++(HD b++uv (Rx i b).toNat)
def Qx(l:List Int)(i:Int)(b:List Int):List Int×Bool:=if i<0 then(l,false)else if(PS l i b).length>4000 then(l,false)else(PS l i b,true)
theorem Sj{l b:List Int}{i:Int}:PS l i b=(l++HD b)++uv (Rx i b).toNat:=by unfold PS;rw[qS]
theorem R6(i:Int)(b:List Int):0<=Rx i b/\Rx i b<2147483647:=Sd _
theorem BL{l b:List Int}{i:Int}(J:l.length<=1048576)(I:b.length<=100000):pL l i b=some (Qx l i b):=by have C:=R6 i b;have U:=Eu (n:=b.length) qc;have j:=kQ (r:=l++HD b) (n:=(Rx i b).toNat) (by unfold HD;simp only[qE];omega) qc;rw[Int.toNat_of_nonneg C.1,<-Sj]at j;unfold pL Qx;rw[Hh qc qc,qA,mU qc qc,qA,Cp qc,qA];show((bI (l++HD b) (Rx i b)).bind _)=_;rw[j,qA];by_cases hi:i<0;(rw[if_pos (by simpa using hi),if_pos hi]);·rw[if_neg (by simpa using hi),if_neg hi];by_cases h4:(PS l i b).length>4000;(rw[if_pos qd,if_pos h4]);·rw[if_neg qd,if_neg h4]
def Uf(d:M.bG)(l:List M.Op):Bool:=(By (Ju d).1 l).2.2&&((List.length (Ca l):Int) !=0&&(((Ju d).2==d.Zu)&&(Qx d.ZD d.Zu (Ca l)).2))
def E6(d:M.bG)(l:List M.Op):M.bG×Bool:=if Uf d l=true then((⟨d.Zf,(Qx d.ZD d.Zu (Ca l)).1,i64.wrap (d.Zu+1)⟩:M.bG),true)else(d,false)
theorem O5(l:List M.Op):(Ca l).length<=2000:=by unfold Ca;split;(rename_i h;rw[qM,qL,qQ]at h;have C:=Jf (f:=enO) (λo j=>Li (h.1 o j));have I:=Eu (n:=l.length) qc;rw[qE];omega);·simp
theorem EZ{d:M.bG}{l:List M.Op}(I:d.ok)(j:M.bG.sz d<=1048576)(J:l.length<=1000)(U:∀o∈l,Ht o):lF d l=some (E6 d l):=by
 have C:d.ZD.length<=1048576:=by simp only[M.bG.sz]at j;omega
 have he:=O5 l
 obtain⟨v1,v2⟩:=NQ I j
 unfold lF E6 Uf
 rw[CZ d qc,qA,Ho I j,qA,D5 v1 J U v2,qA,BQ J U,qA,BL C qc,qA]
 unfold bne
 generalize (By (Ju d).1 l).2.2=a1
 generalize ((List.length (Ca l):Int)==0)=a2
 generalize ((Ju d).2==d.Zu)=a3
 cases a1<;>cases a2<;>cases a3<;>cases (Qx d.ZD d.Zu (Ca l)).2<;>rfl
theorem HV{d:M.bG}{l:List M.Op}(I:d.ok):(E6 d l).1.ok/\M.bG.sz (E6 d l).1<=M.bG.sz d+4000/\(E6 d l).1.Zf=d.Zf:=by unfold E6;split;(rename_i h;unfold Uf at h;simp only[qM]at h;have C:=h.2.2.2;unfold Qx at C⊢;split at C;(cases C);·rename_i J;rw[if_neg J];split at C;(cases C);·rename_i U;rw[if_neg U];refine⟨⟨I.Zf,⟨Nat.le_trans (by omega:(PS d.ZD d.Zu (Ca l)).length<=4000) qk,λy hy=> ?_⟩,cH _⟩,?_,rfl⟩;(have j:y∈PS d.ZD d.Zu (Ca l):=hy;unfold PS at j;simp only[qP]at j;rcases j with h|h|h;(exact I.ZD.2 y h);(exact Bt (Mq l).2 y h);·exact Db _ y h);·simp only[M.bG.sz];omega);·exact⟨I,qh,rfl⟩
theorem Ga{s:M.aE}{v:Int}(C:s.ok):tU s v=some (pU (λc:M.Y6=>c.Y2==v) s.Y1):=by have I:=le_max C.Y1.1;unfold tU;rw[findAll (L:=iP s v) (f:=λc:M.Y6=>c.Y2==v) (A:=λi=>some (i:Int)) (E:=some (-1)) C.Y1.1 (λm k j=> ?_) (λm=> ?_),uU];(simp only[iP];rw[if_pos (aY j),aN j,qA,bN qc]);·simp only[iP];rw[if_neg ql]
def FB(a b:ByteArray)(x:M.Zb):Bool:=(x.Zh.toList==a.toList)&&(x.Zy.toList==b.toList)
theorem HP{c:M.Y6}{a b:ByteArray}(j:c.ok):vZ c a b=some (pU (FB a b) c.Y8):=by have I:=le_max j.Y8.1;unfold vZ;rw[findAll (L:=jL c a b) (f:=FB a b) (A:=λi=>some (i:Int)) (E:=some (-1)) j.Y8.1 (λm k C=> ?_) (λm=> ?_),uU];(simp only[jL];rw[if_pos (aY C),aN C,qA,bN qc,OJ];rfl);·simp only[jL];rw[if_neg ql]
def Gk(s:M.aE)(v:Int):Nat:=(s.Y1.takeWhile λc=>decide (c.Y2<v)).length
def Ar(s:M.aE)(v:Int)(k:Nat):List M.Y6:=s.Y1.take k++((⟨v,([]:List M.Zb)⟩:M.Y6)::s.Y1.drop k)
def C2(s:M.aE)(v:Int):M.aE×Bool:=if(iB s&&iB (⟨Ar s v (Gk s v)⟩:M.aE))=true then((⟨Ar s v (Gk s v)⟩:M.aE),true)else(s,false)
theorem Jx{s:M.aE}{v:Int}(C:s.ok)(I:inI v)(J:s.Y1.length<=1073741824)(k:Nat):M.aE.ok (⟨Ar s v k⟩:M.aE):=by refine⟨⟨?_,λx j=> ?_⟩⟩;(show(Ar s v k).length<=maxLen;unfold Ar maxLen;simp only[qE,qJ,qU,qV];omega);·have j:x∈Ar s v k:=j;unfold Ar at j;rcases List.mem_append.1 j with j|j;(exact C.Y1.2 x (List.mem_of_mem_take j));·rcases List.mem_cons.1 j with rfl|j;(exact⟨I,⟨by simp[maxLen],qe⟩⟩);·exact C.Y1.2 x (List.mem_of_mem_drop j)
def Ia(s:M.aE)(v:Int)(k:Nat):Option (M.aE×Bool):=(bS s).bind λa=>if(!a)=true then(cN s).bind λy=>some (y,false)else(bS (⟨Ar s v k⟩:M.aE)).bind λb=>if(!b)=true then(cN s).bind λy=>some (y,false)else some ((⟨Ar s v k⟩:M.aE),true)
theorem Gf{s:M.aE}{v:Int}(j:s.ok)(U:inI v)(C:M.aE.sz s<=1073741824):kZ s v=some (C2 s v):=by
 have J:s.Y1.length<=1073741824:=by simp only[M.aE.sz]at C;omega
 have hm:=le_max j.Y1.1
 unfold kZ
 rw[yY s C,qA,Hb (l:=s.Y1) (f:=λc:M.Y6=>decide (c.Y2<v)) (L:=jA s v s) (S:=Ia s v) j.Y1.1 (λn k I=> ?_) (λn=> ?_)]
 ·unfold Ia C2;rw[lS j,qA,lS (Jx j U J _),qA,yY s C,qA];show _=some (if(iB s&&iB (⟨Ar s v (Gk s v)⟩:M.aE))=true then _ else _);unfold Gk;generalize iB (⟨Ar s v (List.takeWhile (λc:M.Y6=>decide (c.Y2<v)) s.Y1).length⟩:M.aE)=b;cases iB s<;>cases b<;>rfl
 ·simp only[jA];rw[if_pos (aY I),aN I,qA,bN qc];by_cases h:s.Y1[k].Y2<v;(rw[if_pos (by simpa using h),if_pos (by simpa using h)]);·rw[if_neg (by simpa using h),if_neg (by simpa using h)];rw[Bu qc,qA,qH,eJ qu,qA,eJ qs,qA,eJ qn,qA,qS];rfl
 ·simp only[jA];rw[if_neg ql];rw[Bu (Nat.le_refl _),qA,qH,eJ qu,qA,eJ qs,qA,eJ qn,qA,qS];rfl
theorem OT{s:M.aE}{v:Int}(j:s.ok)(I:inI v)(J:M.aE.sz s<=1073741824):M.aE.ok (C2 s v).1:=by
 have C:s.Y1.length<=1073741824:=by simp only[M.aE.sz]at J;omega
 unfold C2
 split
 ·exact Jx j I C _
 ·exact j
theorem M4{s:M.aE}{v:Int}(h:(C2 s v).2=true):iB (C2 s v).1=true:=by unfold C2 at h⊢;split at h;(rename_i j;rw[if_pos j];exact(Bool.and_eq_true_iff.1 j).2);·cases h
def FD(c:M.Y6)(a p:ByteArray)(x:M.Y7):M.Y6:=(⟨c.Y2,if pU (FB a p) c.Y8>=0 then c.Y8.set (pU (FB a p) c.Y8).toNat (⟨a,p,x⟩:M.Zb)else c.Y8++[(⟨a,p,x⟩:M.Zb)]⟩:M.Y6)
def H9(s:M.aE)(v:Int)(a p:ByteArray)(x:M.Y7):List M.Y6:=match s.Y1[(pU (λc:M.Y6=>c.Y2==v) s.Y1).toNat]? with
 |some c=>s.Y1.set (pU (λc:M.Y6=>c.Y2==v) s.Y1).toNat (FD c a p x)
 |none=>s.Y1
def HB(s:M.aE)(v:Int)(a p:ByteArray)(x:M.Y7):M.aE×Bool:=if pU (λc:M.Y6=>c.Y2==v) s.Y1<0 then(s,false)else if(iB s&&iB (⟨H9 s v a p x⟩:M.aE))=true then((⟨H9 s v a p x⟩:M.aE),true)else(s,false)
theorem Ny{c:M.Y6}{a p:ByteArray}{x:M.Y7}(C:c.ok)(hl:c.Y8.length<=1073741824)(I:a.size<=maxLen)(J:p.size<=maxLen)(U:x.ok):M.Y6.ok (FD c a p x):=by unfold FD;refine⟨C.Y2,?_⟩;dsimp only;split;(refine⟨by rw[qN];exact C.Y8.1,λy j=> ?_⟩;rcases List.mem_or_eq_of_mem_set j with j|rfl;(exact C.Y8.2 y j);·exact⟨I,J,U⟩);·refine⟨by simp only[qE,qJ,qK];unfold maxLen;omega,λy j=> ?_⟩;rcases List.mem_append.1 j with j|j;(exact C.Y8.2 y j);·rw[List.mem_singleton.1 j];exact⟨I,J,U⟩
theorem JK{s:M.aE}{v:Int}{a p:ByteArray}{x:M.Y7}(C:s.ok)(hz:M.aE.sz s<=1073741824)(J:a.size<=maxLen)(hp:p.size<=maxLen)(hx:x.ok):M.aE.ok (⟨H9 s v a p x⟩:M.aE):=by unfold H9;split;(rename_i c U;refine⟨⟨by show List.length (List.set _ _ _)<=_;rw[qN];exact C.Y1.1,λy I=> ?_⟩⟩;have j:=List.mem_of_getElem? U;have z:=iE (f:=M.Y6.sz) j;rcases List.mem_or_eq_of_mem_set I with I|rfl;(exact C.Y1.2 y I);·exact Ny (C.Y1.2 c j) (by simp only[M.aE.sz]at hz;simp only[M.Y6.sz]at z;omega) J hp hx);·exact C
theorem O0{s:M.aE}{v:Int}{a p:ByteArray}{x:M.Y7}{j:Nat}(C:pU (λc:M.Y6=>c.Y2==v) s.Y1=(j:Int))(I:j<s.Y1.length):H9 s v a p x=s.Y1.set j (FD s.Y1[j] a p x):=by unfold H9;rw[C,qH,qF I]
theorem Oc{c:M.Y6}{a p:ByteArray}{x:M.Y7}{i:Nat}(j:pU (FB a p) c.Y8=(i:Int)):FD c a p x=(⟨c.Y2,c.Y8.set i (⟨a,p,x⟩:M.Zb)⟩:M.Y6):=by unfold FD;rw[j,if_pos qc,qH]
theorem Nq{c:M.Y6}{a p:ByteArray}{x:M.Y7}(h:¬pU (FB a p) c.Y8>=0):FD c a p x=(⟨c.Y2,c.Y8++[(⟨a,p,x⟩:M.Zb)]⟩:M.Y6):=by unfold FD;rw[if_neg h]
theorem CT{s:M.aE}{v:Int}{a p:ByteArray}{x:M.Y7}(C:s.ok)(J:M.aE.sz s<=1073741824)(ha:a.size<=maxLen)(hp:p.size<=maxLen)(hx:x.ok)(zx:M.Y7.sz x<=1073741824):kR s v a p x=some (HB s v a p x):=by
 have hout:=JK (v:=v) (a:=a) (p:=p) (x:=x) C J ha hp hx
 unfold kR HB
 rw[yY s J,qA,Ga C,qA]
 by_cases h:pU (λc:M.Y6=>c.Y2==v) s.Y1<0
 ·rw[if_pos (by simpa using h),if_pos h]
 ·rw[if_neg (by simpa using h),if_neg h]
  obtain⟨j,ej,I⟩:=kI h
  rw[O0 ej I]at hout⊢
  have hc:=C.Y1.2 _ (qG I)
  have z1:=iE (f:=M.Y6.sz) (qG I)
  have hl:s.Y1[j].Y8.length<=1073741824:=by simp only[M.aE.sz]at J;simp only[M.Y6.sz]at z1;omega
  rw[C7 x zx,qA,ej,aN I,qA,HP hc,qA,qH]
  by_cases h2:pU (FB a p) s.Y1[j].Y8>=0
  ·obtain⟨i,U,hi⟩:=kI (f:=FB a p) (xs:=s.Y1[j].Y8) qc;rw[Oc U]at hout⊢;rw[if_pos (by simpa using h2),U,aN hi,qA,qH,lS C,qA,lS hout,qA];generalize iB (⟨s.Y1.set j _⟩:M.aE)=b;cases iB s<;>cases b<;>rfl
  ·rw[Nq h2]at hout⊢;rw[if_neg (by simpa using h2),eJ qt,qA,lS C,qA,lS hout,qA];generalize iB (⟨s.Y1.set j _⟩:M.aE)=b;cases iB s<;>cases b<;>rfl
theorem NG{s:M.aE}{v:Int}{a p:ByteArray}{x:M.Y7}(h:(HB s v a p x).2=true):iB (HB s v a p x).1=true:=by unfold HB at h⊢;split at h;(cases h);·rename_i C;rw[if_neg C];split at h;(rename_i j;rw[if_pos j];exact(Bool.and_eq_true_iff.1 j).2);·cases h
theorem QM{s:M.aE}{v:Int}{a p:ByteArray}{x:M.Y7}(j:s.ok)(U:M.aE.sz s<=1073741824)(C:a.size<=maxLen)(I:p.size<=maxLen)(J:x.ok):M.aE.ok (HB s v a p x).1:=by unfold HB;split;(exact j);·split;(exact JK j U C I J);·exact j
theorem RF{x a b:Int}(h:inR x a b=true):a<=x/\x<=b:=by unfold inR at h;simpa using h
theorem FE{s:M.aE}(h:iB s=true):M.aE.sz s<=65536:=by
 unfold iB at h
 rw[qM]at h
 have h2:s.Y1.length<=4:=by simpa using h.2
 have J:∀c∈s.Y1,M.Y6.sz c<=4096:=by
  intro c J
  obtain⟨k,hk,rfl⟩:=List.getElem_of_mem J
  have C:=List.all_eq_true.1 h.1 k (List.mem_range.2 hk)
  unfold CA at C
  rw[qF hk,Option.any_some,qM,qM]at C
  have j:=C.1.2
  unfold Bv at j
  rw[qM]at j
  have h5:s.Y1[k].Y8.length<=12:=by simpa using j.2
  have he:∀x∈s.Y1[k].Y8,M.Zb.sz x<=100:=by
   intro x hx
   obtain⟨i,hi,rfl⟩:=List.getElem_of_mem hx
   have I:=List.all_eq_true.1 j.1 i (List.mem_range.2 hi)
   unfold yO at I
   rw[qF hi,Option.any_some,qM,qM,qM]at I
   obtain⟨U,q2,q3,_⟩:=I
   unfold nS at U q2
   rw[qM]at U q2
   have r1:=RF U.2
   have r2:=RF q2.2
   unfold BV at q3
   rw[qM,qM,qM]at q3
   have r3:s.Y1[k].Y8[i].Y7.ZE.length<=60:=by have:=q3.2.2.2;simp at this;omega
   simp only[M.Zb.sz,M.Y7.sz]
   omega
  have:=jW he
  simp only[M.Y6.sz]
  omega
 have:=jW J
 simp only[M.aE.sz]
 omega
theorem Lq{l:List M.aV}:∀{s:M.aA},s.ok->l.length<=maxLen->(∀w∈l,M.aV.ok w)->M.aA.sz s<=536870912->(AI s l).ok/\M.aA.sz (AI s l)<=536870912:=by
 induction l with
 |nil=>intro s j _ _ C;exact⟨j,C⟩
 |cons w l ih=>
  intro s j J I C
  have h:=Gp j (I w qe) C
  exact ih (s:=(H5 s w).1) h.1 (by simp only[qJ]at J;omega) (λy U=>I y (by simp[U])) h.2
def DP(o:M.aF)(k:M.Key)(f:ByteArray)(n:Int):M.aF:=(⟨o.Zg,i64.wrap (o.Zr+1),o.Y9++[(⟨o.Zg,o.Zr,k,f,n⟩:M.aV)]⟩:M.aF)
def KJ(o:M.aF)(k:M.Key)(f:ByteArray)(n:Int):M.aF×Bool:=if oI o=true then if oI (DP o k f n)=true then(DP o k f n,true)else(o,false)else(o,false)
theorem QV{o:M.aF}{k:M.Key}{f:ByteArray}{n:Int}(C:o.ok)(hl:o.Y9.length<=1073741824)(U:k.ok)(J:f.size<=maxLen)(hn:inI n):(DP o k f n).ok:=
 ⟨C.Zg,cH _,⟨by show(o.Y9++_).length<=maxLen;unfold maxLen;simp;omega,λy I=>by have j:y∈o.Y9++[(⟨o.Zg,o.Zr,k,f,n⟩:M.aV)]:=I;simp only[qP,List.mem_cons,qO,or_false]at j;rcases j with I|rfl;(exact C.Y9.2 y I);·exact⟨C.Zg,C.Zr,U,J,hn⟩⟩⟩
theorem An{o:M.aF}{k:M.Key}{f:ByteArray}{n:Int}(j:o.ok)(U:M.aF.sz o<=536870912)(I:k.ok)(C:f.size<=maxLen)(J:inI n):fW o k f n=some (KJ o k f n):=by
 have hl:o.Y9.length<=536870912:=by simp only[M.aF.sz]at U;omega
 have e:=mJ (QV (k:=k) (f:=f) (n:=n) j qc I C J)
 unfold DP at e
 unfold fW KJ
 rw[yQ o qc,qA,mJ j,qA,eJ qt,qA,e,qA]
 unfold DP
 cases oI o
 ·simp
 ·cases oI (⟨o.Zg,i64.wrap (o.Zr+1),o.Y9++[(⟨o.Zg,o.Zr,k,f,n⟩:M.aV)]⟩:M.aF)<;>simp
def S9(r:M.aD)(k:M.Key)(f:ByteArray)(n:Int):Bool:=yS r&&((KJ r.Ze.aF k f n).2&&(H5 (AI r.Zf r.Ze.aF.Y9) (⟨0,0,k,f,n⟩:M.aV)).2)
def Wp(r:M.aD)(k:M.Key)(f:ByteArray)(n:Int):M.aD:=(⟨r.Zf,r.Zx,(⟨(KJ r.Ze.aF k f n).1,r.Ze.Zt,r.Ze.Zj⟩:M.Ze)⟩:M.aD)
def nWL(r:M.aD)(k:M.Key)(f:ByteArray)(n:Int):M.aD×Bool:=if S9 r k f n=true then(Wp r k f n,true)else(r,false)
theorem UA{α:Type}(a b c:Bool)(x y:α):(if(!a)=true then y else if(!b)=true then y else if(!c)=true then y else x)=if(a&&(b&&c))=true then x else y:=by cases a<;>cases b<;>cases c<;>rfl
theorem E9{r:M.aD}{k:M.Key}{f:ByteArray}{n:Int}(j:r.ok)(hz:M.aD.sz r<=536870912)(J:k.ok)(I:f.size<=maxLen)(U:inI n):jH r k f n=some (nWL r k f n):=by have C:=hz;simp only[M.aD.sz,M.Ze.sz]at C;obtain⟨q2,q3⟩:=Lq j.Zf j.Ze.aF.Y9.1 j.Ze.aF.Y9.2 qc;have q1:=B8 j.Zf j.Ze.aF.Y9.1 j.Ze.aF.Y9.2 qc;unfold jH vM;rw[AS r qc,An j.Ze.aF qc J I U,q1,wN j];simp only[qA];rw[wT (w:=(⟨0,0,k,f,n⟩:M.aV)) q2 ⟨by unfold inI;simp,by unfold inI;simp,J,I,U⟩ qc];simp only[qA,UA];unfold nWL S9 Wp;cases (yS r&&((KJ r.Ze.aF k f n).2&&(H5 (AI r.Zf r.Ze.aF.Y9) (⟨0,0,k,f,n⟩:M.aV)).2))<;>simp
def EA(l:List M.aT)(k:Nat):Bool:=(l[k]?).any (λx=>inR x.Zg 1 1000000&&inR x.ZI 0 1000000)&&(decide (k=0)||(l[k-1]?).any λy=>(l[k]?).any λx=>decide (y.Zg<x.Zg))
def Gv(l:List M.aV)(k:Nat):Bool:=(l[k]?).any AR
def GN(s:M.Zk):Bool:=(List.range s.aT.length).all (EA s.aT)&&((List.range s.Zq.length).all (Gv s.Zq)&&(gC s.aA&&((s.aA.Name.toList==(⟨#[110,111,116,101,115]⟩:ByteArray).toList)&&decide ((s.aT.length:Int)<=60))))
end Go.Proofs.YtipmihbgjolaaaaGreat.gen
