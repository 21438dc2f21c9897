/-
  Helper text. No conditions.
-/
import Derived.Test.YtbpbocchokbggaaGreatUpdatesPd3
set_option linter.all false
namespace Go.Proofs.YtbpbocchokbggaaGreat.gen
open Go Go.Sh
open Go.IntKind (i64)
theorem RY{o:M.Op}(h:nOp o=true):(enO o).length<=130:=by obtain⟨h1,h2,h3,h4,_⟩:=Fq h;have e1:=FJ 0 o.aJS.toNat jB;have e2:=H9 (b:=bT o.aD) (n:=8) (by rw[aO];exact h3) jB;have e3:=H9 (OQ o.Key) jB;have e4:=H9 (OK o.aE) jB;have e5:=H9 (b:=bT o.Field) (n:=8) (by rw[aO];exact h4) jB;unfold enO;simp only[qE];omega
theorem YV{o:M.Op}(C:Ng o)(h:nOp o=true){q:List Int}(hq:q.length<=900000){α:Type}(K:List Int->Option α):((bU q o.aJS).bind λI=>(bS I (bT o.aD)).bind λJ=>(lY o.Key).bind λU=>(bS J U).bind λah=>(gN o.aE).bind λai=>(bS ah ai).bind λaj=>(bS aj (bT o.Field)).bind λak=>K ak)=K (q++enO o):=by obtain⟨h1,h2,h3,h4,_⟩:=Fq h;have j:=pA (r:=q) (n:=o.aJS.toNat) jB jB;rw[Int.toNat_of_nonneg jB]at j;have l1:=FJ 0 o.aJS.toNat jB;have l2:=H9 (b:=bT o.aD) (n:=8) (by rw[aO];exact h3) jB;have l3:=H9 (OQ o.Key) jB;have l4:=H9 (OK o.aE) jB;have k2:=aO o.aD;have k5:=aO o.Field;have k3:=OQ o.Key;have k4:=OK o.aE;rw[j,qA,tA jP jB,qA,Lu C.2.2.1,qA,tA jP jB,qA,Ih C.2.2.2.1,qA,tA jP jB,qA,tA jP jB,qA];unfold enO;simp only[qT]
theorem eoS{l:List M.Op}(C:l.length<=1000)(j:∀o∈l,Ng o):∀(n k:Nat) (q:List Int),l.length-k<n->k<=l.length->q.length<=20+130*k->rE l n (k:Int) q=some (if(l.drop k).all nOp=true then if l.length>6 then[]else q++PC enO (l.drop k)else[])
 |0,_,_,h,_,_=>by omega
 |n+1,k,q,I,hk,J=>by
  simp only[rE]
  rcases Nat.lt_or_ge k l.length with hlt|hge
  ·rw[if_pos (aW hlt),aJ hlt,qA,L0 (j _ (qG hlt)),qA,qW hlt,List.all_cons]
   cases h:nOp l[k]with
   |false=>
    simp only[qC,if_true,Bool.false_and,qD,if_false]
   |true=>
    simp only[qB,qD,if_false,Bool.true_and]
    have U:=RY h
    rw[YV (j _ (qG hlt)) h jB,bF jB,eoS C j n (k+1) _ jB jB (by rw[qE];omega),PC,qT]
  ·have e:k=l.length:=by omega
   subst e
   rw[if_neg jK,qZ]
   simp only[List.all_nil,if_true,PC,qX]
   by_cases h6:l.length>6
   ·rw[if_pos jC,if_pos h6]
   ·rw[if_neg jC,if_neg h6]
theorem Gp{l:List M.Op}(j:l.length<=1000)(C:∀o∈l,Ng o):wS l=some (GO l):=by
 have h9:=JY (n:=l.length) jB
 unfold wS GO
 rw[pA jD jB,qA,List.nil_append]
 have e:=eoS j C fuel 0 (uv l.length) jI jB jB
 rw[List.drop_zero]at e
 refine Eq.trans e ?_
 congr 1
 cases l.all nOp with
 |false=>rfl
 |true=>
  by_cases h6:l.length>6
  ·rw[if_pos rfl,if_pos h6,if_neg jC]
  ·rw[if_pos rfl,if_neg h6,if_pos jC]
theorem Tg(l:List M.Op):okB (GO l):=by unfold GO;split;(rename_i h;rw[qM,qL,qR]at h;have h1:=Ph (f:=enO) (λo I=>RY (h.1 o I));have h9:=JY (n:=l.length) jB;refine⟨?_,λy C=> ?_⟩;(rw[qE];exact qf (m:=2000) jB jJ);·rcases qP.1 C with C|C;(exact H6 _ y C);·refine Po (λo _ z j=> ?_) y C;unfold enO at j;simp only[qP]at j;rcases j with j|j|j|j|j;(exact H6 _ z j);(exact FN (D4 _) z j);(exact FN (aBe _).2 z j);(exact FN (aBl _).2 z j);·exact FN (D4 _) z j);·exact⟨jD,λ_ h=>absurd h jD⟩
def gS9(b:List Int)(p j:Int):=nRb b (nUv b p).2.1 j
def gK9(b:List Int)(p j C:Int):=nRb b (gS9 b p j).2.1 C
def gR9(b:List Int)(p j C I:Int):=nRb b (gK9 b p j C).2.1 I
def gF9(b:List Int)(p j C I J:Int):=nRb b (gR9 b p j C I).2.1 J
def op9(b:List Int)(p j C I J:Int):Option (M.Op×Int):=if(nUv b p).2.2=true then if(gS9 b p j).2.2=true then if(gK9 b p j C).2.2=true then if(gR9 b p j C I).2.2=true then if(gF9 b p j C I J).2.2=true then some ((⟨(nUv b p).1,dO (gS9 b p j).1,(Vh (gK9 b p j C).1).1,(Uk (gR9 b p j C I).1).1,dO (gF9 b p j C I J).1⟩:M.Op),(gF9 b p j C I J).2.1)else none else none else none else none else none
def OU(b:List Int)(I J U c4:Int):Nat->Int->List M.Op->Option (List M.Op)
 |0,_,C=>some C
 |j+1,p,C=>match op9 b p I J U c4 with
  |none=>none
  |some (o,q)=>OU b I J U c4 j q (C++[o])
def aB9(b:List Int)(o:Option (List M.Op)):List M.Op×Bool:=match o with
 |none=>(([]:List M.Op),false)
 |some l=>if eqL Cx (GO l) b=true then(l,true)else(([]:List M.Op),false)
def Yw(b:List Int)(j C I J:Int):List M.Op×Bool:=if(nUv b 0).2.2=true then if(nUv b 0).1>6 then(([]:List M.Op),false)else aB9 b (OU b j C I J (nUv b 0).1.toNat (nUv b 0).2.1 [])else(([]:List M.Op),false)
theorem aAT{b:List Int}{p:Int}(hb:okB b)(j:b.length<=1048576):inI (nUv b p).2.1:=by
 cases h:(nUv b p).2.2 with
 |false=>rw[aBX h];exact yR
 |true=>
  obtain⟨a,m,e,C,J,U,I,_⟩:=EU hb h
  rw[C]
  exact KL I j
theorem OY{b:List Int}{p c:Int}(hb:okB b)(j:b.length<=1048576):inI (nRb b p c).2.1:=by
 cases h:(nRb b p c).2.2 with
 |false=>rw[aBj h];exact yR
 |true=>
  obtain⟨s,a,e,C,J,U,I,_⟩:=J3 hb h
  rw[C]
  exact KL I j
theorem EH{b:List Int}{p c:Int}(hb:okB b)(I:b.length<=1048576)(h:(nRb b p c).2.2=true):okB (nRb b p c).1/\(nRb b p c).1.length<=b.length:=by obtain⟨s,a,e,j,J,U,r4,r5,r6,r7,C⟩:=J3 hb h;rw[j];exact⟨C,jG⟩
theorem Zu{c n:Int}{t:List Int}(h:M.Key.ok (⟨c,n,dO t⟩:M.Key)):(mkK c n t).1.ok:=by unfold mkK;split;(exact h);·exact⟨yR,yR,sz0⟩
theorem YC{b:List Int}(hb:okB b):(Vh b).1.ok:=by
 have z:V2.ok:=⟨yR,yR,sz0⟩
 unfold Vh
 split
 ·exact z
 ·rename_i c t
  have hc:=hb.2 c jD
  have J:∀x∈t,0<=x/\x<=255:=λx C=>hb.2 x (by simp[C])
  have j:t.length<=maxLen:=by have:=hb.1;rw[qJ]at this;omega
  split
  ·rename_i h2;exact Zu (SA hc jB j)
  ·split
   ·exact z
   ·obtain⟨w,e,U⟩:=aCp (t:=t.take 6) (λx C=>J x (qi C)) 0 0 jE
    have h6:0+8*(List.take 6 t).length<=48:=by rw[qU];omega
    have h7:(2:Int)^(0+8*(List.take 6 t).length)<=2^48:=by have:=Nat.pow_le_pow_right (n:=2) jE h6;exact_mod_cast this
    have I:(List.take 6 t).foldl aA8 0=(w:Int):=e
    rw[I]
    refine Zu (SA hc jB (qf (by rw[qV];omega) j))
theorem Zh{b:List Int}{p C I J U q:Int}{o:M.Op}(hb:okB b)(j:b.length<=1048576)(h:op9 b p C I J U=some (o,q)):Ng o/\inI q:=by unfold op9 at h;split at h;(rename_i h1;split at h;(rename_i h2;split at h;(rename_i h3;split at h;(rename_i h4;split at h;(rename_i h5;simp only[qb,qa]at h;obtain⟨a,m,e,u1,u2,u3,_⟩:=EU hb h1;have p2:=EH hb j h2;have p3:=EH hb j h3;have p4:=EH hb j h4;have p5:=EH hb j h5;rw[<-h.1,<-h.2];refine⟨⟨?_,?_,YC p3.1,(XT p4.1).1,?_⟩,OY hb j⟩;(show inI (nUv b p).1;rw[u1];unfold inI;dsimp only;omega);(show(dO _).size<=_;rw[D5];exact p2.1.1);·show(dO _).size<=_;rw[D5];exact p5.1.1);·cases h);·cases h);·cases h);·cases h);·cases h
theorem Pq{b:List Int}{p:Int}(hb:okB b)(j:b.length<=1048576)(J:inI p):Cr b p=some (match op9 b p 100 100 200 100 with
  |none=>((⟨0,(⟨#[]⟩:ByteArray),(⟨0,0,(⟨#[]⟩:ByteArray)⟩:M.Key),(⟨([]:List M.Field)⟩:M.aE),(⟨#[]⟩:ByteArray)⟩:M.Op),0,false)
  |some (o,q)=>(o,q,true)):=by
 unfold Cr op9
 rw[tB hb j J,qA,wP hb j (aAT hb j),qA]
 show(eF b (gS9 b p 100).2.1 100).bind _=_
 rw[wP hb j (show inI (gS9 b p 100).2.1 from OY hb j),qA]
 show(eF b (gK9 b p 100 100).2.1 200).bind _=_
 rw[wP hb j (show inI (gK9 b p 100 100).2.1 from OY hb j),qA]
 show(eF b (gR9 b p 100 100 200).2.1 100).bind _=_
 rw[wP hb j (show inI (gR9 b p 100 100 200).2.1 from OY hb j),qA]
 change (if(!(nUv b p).2.2)=true then _ else if(!(gS9 b p 100).2.2)=true then _ else if(!(gK9 b p 100 100).2.2)=true then _ else if(!(gR9 b p 100 100 200).2.2)=true then _ else if(!(gF9 b p 100 100 200 100).2.2)=true then _ else(toStr (gS9 b p 100).1).bind λaf=>(toStr (gF9 b p 100 100 200 100).1).bind λah=>(wR (gK9 b p 100 100).1).bind λC=>(rN (gR9 b p 100 100 200).1).bind λI=>some ((⟨(nUv b p).1,dO (gS9 b p 100).1,C.1,I.1,dO (gF9 b p 100 100 200 100).1⟩:M.Op),(gF9 b p 100 100 200 100).2.1,true))=_
 cases h1:(nUv b p).2.2 with
 |false=>rfl
 |true=>
  cases h2:(gS9 b p 100).2.2 with
  |false=>rfl
  |true=>
   cases h3:(gK9 b p 100 100).2.2 with
   |false=>rfl
   |true=>
    cases h4:(gR9 b p 100 100 200).2.2 with
    |false=>rfl
    |true=>
     cases h5:(gF9 b p 100 100 200 100).2.2 with
     |false=>rfl
     |true=>
      have U:okB (gS9 b p 100).1/\(gS9 b p 100).1.length<=b.length:=EH hb j h2
      have p3:okB (gK9 b p 100 100).1/\(gK9 b p 100 100).1.length<=b.length:=EH hb j h3
      have p4:okB (gR9 b p 100 100 200).1/\(gR9 b p 100 100 200).1.length<=b.length:=EH hb j h4
      have p5:okB (gF9 b p 100 100 200 100).1/\(gF9 b p 100 100 200 100).1.length<=b.length:=EH hb j h5
      simp only[qB,qD,if_false,if_true]
      rw[F6 U.1.2,qA,F6 p5.1.2,qA,Lp p3.1 jB,qA,Ip p4.1 jB,qA]
theorem doS{b:List Int}{x1:Int×Int×Bool}{N:Nat}(hb:okB b)(J:b.length<=1048576)(hN:N<=6)(hx:x1.1=(N:Int)):∀(j k m:Nat) (p:Int) (C:List M.Op),k+j=N->j<m->inI p->C.length=k->(∀x∈C,Ng x)->mS b x1 m p (k:Int) C=some (aB9 b (OU b 100 100 200 100 j p C))
 |_,_,0,_,_,_,h,_,_,_=>by omega
 |0,k,m+1,p,C,hk,_,hp,ha,U=>by simp only[mS,OU,aB9];rw[hx,if_neg jC,Gp jB U,qA,JS (Tg _) hb,qA];cases eqL Cx (GO C) b<;>rfl
 |j+1,k,m+1,p,C,hk,hm,hp,ha,U=>by
  simp only[mS,OU]
  rw[hx,if_pos jC,Pq hb J hp,qA]
  cases h:op9 b p 100 100 200 100 with
  |none=>rfl
  |some x=>
   obtain⟨o,q⟩:=x
   obtain⟨k1,k2⟩:=Zh hb J h
   simp only[qB,qD,if_false]
   rw[dS jC,qA,bF jB]
   refine doS hb J hN hx j (k+1) m q _ jB jB k2 (by simp[ha]) (λy I=> ?_)
   rcases qP.1 I with I|I
   ·exact U y I
   ·rw[qQ.1 I];exact k1
theorem KG{b:List Int}(hb:okB b)(j:b.length<=1048576):wQ b=some (Yw b 100 100 200 100):=by
 unfold wQ Yw
 rw[tB hb j yR,qA]
 cases h:(nUv b 0).2.2 with
 |false=>rfl
 |true=>
  obtain⟨a,m,e,C,J,U,I,u5,u6⟩:=EU hb h
  rw[C]
  simp only[qB,qD,if_false,if_true]
  by_cases h6:(m:Int)>6
  ·rw[if_pos (by simpa using h6),if_pos h6]
  ·rw[if_neg (by simpa using h6),if_neg h6,qH];exact doS (x1:=((m:Int),(e:Int),true)) hb j (N:=m) jB rfl m 0 fuel (e:Int) [] jB jI (KL I j) rfl (λ_ h=>absurd h jD)
theorem Xm{l:List M.Op}{b:List Int}(h:GO l=b)(hb:b≠[]):b=uv l.length++PC enO l/\(∀o∈l,nOp o=true)/\l.length<=6:=by unfold GO at h;split at h;(rename_i h1;rw[qM,qL,qR]at h1;exact⟨h.symm,h1.1,h1.2⟩);·exact absurd h.symm hb
def GQ(b:List Int):List M.Op×Bool:=Yw b 100 100 200 100
theorem LB{b:List Int}(hb:okB b)(j:b.length<=1048576):wQ b=some (GQ b):=KG hb j
theorem S3{b:List Int}{U c2 c3 c4:Int}(hb:okB b)(hl:b.length<=1048576):∀(j:Nat) (p:Int) (C l:List M.Op),OU b U c2 c3 c4 j p C=some l->(∀x∈C,Ng x)->(∀x∈l,Ng x)
 |0,_,_,_,h,J=>by simp only[OU,qb]at h;rw[<-h];exact J
 |j+1,p,C,l,h,J=>by
  simp only[OU]at h
  cases e:op9 b p U c2 c3 c4 with
  |none=>rw[e]at h;cases h
  |some x=>
   obtain⟨o,q⟩:=x
   rw[e]at h
   refine S3 hb hl j q _ l h (λy I=> ?_)
   rcases qP.1 I with I|I
   ·exact J y I
   ·rw[qQ.1 I];exact(Zh hb hl e).1
theorem Ol{b:List Int}(hb:okB b)(hl:b.length<=1048576):(GQ b).1.length<=6/\∀o∈(GQ b).1,Ng o/\nOp o=true:=by
 have z:([]:List M.Op).length<=6/\∀o∈([]:List M.Op),Ng o/\nOp o=true:=⟨jD,λ_ h=>absurd h jD⟩
 unfold GQ Yw
 split
 ·rename_i h
  obtain⟨a,m,e,u1,u2,u3,u4,u5,I⟩:=EU hb h
  obtain rfl:a=0:=by omega
  rw[List.drop_zero]at I
  have j:b≠[]:=λh0=>by have:=congrArg List.length I;have h2:=Tr m;rw[h0]at this;simp at this;omega
  rw[u1]
  dsimp only
  split
  ·exact z
  ·cases hr:OU b 100 100 200 100 (m:Int).toNat (e:Int) []with
   |none=>exact z
   |some l=>
    simp only[aB9]
    split
    ·rename_i he;rw[WC]at he;obtain⟨b1,J,U⟩:=Xm he j;exact⟨U,λo C=>⟨S3 hb hl _ _ _ l hr (λ_ h=>absurd h jD) o C,J o C⟩⟩
    ·exact z
 ·exact z
theorem Hb{i:Int}{l:List Int}(j:l.length<=1048576):yX i l=some (HJ ([101,i]++([(List.length l:Int)]++l.map i64.wrap))):=by unfold yX;rw[EE j,qA,dS jC,qA,Mz (by simp[maxLen];omega),qA]
def Zp(i:Int)(l:List Int):Int:=HJ ([101,i]++([(List.length l:Int)]++l.map i64.wrap))
def QA(b:List Int):Nat->Int->List (List Int)->List (List Int)×Int
 |0,p,C=>(C,p)
 |j+1,p,C=>if(nRb b p 4000).2.2=true then if(nUv b (nRb b p 4000).2.1).2.2=true then if((nUv b (nRb b p 4000).2.1).1 !=Zp (C.length:Int) (nRb b p 4000).1)=true then(C,p)else QA b j (nUv b (nRb b p 4000).2.1).2.1 (C++[(nRb b p 4000).1])else(C,p)else(C,p)
def aA6(b:List Int):List (List Int)×Int:=QA b (b.length+1) 0 []
theorem aAC{b:List Int}:nUv b (b.length:Int)=(0,0,false):=by unfold nUv;rw[if_neg jB,qH];unfold Wt;rw[qY jB]
theorem UZ{b:List Int}(hb:okB b)(I:b.length<=1048576):∀(j m a:Nat) (C:List (List Int)),b.length-a<j->j<=m->a<=b.length->C.length<=a->vF b m (a:Int) C=some (QA b j (a:Int) C)
 |0,_,_,_,h,_,_,_=>by omega
 |_+1,0,_,_,_,h,_,_=>by omega
 |j+1,m+1,a,C,hj,hm,ha,hc=>by
  simp only[vF,QA]
  by_cases hlt:a<b.length
  case neg=>
   obtain rfl:a=b.length:=by omega
   rw[if_neg jD]
   have:(nRb b (b.length:Int) 4000).2.2=false:=by unfold nRb;rw[aAC];rfl
   rw[this]
   rfl
  rw[if_pos jC,wP hb I (KL ha I),qA]
  cases h1:(nRb b (a:Int) 4000).2.2 with
  |false=>rfl
  |true=>
   obtain⟨s,J,e1,r1,r2,r3,r4,r5,r6,r7,r8⟩:=J3 hb h1
   obtain rfl:a=J:=by omega
   rw[r1]
   simp only[qB,qD,if_false,if_true]
   rw[tB hb I (KL r4 I),qA]
   cases h2:(nUv b (e1:Int)).2.2 with
   |false=>rfl
   |true=>
    obtain⟨U,v,e2,u1,u2,u3,u4,u5,u6⟩:=EU hb h2
    obtain rfl:e1=U:=by omega
    have g1:=Tr s.length
    have g2:=Tr v
    rw[u1]
    simp only[qB,qD,if_false,if_true]
    rw[Hb jB,qA]
    show(if((v:Int) !=Zp (C.length:Int) s)=true then _ else _)=_
    split
    ·rfl
    ·rw[dS jC,qA];exact UZ hb I j m e2 _ jB jB u4 jC
theorem Nl{b:List Int}(hb:okB b)(j:b.length<=1048576):BN b=some (aA6 b):=by unfold BN aA6;exact UZ hb j (b.length+1) fuel 0 [] jB jI jB jD
theorem TA{b:List Int}(hb:okB b):∀(j a:Nat) (C:List (List Int)),a<=b.length->C.length<=a->(∀l∈C,okB l/\l.length<=4000)->(QA b j (a:Int) C).1.length<=b.length/\∀l∈(QA b j (a:Int) C).1,okB l/\l.length<=4000
 |0,a,C,ha,hc,h=>⟨by simp only[QA];omega,h⟩
 |j+1,a,C,ha,hc,h=>by
  simp only[QA]
  split
  ·rename_i h1
   obtain⟨s,J,e1,r1,r2,r3,r4,r5,r6,r7,r8⟩:=J3 hb h1
   obtain rfl:a=J:=by omega
   rw[r1]
   dsimp only
   split
   ·rename_i h2
    obtain⟨U,v,e2,u1,u2,u3,u4,u5,u6⟩:=EU hb h2
    obtain rfl:e1=U:=by omega
    have g1:=Tr s.length
    rw[u1]
    dsimp only
    split
    ·exact⟨jG,h⟩
    ·refine TA hb j e2 _ u4 jC (λl I=> ?_);rcases qP.1 I with I|I;(exact h l I);·rw[qQ.1 I];exact⟨r8,jB⟩
   ·exact⟨jG,h⟩
  ·exact⟨jG,h⟩
theorem Wo{b:List Int}(hb:okB b):(aA6 b).1.length<=b.length/\∀l∈(aA6 b).1,okB l/\l.length<=4000:=TA hb (b.length+1) 0 [] jB jD (λ_ h=>absurd h jD)
theorem NR{α:Type}{f:α->Nat}(q:α->Bool):∀(l:List α),dH f (l.filter q)<=dH f l
 |[]=>qe _
 |x::l=>by have h:=NR (f:=f) q l;rw[List.filter_cons];split;(simp only[dH];omega);·simp only[dH];omega
def Dn(k:M.Key)(g:M.gT):Bool:=DX k&&((!g.aJz||DX g.Low)&&((!g.aJo||DX g.aJv)&&((!g.aJz||decide (dG g.Low k<=0))&&(!g.aJo||decide (dG k g.aJv<=0)))))
theorem K8{k:M.Key}{g:M.gT}(hk:k.ok)(C:g.Low.ok)(j:g.aJv.ok):Aw k g=some (Dn k g):=by unfold Aw Dn;simp only[nT hk,nT C,nT j,yE C hk,yE hk j,qA];generalize decide (dG g.Low k<=0)=a1;generalize decide (dG k g.aJv<=0)=a2;generalize g.aJz=a3;generalize g.aJo=a4;generalize DX k=a5;generalize DX g.Low=a6;generalize DX g.aJv=a7;cases a1<;>cases a2<;>cases a3<;>cases a4<;>cases a5<;>cases a6<;>cases a7<;>rfl
def MD(s:M.aD)(g:M.gT):M.aD×Int:=if iR s=true then((⟨s.Name,s.aI6.filter (λx=> !Dn x.Key g),s.aJa⟩:M.aD),i64.wrap ((List.length s.aI6:Int)-(List.length (s.aI6.filter (λx=> !Dn x.Key g)):Int)))else(s,0)
theorem Qa{α:Type}{f:α->Bool}{l:List α}{k:Nat}(h:k<l.length):(l.take (k+1)).filter f=(l.take k).filter f++(if f l[k]=true then[l[k]]else[]):=by rw[<-List.take_append_getElem h,List.filter_append];congr 1;rw[List.filter_cons,List.filter_nil]
theorem Ye{s:M.aD}(C:M.aD.sz s<=1048576){x:M.aJN}(j:x∈s.aI6):M.aJN.sz x<=1048576:=by have:=cN (f:=M.aJN.sz) j;simp only[M.aD.sz]at C;omega
theorem EG{s:M.aD}{g:M.gT}(C:s.ok)(hl:g.Low.ok)(U:g.aJv.ok)(I:M.aD.sz s<=1048576):tE s g=some (MD s g):=by
 have hn:s.aI6.length<=1048576:=by simp only[M.aD.sz]at I;omega
 have key:∀(n k:Nat) (r:List M.aJN),s.aI6.length-k<n->k<=s.aI6.length->r=(s.aI6.take k).filter (λx=> !Dn x.Key g)->iV s g n (k:Int) r=some ((⟨s.Name,s.aI6.filter (λx=> !Dn x.Key g),s.aJa⟩:M.aD),i64.wrap ((List.length s.aI6:Int)-(List.length (s.aI6.filter (λx=> !Dn x.Key g)):Int))):=by
  intro n
  induction n with
  |zero=>intro k r h;omega
  |succ n J=>
   intro k r hk hle j
   simp only[iV]
   rcases Nat.lt_or_ge k s.aI6.length with hlt|hge
   ·have hx:=C.aI6.2 _ (qG hlt)
    have hrl:r.length<=1048576:=by rw[j];refine qf (List.length_filter_le _ _) ?_;rw[qU];omega
    rw[if_pos (aW hlt),aJ hlt,qA,K8 hx.Key hl U,qA]
    cases hq:Dn s.aI6[k].Key g with
    |true=>
     rw[if_neg jD,bF jB]
     refine J (k+1) r jB hlt ?_
     rw[Qa hlt,hq,<-j]
     simp
    |false=>
     rw[if_pos jD,Ga _ (qf (Ye I (qG hlt)) jB),qA,dS jS,qA,bF jB]
     refine J (k+1) _ jB hlt ?_
     rw[Qa hlt,hq,<-j]
     simp
   ·have e:k=s.aI6.length:=by omega
    subst e
    rw[if_neg jK,j,List.take_length]
 unfold tE MD
 rw[AS C,qA,oV s jB]
 cases iR s with
 |false=>rfl
 |true=>
  rw[if_neg jD,if_pos rfl]
  exact key fuel 0 [] jI jB jD
theorem SI{s:M.aD}{g:M.gT}(j:s.ok):(MD s g).1.ok/\M.aD.sz (MD s g).1<=M.aD.sz s:=by unfold MD;split;(refine⟨⟨j.Name,⟨qf (List.length_filter_le _ _) j.aI6.1,λy C=>j.aI6.2 y (qy.1 C).1⟩,j.aJa⟩,?_⟩;have h4:=List.length_filter_le (λx:M.aJN=> !Dn x.Key g) s.aI6;have h5:=NR (f:=M.aJN.sz) (λx:M.aJN=> !Dn x.Key g) s.aI6;simp only[M.aD.sz];omega);·exact⟨j,qe _⟩
def Rd(s:M.aD)(k:M.Key)(r:M.aE):M.aD×Bool:=if iJ (AW k) s.aI6<0 then DN s k r else(s,false)
theorem HX{s:M.aD}{k:M.Key}{r:M.aE}(C:s.ok)(hk:k.ok)(U:r.ok)(J:cJ r=true)(I:M.aD.sz s<=1073741824)(j:M.aE.sz r<=1073741824):AL s k r=some (Rd s k r):=by unfold AL Rd;rw[Bo C,qA,oV s I,AG C hk U J I j];by_cases h:iJ (AW k) s.aI6<0;(rw[if_neg jC,if_pos h];rfl);·rw[if_pos jC,if_neg h];rfl
def Zc:M.gT:=(⟨false,false,(⟨0,0,(⟨#[]⟩:ByteArray)⟩:M.Key),(⟨0,0,(⟨#[]⟩:ByteArray)⟩:M.Key)⟩:M.gT)
def aB2(s:M.aD)(o:M.Op):M.aD×Int×Bool:=if(KD (mE s o.Key) o.Field (i64.wrap ((kR (mE s o.Key) o.Field).1+1))).2=true then((DN s o.Key (KD (mE s o.Key) o.Field (i64.wrap ((kR (mE s o.Key) o.Field).1+1))).1).1,i64.wrap ((kR (mE s o.Key) o.Field).1+1),(DN s o.Key (KD (mE s o.Key) o.Field (i64.wrap ((kR (mE s o.Key) o.Field).1+1))).1).2)else(s,0,false)
def nOn(s:M.aD)(o:M.Op):M.aD×Int×Bool:=if o.aJS=1 then((DN s o.Key o.aE).1,1,(DN s o.Key o.aE).2)else if o.aJS=2 then((Rd s o.Key o.aE).1,1,(Rd s o.Key o.aE).2)else if o.aJS=3 then((MD s (⟨true,true,o.Key,o.Key⟩:M.gT)).1,(MD s (⟨true,true,o.Key,o.Key⟩:M.gT)).2,true)else if o.aJS=4 then if iJ (AW o.Key) s.aI6<0 then(s,-1,true)else(s,(List.length (mE s o.Key).aI9:Int),true)else if o.aJS=5 then((MD s Zc).1,(MD s Zc).2,true)else aB2 s o
theorem Rx:M.Key.ok (⟨0,0,(⟨#[]⟩:ByteArray)⟩:M.Key):=⟨yR,yR,sz0⟩
theorem Pn{s:M.aD}{k:M.Key}(h:¬iJ (AW k) s.aI6<0):∃x,idx s.aI6 (iJ (AW k) s.aI6)=some x/\x.aE=mE s k:=by obtain⟨j,e,C⟩:=dK h;refine⟨s.aI6[j],by rw[e,aJ C],?_⟩;unfold mE;rw[if_neg h,e,qH,qF C]
theorem Sx{s:M.aD}{k:M.Key}(h:iJ (AW k) s.aI6<0):mE s k=(⟨([]:List M.Field)⟩:M.aE):=by unfold mE;rw[if_pos h]
theorem F7:cJ (⟨([]:List M.Field)⟩:M.aE)=true:=by rfl
theorem Wp{s:M.aD}(h:iR s=true)(k:M.Key):cJ (mE s k)=true:=by by_cases hf:iJ (AW k) s.aI6<0;(rw[Sx hf];exact F7);·obtain⟨j,e,C⟩:=dK hf;obtain⟨x,e1,e2⟩:=Pn hf;rw[<-e2];rw[e,aJ C]at e1;obtain rfl:=Option.some.inj e1;exact((Jt (Ac h).1).1 j _ (qF C)).2
theorem SN{r:M.aE}(h:cJ r=true)(a:ByteArray)(n:Int):cJ (KD r a n).1=true:=by
 cases e:(KD r a n).2 with
 |true=>exact G4 e
 |false=>
  unfold KD OA at e⊢
  rw[if_pos h]at e⊢
  split
  ·rename_i h2;rw[if_pos h2]at e;cases e
  ·exact h
structure Xe (x:M.aD) (y:M.Op):Prop where
 s:x.ok
 o:Ng y
 n:nOp y=true
 t:iR x=true
theorem Xe.z{s:M.aD}{o:M.Op}(h:Xe s o):M.aD.sz s<=10000:=sN h.t
theorem Xe.r{s:M.aD}{o:M.Op}(h:Xe s o):M.aE.sz o.aE<=100:=HV (Fq h.n).2.2.2.2
theorem P9{s:M.aD}{o:M.Op}(h:Xe s o):(mE s o.Key).ok/\M.aE.sz (mE s o.Key)<=100/\(KD (mE s o.Key) o.Field (i64.wrap ((kR (mE s o.Key) o.Field).1+1))).1.ok/\cJ (KD (mE s o.Key) o.Field (i64.wrap ((kR (mE s o.Key) o.Field).1+1))).1=true:=by have h1:=Wp h.t o.Key;have h2:=IY (k:=o.Key) h.s;have h3:=(Ai h1).1;exact⟨h2,HV h1,OD h2 jB h.o.2.2.2.2 (bK _),SN h1 _ _⟩
theorem QS{s:M.aD}{o:M.Op}(h:Xe s o):∃x,Du s o.Key o.Field=some x/\x.2.2=(aB2 s o).2.2/\(x.2.2=true->x=aB2 s o):=by have j:=h.z;obtain⟨i1,i2,i3,i4⟩:=P9 h;have i5:=HV i4;unfold Du aB2;rw[Bo h.s,qA];by_cases hf:iJ (AW o.Key) s.aI6<0;(rw[Sx hf]at i1 i2 i3 i4 i5⊢;rw[if_neg jC,vO i1,qA,CB i1 jB h.o.2.2.2.2 (bK _),qA,AG h.s h.o.2.2.1 i3 i4 jB jB,qA];cases (KD (⟨([]:List M.Field)⟩:M.aE) o.Field (i64.wrap ((kR (⟨([]:List M.Field)⟩:M.aE) o.Field).1+1))).2;(exact⟨_,rfl,rfl,λe=>by cases e⟩);·exact⟨_,rfl,rfl,λ_=>rfl⟩);·obtain⟨x,e1,e2⟩:=Pn hf;rw[if_pos jC,e1,qA,e2,vO i1,qA,CB i1 jB h.o.2.2.2.2 (bK _),qA,AG h.s h.o.2.2.1 i3 i4 jB jB,qA];cases (KD (mE s o.Key) o.Field (i64.wrap ((kR (mE s o.Key) o.Field).1+1))).2;(exact⟨_,rfl,rfl,λe=>by cases e⟩);·exact⟨_,rfl,rfl,λ_=>rfl⟩
theorem Nk{s:M.aD}{o:M.Op}(h:Xe s o):∃x,BV s o=some x/\x.2.2=(nOn s o).2.2/\(x.2.2=true->x=nOn s o):=by
 have C:=h.z
 have j:=h.r
 have same:∀{m:Option (M.aD×Int×Bool)} {y:M.aD×Int×Bool},m=some y->∃x,m=some x/\x.2.2=y.2.2/\(x.2.2=true->x=y):=λe=>⟨_,e,rfl,λ_=>rfl⟩
 unfold BV nOn
 rw[Bo h.s,qA,oV s jB,AG h.s h.o.2.2.1 h.o.2.2.2.1 (Fq h.n).2.2.2.2 jB jB,HX h.s h.o.2.2.1 h.o.2.2.2.1 (Fq h.n).2.2.2.2 jB jB,EG h.s h.o.2.2.1 h.o.2.2.1 jB,EG (g:=(⟨false,false,(⟨0,0,(⟨#[]⟩:ByteArray)⟩:M.Key),(⟨0,0,(⟨#[]⟩:ByteArray)⟩:M.Key)⟩:M.gT)) h.s Rx Rx jB]
 by_cases k1:o.aJS=1
 ·rw[if_pos (by simpa using k1),if_pos k1];exact same rfl
 rw[if_neg (by simpa using k1),if_neg k1]
 by_cases k2:o.aJS=2
 ·rw[if_pos (by simpa using k2),if_pos k2];exact same rfl
 rw[if_neg (by simpa using k2),if_neg k2]
 by_cases k3:o.aJS=3
 ·rw[if_pos (by simpa using k3),if_pos k3];exact same rfl
 rw[if_neg (by simpa using k3),if_neg k3]
 by_cases k4:o.aJS=4
 ·rw[if_pos (by simpa using k4),if_pos k4];by_cases hf:iJ (AW o.Key) s.aI6<0;(rw[if_pos (by simpa using hf),if_pos hf];exact same rfl);·obtain⟨x,e1,e2⟩:=Pn hf;rw[if_neg (by simpa using hf),if_neg hf,qA,e1,qA,e2];exact same rfl
 rw[if_neg (by simpa using k4),if_neg k4]
 by_cases k5:o.aJS=5
 ·rw[if_pos (by simpa using k5),if_pos k5];exact same rfl
 ·rw[if_neg (by simpa using k5),if_neg k5];obtain⟨x,e1,e2,e3⟩:=QS h;rw[e1,qA];exact⟨_,rfl,e2,e3⟩
theorem MZ{s:M.aD}{k:M.Key}{r:M.aE}(J:s.ok)(U:iR s=true)(hk:k.ok)(I:r.ok)(C:cJ r=true):(DN s k r).1.ok/\M.aD.sz (DN s k r).1<=10000:=by
 have j:=sN U
 refine⟨OO J (by simp only[M.aD.sz]at j;omega) hk I,?_⟩
 cases e:(DN s k r).2 with
 |true=>exact sN (E7 C e)
 |false=>rw[KF e];exact j
theorem WV{s:M.aD}{o:M.Op}(h:Xe s o):(nOn s o).1.ok/\M.aD.sz (nOn s o).1<=10000:=by
 have j:=h.z
 have C:=(Fq h.n).2.2.2.2
 obtain⟨i1,i2,i3,i4⟩:=P9 h
 have I:∀g,(MD s g).1.ok/\M.aD.sz (MD s g).1<=10000:=λg=>⟨(SI h.s).1,qf (SI h.s).2 j⟩
 unfold nOn aB2 Rd
 split
 ·exact MZ h.s h.t h.o.2.2.1 h.o.2.2.2.1 C
 split
 ·split;(exact MZ h.s h.t h.o.2.2.1 h.o.2.2.2.1 C);·exact⟨h.s,j⟩
 split
 ·exact I _
 split
 ·split<;>exact⟨h.s,j⟩
 split
 ·exact I _
 split
 ·exact MZ h.s h.t h.o.2.2.1 i3 i4
 ·exact⟨h.s,j⟩
theorem LV{d:M.aI2}(h:nDb d=true):(∀(k:Nat) (hk:k<d.aJF.length),iR d.aJF[k]=true)/\d.Name.size<=8/\d.aJF.length<=4/\d.aJO.length<=4/\∀u∈d.aJO,u.Field.size<=8:=by unfold nDb at h;simp only[qM,qL,qR,qS]at h;obtain⟨h1,h2,h3,_,h5,h6⟩:=h;refine⟨λk hk=> ?_,?_,h5,h6,λu j=> ?_⟩;(have:=h1 k hk;unfold F9 at this;rw[qF hk,qM,qd]at this;exact this.1);(unfold oJ inR at h3;simp only[qM,qL]at h3;omega);·obtain⟨k,hk,rfl⟩:=List.getElem_of_mem j;have:=h2 k hk;unfold GF oJ inR at this;rw[qF hk]at this;simp only[qd,qM,qL]at this;omega
def Ri(d:M.aI2)(j:Nat)(s:M.aD):M.aI2:=(⟨d.Name,d.aI0,d.aJF.set j s,d.aJO⟩:M.aI2)
def SG(d:M.aI2)(o:M.Op)(j:Nat)(s:M.aD):M.aI2×Int×Bool:=if(nOn s o).2.2=true then if nDb (Ri d j (nOn s o).1)=true then(Ri d j (nOn s o).1,(nOn s o).2.1,true)else(d,0,false)else(d,0,false)
def UG(d:M.aI2)(o:M.Op):M.aI2×Int×Bool:=if(nDb d&&nOp o)=true then(match d.aJF[(iJ (DC o.aD) d.aJF).toNat]? with
 |some s=>if iJ (DC o.aD) d.aJF<0 then(d,0,false)else SG d o (iJ (DC o.aD) d.aJF).toNat s
 |none=>(d,0,false))else(d,0,false)
theorem SS{d:M.aI2}{s:M.aD}{j:Nat}(C:d.ok)(I:s.ok):(Ri d j s).ok:=⟨C.Name,C.aI0,⟨by show(d.aJF.set j s).length<=_;rw[qN];exact C.aJF.1,λy J=>by rcases jA J with h|rfl;(exact C.aJF.2 y h);·exact I⟩,C.aJO⟩
theorem YL{d:M.aI2}{s:M.aD}{j:Nat}(C:M.aI2.sz d<=1000000)(I:M.aD.sz s<=10000):M.aI2.sz (Ri d j s)<=1048576:=by have:=Hh (f:=M.aD.sz) (x:=s) (l:=d.aJF) (i:=j);simp only[Ri,M.aI2.sz,qN]at C⊢;omega
theorem Qd{d:M.aI2}{o:M.Op}(I:d.ok)(U:Ng o)(hz:M.aI2.sz d<=1000000):Cm d o=some (UG d o):=by
 unfold Cm UG
 rw[BB d jB,qA,DI I,qA,uZ I jB,qA,L0 U,qA]
 cases hD:nDb d with
 |false=>rfl
 |true=>
  cases hO:nOp o with
  |false=>rfl
  |true=>
   rw[if_neg jD,if_neg jD,if_pos (show(true&&true)=true from rfl)]
   by_cases hf:iJ (DC o.aD) d.aJF<0
   ·rw[if_pos (by simpa using hf)];split;(rw[if_pos hf]);·rfl
   ·obtain⟨j,e,J⟩:=dK hf
    have ht:=(LV hD).1 j J
    have hs:=I.aJF.2 _ (qG J)
    have C:Xe d.aJF[j] o:=⟨hs,U,hO,ht⟩
    obtain⟨v1,v2⟩:=WV C
    rw[if_neg (by simpa using hf),e,qH,qF J]
    simp only[show ¬((j:Nat):Int)<0 from by omega,if_false]
    rw[aJ J,qA]
    unfold SG
    obtain⟨x,e1,e2,e3⟩:=Nk C
    rw[e1,qA,qA,<-e2]
    cases hx:x.2.2 with
    |false=>rfl
    |true=>
     obtain rfl:=e3 hx
     rw[if_neg jD,if_pos rfl]
     have:=uZ (SS (j:=j) I v1) (YL hz v2)
     unfold Ri at this⊢
     rw[this,qA]
     cases nDb (⟨d.Name,d.aI0,d.aJF.set j (nOn d.aJF[j] o).1,d.aJO⟩:M.aI2)<;>rfl
theorem Tb{d:M.aI2}{o:M.Op}(C:d.ok)(U:Ng o)(hz:M.aI2.sz d<=1000000):(UG d o).1.ok/\M.aI2.sz (UG d o).1<=M.aI2.sz d+10000:=by unfold UG;split;(rename_i h;rw[qM]at h;by_cases hf:iJ (DC o.aD) d.aJF<0;(split;(rw[if_pos hf];exact⟨C,jG⟩);·exact⟨C,jG⟩);·obtain⟨j,e,I⟩:=dK hf;have J:Xe d.aJF[j] o:=⟨C.aJF.2 _ (qG I),U,h.2,(LV h.1).1 j I⟩;obtain⟨v1,v2⟩:=WV J;rw[e,qH,qF I];simp only[show ¬((j:Nat):Int)<0 from by omega,if_false];unfold SG;split;(split;(refine⟨SS C v1,?_⟩;have:=Hh (f:=M.aD.sz) (x:=(nOn d.aJF[j] o).1) (l:=d.aJF) (i:=j);simp only[Ri,M.aI2.sz,qN];omega);·exact⟨C,jG⟩);·exact⟨C,jG⟩);·exact⟨C,jG⟩
theorem ZQ{d:M.aI2}(h:nDb d=true)(C:∀u∈d.aJO,u.aD.size<=8):M.aI2.sz d<=100000:=by obtain⟨h1,h2,h3,h4,h5⟩:=LV h;have I:=eB (w:=M.aD.sz) (b:=10000) (xs:=d.aJF) (λx j=>by obtain⟨k,hk,rfl⟩:=List.getElem_of_mem j;exact sN (h1 k hk));have J:=eB (w:=M.aN.sz) (b:=16) (xs:=d.aJO) (λx j=>by have U:=h5 x j;have b2:=C x j;simp only[M.aN.sz];omega);simp only[M.aI2.sz];omega
theorem TH{l:List M.aD}{a:ByteArray}(h:0<=iJ (DC a) l):∃x∈l,x.Name.toList=a.toList:=by obtain⟨k,e,hk⟩:=dK (show ¬iJ (DC a) l<0 by omega);obtain⟨_,j⟩:=xI e;exact⟨_,qG hk,by unfold DC at j;exact eq_of_beq j⟩
theorem RK{d:M.aI2}(h:nDb d=true):∀u∈d.aJO,u.aD.size<=8:=by intro u J;obtain⟨h1,_⟩:=LV h;unfold nDb at h;simp only[qM,qL,qR,qS]at h;obtain⟨k,hk,rfl⟩:=List.getElem_of_mem J;have:=h.2.1 k hk;unfold GF at this;rw[qF hk]at this;simp only[qd,qM,qL]at this;obtain⟨x,U,e⟩:=TH this.1;obtain⟨j,I,rfl⟩:=List.getElem_of_mem U;have C:=(Ac (h1 j I)).2.1;unfold oJ inR at C;simp only[qM,qL]at C;have:=bsize e;omega
def Qp(d0:M.aI2):M.aI2->List Int->List M.Op->M.aI2×List Int×Bool
 |x,j,[]=>(x,j,true)
 |x,j,o::l=>if(UG x o).2.2=true then Qp d0 (UG x o).1 (j++[(UG x o).2.1]) l else(d0,([]:List Int),false)
def FX(d:M.aI2)(l:List M.Op):M.aI2×List Int×Bool:=if nDb d=true then if l.length>6 then(d,([]:List Int),false)else Qp d d [] l else(d,([]:List Int),false)
theorem U9{d0:M.aI2}{l:List M.Op}(h6:l.length<=6)(I:∀o∈l,Ng o)(C:M.aI2.sz d0<=1000000):∀(n k:Nat) (x:M.aI2) (ns:List Int),l.length-k<n->k<=l.length->x.ok->M.aI2.sz x<=900000+10000*k->ns.length=k->wU d0 l n (k:Int) x.Name x.aI0 ns x.aJF x.aJO=some (Qp d0 x ns (l.drop k))
 |0,_,_,_,h,_,_,_,_=>by omega
 |n+1,k,x,ns,hn,hk,J,hz,U=>by
  simp only[wU]
  rcases Nat.lt_or_ge k l.length with hlt|hge
  ·rw[if_pos (aW hlt),aJ hlt,qA]
   show((Cm x l[k]).bind _)=_
   have j:=I _ (qG hlt)
   obtain⟨v1,v2⟩:=Tb J j jB
   rw[Qd J j jB,qA,qW hlt]
   simp only[Qp]
   cases (UG x l[k]).2.2 with
   |false=>
    rw[if_pos jD,if_neg jD,BB d0 jB,qA]
   |true=>
    rw[if_neg jD,if_pos rfl,dS jC,qA,bF jB]
    exact U9 h6 I C n (k+1) _ _ jB hlt v1 (qf v2 jB) (by simp[U])
  ·have e:k=l.length:=by omega
   subst e
   rw[if_neg jK,qZ]
   rfl
theorem Jp{d:M.aI2}{l:List M.Op}(j:d.ok)(I:l.length<=1000)(C:∀o∈l,Ng o)(U:M.aI2.sz d<=1048576):Ak d l=some (FX d l):=by
 unfold Ak FX
 rw[BB d jB,qA,uZ j jB,qA]
 cases hD:nDb d with
 |false=>rfl
 |true=>
  have J:=ZQ hD (RK hD)
  rw[if_neg jD,if_pos rfl]
  by_cases h6:l.length>6
  ·rw[if_pos jC,if_pos h6]
  ·rw[if_neg jC,if_neg h6];exact U9 jB C jB fuel 0 d [] jI jB j jB rfl
theorem ZK{d:M.aI2}{o:M.Op}(h:(UG d o).2.2=true):nDb (UG d o).1=true:=by unfold UG at h⊢;split at h;(rename_i h1;rw[if_pos h1];split at h;(rename_i s j;split at h;(cases h);·rename_i h2;rw[if_neg h2];unfold SG at h⊢;split at h;(rename_i h3;rw[if_pos h3];split at h;(rename_i h4;rw[if_pos h4];exact h4);·cases h);·cases h);·cases h);·cases h
theorem QE{d0:M.aI2}(I:d0.ok):∀{l:List M.Op} {x:M.aI2} {ns:List Int},(∀o∈l,Ng o)->x.ok->nDb x=true->(Qp d0 x ns l).1=d0\/((Qp d0 x ns l).1.ok/\nDb (Qp d0 x ns l).1=true)
 |[],x,ns,_,j,hb=>.inr ⟨j,hb⟩
 |o::l,x,ns,C,j,hb=>by have U:=ZQ hb (RK hb);simp only[Qp];split;(rename_i h;exact QE I (λy J=>C y (by simp[J])) (Tb j (C o jD) jB).1 (ZK h));·exact .inl rfl
theorem Nd{d:M.aI2}{l:List M.Op}(j:d.ok)(C:∀o∈l,Ng o):(FX d l).1=d\/((FX d l).1.ok/\M.aI2.sz (FX d l).1<=100000):=by unfold FX;split;(rename_i h;split;(exact .inl rfl);·rcases QE j C j h (ns:=[])with e|⟨h1,h2⟩;(exact .inl e);·exact .inr ⟨h1,ZQ h2 (RK h2)⟩);·exact .inl rfl
def MP:M.aI2->Nat->List (List Int)->M.aI2×Int
 |d,i,[]=>(d,(i:Int))
 |d,i,e::l=>if(GQ e).2=true then MP (FX d (GQ e).1).1 (i+1) l else(d,(i:Int))
def PE(d:M.bR):M.aI2×Int:=MP d.aJQ 0 (aA6 d.Log).1
theorem Sd{x3:List (List Int)×Int}(J:x3.1.length<=1048576)(C:∀l∈x3.1,okB l/\l.length<=4000):∀(n k:Nat) (d:M.aI2),x3.1.length-k<n->k<=x3.1.length->d.ok->M.aI2.sz d<=1048576->sZ x3 n (k:Int) d.Name d.aI0 d.aJF d.aJO=some (MP d k (x3.1.drop k))
 |0,_,_,h,_,_,_=>by omega
 |n+1,k,d,hn,hk,j,U=>by
  simp only[sZ]
  rcases Nat.lt_or_ge k x3.1.length with hlt|hge
  ·obtain⟨I,b2⟩:=C _ (qG hlt)
   obtain⟨o1,o2⟩:=Ol I jB
   rw[if_pos (aW hlt),aJ hlt,qA,LB I jB,qA,qW hlt]
   simp only[MP]
   cases (GQ x3.1[k]).2 with
   |false=>rfl
   |true=>
    rw[if_neg jD,if_pos rfl]
    show((Ak d (GQ x3.1[k]).1).bind _)=_
    rw[Jp j jB (λo h=>(o2 o h).1) U,qA,bF jB]
    rcases Nd j (λo h=>(o2 o h).1)with e|⟨v1,v2⟩
    ·rw[e];exact Sd J C n (k+1) d jB hlt j U
    ·exact Sd J C n (k+1) _ jB hlt v1 jB
  ·have e:k=x3.1.length:=by omega
   subst e
   rw[if_neg jK,qZ]
   rfl
theorem M8{d:M.bR}(j:d.ok)(I:M.bR.sz d<=1048576):Ba d=some (PE d):=by
 have C:M.aI2.sz d.aJQ<=1048576:=by simp only[M.bR.sz]at I;omega
 have U:d.Log.length<=1048576:=by simp only[M.bR.sz]at I;omega
 obtain⟨g1,J⟩:=Wo j.Log
 unfold Ba PE
 rw[BB d.aJQ jB,qA,Nl j.Log jB,qA]
 exact Sd (x3:=aA6 d.Log) jB J fuel 0 d.aJQ jI jB j.aJQ C
theorem Ka:∀{l:List (List Int)} {d:M.aI2} {i:Nat},(∀e∈l,okB e/\e.length<=4000)->d.ok->M.aI2.sz d<=1048576->(MP d i l).1.ok/\M.aI2.sz (MP d i l).1<=1048576
 |[],d,i,_,j,C=>⟨j,C⟩
 |e::l,d,i,I,j,C=>by obtain⟨U,b2⟩:=I e jD;obtain⟨o1,o2⟩:=Ol U jB;simp only[MP];split;(rcases Nd j (λo h=>(o2 o h).1)with e'|⟨v1,v2⟩;(rw[e'];exact Ka (λx J=>I x (by simp[J])) j C);·exact Ka (λx J=>I x (by simp[J])) v1 jB);·exact⟨j,C⟩
theorem Va{d:M.bR}(j:d.ok)(C:M.bR.sz d<=1048576):(PE d).1.ok/\M.aI2.sz (PE d).1<=1048576:=Ka (Wo j.Log).2 j.aJQ (by simp only[M.bR.sz]at C;omega)
def Xf(l:List Int)(i:Int)(b:List Int):List Int:=l++(Nr b++uv (Zp i b).toNat)
def XX(l:List Int)(i:Int)(b:List Int):List Int×Bool:=if i<0 then(l,false)else if(Xf l i b).length>4000 then(l,false)else(Xf l i b,true)
theorem aAD{l b:List Int}{i:Int}:Xf l i b=(l++Nr b)++uv (Zp i b).toNat:=by unfold Xf;rw[qT]
theorem Z3(i:Int)(b:List Int):0<=Zp i b/\Zp i b<2147483647:=OP _
theorem Gi{l b:List Int}{i:Int}(I:l.length<=1048576)(hb:b.length<=100000):xA l i b=some (XX l i b):=by have C:=Z3 i b;have J:=JY (n:=b.length) jB;have j:=pA (r:=l++Nr b) (n:=(Zp i b).toNat) (by unfold Nr;simp only[qE];omega) jB;rw[Int.toNat_of_nonneg C.1,<-aAD]at j;unfold xA XX;rw[Gv jB jB,qA,tA jB jB,qA,Hb jB,qA];show((bU (l++Nr b) (Zp i b)).bind _)=_;rw[j,qA];by_cases hi:i<0;(rw[if_pos (by simpa using hi),if_pos hi]);·rw[if_neg (by simpa using hi),if_neg hi];by_cases h4:(Xf l i b).length>4000;(rw[if_pos jC,if_pos h4]);·rw[if_neg jC,if_neg h4]
def aCX(d:M.bR)(l:List M.Op):Bool:=(FX (PE d).1 l).2.2&&((List.length (GO l):Int) !=0&&(((PE d).2==d.aJi)&&(XX d.Log d.aJi (GO l)).2))
def Kv(d:M.bR)(l:List M.Op):M.bR×Bool:=if aCX d l=true then((⟨d.aJQ,(XX d.Log d.aJi (GO l)).1,i64.wrap (d.aJi+1)⟩:M.bR),true)else(d,false)
theorem Wn(l:List M.Op):(GO l).length<=2000:=by unfold GO;split;(rename_i h;rw[qM,qL,qR]at h;have h1:=Ph (f:=enO) (λo j=>RY (h.1 o j));have h9:=JY (n:=l.length) jB;rw[qE];omega);·simp
theorem Kq{d:M.bR}{l:List M.Op}(I:d.ok)(j:M.bR.sz d<=1048576)(J:l.length<=1000)(U:∀o∈l,Ng o):pU d l=some (Kv d l):=by
 have C:d.Log.length<=1048576:=by simp only[M.bR.sz]at j;omega
 have he:=Wn l
 obtain⟨v1,v2⟩:=Va I j
 unfold pU Kv aCX
 rw[HT d jB,qA,M8 I j,qA,Jp v1 J U v2,qA,Gp J U,qA,Gi C jB,qA]
 unfold bne
 generalize (FX (PE d).1 l).2.2=a1
 generalize ((List.length (GO l):Int)==0)=a2
 generalize ((PE d).2==d.aJi)=a3
 cases a1<;>cases a2<;>cases a3<;>cases (XX d.Log d.aJi (GO l)).2<;>rfl
theorem NS{d:M.bR}{l:List M.Op}(C:d.ok):(Kv d l).1.ok/\M.bR.sz (Kv d l).1<=M.bR.sz d+4000/\(Kv d l).1.aJQ=d.aJQ:=by unfold Kv;split;(rename_i h;unfold aCX at h;simp only[qM]at h;have h4:=h.2.2.2;unfold XX at h4⊢;split at h4;(cases h4);·rename_i I;rw[if_neg I];split at h4;(cases h4);·rename_i J;rw[if_neg J];refine⟨⟨C.aJQ,⟨qf (by omega:(Xf d.Log d.aJi (GO l)).length<=4000) jJ,λy U=> ?_⟩,bK _⟩,?_,rfl⟩;(have j:y∈Xf d.Log d.aJi (GO l):=U;unfold Xf at j;simp only[qP]at j;rcases j with h|h|h;(exact C.Log.2 y h);(exact FN (Tg l).2 y h);·exact H6 _ y h);·simp only[M.bR.sz];omega);·exact⟨C,jG,rfl⟩
theorem DM{s:M.aC}{v:Int}(j:s.ok):tT s v=some (iJ (λc:M.aI5=>c.aI0==v) s.aI1):=by have C:=le_max j.aI1.1;unfold tT;rw[findAll (L:=mM s v) (f:=λc:M.aI5=>c.aI0==v) (A:=λi=>some (i:Int)) (E:=some (-1)) j.aI1.1 (λm k hk=> ?_) (λm=> ?_),uH];(simp only[mM];rw[if_pos (aW hk),aJ hk,qA,bF jB]);·simp only[mM];rw[if_neg jK]
theorem DL{s:M.aC}{v:Int}(j:s.ok):tQ s v=some (iJ (λc:M.aI5=>c.aI0==v) s.aI1):=by unfold tQ;rw[Kn (f:=λc:M.aI5=>c.aI0==v) j.aI1.1 (λx _=>by simp only[xU]),qA]
def DV(a b:ByteArray)(x:M.aJE):Bool:=(x.aI7.toList==a.toList)&&(x.aJk.toList==b.toList)
theorem H5{c:M.aI5}{a b:ByteArray}(hc:c.ok):AD c a b=some (iJ (DV a b) c.aJB):=by have j:=le_max hc.aJB.1;unfold AD;rw[findAll (L:=nR c a b) (f:=DV a b) (A:=λi=>some (i:Int)) (E:=some (-1)) hc.aJB.1 (λm k hk=> ?_) (λm=> ?_),uH];(simp only[nR];rw[if_pos (aW hk),aJ hk,qA,bF jB,Yf];rfl);·simp only[nR];rw[if_neg jK]
theorem H4{c:M.aI5}{a b:ByteArray}(hc:c.ok):nW c a b=some (iJ (DV a b) c.aJB):=by unfold nW;rw[EF (f:=DV a b) hc.aJB.1 (λx _=>by simp only[wV,bA];rfl),qA]
def Hl(s:M.aC)(v:Int):Nat:=(s.aI1.takeWhile λc=>decide (c.aI0<v)).length
def Cl(s:M.aC)(v:Int)(k:Nat):List M.aI5:=s.aI1.take k++((⟨v,([]:List M.aJE)⟩:M.aI5)::s.aI1.drop k)
def CR(s:M.aC)(v:Int):M.aC×Bool:=if(cP s&&cP (⟨Cl s v (Hl s v)⟩:M.aC))=true then((⟨Cl s v (Hl s v)⟩:M.aC),true)else(s,false)
theorem LZ{s:M.aC}{v:Int}(C:s.ok)(I:inI v)(J:s.aI1.length<=1073741824)(k:Nat):M.aC.ok (⟨Cl s v k⟩:M.aC):=by refine⟨⟨?_,λx j=> ?_⟩⟩;(show(Cl s v k).length<=maxLen;unfold Cl maxLen;simp only[qE,qJ,qU,qV];omega);·have j:x∈Cl s v k:=j;unfold Cl at j;rcases qP.1 j with j|j;(exact C.aI1.2 x (qi j));·rcases qo.1 j with rfl|j;(exact⟨I,⟨by simp[maxLen],jD⟩⟩);·exact C.aI1.2 x (qt j)
def N8(s:M.aC)(v:Int)(k:Nat):Option (M.aC×Bool):=(cT s).bind λa=>if(!a)=true then(bP s).bind λy=>some (y,false)else(cT (⟨Cl s v k⟩:M.aC)).bind λb=>if(!b)=true then(bP s).bind λy=>some (y,false)else some ((⟨Cl s v k⟩:M.aC),true)
theorem Gq{s:M.aC}{v:Int}(j:s.ok)(J:inI v)(C:M.aC.sz s<=1073741824):mD s v=some (CR s v):=by
 have I:s.aI1.length<=1073741824:=by simp only[M.aC.sz]at C;omega
 have U:=le_max j.aI1.1
 unfold mD
 rw[uU s C,qA,Kx (l:=s.aI1) (f:=λc:M.aI5=>decide (c.aI0<v)) (L:=nB s v s) (S:=N8 s v) j.aI1.1 (λn k hk=> ?_) (λn=> ?_)]
 ·unfold N8 CR;rw[rQ j,qA,rQ (LZ j J I _),qA,uU s C,qA];show _=some (if(cP s&&cP (⟨Cl s v (Hl s v)⟩:M.aC))=true then _ else _);unfold Hl;generalize cP (⟨Cl s v (List.takeWhile (λc:M.aI5=>decide (c.aI0<v)) s.aI1).length⟩:M.aC)=b;cases cP s<;>cases b<;>rfl
 ·simp only[nB];rw[if_pos (aW hk),aJ hk,qA,bF jB];by_cases h:s.aI1[k].aI0<v;(rw[if_pos (by simpa using h),if_pos (by simpa using h)]);·rw[if_neg (by simpa using h),if_neg (by simpa using h)];rw[Da jB,qA,qH,dS jT,qA,dS jR,qA,dS jM,qA,qT];rfl
 ·simp only[nB];rw[if_neg jK];rw[Da (qe _),qA,qH,dS jT,qA,dS jR,qA,dS jM,qA,qT];rfl
def N9(s:M.aC)(v:Int)(k:Nat):Option (M.aC×Bool):=(cR s).bind λa=>if(!a)=true then(bB s).bind λy=>some (y,false)else(cR (⟨Cl s v k⟩:M.aC)).bind λb=>if(!b)=true then(bB s).bind λy=>some (y,false)else some ((⟨Cl s v k⟩:M.aC),true)
