/-
  Helper text. No conditions.
-/
import Derived.Test.YtbpbocchokbggaaGreatOpenedPd3
set_option linter.all false
namespace Go.Proofs.YtbpbocchokbggaaGreat.gen
open Go Go.Sh
open Go.IntKind (i64)
theorem Xy{o:M.Op}(C:Mr o)(h:nOp o=true){q:List Int}(hq:q.length<=900000){α:Type}(K:List Int->Option α):((bS q o.aHb).bind λI=>(bQ I (bR o.aC)).bind λJ=>(lM o.Key).bind λU=>(bQ J U).bind λah=>(gJ o.aD).bind λai=>(bQ ah ai).bind λaj=>(bQ aj (bR o.Field)).bind λak=>K ak)=K (q++enO o):=by obtain⟨h1,h2,h3,h4,_⟩:=EE h;have j:=oR (r:=q) (n:=o.aHb.toNat) jF jF;rw[Int.toNat_of_nonneg jF]at j;have l1:=EV 0 o.aHb.toNat jF;have l2:=Hs (b:=bR o.aC) (n:=8) (by rw[aP];exact h3) jF;have l3:=Hs (NY o.Key) jF;have l4:=Hs (NQ o.aD) jF;have k2:=aP o.aC;have k5:=aP o.Field;have k3:=NY o.Key;have k4:=NQ o.aD;rw[j,qA,sW jT jF,qA,KQ C.2.2.1,qA,sW jT jF,qA,Hz C.2.2.2.1,qA,sW jT jF,qA,sW jT jF,qA];unfold enO;simp only[qT]
theorem eoS{l:List M.Op}(C:l.length<=1000)(j:∀o∈l,Mr o):∀(n k:Nat) (q:List Int),l.length-k<n->k<=l.length->q.length<=20+130*k->pW l n (k:Int) q=some (if(l.drop k).all nOp=true then if l.length>6 then[]else q++OH enO (l.drop k)else[])
 |0,_,_,h,_,_=>by omega
 |n+1,k,q,I,hk,J=>by
  simp only[pW]
  rcases Nat.lt_or_ge k l.length with hlt|hge
  ·rw[if_pos (aY hlt),aK hlt,qA,Lc (j _ (qG hlt)),qA,qX hlt,List.all_cons]
   cases h:nOp l[k]with
   |false=>
    simp only[qC,if_true,Bool.false_and,qD,if_false]
   |true=>
    simp only[qB,qD,if_false,Bool.true_and]
    have U:=QX h
    rw[Xy (j _ (qG hlt)) h jF,bD jF,eoS C j n (k+1) _ jF jF (by rw[qE];omega),OH,qT]
  ·have e:k=l.length:=by omega
   subst e
   rw[if_neg jO,qa]
   simp only[List.all_nil,if_true,OH,qY]
   by_cases h6:l.length>6
   ·rw[if_pos jG,if_pos h6]
   ·rw[if_neg jG,if_neg h6]
theorem FC{l:List M.Op}(j:l.length<=1000)(C:∀o∈l,Mr o):wA l=some (F4 l):=by
 have h9:=Jd (n:=l.length) jF
 unfold wA F4
 rw[oR jH jF,qA,List.nil_append]
 have e:=eoS j C fuel 0 (uv l.length) jM jF jF
 rw[List.drop_zero]at e
 refine Eq.trans e ?_
 congr 1
 cases l.all nOp with
 |false=>rfl
 |true=>
  by_cases h6:l.length>6
  ·rw[if_pos rfl,if_pos h6,if_neg jG]
  ·rw[if_pos rfl,if_neg h6,if_pos jG]
theorem R7(l:List M.Op):okB (F4 l):=by unfold F4;split;(rename_i h;rw[qM,qL,qR]at h;have h1:=Ol (f:=enO) (λo I=>QX (h.1 o I));have h9:=Jd (n:=l.length) jF;refine⟨?_,λy C=> ?_⟩;(rw[qE];exact qh (m:=2000) jF jN);·rcases qP.1 C with C|C;(exact Hn _ y C);·refine Ov (λo _ z j=> ?_) y C;unfold enO at j;simp only[qP]at j;rcases j with j|j|j|j|j;(exact Hn _ z j);(exact EZ (Dw _) z j);(exact EZ (Z5 _).2 z j);(exact EZ (aAA _).2 z j);·exact EZ (Dw _) z j);·exact⟨jH,λ_ h=>absurd h jH⟩
def gS9(b:List Int)(p j:Int):=nRb b (nUv b p).2.1 j
def gK9(b:List Int)(p j C:Int):=nRb b (gS9 b p j).2.1 C
def gR9(b:List Int)(p j C I:Int):=nRb b (gK9 b p j C).2.1 I
def gF9(b:List Int)(p j C I J:Int):=nRb b (gR9 b p j C I).2.1 J
def op9(b:List Int)(p j C I J:Int):Option (M.Op×Int):=if(nUv b p).2.2=true then if(gS9 b p j).2.2=true then if(gK9 b p j C).2.2=true then if(gR9 b p j C I).2.2=true then if(gF9 b p j C I J).2.2=true then some ((⟨(nUv b p).1,dE (gS9 b p j).1,(Ud (gK9 b p j C).1).1,(S9 (gR9 b p j C I).1).1,dE (gF9 b p j C I J).1⟩:M.Op),(gF9 b p j C I J).2.1)else none else none else none else none else none
def N1(b:List Int)(I J U c4:Int):Nat->Int->List M.Op->Option (List M.Op)
 |0,_,C=>some C
 |j+1,p,C=>match op9 b p I J U c4 with
  |none=>none
  |some (o,q)=>N1 b I J U c4 j q (C++[o])
def aAY(b:List Int)(o:Option (List M.Op)):List M.Op×Bool:=match o with
 |none=>(([]:List M.Op),false)
 |some l=>if eqL B7 (F4 l) b=true then(l,true)else(([]:List M.Op),false)
def Xa(b:List Int)(j C I J:Int):List M.Op×Bool:=if(nUv b 0).2.2=true then if(nUv b 0).1>6 then(([]:List M.Op),false)else aAY b (N1 b j C I J (nUv b 0).1.toNat (nUv b 0).2.1 [])else(([]:List M.Op),false)
theorem Y2{b:List Int}{p:Int}(hb:okB b)(j:b.length<=1048576):inI (nUv b p).2.1:=by
 cases h:(nUv b p).2.2 with
 |false=>rw[ZZ h];exact xV
 |true=>
  obtain⟨a,m,e,C,J,U,I,_⟩:=Ei hb h
  rw[C]
  exact J5 I j
theorem N4{b:List Int}{p c:Int}(hb:okB b)(j:b.length<=1048576):inI (nRb b p c).2.1:=by
 cases h:(nRb b p c).2.2 with
 |false=>rw[Z9 h];exact xV
 |true=>
  obtain⟨s,a,e,C,J,U,I,_⟩:=Jj hb h
  rw[C]
  exact J5 I j
theorem D7{b:List Int}{p c:Int}(hb:okB b)(I:b.length<=1048576)(h:(nRb b p c).2.2=true):okB (nRb b p c).1/\(nRb b p c).1.length<=b.length:=by obtain⟨s,a,e,j,J,U,r4,r5,r6,r7,C⟩:=Jj hb h;rw[j];exact⟨C,jK⟩
theorem X0{c n:Int}{t:List Int}(h:M.Key.ok (⟨c,n,dE t⟩:M.Key)):(mkK c n t).1.ok:=by unfold mkK;split;(exact h);·exact⟨xV,xV,sz0⟩
theorem Xg{b:List Int}(hb:okB b):(Ud b).1.ok:=by
 have z:UT.ok:=⟨xV,xV,sz0⟩
 unfold Ud
 split
 ·exact z
 ·rename_i c t
  have hc:=hb.2 c jH
  have J:∀x∈t,0<=x/\x<=255:=λx C=>hb.2 x (by simp[C])
  have j:t.length<=maxLen:=by have:=hb.1;rw[qJ]at this;omega
  split
  ·rename_i h2;exact X0 (Rq hc jF j)
  ·split
   ·exact z
   ·obtain⟨w,e,U⟩:=aBA (t:=t.take 6) (λx C=>J x (qk C)) 0 0 jI
    have h6:0+8*(List.take 6 t).length<=48:=by rw[qV];omega
    have h7:(2:Int)^(0+8*(List.take 6 t).length)<=2^48:=by have:=Nat.pow_le_pow_right (n:=2) jI h6;exact_mod_cast this
    have I:(List.take 6 t).foldl ZD 0=(w:Int):=e
    rw[I]
    refine X0 (Rq hc jF (qh (by rw[qW];omega) j))
theorem XP{b:List Int}{p C I J U q:Int}{o:M.Op}(hb:okB b)(j:b.length<=1048576)(h:op9 b p C I J U=some (o,q)):Mr o/\inI q:=by unfold op9 at h;split at h;(rename_i h1;split at h;(rename_i h2;split at h;(rename_i h3;split at h;(rename_i h4;split at h;(rename_i h5;simp only[qc,qb]at h;obtain⟨a,m,e,u1,u2,u3,_⟩:=Ei hb h1;have p2:=D7 hb j h2;have p3:=D7 hb j h3;have p4:=D7 hb j h4;have p5:=D7 hb j h5;rw[<-h.1,<-h.2];refine⟨⟨?_,?_,Xg p3.1,(WC p4.1).1,?_⟩,N4 hb j⟩;(show inI (nUv b p).1;rw[u1];unfold inI;dsimp only;omega);(show(dE _).size<=_;rw[Dy];exact p2.1.1);·show(dE _).size<=_;rw[Dy];exact p5.1.1);·cases h);·cases h);·cases h);·cases h);·cases h
theorem Ow{b:List Int}{p:Int}(hb:okB b)(j:b.length<=1048576)(J:inI p):B3 b p=some (match op9 b p 100 100 200 100 with
  |none=>((⟨0,(⟨#[]⟩:ByteArray),(⟨0,0,(⟨#[]⟩:ByteArray)⟩:M.Key),(⟨([]:List M.Field)⟩:M.aD),(⟨#[]⟩:ByteArray)⟩:M.Op),0,false)
  |some (o,q)=>(o,q,true)):=by
 unfold B3 op9
 rw[sX hb j J,qA,vX hb j (Y2 hb j),qA]
 show(eA b (gS9 b p 100).2.1 100).bind _=_
 rw[vX hb j (show inI (gS9 b p 100).2.1 from N4 hb j),qA]
 show(eA b (gK9 b p 100 100).2.1 200).bind _=_
 rw[vX hb j (show inI (gK9 b p 100 100).2.1 from N4 hb j),qA]
 show(eA b (gR9 b p 100 100 200).2.1 100).bind _=_
 rw[vX hb j (show inI (gR9 b p 100 100 200).2.1 from N4 hb j),qA]
 change (if(!(nUv b p).2.2)=true then _ else if(!(gS9 b p 100).2.2)=true then _ else if(!(gK9 b p 100 100).2.2)=true then _ else if(!(gR9 b p 100 100 200).2.2)=true then _ else if(!(gF9 b p 100 100 200 100).2.2)=true then _ else(toStr (gS9 b p 100).1).bind λaf=>(toStr (gF9 b p 100 100 200 100).1).bind λah=>(vZ (gK9 b p 100 100).1).bind λC=>(rF (gR9 b p 100 100 200).1).bind λI=>some ((⟨(nUv b p).1,dE (gS9 b p 100).1,C.1,I.1,dE (gF9 b p 100 100 200 100).1⟩:M.Op),(gF9 b p 100 100 200 100).2.1,true))=_
 cases h1:(nUv b p).2.2 with
 |false=>rfl
 |true=>
  cases h2:(gS9 b p 100).2.2 with
  |false=>rfl
  |true=>
   cases h3:(gK9 b p 100 100).2.2 with
   |false=>rfl
   |true=>
    cases h4:(gR9 b p 100 100 200).2.2 with
    |false=>rfl
    |true=>
     cases h5:(gF9 b p 100 100 200 100).2.2 with
     |false=>rfl
     |true=>
      have U:okB (gS9 b p 100).1/\(gS9 b p 100).1.length<=b.length:=D7 hb j h2
      have p3:okB (gK9 b p 100 100).1/\(gK9 b p 100 100).1.length<=b.length:=D7 hb j h3
      have p4:okB (gR9 b p 100 100 200).1/\(gR9 b p 100 100 200).1.length<=b.length:=D7 hb j h4
      have p5:okB (gF9 b p 100 100 200 100).1/\(gF9 b p 100 100 200 100).1.length<=b.length:=D7 hb j h5
      simp only[qB,qD,if_false,if_true]
      rw[Fe U.1.2,qA,Fe p5.1.2,qA,KH p3.1 jF,qA,HD p4.1 jF,qA]
theorem doS{b:List Int}{x1:Int×Int×Bool}{N:Nat}(hb:okB b)(J:b.length<=1048576)(hN:N<=6)(hx:x1.1=(N:Int)):∀(j k m:Nat) (p:Int) (C:List M.Op),k+j=N->j<m->inI p->C.length=k->(∀x∈C,Mr x)->mD b x1 m p (k:Int) C=some (aAY b (N1 b 100 100 200 100 j p C))
 |_,_,0,_,_,_,h,_,_,_=>by omega
 |0,k,m+1,p,C,hk,_,hp,ha,U=>by simp only[mD,N1,aAY];rw[hx,if_neg jG,FC jF U,qA,I8 (R7 _) hb,qA];cases eqL B7 (F4 C) b<;>rfl
 |j+1,k,m+1,p,C,hk,hm,hp,ha,U=>by
  simp only[mD,N1]
  rw[hx,if_pos jG,Ow hb J hp,qA]
  cases h:op9 b p 100 100 200 100 with
  |none=>rfl
  |some x=>
   obtain⟨o,q⟩:=x
   obtain⟨k1,k2⟩:=XP hb J h
   simp only[qB,qD,if_false]
   rw[dY jG,qA,bD jF]
   refine doS hb J hN hx j (k+1) m q _ jF jF k2 (by simp[ha]) (λy I=> ?_)
   rcases qP.1 I with I|I
   ·exact U y I
   ·rw[qQ.1 I];exact k1
theorem J0{b:List Int}(hb:okB b)(j:b.length<=1048576):vY b=some (Xa b 100 100 200 100):=by
 unfold vY Xa
 rw[sX hb j xV,qA]
 cases h:(nUv b 0).2.2 with
 |false=>rfl
 |true=>
  obtain⟨a,m,e,C,J,U,I,u5,u6⟩:=Ei hb h
  rw[C]
  simp only[qB,qD,if_false,if_true]
  by_cases h6:(m:Int)>6
  ·rw[if_pos (by simpa using h6),if_pos h6]
  ·rw[if_neg (by simpa using h6),if_neg h6,qH];exact doS (x1:=((m:Int),(e:Int),true)) hb j (N:=m) jF rfl m 0 fuel (e:Int) [] jF jM (J5 I j) rfl (λ_ h=>absurd h jH)
theorem V2{l:List M.Op}{b:List Int}(h:F4 l=b)(hb:b≠[]):b=uv l.length++OH enO l/\(∀o∈l,nOp o=true)/\l.length<=6:=by unfold F4 at h;split at h;(rename_i h1;rw[qM,qL,qR]at h1;exact⟨h.symm,h1.1,h1.2⟩);·exact absurd h.symm hb
def F7(b:List Int):List M.Op×Bool:=Xa b 100 100 200 100
theorem KX{b:List Int}(hb:okB b)(j:b.length<=1048576):vY b=some (F7 b):=J0 hb j
theorem RR{b:List Int}{U c2 c3 c4:Int}(hb:okB b)(hl:b.length<=1048576):∀(j:Nat) (p:Int) (C l:List M.Op),N1 b U c2 c3 c4 j p C=some l->(∀x∈C,Mr x)->(∀x∈l,Mr x)
 |0,_,_,_,h,J=>by simp only[N1,qc]at h;rw[<-h];exact J
 |j+1,p,C,l,h,J=>by
  simp only[N1]at h
  cases e:op9 b p U c2 c3 c4 with
  |none=>rw[e]at h;cases h
  |some x=>
   obtain⟨o,q⟩:=x
   rw[e]at h
   refine RR hb hl j q _ l h (λy I=> ?_)
   rcases qP.1 I with I|I
   ·exact J y I
   ·rw[qQ.1 I];exact(XP hb hl e).1
theorem Nx{b:List Int}(hb:okB b)(hl:b.length<=1048576):(F7 b).1.length<=6/\∀o∈(F7 b).1,Mr o/\nOp o=true:=by
 have z:([]:List M.Op).length<=6/\∀o∈([]:List M.Op),Mr o/\nOp o=true:=⟨jH,λ_ h=>absurd h jH⟩
 unfold F7 Xa
 split
 ·rename_i h
  obtain⟨a,m,e,u1,u2,u3,u4,u5,I⟩:=Ei hb h
  obtain rfl:a=0:=by omega
  rw[List.drop_zero]at I
  have j:b≠[]:=λh0=>by have:=congrArg List.length I;have h2:=Sl m;rw[h0]at this;simp at this;omega
  rw[u1]
  dsimp only
  split
  ·exact z
  ·cases hr:N1 b 100 100 200 100 (m:Int).toNat (e:Int) []with
   |none=>exact z
   |some l=>
    simp only[aAY]
    split
    ·rename_i he;rw[Vs]at he;obtain⟨b1,J,U⟩:=V2 he j;exact⟨U,λo C=>⟨RR hb hl _ _ _ l hr (λ_ h=>absurd h jH) o C,J o C⟩⟩
    ·exact z
 ·exact z
theorem Gr{i:Int}{l:List Int}(j:l.length<=1048576):yB i l=some (HH ([101,i]++([(List.length l:Int)]++l.map i64.wrap))):=by unfold yB;rw[D4 j,qA,dY jG,qA,LO (by simp[maxLen];omega),qA]
def XX(i:Int)(l:List Int):Int:=HH ([101,i]++([(List.length l:Int)]++l.map i64.wrap))
def PJ(b:List Int):Nat->Int->List (List Int)->List (List Int)×Int
 |0,p,C=>(C,p)
 |j+1,p,C=>if(nRb b p 4000).2.2=true then if(nUv b (nRb b p 4000).2.1).2.2=true then if((nUv b (nRb b p 4000).2.1).1 !=XX (C.length:Int) (nRb b p 4000).1)=true then(C,p)else PJ b j (nUv b (nRb b p 4000).2.1).2.1 (C++[(nRb b p 4000).1])else(C,p)else(C,p)
def ZC(b:List Int):List (List Int)×Int:=PJ b (b.length+1) 0 []
theorem YL{b:List Int}:nUv b (b.length:Int)=(0,0,false):=by unfold nUv;rw[if_neg jF,qH];unfold Vk;rw[qZ jF]
theorem TS{b:List Int}(hb:okB b)(I:b.length<=1048576):∀(j m a:Nat) (C:List (List Int)),b.length-a<j->j<=m->a<=b.length->C.length<=a->uR b m (a:Int) C=some (PJ b j (a:Int) C)
 |0,_,_,_,h,_,_,_=>by omega
 |_+1,0,_,_,_,h,_,_=>by omega
 |j+1,m+1,a,C,hj,hm,ha,hc=>by
  simp only[uR,PJ]
  by_cases hlt:a<b.length
  case neg=>
   obtain rfl:a=b.length:=by omega
   rw[if_neg jH]
   have:(nRb b (b.length:Int) 4000).2.2=false:=by unfold nRb;rw[YL];rfl
   rw[this]
   rfl
  rw[if_pos jG,vX hb I (J5 ha I),qA]
  cases h1:(nRb b (a:Int) 4000).2.2 with
  |false=>rfl
  |true=>
   obtain⟨s,J,e1,r1,r2,r3,r4,r5,r6,r7,r8⟩:=Jj hb h1
   obtain rfl:a=J:=by omega
   rw[r1]
   simp only[qB,qD,if_false,if_true]
   rw[sX hb I (J5 r4 I),qA]
   cases h2:(nUv b (e1:Int)).2.2 with
   |false=>rfl
   |true=>
    obtain⟨U,v,e2,u1,u2,u3,u4,u5,u6⟩:=Ei hb h2
    obtain rfl:e1=U:=by omega
    have g1:=Sl s.length
    have g2:=Sl v
    rw[u1]
    simp only[qB,qD,if_false,if_true]
    rw[Gr jF,qA]
    show(if((v:Int) !=XX (C.length:Int) s)=true then _ else _)=_
    split
    ·rfl
    ·rw[dY jG,qA];exact TS hb I j m e2 _ jF jF u4 jG
theorem Mx{b:List Int}(hb:okB b)(j:b.length<=1048576):Bq b=some (ZC b):=by unfold Bq ZC;exact TS hb j (b.length+1) fuel 0 [] jF jM jF jH
theorem Sv{b:List Int}(hb:okB b):∀(j a:Nat) (C:List (List Int)),a<=b.length->C.length<=a->(∀l∈C,okB l/\l.length<=4000)->(PJ b j (a:Int) C).1.length<=b.length/\∀l∈(PJ b j (a:Int) C).1,okB l/\l.length<=4000
 |0,a,C,ha,hc,h=>⟨by simp only[PJ];omega,h⟩
 |j+1,a,C,ha,hc,h=>by
  simp only[PJ]
  split
  ·rename_i h1
   obtain⟨s,J,e1,r1,r2,r3,r4,r5,r6,r7,r8⟩:=Jj hb h1
   obtain rfl:a=J:=by omega
   rw[r1]
   dsimp only
   split
   ·rename_i h2
    obtain⟨U,v,e2,u1,u2,u3,u4,u5,u6⟩:=Ei hb h2
    obtain rfl:e1=U:=by omega
    have g1:=Sl s.length
    rw[u1]
    dsimp only
    split
    ·exact⟨jK,h⟩
    ·refine Sv hb j e2 _ u4 jG (λl I=> ?_);rcases qP.1 I with I|I;(exact h l I);·rw[qQ.1 I];exact⟨r8,jF⟩
   ·exact⟨jK,h⟩
  ·exact⟨jK,h⟩
theorem Vg{b:List Int}(hb:okB b):(ZC b).1.length<=b.length/\∀l∈(ZC b).1,okB l/\l.length<=4000:=Sv hb (b.length+1) 0 [] jF jH (λ_ h=>absurd h jH)
theorem M6{α:Type}{f:α->Nat}(q:α->Bool):∀(l:List α),dG f (l.filter q)<=dG f l
 |[]=>qg _
 |x::l=>by have h:=M6 (f:=f) q l;rw[List.filter_cons];split;(simp only[dG];omega);·simp only[dG];omega
def CY(k:M.Key)(g:M.gN):Bool:=Dq k&&((!g.aIA||Dq g.Low)&&((!g.aHz||Dq g.aH7)&&((!g.aIA||decide (cX g.Low k<=0))&&(!g.aHz||decide (cX k g.aH7<=0)))))
theorem Ks{k:M.Key}{g:M.gN}(hk:k.ok)(C:g.Low.ok)(j:g.aH7.ok):Ac k g=some (CY k g):=by unfold Ac CY;simp only[nH hk,nH C,nH j,xH C hk,xH hk j,qA];generalize decide (cX g.Low k<=0)=a1;generalize decide (cX k g.aH7<=0)=a2;generalize g.aIA=a3;generalize g.aHz=a4;generalize Dq k=a5;generalize Dq g.Low=a6;generalize Dq g.aH7=a7;cases a1<;>cases a2<;>cases a3<;>cases a4<;>cases a5<;>cases a6<;>cases a7<;>rfl
def LU(s:M.aC)(g:M.gN):M.aC×Int:=if iJ s=true then((⟨s.Name,s.aHF.filter (λx=> !CY x.Key g),s.aHg⟩:M.aC),i64.wrap ((List.length s.aHF:Int)-(List.length (s.aHF.filter (λx=> !CY x.Key g)):Int)))else(s,0)
theorem Pj{α:Type}{f:α->Bool}{l:List α}{k:Nat}(h:k<l.length):(l.take (k+1)).filter f=(l.take k).filter f++(if f l[k]=true then[l[k]]else[]):=by rw[<-List.take_append_getElem h,jE];congr 1;rw[List.filter_cons,List.filter_nil]
theorem WS{s:M.aC}(C:M.aC.sz s<=1048576){x:M.aHV}(j:x∈s.aHF):M.aHV.sz x<=1048576:=by have:=eU (f:=M.aHV.sz) j;simp only[M.aC.sz]at C;omega
theorem D6{s:M.aC}{g:M.gN}(C:s.ok)(hl:g.Low.ok)(U:g.aH7.ok)(I:M.aC.sz s<=1048576):tA s g=some (LU s g):=by
 have hn:s.aHF.length<=1048576:=by simp only[M.aC.sz]at I;omega
 have key:∀(n k:Nat) (r:List M.aHV),s.aHF.length-k<n->k<=s.aHF.length->r=(s.aHF.take k).filter (λx=> !CY x.Key g)->iL s g n (k:Int) r=some ((⟨s.Name,s.aHF.filter (λx=> !CY x.Key g),s.aHg⟩:M.aC),i64.wrap ((List.length s.aHF:Int)-(List.length (s.aHF.filter (λx=> !CY x.Key g)):Int))):=by
  intro n
  induction n with
  |zero=>intro k r h;omega
  |succ n J=>
   intro k r hk hle j
   simp only[iL]
   rcases Nat.lt_or_ge k s.aHF.length with hlt|hge
   ·have hx:=C.aHF.2 _ (qG hlt)
    have hrl:r.length<=1048576:=by rw[j];refine qh (List.length_filter_le _ _) ?_;rw[qV];omega
    rw[if_pos (aY hlt),aK hlt,qA,Ks hx.Key hl U,qA]
    cases hq:CY s.aHF[k].Key g with
    |true=>
     rw[if_neg jH,bD jF]
     refine J (k+1) r jF hlt ?_
     rw[Pj hlt,hq,<-j]
     simp
    |false=>
     rw[if_pos jH,Fk _ (qh (WS I (qG hlt)) jF),qA,dY jV,qA,bD jF]
     refine J (k+1) _ jF hlt ?_
     rw[Pj hlt,hq,<-j]
     simp
   ·have e:k=s.aHF.length:=by omega
    subst e
    rw[if_neg jO,j,List.take_length]
 unfold tA LU
 rw[Au C,qA,oN s jF]
 cases iJ s with
 |false=>rfl
 |true=>
  rw[if_neg jH,if_pos rfl]
  exact key fuel 0 [] jM jF jH
theorem Rx{s:M.aC}{g:M.gN}(j:s.ok):(LU s g).1.ok/\M.aC.sz (LU s g).1<=M.aC.sz s:=by unfold LU;split;(refine⟨⟨j.Name,⟨qh (List.length_filter_le _ _) j.aHF.1,λy C=>j.aHF.2 y (jB.1 C).1⟩,j.aHg⟩,?_⟩;have h4:=List.length_filter_le (λx:M.aHV=> !CY x.Key g) s.aHF;have h5:=M6 (f:=M.aHV.sz) (λx:M.aHV=> !CY x.Key g) s.aHF;simp only[M.aC.sz];omega);·exact⟨j,qg _⟩
def Ql(s:M.aC)(k:M.Key)(r:M.aD):M.aC×Bool:=if mM (AA k) s.aHF<0 then Dj s k r else(s,false)
theorem Hg{s:M.aC}{k:M.Key}{r:M.aD}(C:s.ok)(hk:k.ok)(U:r.ok)(J:cC r=true)(I:M.aC.sz s<=1073741824)(j:M.aD.sz r<=1073741824):Aq s k r=some (Ql s k r):=by unfold Aq Ql;rw[A0 C,qA,oN s I,Am C hk U J I j];by_cases h:mM (AA k) s.aHF<0;(rw[if_neg jG,if_pos h];rfl);·rw[if_pos jG,if_neg h];rfl
def XK:M.gN:=(⟨false,false,(⟨0,0,(⟨#[]⟩:ByteArray)⟩:M.Key),(⟨0,0,(⟨#[]⟩:ByteArray)⟩:M.Key)⟩:M.gN)
def aAS(s:M.aC)(o:M.Op):M.aC×Int×Bool:=if(JX (lS s o.Key) o.Field (i64.wrap ((kL (lS s o.Key) o.Field).1+1))).2=true then((Dj s o.Key (JX (lS s o.Key) o.Field (i64.wrap ((kL (lS s o.Key) o.Field).1+1))).1).1,i64.wrap ((kL (lS s o.Key) o.Field).1+1),(Dj s o.Key (JX (lS s o.Key) o.Field (i64.wrap ((kL (lS s o.Key) o.Field).1+1))).1).2)else(s,0,false)
def nOn(s:M.aC)(o:M.Op):M.aC×Int×Bool:=if o.aHb=1 then((Dj s o.Key o.aD).1,1,(Dj s o.Key o.aD).2)else if o.aHb=2 then((Ql s o.Key o.aD).1,1,(Ql s o.Key o.aD).2)else if o.aHb=3 then((LU s (⟨true,true,o.Key,o.Key⟩:M.gN)).1,(LU s (⟨true,true,o.Key,o.Key⟩:M.gN)).2,true)else if o.aHb=4 then if mM (AA o.Key) s.aHF<0 then(s,-1,true)else(s,(List.length (lS s o.Key).aHG:Int),true)else if o.aHb=5 then((LU s XK).1,(LU s XK).2,true)else aAS s o
theorem Qz:M.Key.ok (⟨0,0,(⟨#[]⟩:ByteArray)⟩:M.Key):=⟨xV,xV,sz0⟩
theorem Ot{s:M.aC}{k:M.Key}(h:¬mM (AA k) s.aHF<0):∃x,idx s.aHF (mM (AA k) s.aHF)=some x/\x.aD=lS s k:=by obtain⟨j,e,C⟩:=iF h;refine⟨s.aHF[j],by rw[e,aK C],?_⟩;unfold lS;rw[if_neg h,e,qH,qF C]
theorem Ro{s:M.aC}{k:M.Key}(h:mM (AA k) s.aHF<0):lS s k=(⟨([]:List M.Field)⟩:M.aD):=by unfold lS;rw[if_pos h]
theorem Ff:cC (⟨([]:List M.Field)⟩:M.aD)=true:=by rfl
theorem Vh{s:M.aC}(h:iJ s=true)(k:M.Key):cC (lS s k)=true:=by by_cases hf:mM (AA k) s.aHF<0;(rw[Ro hf];exact Ff);·obtain⟨j,e,C⟩:=iF hf;obtain⟨x,e1,e2⟩:=Ot hf;rw[<-e2];rw[e,aK C]at e1;obtain rfl:=qd e1;exact((IB (zH h).1).1 j _ (qF C)).2
theorem RB{r:M.aD}(h:cC r=true)(a:ByteArray)(n:Int):cC (JX r a n).1=true:=by
 cases e:(JX r a n).2 with
 |true=>exact Gi e
 |false=>
  unfold JX NH at e⊢
  rw[if_pos h]at e⊢
  split
  ·rename_i h2;rw[if_pos h2]at e;cases e
  ·exact h
structure VU (x:M.aC) (y:M.Op):Prop where
 s:x.ok
 o:Mr y
 n:nOp y=true
 t:iJ x=true
theorem VU.z{s:M.aC}{o:M.Op}(h:VU s o):M.aC.sz s<=10000:=sH h.t
theorem VU.r{s:M.aC}{o:M.Op}(h:VU s o):M.aD.sz o.aD<=100:=Hb (EE h.n).2.2.2.2
theorem Ph{s:M.aC}{o:M.Op}(h:VU s o):(lS s o.Key).ok/\M.aD.sz (lS s o.Key)<=100/\(JX (lS s o.Key) o.Field (i64.wrap ((kL (lS s o.Key) o.Field).1+1))).1.ok/\cC (JX (lS s o.Key) o.Field (i64.wrap ((kL (lS s o.Key) o.Field).1+1))).1=true:=by have h1:=Vh h.t o.Key;have h2:=H5 (k:=o.Key) h.s;have h3:=(zM h1).1;exact⟨h2,Hb h1,NK h2 jF h.o.2.2.2.2 (bJ _),RB h1 _ _⟩
theorem P3{s:M.aC}{o:M.Op}(h:VU s o):∃x,C5 s o.Key o.Field=some x/\x.2.2=(aAS s o).2.2/\(x.2.2=true->x=aAS s o):=by have j:=h.z;obtain⟨i1,i2,i3,i4⟩:=Ph h;have i5:=Hb i4;unfold C5 aAS;rw[A0 h.s,qA];by_cases hf:mM (AA o.Key) s.aHF<0;(rw[Ro hf]at i1 i2 i3 i4 i5⊢;rw[if_neg jG,uW i1,qA,Cb i1 jF h.o.2.2.2.2 (bJ _),qA,Am h.s h.o.2.2.1 i3 i4 jF jF,qA];cases (JX (⟨([]:List M.Field)⟩:M.aD) o.Field (i64.wrap ((kL (⟨([]:List M.Field)⟩:M.aD) o.Field).1+1))).2;(exact⟨_,rfl,rfl,λe=>by cases e⟩);·exact⟨_,rfl,rfl,λ_=>rfl⟩);·obtain⟨x,e1,e2⟩:=Ot hf;rw[if_pos jG,e1,qA,e2,uW i1,qA,Cb i1 jF h.o.2.2.2.2 (bJ _),qA,Am h.s h.o.2.2.1 i3 i4 jF jF,qA];cases (JX (lS s o.Key) o.Field (i64.wrap ((kL (lS s o.Key) o.Field).1+1))).2;(exact⟨_,rfl,rfl,λe=>by cases e⟩);·exact⟨_,rfl,rfl,λ_=>rfl⟩
theorem Mw{s:M.aC}{o:M.Op}(h:VU s o):∃x,Bw s o=some x/\x.2.2=(nOn s o).2.2/\(x.2.2=true->x=nOn s o):=by
 have C:=h.z
 have j:=h.r
 have same:∀{m:Option (M.aC×Int×Bool)} {y:M.aC×Int×Bool},m=some y->∃x,m=some x/\x.2.2=y.2.2/\(x.2.2=true->x=y):=λe=>⟨_,e,rfl,λ_=>rfl⟩
 unfold Bw nOn
 rw[A0 h.s,qA,oN s jF,Am h.s h.o.2.2.1 h.o.2.2.2.1 (EE h.n).2.2.2.2 jF jF,Hg h.s h.o.2.2.1 h.o.2.2.2.1 (EE h.n).2.2.2.2 jF jF,D6 h.s h.o.2.2.1 h.o.2.2.1 jF,D6 (g:=(⟨false,false,(⟨0,0,(⟨#[]⟩:ByteArray)⟩:M.Key),(⟨0,0,(⟨#[]⟩:ByteArray)⟩:M.Key)⟩:M.gN)) h.s Qz Qz jF]
 by_cases k1:o.aHb=1
 ·rw[if_pos (by simpa using k1),if_pos k1];exact same rfl
 rw[if_neg (by simpa using k1),if_neg k1]
 by_cases k2:o.aHb=2
 ·rw[if_pos (by simpa using k2),if_pos k2];exact same rfl
 rw[if_neg (by simpa using k2),if_neg k2]
 by_cases k3:o.aHb=3
 ·rw[if_pos (by simpa using k3),if_pos k3];exact same rfl
 rw[if_neg (by simpa using k3),if_neg k3]
 by_cases k4:o.aHb=4
 ·rw[if_pos (by simpa using k4),if_pos k4];by_cases hf:mM (AA o.Key) s.aHF<0;(rw[if_pos (by simpa using hf),if_pos hf];exact same rfl);·obtain⟨x,e1,e2⟩:=Ot hf;rw[if_neg (by simpa using hf),if_neg hf,qA,e1,qA,e2];exact same rfl
 rw[if_neg (by simpa using k4),if_neg k4]
 by_cases k5:o.aHb=5
 ·rw[if_pos (by simpa using k5),if_pos k5];exact same rfl
 ·rw[if_neg (by simpa using k5),if_neg k5];obtain⟨x,e1,e2,e3⟩:=P3 h;rw[e1,qA];exact⟨_,rfl,e2,e3⟩
theorem Mf{s:M.aC}{k:M.Key}{r:M.aD}(J:s.ok)(U:iJ s=true)(hk:k.ok)(I:r.ok)(C:cC r=true):(Dj s k r).1.ok/\M.aC.sz (Dj s k r).1<=10000:=by
 have j:=sH U
 refine⟨NV J (by simp only[M.aC.sz]at j;omega) hk I,?_⟩
 cases e:(Dj s k r).2 with
 |true=>exact sH (Ep C e)
 |false=>rw[JZ e];exact j
theorem VF{s:M.aC}{o:M.Op}(h:VU s o):(nOn s o).1.ok/\M.aC.sz (nOn s o).1<=10000:=by
 have j:=h.z
 have C:=(EE h.n).2.2.2.2
 obtain⟨i1,i2,i3,i4⟩:=Ph h
 have I:∀g,(LU s g).1.ok/\M.aC.sz (LU s g).1<=10000:=λg=>⟨(Rx h.s).1,qh (Rx h.s).2 j⟩
 unfold nOn aAS Ql
 split
 ·exact Mf h.s h.t h.o.2.2.1 h.o.2.2.2.1 C
 split
 ·split;(exact Mf h.s h.t h.o.2.2.1 h.o.2.2.2.1 C);·exact⟨h.s,j⟩
 split
 ·exact I _
 split
 ·split<;>exact⟨h.s,j⟩
 split
 ·exact I _
 split
 ·exact Mf h.s h.t h.o.2.2.1 i3 i4
 ·exact⟨h.s,j⟩
theorem K7{d:M.aHB}(h:nDb d=true):(∀(k:Nat) (hk:k<d.aHP.length),iJ d.aHP[k]=true)/\d.Name.size<=8/\d.aHP.length<=4/\d.aHX.length<=4/\∀u∈d.aHX,u.Field.size<=8:=by unfold nDb at h;simp only[qM,qL,qR,qS]at h;obtain⟨h1,h2,h3,_,h5,h6⟩:=h;refine⟨λk hk=> ?_,?_,h5,h6,λu j=> ?_⟩;(have:=h1 k hk;unfold Fh at this;rw[qF hk,qM,qf]at this;exact this.1);(unfold nY inR at h3;simp only[qM,qL]at h3;omega);·obtain⟨k,hk,rfl⟩:=List.getElem_of_mem j;have:=h2 k hk;unfold FQ nY inR at this;rw[qF hk]at this;simp only[qf,qM,qL]at this;omega
def Qq(d:M.aHB)(j:Nat)(s:M.aC):M.aHB:=(⟨d.Name,d.aHA,d.aHP.set j s,d.aHX⟩:M.aHB)
def Rw(d:M.aHB)(o:M.Op)(j:Nat)(s:M.aC):M.aHB×Int×Bool:=if(nOn s o).2.2=true then if nDb (Qq d j (nOn s o).1)=true then(Qq d j (nOn s o).1,(nOn s o).2.1,true)else(d,0,false)else(d,0,false)
def Tt(d:M.aHB)(o:M.Op):M.aHB×Int×Bool:=if(nDb d&&nOp o)=true then(match d.aHP[(mM (De o.aC) d.aHP).toNat]? with
 |some s=>if mM (De o.aC) d.aHP<0 then(d,0,false)else Rw d o (mM (De o.aC) d.aHP).toNat s
 |none=>(d,0,false))else(d,0,false)
theorem RJ{d:M.aHB}{s:M.aC}{j:Nat}(C:d.ok)(I:s.ok):(Qq d j s).ok:=⟨C.Name,C.aHA,⟨by show(d.aHP.set j s).length<=_;rw[qN];exact C.aHP.1,λy J=>by rcases jD J with h|rfl;(exact C.aHP.2 y h);·exact I⟩,C.aHX⟩
theorem Xp{d:M.aHB}{s:M.aC}{j:Nat}(C:M.aHB.sz d<=1000000)(I:M.aC.sz s<=10000):M.aHB.sz (Qq d j s)<=1048576:=by have:=IY (f:=M.aC.sz) (x:=s) (l:=d.aHP) (i:=j);simp only[Qq,M.aHB.sz,qN]at C⊢;omega
theorem Pn{d:M.aHB}{o:M.Op}(I:d.ok)(U:Mr o)(hz:M.aHB.sz d<=1000000):BU d o=some (Tt d o):=by
 unfold BU Tt
 rw[Bf d jF,qA,Dh I,qA,uN I jF,qA,Lc U,qA]
 cases hD:nDb d with
 |false=>rfl
 |true=>
  cases hO:nOp o with
  |false=>rfl
  |true=>
   rw[if_neg jH,if_neg jH,if_pos (show(true&&true)=true from rfl)]
   by_cases hf:mM (De o.aC) d.aHP<0
   ·rw[if_pos (by simpa using hf)];split;(rw[if_pos hf]);·rfl
   ·obtain⟨j,e,J⟩:=iF hf
    have ht:=(K7 hD).1 j J
    have hs:=I.aHP.2 _ (qG J)
    have C:VU d.aHP[j] o:=⟨hs,U,hO,ht⟩
    obtain⟨v1,v2⟩:=VF C
    rw[if_neg (by simpa using hf),e,qH,qF J]
    simp only[show ¬((j:Nat):Int)<0 from by omega,if_false]
    rw[aK J,qA]
    unfold Rw
    obtain⟨x,e1,e2,e3⟩:=Mw C
    rw[e1,qA,qA,<-e2]
    cases hx:x.2.2 with
    |false=>rfl
    |true=>
     obtain rfl:=e3 hx
     rw[if_neg jH,if_pos rfl]
     have:=uN (RJ (j:=j) I v1) (Xp hz v2)
     unfold Qq at this⊢
     rw[this,qA]
     cases nDb (⟨d.Name,d.aHA,d.aHP.set j (nOn d.aHP[j] o).1,d.aHX⟩:M.aHB)<;>rfl
theorem RZ{d:M.aHB}{o:M.Op}(C:d.ok)(U:Mr o)(hz:M.aHB.sz d<=1000000):(Tt d o).1.ok/\M.aHB.sz (Tt d o).1<=M.aHB.sz d+10000:=by unfold Tt;split;(rename_i h;rw[qM]at h;by_cases hf:mM (De o.aC) d.aHP<0;(split;(rw[if_pos hf];exact⟨C,jK⟩);·exact⟨C,jK⟩);·obtain⟨j,e,I⟩:=iF hf;have J:VU d.aHP[j] o:=⟨C.aHP.2 _ (qG I),U,h.2,(K7 h.1).1 j I⟩;obtain⟨v1,v2⟩:=VF J;rw[e,qH,qF I];simp only[show ¬((j:Nat):Int)<0 from by omega,if_false];unfold Rw;split;(split;(refine⟨RJ C v1,?_⟩;have:=IY (f:=M.aC.sz) (x:=(nOn d.aHP[j] o).1) (l:=d.aHP) (i:=j);simp only[Qq,M.aHB.sz,qN];omega);·exact⟨C,jK⟩);·exact⟨C,jK⟩);·exact⟨C,jK⟩
theorem Ys{d:M.aHB}(h:nDb d=true)(C:∀u∈d.aHX,u.aC.size<=8):M.aHB.sz d<=100000:=by obtain⟨h1,h2,h3,h4,h5⟩:=K7 h;have I:=dR (w:=M.aC.sz) (b:=10000) (xs:=d.aHP) (λx j=>by obtain⟨k,hk,rfl⟩:=List.getElem_of_mem j;exact sH (h1 k hk));have J:=dR (w:=M.aN.sz) (b:=16) (xs:=d.aHX) (λx j=>by have U:=h5 x j;have b2:=C x j;simp only[M.aN.sz];omega);simp only[M.aHB.sz];omega
theorem SA{l:List M.aC}{a:ByteArray}(h:0<=mM (De a) l):∃x∈l,x.Name.toList=a.toList:=by obtain⟨k,e,hk⟩:=iF (show ¬mM (De a) l<0 by omega);obtain⟨_,j⟩:=B1 e;exact⟨_,qG hk,by unfold De at j;exact eq_of_beq j⟩
theorem QN{d:M.aHB}(h:nDb d=true):∀u∈d.aHX,u.aC.size<=8:=by intro u J;obtain⟨h1,_⟩:=K7 h;unfold nDb at h;simp only[qM,qL,qR,qS]at h;obtain⟨k,hk,rfl⟩:=List.getElem_of_mem J;have:=h.2.1 k hk;unfold FQ at this;rw[qF hk]at this;simp only[qf,qM,qL]at this;obtain⟨x,U,e⟩:=SA this.1;obtain⟨j,I,rfl⟩:=List.getElem_of_mem U;have C:=(zH (h1 j I)).2.1;unfold nY inR at C;simp only[qM,qL]at C;have:=bsize e;omega
def Py(d0:M.aHB):M.aHB->List Int->List M.Op->M.aHB×List Int×Bool
 |x,j,[]=>(x,j,true)
 |x,j,o::l=>if(Tt x o).2.2=true then Py d0 (Tt x o).1 (j++[(Tt x o).2.1]) l else(d0,([]:List Int),false)
def E5(d:M.aHB)(l:List M.Op):M.aHB×List Int×Bool:=if nDb d=true then if l.length>6 then(d,([]:List Int),false)else Py d d [] l else(d,([]:List Int),false)
theorem T5{d0:M.aHB}{l:List M.Op}(h6:l.length<=6)(I:∀o∈l,Mr o)(C:M.aHB.sz d0<=1000000):∀(n k:Nat) (x:M.aHB) (ns:List Int),l.length-k<n->k<=l.length->x.ok->M.aHB.sz x<=900000+10000*k->ns.length=k->wC d0 l n (k:Int) x.Name x.aHA ns x.aHP x.aHX=some (Py d0 x ns (l.drop k))
 |0,_,_,_,h,_,_,_,_=>by omega
 |n+1,k,x,ns,hn,hk,J,hz,U=>by
  simp only[wC]
  rcases Nat.lt_or_ge k l.length with hlt|hge
  ·rw[if_pos (aY hlt),aK hlt,qA]
   show((BU x l[k]).bind _)=_
   have j:=I _ (qG hlt)
   obtain⟨v1,v2⟩:=RZ J j jF
   rw[Pn J j jF,qA,qX hlt]
   simp only[Py]
   cases (Tt x l[k]).2.2 with
   |false=>
    rw[if_pos jH,if_neg jH,Bf d0 jF,qA]
   |true=>
    rw[if_neg jH,if_pos rfl,dY jG,qA,bD jF]
    exact T5 h6 I C n (k+1) _ _ jF hlt v1 (qh v2 jF) (by simp[U])
  ·have e:k=l.length:=by omega
   subst e
   rw[if_neg jO,qa]
   rfl
theorem Ix{d:M.aHB}{l:List M.Op}(j:d.ok)(I:l.length<=1000)(C:∀o∈l,Mr o)(U:M.aHB.sz d<=1048576):zP d l=some (E5 d l):=by
 unfold zP E5
 rw[Bf d jF,qA,uN j jF,qA]
 cases hD:nDb d with
 |false=>rfl
 |true=>
  have J:=Ys hD (QN hD)
  rw[if_neg jH,if_pos rfl]
  by_cases h6:l.length>6
  ·rw[if_pos jG,if_pos h6]
  ·rw[if_neg jG,if_neg h6];exact T5 jF C jF fuel 0 d [] jM jF j jF rfl
theorem Ym{d:M.aHB}{o:M.Op}(h:(Tt d o).2.2=true):nDb (Tt d o).1=true:=by unfold Tt at h⊢;split at h;(rename_i h1;rw[if_pos h1];split at h;(rename_i s j;split at h;(cases h);·rename_i h2;rw[if_neg h2];unfold Rw at h⊢;split at h;(rename_i h3;rw[if_pos h3];split at h;(rename_i h4;rw[if_pos h4];exact h4);·cases h);·cases h);·cases h);·cases h
theorem PN{d0:M.aHB}(I:d0.ok):∀{l:List M.Op} {x:M.aHB} {ns:List Int},(∀o∈l,Mr o)->x.ok->nDb x=true->(Py d0 x ns l).1=d0\/((Py d0 x ns l).1.ok/\nDb (Py d0 x ns l).1=true)
 |[],x,ns,_,j,hb=>.inr ⟨j,hb⟩
 |o::l,x,ns,C,j,hb=>by have U:=Ys hb (QN hb);simp only[Py];split;(rename_i h;exact PN I (λy J=>C y (by simp[J])) (RZ j (C o jH) jF).1 (Ym h));·exact .inl rfl
theorem Mo{d:M.aHB}{l:List M.Op}(j:d.ok)(C:∀o∈l,Mr o):(E5 d l).1=d\/((E5 d l).1.ok/\M.aHB.sz (E5 d l).1<=100000):=by unfold E5;split;(rename_i h;split;(exact .inl rfl);·rcases PN j C j h (ns:=[])with e|⟨h1,h2⟩;(exact .inl e);·exact .inr ⟨h1,Ys h2 (QN h2)⟩);·exact .inl rfl
def L5:M.aHB->Nat->List (List Int)->M.aHB×Int
 |d,i,[]=>(d,(i:Int))
 |d,i,e::l=>if(F7 e).2=true then L5 (E5 d (F7 e).1).1 (i+1) l else(d,(i:Int))
def OJ(d:M.bP):M.aHB×Int:=L5 d.aHa 0 (ZC d.Log).1
theorem Q9{x3:List (List Int)×Int}(J:x3.1.length<=1048576)(C:∀l∈x3.1,okB l/\l.length<=4000):∀(n k:Nat) (d:M.aHB),x3.1.length-k<n->k<=x3.1.length->d.ok->M.aHB.sz d<=1048576->sV x3 n (k:Int) d.Name d.aHA d.aHP d.aHX=some (L5 d k (x3.1.drop k))
 |0,_,_,h,_,_,_=>by omega
 |n+1,k,d,hn,hk,j,U=>by
  simp only[sV]
  rcases Nat.lt_or_ge k x3.1.length with hlt|hge
  ·obtain⟨I,b2⟩:=C _ (qG hlt)
   obtain⟨o1,o2⟩:=Nx I jF
   rw[if_pos (aY hlt),aK hlt,qA,KX I jF,qA,qX hlt]
   simp only[L5]
   cases (F7 x3.1[k]).2 with
   |false=>rfl
   |true=>
    rw[if_neg jH,if_pos rfl]
    show((zP d (F7 x3.1[k]).1).bind _)=_
    rw[Ix j jF (λo h=>(o2 o h).1) U,qA,bD jF]
    rcases Mo j (λo h=>(o2 o h).1)with e|⟨v1,v2⟩
    ·rw[e];exact Q9 J C n (k+1) d jF hlt j U
    ·exact Q9 J C n (k+1) _ jF hlt v1 jF
  ·have e:k=x3.1.length:=by omega
   subst e
   rw[if_neg jO,qa]
   rfl
theorem Mk{d:M.bP}(j:d.ok)(I:M.bP.sz d<=1048576):AO d=some (OJ d):=by
 have C:M.aHB.sz d.aHa<=1048576:=by simp only[M.bP.sz]at I;omega
 have U:d.Log.length<=1048576:=by simp only[M.bP.sz]at I;omega
 obtain⟨g1,J⟩:=Vg j.Log
 unfold AO OJ
 rw[Bf d.aHa jF,qA,Mx j.Log jF,qA]
 exact Q9 (x3:=ZC d.Log) jF J fuel 0 d.aHa jM jF j.aHa C
theorem Jq:∀{l:List (List Int)} {d:M.aHB} {i:Nat},(∀e∈l,okB e/\e.length<=4000)->d.ok->M.aHB.sz d<=1048576->(L5 d i l).1.ok/\M.aHB.sz (L5 d i l).1<=1048576
 |[],d,i,_,j,C=>⟨j,C⟩
 |e::l,d,i,I,j,C=>by obtain⟨U,b2⟩:=I e jH;obtain⟨o1,o2⟩:=Nx U jF;simp only[L5];split;(rcases Mo j (λo h=>(o2 o h).1)with e'|⟨v1,v2⟩;(rw[e'];exact Jq (λx J=>I x (by simp[J])) j C);·exact Jq (λx J=>I x (by simp[J])) v1 jF);·exact⟨j,C⟩
theorem T6{d:M.bP}(j:d.ok)(C:M.bP.sz d<=1048576):(OJ d).1.ok/\M.aHB.sz (OJ d).1<=1048576:=Jq (Vg j.Log).2 j.aHa (by simp only[M.bP.sz]at C;omega)
def VV(l:List Int)(i:Int)(b:List Int):List Int:=l++(MI b++uv (XX i b).toNat)
def WH(l:List Int)(i:Int)(b:List Int):List Int×Bool:=if i<0 then(l,false)else if(VV l i b).length>4000 then(l,false)else(VV l i b,true)
theorem YM{l b:List Int}{i:Int}:VV l i b=(l++MI b)++uv (XX i b).toNat:=by unfold VV;rw[qT]
theorem YB(i:Int)(b:List Int):0<=XX i b/\XX i b<2147483647:=QA _
theorem Ft{l b:List Int}{i:Int}(I:l.length<=1048576)(hb:b.length<=100000):wH l i b=some (WH l i b):=by have C:=YB i b;have J:=Jd (n:=b.length) jF;have j:=oR (r:=l++MI b) (n:=(XX i b).toNat) (by unfold MI;simp only[qE];omega) jF;rw[Int.toNat_of_nonneg C.1,<-YM]at j;unfold wH WH;rw[FG jF jF,qA,sW jF jF,qA,Gr jF,qA];show((bS (l++MI b) (XX i b)).bind _)=_;rw[j,qA];by_cases hi:i<0;(rw[if_pos (by simpa using hi),if_pos hi]);·rw[if_neg (by simpa using hi),if_neg hi];by_cases h4:(VV l i b).length>4000;(rw[if_pos jG,if_pos h4]);·rw[if_neg jG,if_neg h4]
def aAt(d:M.bP)(l:List M.Op):Bool:=(E5 (OJ d).1 l).2.2&&((List.length (F4 l):Int) !=0&&(((OJ d).2==d.aHs)&&(WH d.Log d.aHs (F4 l)).2))
def JN(d:M.bP)(l:List M.Op):M.bP×Bool:=if aAt d l=true then((⟨d.aHa,(WH d.Log d.aHs (F4 l)).1,i64.wrap (d.aHs+1)⟩:M.bP),true)else(d,false)
theorem Vf(l:List M.Op):(F4 l).length<=2000:=by unfold F4;split;(rename_i h;rw[qM,qL,qR]at h;have h1:=Ol (f:=enO) (λo j=>QX (h.1 o j));have h9:=Jd (n:=l.length) jF;rw[qE];omega);·simp
theorem JG{d:M.bP}{l:List M.Op}(I:d.ok)(j:M.bP.sz d<=1048576)(J:l.length<=1000)(U:∀o∈l,Mr o):pP d l=some (JN d l):=by
 have C:d.Log.length<=1048576:=by simp only[M.bP.sz]at j;omega
 have he:=Vf l
 obtain⟨v1,v2⟩:=T6 I j
 unfold pP JN aAt
 rw[G8 d jF,qA,Mk I j,qA,Ix v1 J U v2,qA,FC J U,qA,Ft C jF,qA]
 unfold bne
 generalize (E5 (OJ d).1 l).2.2=a1
 generalize ((List.length (F4 l):Int)==0)=a2
 generalize ((OJ d).2==d.aHs)=a3
 cases a1<;>cases a2<;>cases a3<;>cases (WH d.Log d.aHs (F4 l)).2<;>rfl
theorem M7{d:M.bP}{l:List M.Op}(C:d.ok):(JN d l).1.ok/\M.bP.sz (JN d l).1<=M.bP.sz d+4000/\(JN d l).1.aHa=d.aHa:=by unfold JN;split;(rename_i h;unfold aAt at h;simp only[qM]at h;have h4:=h.2.2.2;unfold WH at h4⊢;split at h4;(cases h4);·rename_i I;rw[if_neg I];split at h4;(cases h4);·rename_i J;rw[if_neg J];refine⟨⟨C.aHa,⟨qh (by omega:(VV d.Log d.aHs (F4 l)).length<=4000) jN,λy U=> ?_⟩,bJ _⟩,?_,rfl⟩;(have j:y∈VV d.Log d.aHs (F4 l):=U;unfold VV at j;simp only[qP]at j;rcases j with h|h|h;(exact C.Log.2 y h);(exact EZ (R7 l).2 y h);·exact Hn _ y h);·simp only[M.bP.sz];omega);·exact⟨C,jK,rfl⟩
theorem Fw{s:M.aF}{v:Int}(j:s.ok):wQ s v=some (mM (λc:M.aHM=>c.aHA==v) s.aHC):=by have C:=le_max j.aHC.1;unfold wQ;rw[findAll (L:=lY s v) (f:=λc:M.aHM=>c.aHA==v) (A:=λi=>some (i:Int)) (E:=some (-1)) j.aHC.1 (λm k hk=> ?_) (λm=> ?_),pM];(simp only[lY];rw[if_pos (aY hk),aK hk,qA,bD jF]);·simp only[lY];rw[if_neg jO]
theorem KL{s:M.aF}{v:Int}(j:s.ok):Ai s v=some (mM (λc:M.aHM=>c.aHA==v) s.aHC):=by unfold Ai;rw[JD (f:=λc:M.aHM=>c.aHA==v) j.aHC.1 (λx _=>by simp only[wY]),qA]
def Gc(a b:ByteArray)(x:M.aHU):Bool:=(x.aHL.toList==a.toList)&&(x.aHv.toList==b.toList)
theorem Hm{c:M.aHM}{a b:ByteArray}(hc:c.ok):Al c a b=some (mM (Gc a b) c.aHS):=by have j:=le_max hc.aHS.1;unfold Al;rw[findAll (L:=nF c a b) (f:=Gc a b) (A:=λi=>some (i:Int)) (E:=some (-1)) hc.aHS.1 (λm k hk=> ?_) (λm=> ?_),pM];(simp only[nF];rw[if_pos (aY hk),aK hk,qA,bD jF,WT];rfl);·simp only[nF];rw[if_neg jO]
theorem MY{c:M.aHM}{a b:ByteArray}(hc:c.ok):rQ c a b=some (mM (Gc a b) c.aHS):=by unfold rQ;rw[D5 (f:=Gc a b) hc.aHS.1 (λx _=>by simp only[wD,bA];rfl),qA]
def KY(s:M.aF)(v:Int):Nat:=(s.aHC.takeWhile λc=>decide (c.aHA<v)).length
def DX(s:M.aF)(v:Int)(k:Nat):List M.aHM:=s.aHC.take k++((⟨v,([]:List M.aHU)⟩:M.aHM)::s.aHC.drop k)
def Hd(s:M.aF)(v:Int):M.aF×Bool:=if(lL s&&lL (⟨DX s v (KY s v)⟩:M.aF))=true then((⟨DX s v (KY s v)⟩:M.aF),true)else(s,false)
theorem OP{s:M.aF}{v:Int}(C:s.ok)(I:inI v)(J:s.aHC.length<=1073741824)(k:Nat):M.aF.ok (⟨DX s v k⟩:M.aF):=by refine⟨⟨?_,λx j=> ?_⟩⟩;(show(DX s v k).length<=maxLen;unfold DX maxLen;simp only[qE,qJ,qV,qW];omega);·have j:x∈DX s v k:=j;unfold DX at j;rcases qP.1 j with j|j;(exact C.aHC.2 x (qk j));·rcases qq.1 j with rfl|j;(exact⟨I,⟨by simp[maxLen],jH⟩⟩);·exact C.aHC.2 x (qv j)
def Np(s:M.aF)(v:Int)(k:Nat):Option (M.aF×Bool):=(cM s).bind λa=>if(!a)=true then(dD s).bind λy=>some (y,false)else(cM (⟨DX s v k⟩:M.aF)).bind λb=>if(!b)=true then(dD s).bind λy=>some (y,false)else some ((⟨DX s v k⟩:M.aF),true)
theorem KV{s:M.aF}{v:Int}(j:s.ok)(J:inI v)(C:M.aF.sz s<=1073741824):pF s v=some (Hd s v):=by
 have I:s.aHC.length<=1073741824:=by simp only[M.aF.sz]at C;omega
 have U:=le_max j.aHC.1
 unfold pF
 rw[C3 s C,qA,Ma (l:=s.aHC) (f:=λc:M.aHM=>decide (c.aHA<v)) (L:=mL s v s) (S:=Np s v) j.aHC.1 (λn k hk=> ?_) (λn=> ?_)]
 ·unfold Np Hd;rw[rH j,qA,rH (OP j J I _),qA,C3 s C,qA];show _=some (if(lL s&&lL (⟨DX s v (KY s v)⟩:M.aF))=true then _ else _);unfold KY;generalize lL (⟨DX s v (List.takeWhile (λc:M.aHM=>decide (c.aHA<v)) s.aHC).length⟩:M.aF)=b;cases lL s<;>cases b<;>rfl
 ·simp only[mL];rw[if_pos (aY hk),aK hk,qA,bD jF];by_cases h:s.aHC[k].aHA<v;(rw[if_pos (by simpa using h),if_pos (by simpa using h)]);·rw[if_neg (by simpa using h),if_neg (by simpa using h)];rw[CF jF,qA,qH,dY jW,qA,dY jU,qA,dY jQ,qA,qT];rfl
 ·simp only[mL];rw[if_neg jO];rw[CF (qg _),qA,qH,dY jW,qA,dY jU,qA,dY jQ,qA,qT];rfl
theorem U1{s:M.aF}{v:Int}(j:s.ok)(I:inI v)(J:M.aF.sz s<=1073741824):M.aF.ok (Hd s v).1:=by
 have C:s.aHC.length<=1073741824:=by simp only[M.aF.sz]at J;omega
 unfold Hd
 split
 ·exact OP j I C _
 ·exact j
theorem SX{s:M.aF}{v:Int}(h:(Hd s v).2=true):lL (Hd s v).1=true:=by unfold Hd at h⊢;split at h;(rename_i h1;rw[if_pos h1];exact(Bool.and_eq_true_iff.1 h1).2);·cases h
def Kh(c:M.aHM)(a p:ByteArray)(x:M.aHH):M.aHM:=(⟨c.aHA,if mM (Gc a p) c.aHS>=0 then c.aHS.set (mM (Gc a p) c.aHS).toNat (⟨a,p,x⟩:M.aHU)else c.aHS++[(⟨a,p,x⟩:M.aHU)]⟩:M.aHM)
def Nn(s:M.aF)(v:Int)(a p:ByteArray)(x:M.aHH):List M.aHM:=match s.aHC[(mM (λc:M.aHM=>c.aHA==v) s.aHC).toNat]? with
 |some c=>s.aHC.set (mM (λc:M.aHM=>c.aHA==v) s.aHC).toNat (Kh c a p x)
 |none=>s.aHC
