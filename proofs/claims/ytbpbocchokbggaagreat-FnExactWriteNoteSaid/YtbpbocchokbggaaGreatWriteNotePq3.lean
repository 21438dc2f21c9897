/-
  Helper text. No conditions.
-/
import Derived.Test.YtbpbocchokbggaaGreatWriteNotePq2
set_option linter.all false
namespace Go.Proofs.YtbpbocchokbggaaGreat.gen
open Go Go.Sh
open Go.IntKind (i64)
def HW(o:M.Op):Prop:=inI o.aEc/\o.aC.size<=maxLen/\o.Key.ok/\o.aA.ok/\o.Field.size<=maxLen
def nOp(o:M.Op):Bool:=inR o.aEc 1 6&&(sY o.aC&&(((o.aEc==5)||Bn o.Key)&&(bO o.aA&&(if(o.aEc==6)=true then sY o.Field else o.Field.toList==(⟨#[]⟩:ByteArray).toList))))
theorem JP{o:M.Op}(h:HW o):Cj o=some (nOp o):=by unfold Cj nOp;simp only[fY,gN h.2.1,kC h.2.2.1,mD h.2.2.2.1,gN h.2.2.2.2,qA];have hb:(o.aEc !=6)= !(o.aEc==6):=rfl;generalize (o.aEc !=6)=a9 at hb⊢;generalize inR o.aEc 1 6=a1;generalize sY o.aC=a2;generalize (o.aEc==5)=a3;generalize Bn o.Key=a4;generalize bO o.aA=a5;generalize (o.aEc==6)=a6 at hb⊢;generalize sY o.Field=a7;generalize (o.Field.toList==(⟨#[]⟩:ByteArray).toList)=a8;subst hb;cases a1<;>cases a2<;>cases a3<;>cases a4<;>cases a5<;>cases a6<;>cases a7<;>cases a8<;>rfl
theorem J6{o:M.Op}(h:HW o):Cg o=some (nOp o):=by unfold Cg nOp;simp only[dM,fP h.2.1,lZ h.2.2.1,sQ h.2.2.2.1,fP h.2.2.2.2,qA];have hb:(o.aEc !=5)= !(o.aEc==5):=rfl;generalize (o.aEc !=5)=a9 at hb⊢;generalize inR o.aEc 1 6=a1;generalize sY o.aC=a2;generalize (o.aEc==5)=a3 at hb⊢;generalize Bn o.Key=a4;generalize bO o.aA=a5;generalize (o.aEc==6)=a6;generalize sY o.Field=a7;generalize (o.Field.toList==(⟨#[]⟩:ByteArray).toList)=a8;subst hb;cases a1<;>cases a2<;>cases a3<;>cases a4<;>cases a5<;>cases a6<;>cases a7<;>cases a8<;>rfl
def enO(o:M.Op):List Int:=uv o.aEc.toNat++(DG (bC o.aC)++(DG (enK o.Key)++(DG (enR o.aA)++DG (bC o.Field))))
def DF(l:List M.Op):List Int:=if(l.all nOp&&decide (l.length<=6))=true then uv l.length++IL enO l else[]
theorem bsize{a b:ByteArray}(h:a.toList=b.toList):a.size=b.size:=by rw[ByteArray.toList_eq,ByteArray.toList_eq]at h;have:=congrArg List.length h;rw[qm,qm]at this;exact this
theorem P9{s:ByteArray}(h:(s.toList==(⟨#[]⟩:ByteArray).toList)=true):s.size=0:=bsize (eq_of_beq h)
theorem yG{o:M.Op}(h:nOp o=true):1<=o.aEc/\o.aEc<=6/\o.aC.size<=8/\o.Field.size<=8/\bO o.aA=true:=by
 unfold nOp inR at h
 simp only[qM,qL]at h
 obtain⟨h1,h2,_,h4,h5⟩:=h
 have C:∀s:ByteArray,sY s=true->s.size<=8:=λs j=>by unfold sY inR at j;simp only[qM,qL]at j;omega
 refine⟨h1.1,h1.2,C _ h2,?_,h4⟩
 split at h5
 ·exact C _ h5
 ·rw[P9 h5];omega
theorem E7{b:List Int}{n:Nat}(h:b.length<=n)(j:n<=127):(DG b).length<=n+1:=by have:=Dl 0 b.length jD;unfold DG;rw[qE];omega
theorem Mu{o:M.Op}(h:nOp o=true):(enO o).length<=130:=by obtain⟨h1,h2,h3,h4,_⟩:=yG h;have e1:=Dl 0 o.aEc.toNat jD;have e2:=E7 (b:=bC o.aC) (n:=8) (by rw[aT];exact h3) jD;have e3:=E7 (GG o.Key) jD;have e4:=E7 (GC o.aA) jD;have e5:=E7 (b:=bC o.Field) (n:=8) (by rw[aT];exact h4) jD;unfold enO;simp only[qE];omega
theorem Uv{o:M.Op}(C:HW o)(h:nOp o=true){q:List Int}(hq:q.length<=900000){α:Type}(K:List Int->Option α):((bU q o.aEc).bind λI=>(bT I (bC o.aC)).bind λJ=>(iH o.Key).bind λU=>(bT J U).bind λah=>(eX o.aA).bind λai=>(bT ah ai).bind λaj=>(bT aj (bC o.Field)).bind λak=>K ak)=K (q++enO o):=by obtain⟨h1,h2,h3,h4,_⟩:=yG h;have j:=kS (r:=q) (n:=o.aEc.toNat) jD jD;rw[Int.toNat_of_nonneg jD]at j;have l1:=Dl 0 o.aEc.toNat jD;have l2:=E7 (b:=bC o.aC) (n:=8) (by rw[aT];exact h3) jD;have l3:=E7 (GG o.Key) jD;have l4:=E7 (GC o.aA) jD;have k2:=aT o.aC;have k5:=aT o.Field;have k3:=GG o.Key;have k4:=GC o.aA;rw[j,qA,mO jN jD,qA,Jx C.2.2.1,qA,mO jN jD,qA,Gz C.2.2.2.1,qA,mO jN jD,qA,mO jN jD,qA];unfold enO;simp only[qT]
theorem eoS{l:List M.Op}(C:l.length<=1000)(j:∀o∈l,HW o):∀(n k:Nat) (q:List Int),l.length-k<n->k<=l.length->q.length<=20+130*k->lO l n (k:Int) q=some (if(l.drop k).all nOp=true then if l.length>6 then[]else q++IL enO (l.drop k)else[])
 |0,_,_,h,_,_=>by omega
 |n+1,k,q,I,hk,J=>by
  simp only[lO]
  rcases Nat.lt_or_ge k l.length with hlt|hge
  ·rw[if_pos (bL hlt),aM hlt,qA,JP (j _ (qG hlt)),qA,qW hlt,List.all_cons]
   cases h:nOp l[k]with
   |false=>
    simp only[qC,if_true,Bool.false_and,qD,if_false]
   |true=>
    simp only[qB,qD,if_false,Bool.true_and]
    have U:=Mu h
    rw[Uv (j _ (qG hlt)) h jD,bI jD,eoS C j n (k+1) _ jD jD (by rw[qE];omega),IL,qT]
  ·have e:k=l.length:=by omega
   subst e
   rw[if_neg jK,qZ]
   simp only[List.all_nil,if_true,IL,qX]
   by_cases h6:l.length>6
   ·rw[if_pos jE,if_pos h6]
   ·rw[if_neg jE,if_neg h6]
theorem EV{l:List M.Op}(j:l.length<=1000)(C:∀o∈l,HW o):oZ l=some (DF l):=by
 have h9:=Dn (n:=l.length) jD
 unfold oZ DF
 rw[kS jF jD,qA,List.nil_append]
 have e:=eoS j C fuel 0 (uv l.length) jI jD jD
 rw[List.drop_zero]at e
 refine Eq.trans e ?_
 congr 1
 cases l.all nOp with
 |false=>rfl
 |true=>
  by_cases h6:l.length>6
  ·rw[if_pos rfl,if_pos h6,if_neg jE]
  ·rw[if_pos rfl,if_neg h6,if_pos jE]
theorem LQ{l:List M.Op}(I:l.length<=1000)(j:∀o∈l,HW o):BC l=some (l.all nOp&&decide (l.length<=6)):=by
 have key:∀(n k:Nat),l.length-k<n->k<=l.length->pL l n (k:Int)=some ((l.drop k).all nOp&&decide (l.length<=6)):=by
  intro n
  induction n with
  |zero=>intro k h;omega
  |succ n C=>
   intro k J hk
   simp only[pL]
   rcases Nat.lt_or_ge k l.length with hlt|hge
   ·rw[if_pos (bL hlt),aM hlt,qA,J6 (j _ (qG hlt)),qA,qW hlt,List.all_cons]
    cases h:nOp l[k]with
    |false=>rfl
    |true=>
     simp only[qB,qD,if_false,Bool.true_and]
     rw[bI jD,C (k+1) jD jD]
   ·have e:k=l.length:=by omega
    subst e
    rw[if_neg jK,qZ,List.all_nil,Bool.true_and]
    congr 1
    rw[decide_eq_decide]
    omega
 unfold BC
 exact key fuel 0 jI jD
theorem ES{l:List M.Op}(hl:l.length<=1000)(ho:∀o∈l,HW o):pT l=some (DF l):=by
 unfold pT DF
 rw[LQ hl ho,qA]
 cases h:(l.all nOp&&decide (l.length<=6))with
 |false=>rfl
 |true=>
  rw[qM,qL,qR]at h
  have h9:=Dn (n:=l.length) jD
  simp only[qB,qD,if_false,if_true]
  rw[kU jF jD,qA,List.nil_append]
  have:=KC (xs:=l) (f:=enO) (c:=130) (B:=10000) (L:=dP l) (E:=some) (λo C=>Mu (h.1 o C)) (λn k hk q hq=> ?_) (λn q _=> ?_) fuel 0 (uv l.length) jI jD jD
  ·rw[List.drop_zero]at this;exact this
  ·have I:=ho _ (qG hk)
   obtain⟨h1,h2,h3,h4,_⟩:=yG (h.1 _ (qG hk))
   have e0:=kU (r:=q) (n:=l[k].aEc.toNat) jD jD
   rw[Int.toNat_of_nonneg jD]at e0
   have l1:=Dl 0 l[k].aEc.toNat jD
   have k2:=aT l[k].aC
   have k5:=aT l[k].Field
   have k3:=GG l[k].Key
   have k4:=GC l[k].aA
   simp only[dP]
   rw[if_pos (bL hk),aM hk,qA,e0,qA,CX I.2.2.1,qA,Dv I.2.2.2.1,qA]
   have hp:∀x∈[bC l[k].aC,enK l[k].Key,enR l[k].aA,bC l[k].Field],x.length<=85:=λx C=>by simp only[qp,qO,or_false]at C;rcases C with rfl|rfl|rfl|rfl<;>omega
   have J:=KC (L:=eW l[k] (enK l[k].Key) (enR l[k].aA) (λ(aa:Int) (r5:List Int)=>dP l n (i64.wrap ((k:Int)+1)) r5)) (xs:=[bC l[k].aC,enK l[k].Key,enR l[k].aA,bC l[k].Field]) (f:=DG) (c:=86) (B:=20000) (E:=λU=>dP l n (i64.wrap ((k:Int)+1)) U) (λx C=>E7 (hp x C) jD) (λn' k' j U hq'=> ?_) (λn' U _=> ?_) fuel 0 (q++uv l[k].aEc.toNat) (by unfold fuel;simp) jF (by simp only[qE,qJ,qK];omega)
   ·refine Eq.trans J ?_;rw[bI jD];congr 1;simp only[List.drop_zero,IL,enO,qX,qT]
   ·have C:=hp _ (qG j);simp only[eW];rw[if_pos (by simp only[qJ,qK]at j;rw[qL];omega),aM j,qA,BJ jD jD,qA,bI (n:=k') (by simp only[qJ,qK]at j;omega)]
   ·simp only[eW];rw[if_neg jF]
  ·simp only[dP];rw[if_neg jK]
theorem Mr(l:List M.Op):okB (DF l):=by unfold DF;split;(rename_i h;rw[qM,qL,qR]at h;have h1:=Ms (f:=enO) (λo C=>Mu (h.1 o C));have h9:=Dn (n:=l.length) jD;refine⟨?_,λy j=> ?_⟩;(rw[qE];exact qg (m:=2000) jD jJ);·rcases qP.1 j with j|j;(exact HY _ y j);·refine Mx (λo _ z hz=> ?_) y j;unfold enO at hz;simp only[qP]at hz;rcases hz with hz|hz|hz|hz|hz;(exact HY _ z hz);(exact FP (Dc _) z hz);(exact FP (Sk _).2 z hz);(exact FP (UO _).2 z hz);·exact FP (Dc _) z hz);·exact⟨jF,λ_ h=>absurd h jF⟩
def gS9(b:List Int)(p c1:Int):=nRb b (nUv b p).2.1 c1
def gK9(b:List Int)(p c1 c2:Int):=nRb b (gS9 b p c1).2.1 c2
def gR9(b:List Int)(p c1 c2 c3:Int):=nRb b (gK9 b p c1 c2).2.1 c3
def gF9(b:List Int)(p c1 c2 c3 c4:Int):=nRb b (gR9 b p c1 c2 c3).2.1 c4
def op9(b:List Int)(p c1 c2 c3 c4:Int):Option (M.Op×Int):=if(nUv b p).2.2=true then if(gS9 b p c1).2.2=true then if(gK9 b p c1 c2).2.2=true then if(gR9 b p c1 c2 c3).2.2=true then if(gF9 b p c1 c2 c3 c4).2.2=true then some ((⟨(nUv b p).1,aY (gS9 b p c1).1,(M7 (gK9 b p c1 c2).1).1,(Mg (gR9 b p c1 c2 c3).1).1,aY (gF9 b p c1 c2 c3 c4).1⟩:M.Op),(gF9 b p c1 c2 c3 c4).2.1)else none else none else none else none else none
def Ea(b:List Int)(c1 c2 c3 c4:Int):Nat->Int->List M.Op->Option (List M.Op)
 |0,_,C=>some C
 |j+1,p,C=>match op9 b p c1 c2 c3 c4 with
  |none=>none
  |some (o,q)=>Ea b c1 c2 c3 c4 j q (C++[o])
def VB(b:List Int)(o:Option (List M.Op)):List M.Op×Bool:=match o with
 |none=>(([]:List M.Op),false)
 |some l=>if eqL Ad (DF l) b=true then(l,true)else(([]:List M.Op),false)
def Ml(b:List Int)(c1 c2 c3 c4:Int):List M.Op×Bool:=if(nUv b 0).2.2=true then if(nUv b 0).1>6 then(([]:List M.Op),false)else VB b (Ea b c1 c2 c3 c4 (nUv b 0).1.toNat (nUv b 0).2.1 [])else(([]:List M.Op),false)
theorem VC{b:List Int}{p:Int}(hb:okB b)(j:b.length<=1048576):inI (nUv b p).2.1:=by
 cases h:(nUv b p).2.2 with
 |false=>rw[Wm h];exact S5
 |true=>
  obtain⟨a,m,e,C,J,U,I,_⟩:=A9 hb h
  rw[C]
  exact IQ I j
theorem L8{b:List Int}{p c:Int}(hb:okB b)(j:b.length<=1048576):inI (nRb b p c).2.1:=by
 cases h:(nRb b p c).2.2 with
 |false=>rw[Wt h];exact S5
 |true=>
  obtain⟨s,a,e,C,J,U,I,_⟩:=Fh hb h
  rw[C]
  exact IQ I j
theorem zN{b:List Int}{p c:Int}(hb:okB b)(I:b.length<=1048576)(h:(nRb b p c).2.2=true):okB (nRb b p c).1/\(nRb b p c).1.length<=b.length:=by obtain⟨s,a,e,j,J,U,r4,r5,r6,r7,C⟩:=Fh hb h;rw[j];exact⟨C,by dsimp only;omega⟩
theorem UX{c n:Int}{t:List Int}(h:M.Key.ok (⟨c,n,aY t⟩:M.Key)):(mkK c n t).1.ok:=by unfold mkK;split;(exact h);·exact⟨S5,S5,sz0⟩
theorem Ud{b:List Int}(hb:okB b):(M7 b).1.ok:=by
 have z:OE.ok:=⟨S5,S5,sz0⟩
 unfold M7
 split
 ·exact z
 ·rename_i c t
  have hc:=hb.2 c jF
  have J:∀x∈t,0<=x/\x<=255:=λx C=>hb.2 x (by simp[C])
  have j:t.length<=maxLen:=by have:=hb.1;rw[qJ]at this;omega
  split
  ·rename_i h2;exact UX (Ld hc jD j)
  ·split
   ·exact z
   ·obtain⟨w,e,U⟩:=XP (t:=t.take 6) (λx C=>J x (qj C)) 0 0 jG
    have h6:0+8*(List.take 6 t).length<=48:=by rw[qU];omega
    have h7:(2:Int)^(0+8*(List.take 6 t).length)<=2^48:=by have:=Nat.pow_le_pow_right (n:=2) jG h6;exact_mod_cast this
    have I:(List.take 6 t).foldl P3 0=(w:Int):=e
    rw[I]
    refine UX (Ld hc jD (qg (by rw[qV];omega) j))
theorem Se{b:List Int}{p c1 c2 c3 c4 q:Int}{o:M.Op}(hb:okB b)(j:b.length<=1048576)(h:op9 b p c1 c2 c3 c4=some (o,q)):HW o/\inI q:=by unfold op9 at h;split at h;(rename_i h1;split at h;(rename_i h2;split at h;(rename_i h3;split at h;(rename_i h4;split at h;(rename_i h5;simp only[qb,qa]at h;obtain⟨a,m,e,u1,u2,u3,_⟩:=A9 hb h1;have C:=zN hb j h2;have I:=zN hb j h3;have J:=zN hb j h4;have U:=zN hb j h5;rw[<-h.1,<-h.2];refine⟨⟨?_,?_,Ud I.1,(Tx J.1).1,?_⟩,L8 hb j⟩;(show inI (nUv b p).1;rw[u1];unfold inI;dsimp only;omega);(show(aY _).size<=_;rw[De];exact C.1.1);·show(aY _).size<=_;rw[De];exact U.1.1);·cases h);·cases h);·cases h);·cases h);·cases h
theorem Mz{b:List Int}{p:Int}(hb:okB b)(j:b.length<=1048576)(J:inI p):Bt b p=some (match op9 b p 100 100 200 100 with
  |none=>((⟨0,(⟨#[]⟩:ByteArray),(⟨0,0,(⟨#[]⟩:ByteArray)⟩:M.Key),(⟨([]:List M.Field)⟩:M.aA),(⟨#[]⟩:ByteArray)⟩:M.Op),0,false)
  |some (o,q)=>(o,q,true)):=by
 unfold Bt op9
 rw[mP hb j J,qA,oT hb j (VC hb j),qA]
 show(dF b (gS9 b p 100).2.1 100).bind _=_
 rw[oT hb j (show inI (gS9 b p 100).2.1 from L8 hb j),qA]
 show(dF b (gK9 b p 100 100).2.1 200).bind _=_
 rw[oT hb j (show inI (gK9 b p 100 100).2.1 from L8 hb j),qA]
 show(dF b (gR9 b p 100 100 200).2.1 100).bind _=_
 rw[oT hb j (show inI (gR9 b p 100 100 200).2.1 from L8 hb j),qA]
 change (if(!(nUv b p).2.2)=true then _ else if(!(gS9 b p 100).2.2)=true then _ else if(!(gK9 b p 100 100).2.2)=true then _ else if(!(gR9 b p 100 100 200).2.2)=true then _ else if(!(gF9 b p 100 100 200 100).2.2)=true then _ else(toStr (gS9 b p 100).1).bind λaf=>(toStr (gF9 b p 100 100 200 100).1).bind λah=>(oY (gK9 b p 100 100).1).bind λC=>(lU (gR9 b p 100 100 200).1).bind λI=>some ((⟨(nUv b p).1,aY (gS9 b p 100).1,C.1,I.1,aY (gF9 b p 100 100 200 100).1⟩:M.Op),(gF9 b p 100 100 200 100).2.1,true))=_
 cases h1:(nUv b p).2.2 with
 |false=>rfl
 |true=>
  cases h2:(gS9 b p 100).2.2 with
  |false=>rfl
  |true=>
   cases h3:(gK9 b p 100 100).2.2 with
   |false=>rfl
   |true=>
    cases h4:(gR9 b p 100 100 200).2.2 with
    |false=>rfl
    |true=>
     cases h5:(gF9 b p 100 100 200 100).2.2 with
     |false=>rfl
     |true=>
      have U:okB (gS9 b p 100).1/\(gS9 b p 100).1.length<=b.length:=zN hb j h2
      have p3:okB (gK9 b p 100 100).1/\(gK9 b p 100 100).1.length<=b.length:=zN hb j h3
      have p4:okB (gR9 b p 100 100 200).1/\(gR9 b p 100 100 200).1.length<=b.length:=zN hb j h4
      have p5:okB (gF9 b p 100 100 200 100).1/\(gF9 b p 100 100 200 100).1.length<=b.length:=zN hb j h5
      simp only[qB,qD,if_false,if_true]
      rw[A4 U.1.2,qA,A4 p5.1.2,qA,Jt p3.1 jD,qA,GH p4.1 jD,qA]
theorem doS{b:List Int}{x1:Int×Int×Bool}{N:Nat}(hb:okB b)(J:b.length<=1048576)(hN:N<=6)(hx:x1.1=(N:Int)):∀(j k m:Nat) (p:Int) (C:List M.Op),k+j=N->j<m->inI p->C.length=k->(∀x∈C,HW x)->iP b x1 m p (k:Int) C=some (VB b (Ea b 100 100 200 100 j p C))
 |_,_,0,_,_,_,h,_,_,_=>by omega
 |0,k,m+1,p,C,hk,_,hp,ha,U=>by simp only[iP,Ea,VB];rw[hx,if_neg jE,EV jD U,qA,H3 (Mr _) hb,qA];cases eqL Ad (DF C) b<;>rfl
 |j+1,k,m+1,p,C,hk,hm,hp,ha,U=>by
  simp only[iP,Ea]
  rw[hx,if_pos jE,Mz hb J hp,qA]
  cases h:op9 b p 100 100 200 100 with
  |none=>rfl
  |some x=>
   obtain⟨o,q⟩:=x
   obtain⟨k1,k2⟩:=Se hb J h
   simp only[qB,qD,if_false]
   rw[fR jE,qA,bI jD]
   refine doS hb J hN hx j (k+1) m q _ jD jD k2 (by simp[ha]) (λy I=> ?_)
   rcases qP.1 I with I|I
   ·exact U y I
   ·rw[qQ.1 I];exact k1
theorem IJ{b:List Int}(hb:okB b)(j:b.length<=1048576):oV b=some (Ml b 100 100 200 100):=by
 unfold oV Ml
 rw[mP hb j S5,qA]
 cases h:(nUv b 0).2.2 with
 |false=>rfl
 |true=>
  obtain⟨a,m,e,C,J,U,I,u5,u6⟩:=A9 hb h
  rw[C]
  simp only[qB,qD,if_false,if_true]
  by_cases h6:(m:Int)>6
  ·rw[if_pos (by simpa using h6),if_pos h6]
  ·rw[if_neg (by simpa using h6),if_neg h6,qH];exact doS (x1:=((m:Int),(e:Int),true)) hb j (N:=m) jD rfl m 0 fuel (e:Int) [] jD jI (IQ I j) rfl (λ_ h=>absurd h jF)
theorem doI{b:List Int}{x1:Int×Int×Bool}{N:Nat}(hb:okB b)(J:b.length<=1048576)(hN:N<=6)(hx:x1.1=(N:Int)):∀(j k m:Nat) (p:Int) (I:List M.Op),k+j=N->j<m->I.length=k->(∀x∈I,HW x)->eS b x1 m p (k:Int) I=some (VB b (Ea b (b.length:Int) (b.length:Int) (b.length:Int) (b.length:Int) j p I))
 |_,_,0,_,_,_,h,_,_=>by omega
 |0,k,m+1,p,I,hk,_,ha,ho=>by simp only[eS,Ea,VB];rw[hx,if_neg jE,ES jD ho,qA,zE (Mr _),qA];cases eqL Ad (DF I) b<;>rfl
 |j+1,k,m+1,p,I,hk,hm,ha,ho=>by
  have C:∀o q,op9 b p (b.length:Int) (b.length:Int) (b.length:Int) (b.length:Int)=some (o,q)->HW o/\inI q:=λo q h=>Se hb J h
  simp only[eS,Ea]
  rw[hx,if_pos jE,mJ hb J,qA]
  unfold op9 at C⊢
  cases h1:(nUv b p).2.2 with
  |false=>rfl
  |true=>
   rw[h1]at C
   simp only[if_true]at C⊢
   rw[pO hb J,qA]
   change (if(gS9 b p (b.length:Int)).2.2=true then(dD b (gS9 b p (b.length:Int)).2.1 (b.length:Int)).bind _ else _)=_
   cases h2:(gS9 b p (b.length:Int)).2.2 with
   |false=>rfl
   |true=>
    rw[h2]at C
    simp only[if_true]at C⊢
    rw[pO hb J,qA]
    change (if(gK9 b p (b.length:Int) (b.length:Int)).2.2=true then(dD b (gK9 b p (b.length:Int) (b.length:Int)).2.1 (b.length:Int)).bind _ else _)=_
    cases h3:(gK9 b p (b.length:Int) (b.length:Int)).2.2 with
    |false=>rfl
    |true=>
     rw[h3]at C
     simp only[if_true]at C⊢
     rw[pO hb J,qA]
     change (if(gR9 b p (b.length:Int) (b.length:Int) (b.length:Int)).2.2=true then(dD b (gR9 b p (b.length:Int) (b.length:Int) (b.length:Int)).2.1 (b.length:Int)).bind _ else _)=_
     cases h4:(gR9 b p (b.length:Int) (b.length:Int) (b.length:Int)).2.2 with
     |false=>rfl
     |true=>
      rw[h4]at C
      simp only[if_true]at C⊢
      rw[pO hb J,qA]
      change (if(!(gF9 b p (b.length:Int) (b.length:Int) (b.length:Int) (b.length:Int)).2.2)=true then _ else(toStr (gS9 b p (b.length:Int)).1).bind λaf=>(pR (gK9 b p (b.length:Int) (b.length:Int)).1).bind λaa=>(lM (gR9 b p (b.length:Int) (b.length:Int) (b.length:Int)).1).bind λae=>(toStr (gF9 b p (b.length:Int) (b.length:Int) (b.length:Int) (b.length:Int)).1).bind λah=>(app 96 I ([(⟨(nUv b p).1,aY (gS9 b p (b.length:Int)).1,aa.1,ae.1,aY (gF9 b p (b.length:Int) (b.length:Int) (b.length:Int) (b.length:Int)).1⟩:M.Op)])).bind λai=>eS b x1 m (gF9 b p (b.length:Int) (b.length:Int) (b.length:Int) (b.length:Int)).2.1 (i64.wrap ((k:Int)+1)) (I++[(⟨(nUv b p).1,aY (gS9 b p (b.length:Int)).1,aa.1,ae.1,aY (gF9 b p (b.length:Int) (b.length:Int) (b.length:Int) (b.length:Int)).1⟩:M.Op)]))=_
      cases h5:(gF9 b p (b.length:Int) (b.length:Int) (b.length:Int) (b.length:Int)).2.2 with
      |false=>rfl
      |true=>
       rw[h5]at C
       simp only[if_true]at C⊢
       have p2:okB (gS9 b p (b.length:Int)).1/\(gS9 b p (b.length:Int)).1.length<=b.length:=zN hb J h2
       have p3:okB (gK9 b p (b.length:Int) (b.length:Int)).1/\(gK9 b p (b.length:Int) (b.length:Int)).1.length<=b.length:=zN hb J h3
       have p4:okB (gR9 b p (b.length:Int) (b.length:Int) (b.length:Int)).1/\(gR9 b p (b.length:Int) (b.length:Int) (b.length:Int)).1.length<=b.length:=zN hb J h4
       have p5:okB (gF9 b p (b.length:Int) (b.length:Int) (b.length:Int) (b.length:Int)).1/\(gF9 b p (b.length:Int) (b.length:Int) (b.length:Int) (b.length:Int)).1.length<=b.length:=zN hb J h5
       obtain⟨k1,k2⟩:=C _ _ rfl
       simp only[qB,qD,if_false]
       rw[A4 p2.1.2,qA,Jp p3.1 jD,qA,Gv p4.1 jD,qA,A4 p5.1.2,qA,fR jE,qA,bI jD]
       refine doI hb J hN hx j (k+1) m _ _ jD jD (by simp[ha]) (λy U=> ?_)
       rcases qP.1 U with U|U
       ·exact ho y U
       ·rw[qQ.1 U];exact k1
theorem IC{b:List Int}(hb:okB b)(j:b.length<=1048576):pK b=some (Ml b (b.length:Int) (b.length:Int) (b.length:Int) (b.length:Int)):=by
 unfold pK Ml
 rw[mJ hb j,qA]
 cases h:(nUv b 0).2.2 with
 |false=>rfl
 |true=>
  obtain⟨a,m,e,C,I,J,U,u5,u6⟩:=A9 hb h
  rw[C]
  simp only[qB,qD,if_false,if_true]
  by_cases h6:(m:Int)>6
  ·rw[if_pos (by simpa using h6),if_pos h6]
  ·rw[if_neg (by simpa using h6),if_neg h6,qH];exact doI (x1:=((m:Int),(e:Int),true)) hb j (N:=m) jD rfl m 0 fuel (e:Int) [] jD jI rfl (λ_ h=>absurd h jF)
theorem MD{b x y:List Int}{a:Nat}(h:b.drop a=x++y):b.drop (a+x.length)=y:=by rw[<-List.drop_drop,h,List.drop_left]
theorem JM{b s r:List Int}{a:Nat}{c:Int}(h:b.drop a=DG s++r)(hc:(s.length:Int)<=c)(j:s.length<=1000000000000):nRb b (a:Int) c=(s,((a+(DG s).length:Nat):Int),true)/\b.drop (a+(DG s).length)=r:=by refine⟨?_,MD h⟩;unfold DG at h⊢;rw[qT]at h;rw[Ry h hc j,qE,qy]
theorem Um{b r:List Int}{a m:Nat}(h:b.drop a=uv m++r)(j:m<=1000000000000):nUv b (a:Int)=((m:Int),((a+(uv m).length:Nat):Int),true)/\b.drop (a+(uv m).length)=r:=⟨Ow h j,MD h⟩
theorem Rk{b r:List Int}{a:Nat}{o:M.Op}{c1 c2 c3 c4:Int}(h:b.drop a=enO o++r)(C:nOp o=true)(h1:(o.aC.size:Int)<=c1)(h2:((enK o.Key).length:Int)<=c2)(h3:((enR o.aA).length:Int)<=c3)(h4:(o.Field.size:Int)<=c4):op9 b (a:Int) c1 c2 c3 c4=some ((⟨o.aEc,aY (bC o.aC),(M7 (enK o.Key)).1,(Mg (enR o.aA)).1,aY (bC o.Field)⟩:M.Op),((a+(enO o).length:Nat):Int))/\b.drop (a+(enO o).length)=r:=by
 obtain⟨s1,s2,s3,s4,_⟩:=yG C
 have I:=aT o.aC
 have k5:=aT o.Field
 have J:=GG o.Key
 have U:=GC o.aA
 refine⟨?_,MD h⟩
 have j:=h
 unfold enO at j
 simp only[qT]at j
 obtain⟨e1,d1⟩:=Um j jD
 obtain⟨e2,d2⟩:=JM (c:=c1) d1 jD jD
 obtain⟨e3,d3⟩:=JM (c:=c2) d2 h2 jD
 obtain⟨e4,d4⟩:=JM (c:=c3) d3 h3 jD
 obtain⟨e5,d5⟩:=JM (c:=c4) d4 jD jD
 have f2:gS9 b (a:Int) c1=(bC o.aC,((a+(uv o.aEc.toNat).length+(DG (bC o.aC)).length:Nat):Int),true):=by unfold gS9;rw[e1];exact e2
 have f3:gK9 b (a:Int) c1 c2=(enK o.Key,((a+(uv o.aEc.toNat).length+(DG (bC o.aC)).length+(DG (enK o.Key)).length:Nat):Int),true):=by unfold gK9;rw[f2];exact e3
 have f4:gR9 b (a:Int) c1 c2 c3=(enR o.aA,((a+(uv o.aEc.toNat).length+(DG (bC o.aC)).length+(DG (enK o.Key)).length+(DG (enR o.aA)).length:Nat):Int),true):=by unfold gR9;rw[f3];exact e4
 have f5:gF9 b (a:Int) c1 c2 c3 c4=(bC o.Field,((a+(uv o.aEc.toNat).length+(DG (bC o.aC)).length+(DG (enK o.Key)).length+(DG (enR o.aA)).length+(DG (bC o.Field)).length:Nat):Int),true):=by unfold gF9;rw[f4];exact e5
 unfold op9
 rw[e1,f2,f3,f4,f5]
 simp only[if_true]
 rw[Int.toNat_of_nonneg jD]
 congr 3
 unfold enO
 simp only[qE]
 omega
theorem Tc{b:List Int}{p:Int}{x:M.Op×Int}(hb:okB b)(j:b.length<=1048576)(h:op9 b p 100 100 200 100=some x):op9 b p (b.length:Int) (b.length:Int) (b.length:Int) (b.length:Int)=some x:=by
 have mono:∀{p c:Int},(nRb b p c).2.2=true->nRb b p (b.length:Int)=nRb b p c:=λ{p c} h=>by have C:=zN hb j h;exact Tv hb (show nRb b p c=((nRb b p c).1,(nRb b p c).2.1,true)from by rw[<-h]) jD|>.trans (by rw[<-h])
 unfold op9 at h⊢
 split at h
 ·rename_i h1
  split at h
  ·rename_i h2
   split at h
   ·rename_i h3
    split at h
    ·rename_i h4
     split at h
     ·rename_i h5
      have f2:gS9 b p (b.length:Int)=gS9 b p 100:=mono h2
      have f3:gK9 b p (b.length:Int) (b.length:Int)=gK9 b p 100 100:=by unfold gK9;rw[f2];exact mono h3
      have f4:gR9 b p (b.length:Int) (b.length:Int) (b.length:Int)=gR9 b p 100 100 200:=by unfold gR9;rw[f3];exact mono h4
      have f5:gF9 b p (b.length:Int) (b.length:Int) (b.length:Int) (b.length:Int)=gF9 b p 100 100 200 100:=by unfold gF9;rw[f4];exact mono h5
      rw[f2,f3,f4,f5,if_pos h1,if_pos h2,if_pos h3,if_pos h4,if_pos h5]
      exact h
     ·cases h
    ·cases h
   ·cases h
  ·cases h
 ·cases h
theorem Ly{b:List Int}(hb:okB b)(I:b.length<=1048576):∀(j:Nat) (p:Int) (C l:List M.Op),Ea b 100 100 200 100 j p C=some l->Ea b (b.length:Int) (b.length:Int) (b.length:Int) (b.length:Int) j p C=some l
 |0,_,_,_,h=>h
 |j+1,p,C,l,h=>by
  simp only[Ea]at h⊢
  cases e:op9 b p 100 100 200 100 with
  |none=>rw[e]at h;cases h
  |some x=>
   rw[Tc hb I e]
   rw[e]at h
   exact Ly hb I j _ _ l h
theorem Na{b:List Int}{c1 c2 c3 c4 d1 d2 d3 d4:Int}:∀(rest:List M.Op) (a:Nat) (j:List M.Op) (t:List Int),b.drop a=IL enO rest++t->(∀o∈rest,nOp o=true/\(o.aC.size:Int)<=c1/\((enK o.Key).length:Int)<=c2/\((enR o.aA).length:Int)<=c3/\(o.Field.size:Int)<=c4/\(o.aC.size:Int)<=d1/\((enK o.Key).length:Int)<=d2/\((enR o.aA).length:Int)<=d3/\(o.Field.size:Int)<=d4)->Ea b c1 c2 c3 c4 rest.length (a:Int) j=Ea b d1 d2 d3 d4 rest.length (a:Int) j
 |[],_,_,_,_,_=>rfl
 |o::rest,a,j,t,h,I=>by obtain⟨C,U,g2,g3,g4,g5,g6,g7,g8⟩:=I o jF;rw[IL,qT]at h;obtain⟨e1,J⟩:=Rk h C U g2 g3 g4;obtain⟨e2,_⟩:=Rk h C g5 g6 g7 g8;simp only[qJ,Ea];rw[e1,e2];exact Na rest _ _ t J (λx hx=>I x (by simp[hx]))
theorem Pd{l:List M.Op}{b:List Int}(h:DF l=b)(hb:b≠[]):b=uv l.length++IL enO l/\(∀o∈l,nOp o=true)/\l.length<=6:=by unfold DF at h;split at h;(rename_i h1;rw[qM,qL,qR]at h1;exact⟨h.symm,h1.1,h1.2⟩);·exact absurd h.symm hb
theorem VU{b:List Int}{l:List M.Op}(h:b=uv l.length++IL enO l):∀o∈l,o.aC.size<=b.length/\(enK o.Key).length<=b.length/\(enR o.aA).length<=b.length/\o.Field.size<=b.length:=by
 have h1:(IL enO l).length<=b.length:=by rw[h,qE];omega
 have key:∀(l:List M.Op) (o:M.Op),o∈l->(enO o).length<=(IL enO l).length:=by
  intro l
  induction l with
  |nil=>intro o j;cases j
  |cons x U C=>
   intro o j
   rw[IL,qE]
   rcases qp.1 j with rfl|j
   ·omega
   ·have:=C o j;omega
 intro o j
 have h2:=qg (key l o j) h1
 have I:=aT o.aC
 have J:=aT o.Field
 unfold enO DG at h2
 simp only[qE]at h2
 omega
theorem TH{b:List Int}(hb:okB b)(hl:b.length<=1048576):Ml b (b.length:Int) (b.length:Int) (b.length:Int) (b.length:Int)=Ml b 100 100 200 100:=by
 unfold Ml
 cases h:(nUv b 0).2.2 with
 |false=>simp only[qD,if_false]
 |true=>
  obtain⟨a,m,e,u1,u2,u3,u4,u5,u6⟩:=A9 hb h
  obtain rfl:a=0:=by omega
  rw[List.drop_zero]at u6
  have I:b≠[]:=λh0=>by have:=congrArg List.length u6;have h2:=Gm m;rw[h0]at this;simp at this;omega
  rw[u1]
  dsimp only
  by_cases h6:(m:Int)>6
  ·rw[if_pos h6,if_pos h6]
  ·rw[if_neg h6,if_neg h6,qH,if_pos rfl,if_pos rfl]
   cases hS:Ea b 100 100 200 100 m (e:Int) []with
   |some l=>rw[Ly hb hl m _ _ l hS]
   |none=>
    cases hL:Ea b (b.length:Int) (b.length:Int) (b.length:Int) (b.length:Int) m (e:Int) []with
    |none=>rfl
    |some l=>
     simp only[VB]
     rw[if_neg]
     rw[EF]
     intro he
     obtain⟨j,U,b3⟩:=Pd he I
     have pl:=VU j
     have hu:=Ow (b:=b) (a:=0) (by rw[List.drop_zero];exact j) (show l.length<=1000000000000 by omega)
     rw[show((0:Nat):Int)=0 from rfl,u1]at hu
     simp only[qa,qo]at hu
     obtain rfl:m=l.length:=by omega
     have C:e=(uv l.length).length:=by omega
     have hd:b.drop e=IL enO l++[]:=by
      rw[qX,C]
      conv=>lhs;rw[j]
      exact List.drop_left
     have:=Na (c1:=100) (c2:=100) (c3:=200) (c4:=100) (d1:=(b.length:Int)) (d2:=(b.length:Int)) (d3:=(b.length:Int)) (d4:=(b.length:Int)) l e [] [] hd (λo J=>by have q1:=yG (U o J);have q2:=GG o.Key;have q3:=GC o.aA;have q4:=pl o J;exact⟨U o J,jD,jD,jD,jD,jD,jD,jD,jD⟩)
     rw[hS,hL]at this
     cases this
def Dt(b:List Int):List M.Op×Bool:=Ml b 100 100 200 100
theorem JB{b:List Int}(hb:okB b)(j:b.length<=1048576):oV b=some (Dt b):=IJ hb j
theorem Je{b:List Int}(hb:okB b)(j:b.length<=1048576):pK b=some (Dt b):=by rw[IC hb j,TH hb j];rfl
theorem PM{b:List Int}{c1 c2 c3 c4:Int}(hb:okB b)(U:b.length<=1048576):∀(j:Nat) (p:Int) (C l:List M.Op),Ea b c1 c2 c3 c4 j p C=some l->(∀x∈C,HW x)->(∀x∈l,HW x)
 |0,_,_,_,h,J=>by simp only[Ea,qb]at h;rw[<-h];exact J
 |j+1,p,C,l,h,J=>by
  simp only[Ea]at h
  cases e:op9 b p c1 c2 c3 c4 with
  |none=>rw[e]at h;cases h
  |some x=>
   obtain⟨o,q⟩:=x
   rw[e]at h
   refine PM hb U j q _ l h (λy I=> ?_)
   rcases qP.1 I with I|I
   ·exact J y I
   ·rw[qQ.1 I];exact(Se hb U e).1
theorem IH{b:List Int}(hb:okB b)(hl:b.length<=1048576):(Dt b).1.length<=6/\∀o∈(Dt b).1,HW o/\nOp o=true:=by
 have z:([]:List M.Op).length<=6/\∀o∈([]:List M.Op),HW o/\nOp o=true:=⟨jF,λ_ h=>absurd h jF⟩
 unfold Dt Ml
 split
 ·rename_i h
  obtain⟨a,m,e,u1,u2,u3,u4,u5,I⟩:=A9 hb h
  obtain rfl:a=0:=by omega
  rw[List.drop_zero]at I
  have j:b≠[]:=λh0=>by have:=congrArg List.length I;have h2:=Gm m;rw[h0]at this;simp at this;omega
  rw[u1]
  dsimp only
  split
  ·exact z
  ·cases hr:Ea b 100 100 200 100 (m:Int).toNat (e:Int) []with
   |none=>exact z
   |some l=>
    simp only[VB]
    split
    ·rename_i he;rw[EF]at he;obtain⟨b1,J,U⟩:=Pd he j;exact⟨U,λo C=>⟨PM hb hl _ _ _ l hr (λ_ h=>absurd h jF) o C,J o C⟩⟩
    ·exact z
 ·exact z
theorem FD{i:Int}{l:List Int}(j:l.length<=1048576):sR i l=some (Mm ([101,i]++([(List.length l:Int)]++l.map i64.wrap))):=by unfold sR;rw[Hh j,qA,fR jE,qA,OH (by simp[maxLen];omega),qA]
theorem FA{i:Int}{l:List Int}(j:l.length<=1048576):uB i l=some (Mm ([101,i]++([(List.length l:Int)]++l.map i64.wrap))):=by unfold uB;rw[Ho j,qA,fR jE,qA,Ox (by simp[maxLen];omega),qA]
def Su(i:Int)(l:List Int):Int:=Mm ([101,i]++([(List.length l:Int)]++l.map i64.wrap))
def KY(b:List Int):Nat->Int->List (List Int)->List (List Int)×Int
 |0,p,C=>(C,p)
 |j+1,p,C=>if(nRb b p 4000).2.2=true then if(nUv b (nRb b p 4000).2.1).2.2=true then if((nUv b (nRb b p 4000).2.1).1 !=Su (C.length:Int) (nRb b p 4000).1)=true then(C,p)else KY b j (nUv b (nRb b p 4000).2.1).2.1 (C++[(nRb b p 4000).1])else(C,p)else(C,p)
def Ut(b:List Int):List (List Int)×Int:=KY b (b.length+1) 0 []
theorem Vu{b:List Int}:nUv b (b.length:Int)=(0,0,false):=by unfold nUv;rw[if_neg jD,qH];unfold NJ;rw[qY jD]
theorem Q1{b:List Int}(hb:okB b)(I:b.length<=1048576):∀(j m a:Nat) (C:List (List Int)),b.length-a<j->j<=m->a<=b.length->C.length<=a->nX b m (a:Int) C=some (KY b j (a:Int) C)
 |0,_,_,_,h,_,_,_=>by omega
 |_+1,0,_,_,_,h,_,_=>by omega
 |j+1,m+1,a,C,hj,hm,ha,hc=>by
  simp only[nX,KY]
  by_cases hlt:a<b.length
  case neg=>
   obtain rfl:a=b.length:=by omega
   rw[if_neg jF]
   have:(nRb b (b.length:Int) 4000).2.2=false:=by unfold nRb;rw[Vu];rfl
   rw[this]
   rfl
  rw[if_pos jE,oT hb I (IQ ha I),qA]
  cases h1:(nRb b (a:Int) 4000).2.2 with
  |false=>rfl
  |true=>
   obtain⟨s,J,e1,r1,r2,r3,r4,r5,r6,r7,r8⟩:=Fh hb h1
   obtain rfl:a=J:=by omega
   rw[r1]
   simp only[qB,qD,if_false,if_true]
   rw[mP hb I (IQ r4 I),qA]
   cases h2:(nUv b (e1:Int)).2.2 with
   |false=>rfl
   |true=>
    obtain⟨U,v,e2,u1,u2,u3,u4,u5,u6⟩:=A9 hb h2
    obtain rfl:e1=U:=by omega
    have g1:=Gm s.length
    have g2:=Gm v
    rw[u1]
    simp only[qB,qD,if_false,if_true]
    rw[FD jD,qA]
    show(if((v:Int) !=Su (C.length:Int) s)=true then _ else _)=_
    split
    ·rfl
    ·rw[fR jE,qA];exact Q1 hb I j m e2 _ jD jD u4 jE
theorem KK{b:List Int}(hb:okB b)(j:b.length<=1048576):Aj b=some (Ut b):=by unfold Aj Ut;exact Q1 hb j (b.length+1) fuel 0 [] jD jI jD jF
theorem RB{b:List Int}(hb:okB b)(I:b.length<=1048576):∀(j m a:Nat) (C:List (List Int)),b.length-a<j->j<=m->a<=b.length->C.length<=a->nV b m (a:Int) C=some (KY b j (a:Int) C)
 |0,_,_,_,h,_,_,_=>by omega
 |_+1,0,_,_,_,h,_,_=>by omega
 |j+1,m+1,a,C,hj,hm,ha,hc=>by
  simp only[nV,KY]
  rw[pO hb I,qA]
  cases h1:(nRb b (a:Int) 4000).2.2 with
  |false=>rfl
  |true=>
   obtain⟨s,J,e1,r1,r2,r3,r4,r5,r6,r7,r8⟩:=Fh hb h1
   obtain rfl:a=J:=by omega
   rw[r1]
   simp only[qB,qD,if_false,if_true]
   rw[mJ hb I,qA]
   cases h2:(nUv b (e1:Int)).2.2 with
   |false=>rfl
   |true=>
    obtain⟨U,v,e2,u1,u2,u3,u4,u5,u6⟩:=A9 hb h2
    obtain rfl:e1=U:=by omega
    have g1:=Gm s.length
    have g2:=Gm v
    rw[u1]
    simp only[qB,qD,if_false,if_true]
    rw[FA jD,qA]
    show(if((v:Int) !=Su (C.length:Int) s)=true then _ else _)=_
    split
    ·rfl
    ·rw[fR jE,qA];exact RB hb I j m e2 _ jD jD u4 jE
theorem KN{b:List Int}(hb:okB b)(j:b.length<=1048576):At b=some (Ut b):=by unfold At Ut;exact RB hb j (b.length+1) fuel 0 [] jD jI jD jF
theorem P5{b:List Int}(hb:okB b):∀(j a:Nat) (C:List (List Int)),a<=b.length->C.length<=a->(∀l∈C,okB l/\l.length<=4000)->(KY b j (a:Int) C).1.length<=b.length/\∀l∈(KY b j (a:Int) C).1,okB l/\l.length<=4000
 |0,a,C,ha,hc,h=>⟨by simp only[KY];omega,h⟩
 |j+1,a,C,ha,hc,h=>by
  simp only[KY]
  split
  ·rename_i h1
   obtain⟨s,J,e1,r1,r2,r3,r4,r5,r6,r7,r8⟩:=Fh hb h1
   obtain rfl:a=J:=by omega
   rw[r1]
   dsimp only
   split
   ·rename_i h2
    obtain⟨U,v,e2,u1,u2,u3,u4,u5,u6⟩:=A9 hb h2
    obtain rfl:e1=U:=by omega
    have g1:=Gm s.length
    rw[u1]
    dsimp only
    split
    ·exact⟨by dsimp only;omega,h⟩
    ·refine P5 hb j e2 _ u4 jE (λl I=> ?_);rcases qP.1 I with I|I;(exact h l I);·rw[qQ.1 I];exact⟨r8,jD⟩
   ·exact⟨by dsimp only;omega,h⟩
  ·exact⟨by dsimp only;omega,h⟩
theorem ON{b:List Int}(hb:okB b):(Ut b).1.length<=b.length/\∀l∈(Ut b).1,okB l/\l.length<=4000:=P5 hb (b.length+1) 0 [] jD jF (λ_ h=>absurd h jF)
