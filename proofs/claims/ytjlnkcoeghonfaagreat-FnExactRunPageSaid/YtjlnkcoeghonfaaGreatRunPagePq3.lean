/-
  Helper text. No conditions.
-/
import Derived.Test.YtjlnkcoeghonfaaGreatRunPagePq2
set_option linter.all false
namespace Go.Proofs.YtjlnkcoeghonfaaGreat.gen
open Go Go.Sh
open Go.IntKind (i64)
def K1(o:M.Op):Prop:=inI o.aJz/\o.aD.size<=maxLen/\o.Key.ok/\o.aC.ok/\o.Field.size<=maxLen
def nOp(o:M.Op):Bool:=inR o.aJz 1 6&&(mN o.aD&&(((o.aJz==5)||Dv o.Key)&&(bU o.aC&&(if(o.aJz==6)=true then mN o.Field else o.Field.toList==(⟨#[]⟩:ByteArray).toList))))
theorem M9{o:M.Op}(h:K1 o):Ew o=some (nOp o):=by unfold Ew nOp;simp only[cG,dG h.2.1,mD h.2.2.1,pI h.2.2.2.1,dG h.2.2.2.2,qA];have hb:(o.aJz !=6)= !(o.aJz==6):=rfl;generalize (o.aJz !=6)=a9 at hb⊢;generalize inR o.aJz 1 6=a1;generalize mN o.aD=a2;generalize (o.aJz==5)=a3;generalize Dv o.Key=a4;generalize bU o.aC=a5;generalize (o.aJz==6)=a6 at hb⊢;generalize mN o.Field=a7;generalize (o.Field.toList==(⟨#[]⟩:ByteArray).toList)=a8;subst hb;cases a1<;>cases a2<;>cases a3<;>cases a4<;>cases a5<;>cases a6<;>cases a7<;>cases a8<;>rfl
theorem Nz{o:M.Op}(h:K1 o):Ep o=some (nOp o):=by unfold Ep nOp;simp only[bR,cT h.2.1,oZ h.2.2.1,wZ h.2.2.2.1,cT h.2.2.2.2,qA];have hb:(o.aJz !=5)= !(o.aJz==5):=rfl;generalize (o.aJz !=5)=a9 at hb⊢;generalize inR o.aJz 1 6=a1;generalize mN o.aD=a2;generalize (o.aJz==5)=a3 at hb⊢;generalize Dv o.Key=a4;generalize bU o.aC=a5;generalize (o.aJz==6)=a6;generalize mN o.Field=a7;generalize (o.Field.toList==(⟨#[]⟩:ByteArray).toList)=a8;subst hb;cases a1<;>cases a2<;>cases a3<;>cases a4<;>cases a5<;>cases a6<;>cases a7<;>cases a8<;>rfl
def enO(o:M.Op):List Int:=uv o.aJz.toNat++(Gj (bC o.aD)++(Gj (enK o.Key)++(Gj (enR o.aC)++Gj (bC o.Field))))
def Gg(l:List M.Op):List Int:=if(l.all nOp&&decide (l.length<=6))=true then uv l.length++L2 enO l else[]
theorem bsize{a b:ByteArray}(h:a.toList=b.toList):a.size=b.size:=by rw[ByteArray.toList_eq,ByteArray.toList_eq]at h;have:=congrArg List.length h;rw[qm,qm]at this;exact this
theorem Ub{s:ByteArray}(h:(s.toList==(⟨#[]⟩:ByteArray).toList)=true):s.size=0:=bsize (eq_of_beq h)
theorem Bn{o:M.Op}(h:nOp o=true):1<=o.aJz/\o.aJz<=6/\o.aD.size<=8/\o.Field.size<=8/\bU o.aC=true:=by
 unfold nOp inR at h
 simp only[qM,qL]at h
 obtain⟨h1,h2,_,h4,h5⟩:=h
 have C:∀s:ByteArray,mN s=true->s.size<=8:=λs j=>by unfold mN inR at j;simp only[qM,qL]at j;omega
 refine⟨h1.1,h1.2,C _ h2,?_,h4⟩
 split at h5
 ·exact C _ h5
 ·rw[Ub h5];omega
theorem Il{b:List Int}{n:Nat}(h:b.length<=n)(j:n<=127):(Gj b).length<=n+1:=by have:=FP 0 b.length jD;unfold Gj;rw[qE];omega
theorem Qe{o:M.Op}(h:nOp o=true):(enO o).length<=130:=by obtain⟨h1,h2,h3,h4,_⟩:=Bn h;have e1:=FP 0 o.aJz.toNat jD;have e2:=Il (b:=bC o.aD) (n:=8) (by rw[aR];exact h3) jD;have e3:=Il (JQ o.Key) jD;have e4:=Il (JM o.aC) jD;have e5:=Il (b:=bC o.Field) (n:=8) (by rw[aR];exact h4) jD;unfold enO;simp only[qE];omega
theorem YC{o:M.Op}(C:K1 o)(h:nOp o=true){q:List Int}(hq:q.length<=900000){α:Type}(K:List Int->Option α):((bX q o.aJz).bind λI=>(bW I (bC o.aD)).bind λJ=>(kO o.Key).bind λU=>(bW J U).bind λah=>(fZ o.aC).bind λai=>(bW ah ai).bind λaj=>(bW aj (bC o.Field)).bind λak=>K ak)=K (q++enO o):=by obtain⟨h1,h2,h3,h4,_⟩:=Bn h;have j:=mY (r:=q) (n:=o.aJz.toNat) jD jD;rw[Int.toNat_of_nonneg jD]at j;have l1:=FP 0 o.aJz.toNat jD;have l2:=Il (b:=bC o.aD) (n:=8) (by rw[aR];exact h3) jD;have l3:=Il (JQ o.Key) jD;have l4:=Il (JM o.aC) jD;have k2:=aR o.aD;have k5:=aR o.Field;have k3:=JQ o.Key;have k4:=JM o.aC;rw[j,qA,pW jN jD,qA,MQ C.2.2.1,qA,pW jN jD,qA,JJ C.2.2.2.1,qA,pW jN jD,qA,pW jN jD,qA];unfold enO;simp only[qT]
theorem eoS{l:List M.Op}(C:l.length<=1000)(j:∀o∈l,K1 o):∀(n k:Nat) (q:List Int),l.length-k<n->k<=l.length->q.length<=20+130*k->oG l n (k:Int) q=some (if(l.drop k).all nOp=true then if l.length>6 then[]else q++L2 enO (l.drop k)else[])
 |0,_,_,h,_,_=>by omega
 |n+1,k,q,I,hk,J=>by
  simp only[oG]
  rcases Nat.lt_or_ge k l.length with hlt|hge
  ·rw[if_pos (bE hlt),aH hlt,qA,M9 (j _ (qG hlt)),qA,qW hlt,List.all_cons]
   cases h:nOp l[k]with
   |false=>
    simp only[qC,if_true,Bool.false_and,qD,if_false]
   |true=>
    simp only[qB,qD,if_false,Bool.true_and]
    have U:=Qe h
    rw[YC (j _ (qG hlt)) h jD,bG jD,eoS C j n (k+1) _ jD jD (by rw[qE];omega),L2,qT]
  ·have e:k=l.length:=by omega
   subst e
   rw[if_neg jK,qZ]
   simp only[List.all_nil,if_true,L2,qX]
   by_cases h6:l.length>6
   ·rw[if_pos jE,if_pos h6]
   ·rw[if_neg jE,if_neg h6]
theorem H5{l:List M.Op}(j:l.length<=1000)(C:∀o∈l,K1 o):tM l=some (Gg l):=by
 have h9:=FQ (n:=l.length) jD
 unfold tM Gg
 rw[mY jF jD,qA,List.nil_append]
 have e:=eoS j C fuel 0 (uv l.length) jI jD jD
 rw[List.drop_zero]at e
 refine Eq.trans e ?_
 congr 1
 cases l.all nOp with
 |false=>rfl
 |true=>
  by_cases h6:l.length>6
  ·rw[if_pos rfl,if_pos h6,if_neg jE]
  ·rw[if_pos rfl,if_neg h6,if_pos jE]
theorem PA{l:List M.Op}(I:l.length<=1000)(j:∀o∈l,K1 o):DJ l=some (l.all nOp&&decide (l.length<=6)):=by
 have key:∀(n k:Nat),l.length-k<n->k<=l.length->uF l n (k:Int)=some ((l.drop k).all nOp&&decide (l.length<=6)):=by
  intro n
  induction n with
  |zero=>intro k h;omega
  |succ n C=>
   intro k J hk
   simp only[uF]
   rcases Nat.lt_or_ge k l.length with hlt|hge
   ·rw[if_pos (bE hlt),aH hlt,qA,Nz (j _ (qG hlt)),qA,qW hlt,List.all_cons]
    cases h:nOp l[k]with
    |false=>rfl
    |true=>
     simp only[qB,qD,if_false,Bool.true_and]
     rw[bG jD,C (k+1) jD jD]
   ·have e:k=l.length:=by omega
    subst e
    rw[if_neg jK,qZ,List.all_nil,Bool.true_and]
    congr 1
    rw[decide_eq_decide]
    omega
 unfold DJ
 exact key fuel 0 jI jD
theorem HW{l:List M.Op}(hl:l.length<=1000)(ho:∀o∈l,K1 o):uR l=some (Gg l):=by
 unfold uR Gg
 rw[PA hl ho,qA]
 cases h:(l.all nOp&&decide (l.length<=6))with
 |false=>rfl
 |true=>
  rw[qM,qL,qR]at h
  have h9:=FQ (n:=l.length) jD
  simp only[qB,qD,if_false,if_true]
  rw[nA jF jD,qA,List.nil_append]
  have:=Oe (xs:=l) (f:=enO) (c:=130) (B:=10000) (L:=eM l) (E:=some) (λo C=>Qe (h.1 o C)) (λn k hk q hq=> ?_) (λn q _=> ?_) fuel 0 (uv l.length) jI jD jD
  ·rw[List.drop_zero]at this;exact this
  ·have I:=ho _ (qG hk)
   obtain⟨h1,h2,h3,h4,_⟩:=Bn (h.1 _ (qG hk))
   have e0:=nA (r:=q) (n:=l[k].aJz.toNat) jD jD
   rw[Int.toNat_of_nonneg jD]at e0
   have l1:=FP 0 l[k].aJz.toNat jD
   have k2:=aR l[k].aD
   have k5:=aR l[k].Field
   have k3:=JQ l[k].Key
   have k4:=JM l[k].aC
   simp only[eM]
   rw[if_pos (bE hk),aH hk,qA,e0,qA,E7 I.2.2.1,qA,FZ I.2.2.2.1,qA]
   have hp:∀x∈[bC l[k].aD,enK l[k].Key,enR l[k].aC,bC l[k].Field],x.length<=85:=λx C=>by simp only[qp,qO,or_false]at C;rcases C with rfl|rfl|rfl|rfl<;>omega
   have J:=Oe (L:=fY l[k] (enK l[k].Key) (enR l[k].aC) (λ(aa:Int) (r5:List Int)=>eM l n (i64.wrap ((k:Int)+1)) r5)) (xs:=[bC l[k].aD,enK l[k].Key,enR l[k].aC,bC l[k].Field]) (f:=Gj) (c:=86) (B:=20000) (E:=λU=>eM l n (i64.wrap ((k:Int)+1)) U) (λx C=>Il (hp x C) jD) (λn' k' j U hq'=> ?_) (λn' U _=> ?_) fuel 0 (q++uv l[k].aJz.toNat) (by unfold fuel;simp) jF (by simp only[qE,qJ,qK];omega)
   ·refine Eq.trans J ?_;rw[bG jD];congr 1;simp only[List.drop_zero,L2,enO,qX,qT]
   ·have C:=hp _ (qG j);simp only[fY];rw[if_pos (by simp only[qJ,qK]at j;rw[qL];omega),aH j,qA,DQ jD jD,qA,bG (n:=k') (by simp only[qJ,qK]at j;omega)]
   ·simp only[fY];rw[if_neg jF]
  ·simp only[eM];rw[if_neg jK]
theorem Qa(l:List M.Op):okB (Gg l):=by unfold Gg;split;(rename_i h;rw[qM,qL,qR]at h;have h1:=Qb (f:=enO) (λo C=>Qe (h.1 o C));have h9:=FQ (n:=l.length) jD;refine⟨?_,λy j=> ?_⟩;(rw[qE];exact qg (m:=2000) jD jJ);·rcases qP.1 j with j|j;(exact K3 _ y j);·refine Qg (λo _ z hz=> ?_) y j;unfold enO at hz;simp only[qP]at hz;rcases hz with hz|hz|hz|hz|hz;(exact K3 _ z hz);(exact I8 (FC _) z hz);(exact I8 (Wj _).2 z hz);(exact I8 (YY _).2 z hz);·exact I8 (FC _) z hz);·exact⟨jF,λ_ h=>absurd h jF⟩
def gS9(b:List Int)(p c1:Int):=nRb b (nUv b p).2.1 c1
def gK9(b:List Int)(p c1 c2:Int):=nRb b (gS9 b p c1).2.1 c2
def gR9(b:List Int)(p c1 c2 c3:Int):=nRb b (gK9 b p c1 c2).2.1 c3
def gF9(b:List Int)(p c1 c2 c3 c4:Int):=nRb b (gR9 b p c1 c2 c3).2.1 c4
def op9(b:List Int)(p c1 c2 c3 c4:Int):Option (M.Op×Int):=if(nUv b p).2.2=true then if(gS9 b p c1).2.2=true then if(gK9 b p c1 c2).2.2=true then if(gR9 b p c1 c2 c3).2.2=true then if(gF9 b p c1 c2 c3 c4).2.2=true then some ((⟨(nUv b p).1,bF (gS9 b p c1).1,(QN (gK9 b p c1 c2).1).1,(PZ (gR9 b p c1 c2 c3).1).1,bF (gF9 b p c1 c2 c3 c4).1⟩:M.Op),(gF9 b p c1 c2 c3 c4).2.1)else none else none else none else none else none
def G5(b:List Int)(c1 c2 c3 c4:Int):Nat->Int->List M.Op->Option (List M.Op)
 |0,_,C=>some C
 |j+1,p,C=>match op9 b p c1 c2 c3 c4 with
  |none=>none
  |some (o,q)=>G5 b c1 c2 c3 c4 j q (C++[o])
def ZN(b:List Int)(o:Option (List M.Op)):List M.Op×Bool:=match o with
 |none=>(([]:List M.Op),false)
 |some l=>if eqL Cn (Gg l) b=true then(l,true)else(([]:List M.Op),false)
def P5(b:List Int)(c1 c2 c3 c4:Int):List M.Op×Bool:=if(nUv b 0).2.2=true then if(nUv b 0).1>6 then(([]:List M.Op),false)else ZN b (G5 b c1 c2 c3 c4 (nUv b 0).1.toNat (nUv b 0).2.1 [])else(([]:List M.Op),false)
theorem ZO{b:List Int}{p:Int}(hb:okB b)(j:b.length<=1500000):inI (nUv b p).2.1:=by
 cases h:(nUv b p).2.2 with
 |false=>rw[aAa h];exact Qv
 |true=>
  obtain⟨a,m,e,C,J,U,I,_⟩:=Di hb h
  rw[C]
  exact L5 I j
theorem PT{b:List Int}{p c:Int}(hb:okB b)(j:b.length<=1500000):inI (nRb b p c).2.1:=by
 cases h:(nRb b p c).2.2 with
 |false=>rw[aAi h];exact Qv
 |true=>
  obtain⟨s,a,e,C,J,U,I,_⟩:=Iu hb h
  rw[C]
  exact L5 I j
theorem B2{b:List Int}{p c:Int}(hb:okB b)(I:b.length<=1500000)(h:(nRb b p c).2.2=true):okB (nRb b p c).1/\(nRb b p c).1.length<=b.length:=by obtain⟨s,a,e,j,J,U,r4,r5,r6,r7,C⟩:=Iu hb h;rw[j];exact⟨C,by dsimp only;omega⟩
theorem Y4{c n:Int}{t:List Int}(h:M.Key.ok (⟨c,n,bF t⟩:M.Key)):(mkK c n t).1.ok:=by unfold mkK;split;(exact h);·exact⟨Qv,Qv,sz0⟩
theorem Yi{b:List Int}(hb:okB b):(QN b).1.ok:=by
 have z:Sq.ok:=⟨Qv,Qv,sz0⟩
 unfold QN
 split
 ·exact z
 ·rename_i c t
  have hc:=hb.2 c jF
  have J:∀x∈t,0<=x/\x<=255:=λx C=>hb.2 x (by simp[C])
  have j:t.length<=maxLen:=by have:=hb.1;rw[qJ]at this;omega
  split
  ·rename_i h2;exact Y4 (OY hc jD j)
  ·split
   ·exact z
   ·obtain⟨w,e,U⟩:=aBx (t:=t.take 6) (λx C=>J x (qj C)) 0 0 jG
    have h6:0+8*(List.take 6 t).length<=48:=by rw[qU];omega
    have h7:(2:Int)^(0+8*(List.take 6 t).length)<=2^48:=by have:=Nat.pow_le_pow_right (n:=2) jG h6;exact_mod_cast this
    have I:(List.take 6 t).foldl T6 0=(w:Int):=e
    rw[I]
    refine Y4 (OY hc jD (qg (by rw[qV];omega) j))
theorem Wf{b:List Int}{p c1 c2 c3 c4 q:Int}{o:M.Op}(hb:okB b)(j:b.length<=1500000)(h:op9 b p c1 c2 c3 c4=some (o,q)):K1 o/\inI q:=by unfold op9 at h;split at h;(rename_i h1;split at h;(rename_i h2;split at h;(rename_i h3;split at h;(rename_i h4;split at h;(rename_i h5;simp only[qb,qa]at h;obtain⟨a,m,e,u1,u2,u3,_⟩:=Di hb h1;have C:=B2 hb j h2;have I:=B2 hb j h3;have J:=B2 hb j h4;have U:=B2 hb j h5;rw[<-h.1,<-h.2];refine⟨⟨?_,?_,Yi I.1,(XJ J.1).1,?_⟩,PT hb j⟩;(show inI (nUv b p).1;rw[u1];unfold inI;dsimp only;omega);(show(bF _).size<=_;rw[FD];exact C.1.1);·show(bF _).size<=_;rw[FD];exact U.1.1);·cases h);·cases h);·cases h);·cases h);·cases h
theorem Qj{b:List Int}{p:Int}(hb:okB b)(j:b.length<=1500000)(J:inI p):DC b p=some (match op9 b p 100 100 200 100 with
  |none=>((⟨0,(⟨#[]⟩:ByteArray),(⟨0,0,(⟨#[]⟩:ByteArray)⟩:M.Key),(⟨([]:List M.Field)⟩:M.aC),(⟨#[]⟩:ByteArray)⟩:M.Op),0,false)
  |some (o,q)=>(o,q,true)):=by
 unfold DC op9
 rw[pX hb j J,qA,tH hb j (ZO hb j),qA]
 show(eD b (gS9 b p 100).2.1 100).bind _=_
 rw[tH hb j (show inI (gS9 b p 100).2.1 from PT hb j),qA]
 show(eD b (gK9 b p 100 100).2.1 200).bind _=_
 rw[tH hb j (show inI (gK9 b p 100 100).2.1 from PT hb j),qA]
 show(eD b (gR9 b p 100 100 200).2.1 100).bind _=_
 rw[tH hb j (show inI (gR9 b p 100 100 200).2.1 from PT hb j),qA]
 change (if(!(nUv b p).2.2)=true then _ else if(!(gS9 b p 100).2.2)=true then _ else if(!(gK9 b p 100 100).2.2)=true then _ else if(!(gR9 b p 100 100 200).2.2)=true then _ else if(!(gF9 b p 100 100 200 100).2.2)=true then _ else(toStr (gS9 b p 100).1).bind λaf=>(toStr (gF9 b p 100 100 200 100).1).bind λah=>(tK (gK9 b p 100 100).1).bind λC=>(oN (gR9 b p 100 100 200).1).bind λI=>some ((⟨(nUv b p).1,bF (gS9 b p 100).1,C.1,I.1,bF (gF9 b p 100 100 200 100).1⟩:M.Op),(gF9 b p 100 100 200 100).2.1,true))=_
 cases h1:(nUv b p).2.2 with
 |false=>rfl
 |true=>
  cases h2:(gS9 b p 100).2.2 with
  |false=>rfl
  |true=>
   cases h3:(gK9 b p 100 100).2.2 with
   |false=>rfl
   |true=>
    cases h4:(gR9 b p 100 100 200).2.2 with
    |false=>rfl
    |true=>
     cases h5:(gF9 b p 100 100 200 100).2.2 with
     |false=>rfl
     |true=>
      have U:okB (gS9 b p 100).1/\(gS9 b p 100).1.length<=b.length:=B2 hb j h2
      have p3:okB (gK9 b p 100 100).1/\(gK9 b p 100 100).1.length<=b.length:=B2 hb j h3
      have p4:okB (gR9 b p 100 100 200).1/\(gR9 b p 100 100 200).1.length<=b.length:=B2 hb j h4
      have p5:okB (gF9 b p 100 100 200 100).1/\(gF9 b p 100 100 200 100).1.length<=b.length:=B2 hb j h5
      simp only[qB,qD,if_false,if_true]
      rw[Dc U.1.2,qA,Dc p5.1.2,qA,MJ p3.1 jD,qA,JR p4.1 jD,qA]
theorem doS{b:List Int}{x1:Int×Int×Bool}{N:Nat}(hb:okB b)(J:b.length<=1500000)(hN:N<=6)(hx:x1.1=(N:Int)):∀(j k m:Nat) (p:Int) (C:List M.Op),k+j=N->j<m->inI p->C.length=k->(∀x∈C,K1 x)->kZ b x1 m p (k:Int) C=some (ZN b (G5 b 100 100 200 100 j p C))
 |_,_,0,_,_,_,h,_,_,_=>by omega
 |0,k,m+1,p,C,hk,_,hp,ha,U=>by simp only[kZ,G5,ZN];rw[hx,if_neg jE,H5 jD U,qA,K7 (Qa _) hb,qA];cases eqL Cn (Gg C) b<;>rfl
 |j+1,k,m+1,p,C,hk,hm,hp,ha,U=>by
  simp only[kZ,G5]
  rw[hx,if_pos jE,Qj hb J hp,qA]
  cases h:op9 b p 100 100 200 100 with
  |none=>rfl
  |some x=>
   obtain⟨o,q⟩:=x
   obtain⟨k1,k2⟩:=Wf hb J h
   simp only[qB,qD,if_false]
   rw[eH jE,qA,bG jD]
   refine doS hb J hN hx j (k+1) m q _ jD jD k2 (by simp[ha]) (λy I=> ?_)
   rcases qP.1 I with I|I
   ·exact U y I
   ·rw[qQ.1 I];exact k1
theorem L0{b:List Int}(hb:okB b)(j:b.length<=1500000):tJ b=some (P5 b 100 100 200 100):=by
 unfold tJ P5
 rw[pX hb j Qv,qA]
 cases h:(nUv b 0).2.2 with
 |false=>rfl
 |true=>
  obtain⟨a,m,e,C,J,U,I,u5,u6⟩:=Di hb h
  rw[C]
  simp only[qB,qD,if_false,if_true]
  by_cases h6:(m:Int)>6
  ·rw[if_pos (by simpa using h6),if_pos h6]
  ·rw[if_neg (by simpa using h6),if_neg h6,qH];exact doS (x1:=((m:Int),(e:Int),true)) hb j (N:=m) jD rfl m 0 fuel (e:Int) [] jD jI (L5 I j) rfl (λ_ h=>absurd h jF)
theorem doI{b:List Int}{x1:Int×Int×Bool}{N:Nat}(hb:okB b)(J:b.length<=1500000)(hN:N<=6)(hx:x1.1=(N:Int)):∀(j k m:Nat) (p:Int) (I:List M.Op),k+j=N->j<m->I.length=k->(∀x∈I,K1 x)->fV b x1 m p (k:Int) I=some (ZN b (G5 b (b.length:Int) (b.length:Int) (b.length:Int) (b.length:Int) j p I))
 |_,_,0,_,_,_,h,_,_=>by omega
 |0,k,m+1,p,I,hk,_,ha,ho=>by simp only[fV,G5,ZN];rw[hx,if_neg jE,HW jD ho,qA,BS (Qa _),qA];cases eqL Cn (Gg I) b<;>rfl
 |j+1,k,m+1,p,I,hk,hm,ha,ho=>by
  have C:∀o q,op9 b p (b.length:Int) (b.length:Int) (b.length:Int) (b.length:Int)=some (o,q)->K1 o/\inI q:=λo q h=>Wf hb J h
  simp only[fV,G5]
  rw[hx,if_pos jE,pN hb J,qA]
  unfold op9 at C⊢
  cases h1:(nUv b p).2.2 with
  |false=>rfl
  |true=>
   rw[h1]at C
   simp only[if_true]at C⊢
   rw[uI hb J,qA]
   change (if(gS9 b p (b.length:Int)).2.2=true then(eB b (gS9 b p (b.length:Int)).2.1 (b.length:Int)).bind _ else _)=_
   cases h2:(gS9 b p (b.length:Int)).2.2 with
   |false=>rfl
   |true=>
    rw[h2]at C
    simp only[if_true]at C⊢
    rw[uI hb J,qA]
    change (if(gK9 b p (b.length:Int) (b.length:Int)).2.2=true then(eB b (gK9 b p (b.length:Int) (b.length:Int)).2.1 (b.length:Int)).bind _ else _)=_
    cases h3:(gK9 b p (b.length:Int) (b.length:Int)).2.2 with
    |false=>rfl
    |true=>
     rw[h3]at C
     simp only[if_true]at C⊢
     rw[uI hb J,qA]
     change (if(gR9 b p (b.length:Int) (b.length:Int) (b.length:Int)).2.2=true then(eB b (gR9 b p (b.length:Int) (b.length:Int) (b.length:Int)).2.1 (b.length:Int)).bind _ else _)=_
     cases h4:(gR9 b p (b.length:Int) (b.length:Int) (b.length:Int)).2.2 with
     |false=>rfl
     |true=>
      rw[h4]at C
      simp only[if_true]at C⊢
      rw[uI hb J,qA]
      change (if(!(gF9 b p (b.length:Int) (b.length:Int) (b.length:Int) (b.length:Int)).2.2)=true then _ else(toStr (gS9 b p (b.length:Int)).1).bind λaf=>(uP (gK9 b p (b.length:Int) (b.length:Int)).1).bind λaa=>(oD (gR9 b p (b.length:Int) (b.length:Int) (b.length:Int)).1).bind λae=>(toStr (gF9 b p (b.length:Int) (b.length:Int) (b.length:Int) (b.length:Int)).1).bind λah=>(app 96 I ([(⟨(nUv b p).1,bF (gS9 b p (b.length:Int)).1,aa.1,ae.1,bF (gF9 b p (b.length:Int) (b.length:Int) (b.length:Int) (b.length:Int)).1⟩:M.Op)])).bind λai=>fV b x1 m (gF9 b p (b.length:Int) (b.length:Int) (b.length:Int) (b.length:Int)).2.1 (i64.wrap ((k:Int)+1)) (I++[(⟨(nUv b p).1,bF (gS9 b p (b.length:Int)).1,aa.1,ae.1,bF (gF9 b p (b.length:Int) (b.length:Int) (b.length:Int) (b.length:Int)).1⟩:M.Op)]))=_
      cases h5:(gF9 b p (b.length:Int) (b.length:Int) (b.length:Int) (b.length:Int)).2.2 with
      |false=>rfl
      |true=>
       rw[h5]at C
       simp only[if_true]at C⊢
       have p2:okB (gS9 b p (b.length:Int)).1/\(gS9 b p (b.length:Int)).1.length<=b.length:=B2 hb J h2
       have p3:okB (gK9 b p (b.length:Int) (b.length:Int)).1/\(gK9 b p (b.length:Int) (b.length:Int)).1.length<=b.length:=B2 hb J h3
       have p4:okB (gR9 b p (b.length:Int) (b.length:Int) (b.length:Int)).1/\(gR9 b p (b.length:Int) (b.length:Int) (b.length:Int)).1.length<=b.length:=B2 hb J h4
       have p5:okB (gF9 b p (b.length:Int) (b.length:Int) (b.length:Int) (b.length:Int)).1/\(gF9 b p (b.length:Int) (b.length:Int) (b.length:Int) (b.length:Int)).1.length<=b.length:=B2 hb J h5
       obtain⟨k1,k2⟩:=C _ _ rfl
       simp only[qB,qD,if_false]
       rw[Dc p2.1.2,qA,MB p3.1 jD,qA,JF p4.1 jD,qA,Dc p5.1.2,qA,eH jE,qA,bG jD]
       refine doI hb J hN hx j (k+1) m _ _ jD jD (by simp[ha]) (λy U=> ?_)
       rcases qP.1 U with U|U
       ·exact ho y U
       ·rw[qQ.1 U];exact k1
theorem LQ{b:List Int}(hb:okB b)(j:b.length<=1500000):uE b=some (P5 b (b.length:Int) (b.length:Int) (b.length:Int) (b.length:Int)):=by
 unfold uE P5
 rw[pN hb j,qA]
 cases h:(nUv b 0).2.2 with
 |false=>rfl
 |true=>
  obtain⟨a,m,e,C,I,J,U,u5,u6⟩:=Di hb h
  rw[C]
  simp only[qB,qD,if_false,if_true]
  by_cases h6:(m:Int)>6
  ·rw[if_pos (by simpa using h6),if_pos h6]
  ·rw[if_neg (by simpa using h6),if_neg h6,qH];exact doI (x1:=((m:Int),(e:Int),true)) hb j (N:=m) jD rfl m 0 fuel (e:Int) [] jD jI rfl (λ_ h=>absurd h jF)
theorem Qn{b x y:List Int}{a:Nat}(h:b.drop a=x++y):b.drop (a+x.length)=y:=by rw[<-List.drop_drop,h,List.drop_left]
theorem M7{b s r:List Int}{a:Nat}{c:Int}(h:b.drop a=Gj s++r)(hc:(s.length:Int)<=c)(j:s.length<=1000000000000):nRb b (a:Int) c=(s,((a+(Gj s).length:Nat):Int),true)/\b.drop (a+(Gj s).length)=r:=by refine⟨?_,Qn h⟩;unfold Gj at h⊢;rw[qT]at h;rw[VG h hc j,qE,qy]
theorem Yr{b r:List Int}{a m:Nat}(h:b.drop a=uv m++r)(j:m<=1000000000000):nUv b (a:Int)=((m:Int),((a+(uv m).length:Nat):Int),true)/\b.drop (a+(uv m).length)=r:=⟨Sg h j,Qn h⟩
theorem Vt{b r:List Int}{a:Nat}{o:M.Op}{c1 c2 c3 c4:Int}(h:b.drop a=enO o++r)(C:nOp o=true)(h1:(o.aD.size:Int)<=c1)(h2:((enK o.Key).length:Int)<=c2)(h3:((enR o.aC).length:Int)<=c3)(h4:(o.Field.size:Int)<=c4):op9 b (a:Int) c1 c2 c3 c4=some ((⟨o.aJz,bF (bC o.aD),(QN (enK o.Key)).1,(PZ (enR o.aC)).1,bF (bC o.Field)⟩:M.Op),((a+(enO o).length:Nat):Int))/\b.drop (a+(enO o).length)=r:=by
 obtain⟨s1,s2,s3,s4,_⟩:=Bn C
 have I:=aR o.aD
 have k5:=aR o.Field
 have J:=JQ o.Key
 have U:=JM o.aC
 refine⟨?_,Qn h⟩
 have j:=h
 unfold enO at j
 simp only[qT]at j
 obtain⟨e1,d1⟩:=Yr j jD
 obtain⟨e2,d2⟩:=M7 (c:=c1) d1 jD jD
 obtain⟨e3,d3⟩:=M7 (c:=c2) d2 h2 jD
 obtain⟨e4,d4⟩:=M7 (c:=c3) d3 h3 jD
 obtain⟨e5,d5⟩:=M7 (c:=c4) d4 jD jD
 have f2:gS9 b (a:Int) c1=(bC o.aD,((a+(uv o.aJz.toNat).length+(Gj (bC o.aD)).length:Nat):Int),true):=by unfold gS9;rw[e1];exact e2
 have f3:gK9 b (a:Int) c1 c2=(enK o.Key,((a+(uv o.aJz.toNat).length+(Gj (bC o.aD)).length+(Gj (enK o.Key)).length:Nat):Int),true):=by unfold gK9;rw[f2];exact e3
 have f4:gR9 b (a:Int) c1 c2 c3=(enR o.aC,((a+(uv o.aJz.toNat).length+(Gj (bC o.aD)).length+(Gj (enK o.Key)).length+(Gj (enR o.aC)).length:Nat):Int),true):=by unfold gR9;rw[f3];exact e4
 have f5:gF9 b (a:Int) c1 c2 c3 c4=(bC o.Field,((a+(uv o.aJz.toNat).length+(Gj (bC o.aD)).length+(Gj (enK o.Key)).length+(Gj (enR o.aC)).length+(Gj (bC o.Field)).length:Nat):Int),true):=by unfold gF9;rw[f4];exact e5
 unfold op9
 rw[e1,f2,f3,f4,f5]
 simp only[if_true]
 rw[Int.toNat_of_nonneg jD]
 congr 3
 unfold enO
 simp only[qE]
 omega
theorem Xl{b:List Int}{p:Int}{x:M.Op×Int}(hb:okB b)(j:b.length<=1500000)(h:op9 b p 100 100 200 100=some x):op9 b p (b.length:Int) (b.length:Int) (b.length:Int) (b.length:Int)=some x:=by
 have mono:∀{p c:Int},(nRb b p c).2.2=true->nRb b p (b.length:Int)=nRb b p c:=λ{p c} h=>by have C:=B2 hb j h;exact XH hb (show nRb b p c=((nRb b p c).1,(nRb b p c).2.1,true)from by rw[<-h]) jD|>.trans (by rw[<-h])
 unfold op9 at h⊢
 split at h
 ·rename_i h1
  split at h
  ·rename_i h2
   split at h
   ·rename_i h3
    split at h
    ·rename_i h4
     split at h
     ·rename_i h5
      have f2:gS9 b p (b.length:Int)=gS9 b p 100:=mono h2
      have f3:gK9 b p (b.length:Int) (b.length:Int)=gK9 b p 100 100:=by unfold gK9;rw[f2];exact mono h3
      have f4:gR9 b p (b.length:Int) (b.length:Int) (b.length:Int)=gR9 b p 100 100 200:=by unfold gR9;rw[f3];exact mono h4
      have f5:gF9 b p (b.length:Int) (b.length:Int) (b.length:Int) (b.length:Int)=gF9 b p 100 100 200 100:=by unfold gF9;rw[f4];exact mono h5
      rw[f2,f3,f4,f5,if_pos h1,if_pos h2,if_pos h3,if_pos h4,if_pos h5]
      exact h
     ·cases h
    ·cases h
   ·cases h
  ·cases h
 ·cases h
theorem Pq{b:List Int}(hb:okB b)(I:b.length<=1500000):∀(j:Nat) (p:Int) (C l:List M.Op),G5 b 100 100 200 100 j p C=some l->G5 b (b.length:Int) (b.length:Int) (b.length:Int) (b.length:Int) j p C=some l
 |0,_,_,_,h=>h
 |j+1,p,C,l,h=>by
  simp only[G5]at h⊢
  cases e:op9 b p 100 100 200 100 with
  |none=>rw[e]at h;cases h
  |some x=>
   rw[Xl hb I e]
   rw[e]at h
   exact Pq hb I j _ _ l h
theorem QP{b:List Int}{c1 c2 c3 c4 d1 d2 d3 d4:Int}:∀(rest:List M.Op) (a:Nat) (j:List M.Op) (t:List Int),b.drop a=L2 enO rest++t->(∀o∈rest,nOp o=true/\(o.aD.size:Int)<=c1/\((enK o.Key).length:Int)<=c2/\((enR o.aC).length:Int)<=c3/\(o.Field.size:Int)<=c4/\(o.aD.size:Int)<=d1/\((enK o.Key).length:Int)<=d2/\((enR o.aC).length:Int)<=d3/\(o.Field.size:Int)<=d4)->G5 b c1 c2 c3 c4 rest.length (a:Int) j=G5 b d1 d2 d3 d4 rest.length (a:Int) j
 |[],_,_,_,_,_=>rfl
 |o::rest,a,j,t,h,I=>by obtain⟨C,U,g2,g3,g4,g5,g6,g7,g8⟩:=I o jF;rw[L2,qT]at h;obtain⟨e1,J⟩:=Vt h C U g2 g3 g4;obtain⟨e2,_⟩:=Vt h C g5 g6 g7 g8;simp only[qJ,G5];rw[e1,e2];exact QP rest _ _ t J (λx hx=>I x (by simp[hx]))
theorem S6{l:List M.Op}{b:List Int}(h:Gg l=b)(hb:b≠[]):b=uv l.length++L2 enO l/\(∀o∈l,nOp o=true)/\l.length<=6:=by unfold Gg at h;split at h;(rename_i h1;rw[qM,qL,qR]at h1;exact⟨h.symm,h1.1,h1.2⟩);·exact absurd h.symm hb
theorem Z9{b:List Int}{l:List M.Op}(h:b=uv l.length++L2 enO l):∀o∈l,o.aD.size<=b.length/\(enK o.Key).length<=b.length/\(enR o.aC).length<=b.length/\o.Field.size<=b.length:=by
 have h1:(L2 enO l).length<=b.length:=by rw[h,qE];omega
 have key:∀(l:List M.Op) (o:M.Op),o∈l->(enO o).length<=(L2 enO l).length:=by
  intro l
  induction l with
  |nil=>intro o j;cases j
  |cons x U C=>
   intro o j
   rw[L2,qE]
   rcases qp.1 j with rfl|j
   ·omega
   ·have:=C o j;omega
 intro o j
 have h2:=qg (key l o j) h1
 have I:=aR o.aD
 have J:=aR o.Field
 unfold enO Gj at h2
 simp only[qE]at h2
 omega
theorem XR{b:List Int}(hb:okB b)(hl:b.length<=1500000):P5 b (b.length:Int) (b.length:Int) (b.length:Int) (b.length:Int)=P5 b 100 100 200 100:=by
 unfold P5
 cases h:(nUv b 0).2.2 with
 |false=>simp only[qD,if_false]
 |true=>
  obtain⟨a,m,e,u1,u2,u3,u4,u5,u6⟩:=Di hb h
  obtain rfl:a=0:=by omega
  rw[List.drop_zero]at u6
  have I:b≠[]:=λh0=>by have:=congrArg List.length u6;have h2:=Jy m;rw[h0]at this;simp at this;omega
  rw[u1]
  dsimp only
  by_cases h6:(m:Int)>6
  ·rw[if_pos h6,if_pos h6]
  ·rw[if_neg h6,if_neg h6,qH,if_pos rfl,if_pos rfl]
   cases hS:G5 b 100 100 200 100 m (e:Int) []with
   |some l=>rw[Pq hb hl m _ _ l hS]
   |none=>
    cases hL:G5 b (b.length:Int) (b.length:Int) (b.length:Int) (b.length:Int) m (e:Int) []with
    |none=>rfl
    |some l=>
     simp only[ZN]
     rw[if_neg]
     rw[HF]
     intro he
     obtain⟨j,U,b3⟩:=S6 he I
     have pl:=Z9 j
     have hu:=Sg (b:=b) (a:=0) (by rw[List.drop_zero];exact j) (show l.length<=1000000000000 by omega)
     rw[show((0:Nat):Int)=0 from rfl,u1]at hu
     simp only[qa,qo]at hu
     obtain rfl:m=l.length:=by omega
     have C:e=(uv l.length).length:=by omega
     have hd:b.drop e=L2 enO l++[]:=by
      rw[qX,C]
      conv=>lhs;rw[j]
      exact List.drop_left
     have:=QP (c1:=100) (c2:=100) (c3:=200) (c4:=100) (d1:=(b.length:Int)) (d2:=(b.length:Int)) (d3:=(b.length:Int)) (d4:=(b.length:Int)) l e [] [] hd (λo J=>by have q1:=Bn (U o J);have q2:=JQ o.Key;have q3:=JM o.aC;have q4:=pl o J;exact⟨U o J,jD,jD,jD,jD,jD,jD,jD,jD⟩)
     rw[hS,hL]at this
     cases this
def FW(b:List Int):List M.Op×Bool:=P5 b 100 100 200 100
theorem MX{b:List Int}(hb:okB b)(j:b.length<=1500000):tJ b=some (FW b):=L0 hb j
theorem Mq{b:List Int}(hb:okB b)(j:b.length<=1500000):uE b=some (FW b):=by rw[LQ hb j,XR hb j];rfl
theorem TH{b:List Int}{c1 c2 c3 c4:Int}(hb:okB b)(U:b.length<=1500000):∀(j:Nat) (p:Int) (C l:List M.Op),G5 b c1 c2 c3 c4 j p C=some l->(∀x∈C,K1 x)->(∀x∈l,K1 x)
 |0,_,_,_,h,J=>by simp only[G5,qb]at h;rw[<-h];exact J
 |j+1,p,C,l,h,J=>by
  simp only[G5]at h
  cases e:op9 b p c1 c2 c3 c4 with
  |none=>rw[e]at h;cases h
  |some x=>
   obtain⟨o,q⟩:=x
   rw[e]at h
   refine TH hb U j q _ l h (λy I=> ?_)
   rcases qP.1 I with I|I
   ·exact J y I
   ·rw[qQ.1 I];exact(Wf hb U e).1
theorem LW{b:List Int}(hb:okB b)(hl:b.length<=1500000):(FW b).1.length<=6/\∀o∈(FW b).1,K1 o/\nOp o=true:=by
 have z:([]:List M.Op).length<=6/\∀o∈([]:List M.Op),K1 o/\nOp o=true:=⟨jF,λ_ h=>absurd h jF⟩
 unfold FW P5
 split
 ·rename_i h
  obtain⟨a,m,e,u1,u2,u3,u4,u5,I⟩:=Di hb h
  obtain rfl:a=0:=by omega
  rw[List.drop_zero]at I
  have j:b≠[]:=λh0=>by have:=congrArg List.length I;have h2:=Jy m;rw[h0]at this;simp at this;omega
  rw[u1]
  dsimp only
  split
  ·exact z
  ·cases hr:G5 b 100 100 200 100 (m:Int).toNat (e:Int) []with
   |none=>exact z
   |some l=>
    simp only[ZN]
    split
    ·rename_i he;rw[HF]at he;obtain⟨b1,J,U⟩:=S6 he j;exact⟨U,λo C=>⟨TH hb hl _ _ _ l hr (λ_ h=>absurd h jF) o C,J o C⟩⟩
    ·exact z
 ·exact z
theorem IM{i:Int}{l:List Int}(j:l.length<=1500000):xA i l=some (Jl ([101,i]++([(List.length l:Int)]++l.map i64.wrap))):=by unfold xA;rw[Gq j,qA,eH jE,qA,NO (by simp[maxLen];omega),qA]
theorem IK{i:Int}{l:List Int}(j:l.length<=1500000):yH i l=some (Jl ([101,i]++([(List.length l:Int)]++l.map i64.wrap))):=by unfold yH;rw[Gw j,qA,eH jE,qA,Nw (by simp[maxLen];omega),qA]
def Wu(i:Int)(l:List Int):Int:=Jl ([101,i]++([(List.length l:Int)]++l.map i64.wrap))
def OH(b:List Int):Nat->Int->List (List Int)->List (List Int)×Int
 |0,p,C=>(C,p)
 |j+1,p,C=>if(nRb b p 4000).2.2=true then if(nUv b (nRb b p 4000).2.1).2.2=true then if((nUv b (nRb b p 4000).2.1).1 !=Wu (C.length:Int) (nRb b p 4000).1)=true then(C,p)else OH b j (nUv b (nRb b p 4000).2.1).2.1 (C++[(nRb b p 4000).1])else(C,p)else(C,p)
def YA(b:List Int):List (List Int)×Int:=OH b (b.length+1) 0 []
theorem ZE{b:List Int}:nUv b (b.length:Int)=(0,0,false):=by unfold nUv;rw[if_neg jD,qH];unfold Rq;rw[qY jD]
theorem Vb{b:List Int}(hb:okB b)(I:b.length<=1500000):∀(j m a:Nat) (C:List (List Int)),b.length-a<j->j<=m->a<=b.length->C.length<=a->sG b m (a:Int) C=some (OH b j (a:Int) C)
 |0,_,_,_,h,_,_,_=>by omega
 |_+1,0,_,_,_,h,_,_=>by omega
 |j+1,m+1,a,C,hj,hm,ha,hc=>by
  simp only[sG,OH]
  by_cases hlt:a<b.length
  case neg=>
   obtain rfl:a=b.length:=by omega
   rw[if_neg jF]
   have:(nRb b (b.length:Int) 4000).2.2=false:=by unfold nRb;rw[ZE];rfl
   rw[this]
   rfl
  rw[if_pos jE,tH hb I (L5 ha I),qA]
  cases h1:(nRb b (a:Int) 4000).2.2 with
  |false=>rfl
  |true=>
   obtain⟨s,J,e1,r1,r2,r3,r4,r5,r6,r7,r8⟩:=Iu hb h1
   obtain rfl:a=J:=by omega
   rw[r1]
   simp only[qB,qD,if_false,if_true]
   rw[pX hb I (L5 r4 I),qA]
   cases h2:(nUv b (e1:Int)).2.2 with
   |false=>rfl
   |true=>
    obtain⟨U,v,e2,u1,u2,u3,u4,u5,u6⟩:=Di hb h2
    obtain rfl:e1=U:=by omega
    have g1:=Jy s.length
    have g2:=Jy v
    rw[u1]
    simp only[qB,qD,if_false,if_true]
    rw[IM jD,qA]
    show(if((v:Int) !=Wu (C.length:Int) s)=true then _ else _)=_
    split
    ·rfl
    ·rw[eH jE,qA];exact Vb hb I j m e2 _ jD jD u4 jE
theorem Ot{b:List Int}(hb:okB b)(j:b.length<=1500000):Cv b=some (YA b):=by unfold Cv YA;exact Vb hb j (b.length+1) fuel 0 [] jD jI jD jF
theorem VJ{b:List Int}(hb:okB b)(I:b.length<=1500000):∀(j m a:Nat) (C:List (List Int)),b.length-a<j->j<=m->a<=b.length->C.length<=a->sD b m (a:Int) C=some (OH b j (a:Int) C)
 |0,_,_,_,h,_,_,_=>by omega
 |_+1,0,_,_,_,h,_,_=>by omega
 |j+1,m+1,a,C,hj,hm,ha,hc=>by
  simp only[sD,OH]
  rw[uI hb I,qA]
  cases h1:(nRb b (a:Int) 4000).2.2 with
  |false=>rfl
  |true=>
   obtain⟨s,J,e1,r1,r2,r3,r4,r5,r6,r7,r8⟩:=Iu hb h1
   obtain rfl:a=J:=by omega
   rw[r1]
   simp only[qB,qD,if_false,if_true]
   rw[pN hb I,qA]
   cases h2:(nUv b (e1:Int)).2.2 with
   |false=>rfl
   |true=>
    obtain⟨U,v,e2,u1,u2,u3,u4,u5,u6⟩:=Di hb h2
    obtain rfl:e1=U:=by omega
    have g1:=Jy s.length
    have g2:=Jy v
    rw[u1]
    simp only[qB,qD,if_false,if_true]
    rw[IK jD,qA]
    show(if((v:Int) !=Wu (C.length:Int) s)=true then _ else _)=_
    split
    ·rfl
    ·rw[eH jE,qA];exact VJ hb I j m e2 _ jD jD u4 jE
theorem Ow{b:List Int}(hb:okB b)(j:b.length<=1500000):CG b=some (YA b):=by unfold CG YA;exact VJ hb j (b.length+1) fuel 0 [] jD jI jD jF
theorem T8{b:List Int}(hb:okB b):∀(j a:Nat) (C:List (List Int)),a<=b.length->C.length<=a->(∀l∈C,okB l/\l.length<=4000)->(OH b j (a:Int) C).1.length<=b.length/\∀l∈(OH b j (a:Int) C).1,okB l/\l.length<=4000
 |0,a,C,ha,hc,h=>⟨by simp only[OH];omega,h⟩
 |j+1,a,C,ha,hc,h=>by
  simp only[OH]
  split
  ·rename_i h1
   obtain⟨s,J,e1,r1,r2,r3,r4,r5,r6,r7,r8⟩:=Iu hb h1
   obtain rfl:a=J:=by omega
   rw[r1]
   dsimp only
   split
   ·rename_i h2
    obtain⟨U,v,e2,u1,u2,u3,u4,u5,u6⟩:=Di hb h2
    obtain rfl:e1=U:=by omega
    have g1:=Jy s.length
    rw[u1]
    dsimp only
    split
    ·exact⟨by dsimp only;omega,h⟩
    ·refine T8 hb j e2 _ u4 jE (λl I=> ?_);rcases qP.1 I with I|I;(exact h l I);·rw[qQ.1 I];exact⟨r8,jD⟩
   ·exact⟨by dsimp only;omega,h⟩
  ·exact⟨by dsimp only;omega,h⟩
theorem SB{b:List Int}(hb:okB b):(YA b).1.length<=b.length/\∀l∈(YA b).1,okB l/\l.length<=4000:=T8 hb (b.length+1) 0 [] jD jF (λ_ h=>absurd h jF)
