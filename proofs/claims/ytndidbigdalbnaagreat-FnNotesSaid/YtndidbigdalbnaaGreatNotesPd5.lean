/-
  Helper text. No conditions.
-/
import Derived.Test.YtndidbigdalbnaaGreatNotesPd4
set_option linter.all false
namespace Go.Proofs.YtndidbigdalbnaaGreat.gen
open Go Go.Sh
open Go.IntKind (i64)
theorem aIQ{b:List Int}{x1:Int×Int×Bool}{N:Nat}(hb:okB b)(I:b.length<=1500000)(hN:N<=6)(U:x1.1=N):∀(j k m:Nat) (p:Int) (C:List M.aR),k+j=N->j<m->C.length=k->(∀x∈C,M.aR.ok x)->iW b x1 m p k C=some (aFF b (UD b j p C))
 |_,_,0,_,_,_,h,_,_=>by omega
 |0,k,m+1,p,C,hk,_,ha,J=>by simp only[iW];rw[U,jG wV,F7 (Vq (n:=6) wg wg J),qA,xE (aBs _),qA];simp only[UD,aFF];cases eqL yK (enR ⟨C⟩) b<;>rfl
 |j+1,k,m+1,p,C,hk,hm,ha,J=>by
  simp only[iW,UD]
  rw[U,jF wV,zK hb I,qA,tU hb I,qA]
  cases h1:(nRb b p 8).2.2 with
  |false=>rfl
  |true=>
   obtain⟨s,a1,e1,r1,r2,r3,r4,r5,r6,r7,r8⟩:=HJ hb h1
   rw[r1]
   simp only[jH]
   cases h2:(nUv b e1).2.2 with
   |false=>rfl
   |true=>
    obtain⟨a2,v,e2,u1,u2,u3,u4,u5,u6⟩:=CR hb h2
    rw[u1]
    simp only[jH]
    rw[Dk r8.2,qA,dK wV,qA,bM wg]
    exact aIQ hb I hN U j (k+1) m e2 _ wg wg (by simp[ha]) (Vv J (R0 r8 u3))
theorem Kq{b:List Int}(hb:okB b)(I:b.length<=1500000):sB b=some (NM b):=by
 unfold sB NM
 rw[tU hb I,qA]
 cases h:(nUv b 0).2.2 with
 |false=>rfl
 |true=>
  obtain⟨a,m,e,u1,u2,u3,u4,u5,J⟩:=CR hb h
  rw[u1]
  simp only[qB,qD,jH,jI]
  by_cases h6:(m:Int)>6
  ·rw[jF (by simpa using h6),jF h6]
  ·have j:=aIQ (x1:=(m,e,true)) hb I (N:=m) wg rfl m 0 aJ e [] wg wG rfl (λ_ h=>absurd h wb)
   rw[show((0:Nat):Int)=0 from rfl]at j
   rw[jG wX,jG h6,qH,j]
   cases hr:UD b m e []with
   |none=>rfl
   |some o=>
    obtain⟨C,q⟩:=o
    obtain⟨l,e3,U,g2,g3,g4,g5,g6⟩:=RW hb m e [] C q hr u4
    subst U
    obtain rfl:a=0:=by omega
    simp only[aFF]
    by_cases hn:cV ⟨C⟩=true
    ·have hiff:(eqL yK (enR ⟨C⟩) b=true)↔(cV ⟨C⟩&&(q==b.length))=true:=by
      rw[Ge,hn,Bool.true_and,beq_iff_eq,g3]
      unfold enR
      rw[jF hn,g2]
      have hb2:b=uv m++(Gr enF C++b.drop e3):=by rw[<-g5];exact J
      constructor
      ·intro h;have:=congrArg List.length h;have h3:=congrArg List.length hb2;simp only[qE,qW]at this h3;omega
      ·intro h;rw[hb2,List.drop_eq_nil_of_le wg,qY]
     by_cases j:eqL yK (enR ⟨C⟩) b=true
     ·rw[jF j,jF (hiff.1 j)]
     ·rw[jG j,jG (λh=>j (hiff.2 h))]
    ·rw[jG,jG (by simp[hn])];rw[Ge];unfold enR;rw[jG hn];intro h0;have:=congrArg List.length J;have h2:=HA m;rw[<-h0]at this;simp at this;omega
theorem aAZ{b:List Int}(hb:okB b):(NM b).1.ok/\M.aF.sz (NM b).1<=60:=by have j:M.aF.ok ⟨[]⟩/\M.aF.sz ⟨[]⟩<=60:=⟨Vq (n:=0) wb wg (λ_ h=>absurd h wb),by simp[M.aF.sz,dO]⟩;unfold NM;split;(rename_i h;obtain⟨a,m,e,u1,u2,u3,u4,u5,u6⟩:=CR hb h;rw[u1];split;(exact j);·split;(exact j);·rename_i C q hr;split;(rename_i I;rw[qM]at I;obtain⟨l,e3,J,g2,g3,g4,g5,U⟩:=RW hb _ e [] C q hr u4;subst J;obtain⟨n6,nf⟩:=vT I.1;refine⟨Vq n6 wg U,?_⟩;have:=eN (w:=M.aR.sz) (b:=8) (xs:=C) (λx hx=>by have:=(nf x hx).1;simp only[M.aR.sz];omega);simp only[M.aF.sz];omega);·exact j);·exact j
def Kb(o:M.fA):Prop:=inI o.aKx/\o.aD.size<=maxLen/\o.Key.ok/\o.aF.ok/\o.Field.size<=maxLen
def nOp(o:M.fA):Bool:=inR o.aKx 1 6&&(oO o.aD&&(((o.aKx==5)||Ec o.Key)&&(cV o.aF&&(if(o.aKx==6)=true then oO o.Field else o.Field.toList==(⟨#[]⟩:ByteArray).toList))))
theorem Od{o:M.fA}(h:Kb o):EA o=some (nOp o):=by unfold EA nOp;simp only[cO,dX h.2.1,oM h.2.2.1,tP h.2.2.2.1,dX h.2.2.2.2];grind
theorem OB{o:M.fA}(h:Kb o):Ek o=some (nOp o):=by unfold Ek nOp;simp only[bX,dG h.2.1,sZ h.2.2.1,AJ h.2.2.2.1,dG h.2.2.2.2];grind
def enO(o:M.fA):List Int:=uv o.aKx.toNat++(CJ (bF o.aD)++(CJ (enK o.Key)++(CJ (enR o.aF)++CJ (bF o.Field))))
def Be(l:List M.fA):List Int:=if(l.all nOp&&decide (l.length<=6))=true then uv l.length++Gr enO l else[]
theorem bsize{a b:ByteArray}(h:a.toList=b.toList):a.size=b.size:=by rw[ByteArray.toList_eq,ByteArray.toList_eq]at h;have:=congrArg List.length h;exact this
theorem Wm{s:ByteArray}(h:(s.toList==(⟨#[]⟩:ByteArray).toList)=true):s.size=0:=bsize (eq_of_beq h)
theorem BF{o:M.fA}(h:nOp o=true):1<=o.aKx/\o.aKx<=6/\o.aD.size<=8/\o.Field.size<=8/\cV o.aF=true:=by
 unfold nOp inR at h
 simp only[qM,qL]at h
 obtain⟨h1,h2,_,h4,h5⟩:=h
 have C:∀s:ByteArray,oO s=true->s.size<=8:=λs j=>by unfold oO inR at j;grind
 refine⟨h1.1,h1.2,C _ h2,?_,h4⟩
 split at h5
 ·simp_all
 ·rw[Wm h5];omega
theorem IL{b:List Int}{n:Nat}(h:b.length<=n)(j:n<=127):(CJ b).length<=n+1:=by have:=E5 0 b.length wg;unfold CJ;rw[qE];omega
theorem RR{o:M.fA}(h:nOp o=true):(enO o).length<=130:=by obtain⟨h1,h2,h3,h4,_⟩:=BF h;have e1:=E5 0 o.aKx.toNat wg;have e2:=IL (b:=bF o.aD) (n:=8) (by rw[aP];exact h3) wg;have e3:=IL (I8 o.Key) wg;have e4:=IL (I0 o.aF) wg;have e5:=IL (b:=bF o.Field) (n:=8) (by rw[aP];exact h4) wg;unfold enO;grind
theorem aBU{o:M.fA}(C:Kb o)(h:nOp o=true){q:List Int}(hq:q.length<=900000){α:Type}(K:List Int->Option α):((cK q o.aKx).bind λI=>(cJ I (bF o.aD)).bind λJ=>(mT o.Key).bind λU=>(cJ J U).bind λah=>(hJ o.aF).bind λai=>(cJ ah ai).bind λaj=>(cJ aj (bF o.Field)).bind λak=>K ak)=K (q++enO o):=by obtain⟨h1,h2,h3,h4,_⟩:=BF h;have j:=pS (r:=q) (n:=o.aKx.toNat) wg wg;rw[jT wg]at j;have l1:=E5 0 o.aKx.toNat wg;have l2:=IL (b:=bF o.aD) (n:=8) (by rw[aP];exact h3) wg;have l3:=IL (I8 o.Key) wg;have l4:=IL (I0 o.aF) wg;have k2:=aP o.aD;have k5:=aP o.Field;have k3:=I8 o.Key;have k4:=I0 o.aF;rw[j,qA,uH wa wg,qA,NO C.2.2.1,qA,uH wa wg,qA,Kw C.2.2.2.1,qA,uH wa wg,qA,uH wa wg,qA];unfold enO;simp only[qT]
theorem eoS{l:List M.fA}(C:l.length<=1000)(j:∀o∈l,Kb o):∀(n k:Nat) (q:List Int),l.length-k<n->k<=l.length->q.length<=20+130*k->sD l n k q=some (if(l.drop k).all nOp=true then if l.length>6 then[]else q++Gr enO (l.drop k)else[])
 |0,_,_,h,_,_=>by omega
 |n+1,k,q,I,hk,J=>by
  simp only[sD]
  rcases jS k l.length with hlt|hge
  ·rw[jF (bE hlt),aK hlt,qA,Od (j _ (qG hlt)),qA,qX hlt,List.all_cons]
   cases h:nOp l[k]with
   |false=>
    rfl
   |true=>
    simp only[qB,qD,jH,Bool.true_and]
    have U:=RR h
    rw[aBU (j _ (qG hlt)) h wg,bM wg,eoS C j n (k+1) _ wg wg wS,Gr,qT]
  ·have e:k=l.length:=by omega
   subst e
   rw[jG wb,qa]
   simp only[List.all_nil,jI,Gr,qY]
   by_cases h6:l.length>6
   ·rw[jF wV,jF h6]
   ·rw[jG wV,jG h6]
theorem Iq{l:List M.fA}(j:l.length<=1000)(C:∀o∈l,Kb o):yT l=some (Be l):=by
 have h9:=FV (n:=l.length) wg
 unfold yT Be
 rw[pS wb wg,qA,jP]
 have e:=eoS j C aJ 0 (uv l.length) wG wg wg
 rw[List.drop_zero]at e
 refine Eq.trans e ?_
 cases l.all nOp with
 |false=>rfl
 |true=>
  by_cases h6:l.length>6
  ·rw[jF rfl,jF h6,jG wV]
  ·rw[jF rfl,jG h6,jF wV]
theorem QX{l:List M.fA}(I:l.length<=1000)(j:∀o∈l,Kb o):DH l=some (l.all nOp&&decide (l.length<=6)):=by
 have key:∀(n k:Nat),l.length-k<n->k<=l.length->zJ l n k=some ((l.drop k).all nOp&&decide (l.length<=6)):=by
  intro n
  induction n with
  |zero=>simp
  |succ n C=>
   intro k J hk
   simp only[zJ]
   rcases jS k l.length with hlt|hge
   ·rw[jF (bE hlt),aK hlt,qA,OB (j _ (qG hlt)),qA,qX hlt,List.all_cons]
    cases h:nOp l[k]with
    |false=>rfl
    |true=>
     simp only[qB,qD,jH,Bool.true_and]
     rw[bM wg,C (k+1) wg wg]
   ·have e:k=l.length:=by omega
    subst e
    rw[jG wb,qa,List.all_nil,Bool.true_and]
    congr 1
    rw[decide_eq_decide]
    omega
 unfold DH
 exact key aJ 0 wG wg
theorem Ig{l:List M.fA}(hl:l.length<=1000)(ho:∀o∈l,Kb o):zS l=some (Be l):=by
 unfold zS Be
 rw[QX hl ho,qA]
 cases h:(l.all nOp&&decide (l.length<=6))with
 |false=>rfl
 |true=>
  rw[qM,qL,qR]at h
  have h9:=FV (n:=l.length) wg
  simp only[qB,qD,jH]
  rw[pT wb wg,qA,jP]
  have:=Pq (xs:=l) (f:=enO) (c:=130) (B:=10000) (L:=fF l) (E:=some) (λo I=>RR (h.1 o I)) (λn k hk q hq=> ?_) (λn q _=> ?_) aJ 0 (uv l.length) wG wg wg
  ·exact this
  ·have C:=ho _ (qG hk)
   obtain⟨h1,h2,h3,h4,_⟩:=BF (h.1 _ (qG hk))
   have e0:=pT (r:=q) (n:=l[k].aKx.toNat) wg wg
   rw[jT wg]at e0
   have l1:=E5 0 l[k].aKx.toNat wg
   have k2:=aP l[k].aD
   have k5:=aP l[k].Field
   have k3:=I8 l[k].Key
   have k4:=I0 l[k].aF
   simp only[fF]
   rw[jF (bE hk),aK hk,qA,e0,qA,E8 C.2.2.1,qA,F7 C.2.2.2.1,qA]
   have hp:∀x∈[bF l[k].aD,enK l[k].Key,enR l[k].aF,bF l[k].Field],x.length<=85:=λx I=>by grind
   have J:=Pq (L:=kU l[k] (enK l[k].Key) (enR l[k].aF) (λaa r5=>fF l n (i64.wrap (k+1)) r5)) (xs:=[bF l[k].aD,enK l[k].Key,enR l[k].aF,bF l[k].Field]) (f:=CJ) (c:=86) (B:=20000) (E:=λU=>fF l n (i64.wrap (k+1)) U) (λx I=>IL (hp x I) wg) (λn' k' j U hq'=> ?_) (λn' U _=> ?_) aJ 0 (q++uv l[k].aKx.toNat) (by unfold aJ;simp) wb wa
   ·refine Eq.trans J ?_;rw[bM wg];simp only[List.drop_zero,Gr,enO,qY,qT]
   ·have I:=hp _ (qG j);simp only[kU];rw[jF (by simp only[qJ,qK]at j;rw[qL];omega),aK j,qA,DP wg wg,qA,bM (n:=k') (by simp only[qJ,qK]at j;omega)]
   ·rfl
  ·simp only[fF];rw[jG wb]
theorem RL(l:List M.fA):okB (Be l):=by unfold Be;split;(rename_i h;rw[qM,qL,qR]at h;have h1:=RM (f:=enO) (λo I=>RR (h.1 o I));have h9:=FV (n:=l.length) wg;refine⟨?_,λy C=> ?_⟩;(rw[qE];exact qh (m:=2000) wg wD);·rcases qP.1 C with C|C;(exact Kk _ y C);·refine RU (λo _ z j=> ?_) y C;unfold enO at j;simp only[qP]at j;rcases j with j|j|j|j|j;(exact Kk _ z j);(exact HK (FC _) z j);(exact HK (YX _).2 z j);(exact HK (aBs _).2 z j);·exact HK (FC _) z j);·exact⟨wb,λ_ h=>absurd h wb⟩
def gS9(b:List Int)(p c1:Int):=nRb b (nUv b p).2.1 c1
def gK9(b:List Int)(p c1 c2:Int):=nRb b (gS9 b p c1).2.1 c2
def gR9(b:List Int)(p c1 c2 c3:Int):=nRb b (gK9 b p c1 c2).2.1 c3
def gF9(b:List Int)(p c1 c2 c3 c4:Int):=nRb b (gR9 b p c1 c2 c3).2.1 c4
def op9(b:List Int)(p c1 c2 c3 c4:Int):Option (M.fA×Int):=if(nUv b p).2.2=true then if(gS9 b p c1).2.2=true then if(gK9 b p c1 c2).2.2=true then if(gR9 b p c1 c2 c3).2.2=true then if(gF9 b p c1 c2 c3 c4).2.2=true then some (⟨(nUv b p).1,bL (gS9 b p c1).1,(PH (gK9 b p c1 c2).1).1,(NM (gR9 b p c1 c2 c3).1).1,bL (gF9 b p c1 c2 c3 c4).1⟩,(gF9 b p c1 c2 c3 c4).2.1)else none else none else none else none else none
def GZ(b:List Int)(c1 c2 c3 c4:Int):Nat->Int->List M.fA->Option (List M.fA)
 |0,_,C=>some C
 |j+1,p,C=>match op9 b p c1 c2 c3 c4 with
  |none=>none
  |some (o,q)=>GZ b c1 c2 c3 c4 j q (C++[o])
def aAz(b:List Int)(o:Option (List M.fA)):List M.fA×Bool:=match o with
 |none=>([],false)
 |some l=>if eqL yK (Be l) b=true then(l,true)else([],false)
def O3(b:List Int)(c1 c2 c3 c4:Int):List M.fA×Bool:=if(nUv b 0).2.2=true then if(nUv b 0).1>6 then([],false)else aAz b (GZ b c1 c2 c3 c4 (nUv b 0).1.toNat (nUv b 0).2.1 [])else([],false)
theorem aCu{b:List Int}{p:Int}(hb:okB b)(j:b.length<=1500000):inI (nUv b p).2.1:=by
 cases h:(nUv b p).2.2 with
 |false=>rw[aD7 h];exact yH
 |true=>
  obtain⟨a,m,e,C,I,u3,u4,_⟩:=CR hb h
  rw[C]
  exact M1 u4 j
theorem Rk{b:List Int}{p c:Int}(hb:okB b)(j:b.length<=1500000):inI (nRb b p c).2.1:=by
 cases h:(nRb b p c).2.2 with
 |false=>rw[aEH h];exact yH
 |true=>
  obtain⟨s,a,e,C,J,U,I,_⟩:=HJ hb h
  rw[C]
  exact M1 I j
theorem Cz{b:List Int}{p c:Int}(hb:okB b)(j:b.length<=1500000)(h:(nRb b p c).2.2=true):okB (nRb b p c).1/\(nRb b p c).1.length<=b.length:=by obtain⟨s,a,e,C,I,J,U,r5,r6,r7,r8⟩:=HJ hb h;grind
theorem aBw{c n:Int}{t:List Int}(h:M.bD.ok ⟨c,n,bL t⟩):(mkK c n t).1.ok:=by unfold mkK;split;(exact h);·exact⟨yH,yH,sz0⟩
theorem aBE{b:List Int}(hb:okB b):(PH b).1.ok:=by
 have z:Ut.ok:=⟨yH,yH,sz0⟩
 unfold PH
 split
 ·exact z
 ·rename_i c t
  have hc:=hb.2 c wb
  have I:∀x∈t,0<=x/\x<=255:=λx C=>hb.2 x (by simp[C])
  have j:t.length<=maxLen:=by have:=hb.1;rw[qJ]at this;omega
  split
  ·exact aBw (Qb hc wg j)
  ·split
   ·exact z
   ·obtain⟨w,e,U⟩:=aFP (t:=t.take 6) (λx C=>I x (qk C)) 0 0 we
    have h6:0+8*(t.take 6).length<=48:=by rw[qV];omega
    have h7:(2:Int)^(0+8*(t.take 6).length)<=2^48:=by have:=Nat.pow_le_pow_right (n:=2) we h6;exact_mod_cast this
    have J:(t.take 6).foldl TV 0=w:=e
    refine aBw (Qb hc wg (qh wQ j))
theorem YR{b:List Int}{p c1 c2 c3 c4 q:Int}{o:M.fA}(hb:okB b)(j:b.length<=1500000)(h:op9 b p c1 c2 c3 c4=some (o,q)):Kb o/\inI q:=by unfold op9 at h;split at h;(rename_i h1;split at h;(rename_i h2;split at h;(rename_i h3;split at h;(rename_i h4;split at h;(rename_i h5;simp only[qc,qb]at h;obtain⟨a,m,e,u1,u2,u3,_⟩:=CR hb h1;have C:=Cz hb j h2;have I:=Cz hb j h3;have J:=Cz hb j h4;have U:=Cz hb j h5;rw[<-h.1,<-h.2];refine⟨⟨?_,?_,aBE I.1,(aAZ J.1).1,?_⟩,Rk hb j⟩;(show inI (nUv b p).1;rw[u1];unfold inI;omega);(rw[FD];exact C.1.1);·rw[FD];exact U.1.1);·cases h);·cases h);·cases h);·cases h);·cases h
theorem RX{b:List Int}{p:Int}(hb:okB b)(j:b.length<=1500000)(J:inI p):DC b p=some (match op9 b p 100 100 200 100 with
  |none=>(⟨0,⟨#[]⟩,⟨0,0,⟨#[]⟩⟩,⟨[]⟩,⟨#[]⟩⟩,0,false)
  |some (o,q)=>(o,q,true)):=by
 unfold DC op9
 rw[uJ hb j J,qA,yP hb j (aCu hb j),qA]
 show(eS b (gS9 b p 100).2.1 100).bind _=_
 rw[yP hb j (show inI (gS9 b p 100).2.1 from Rk hb j),qA]
 show(eS b (gK9 b p 100 100).2.1 200).bind _=_
 rw[yP hb j (show inI (gK9 b p 100 100).2.1 from Rk hb j),qA]
 show(eS b (gR9 b p 100 100 200).2.1 100).bind _=_
 rw[yP hb j (show inI (gR9 b p 100 100 200).2.1 from Rk hb j),qA]
 change (if(!(nUv b p).2.2)=true then _ else if(!(gS9 b p 100).2.2)=true then _ else if(!(gK9 b p 100 100).2.2)=true then _ else if(!(gR9 b p 100 100 200).2.2)=true then _ else if(!(gF9 b p 100 100 200 100).2.2)=true then _ else(toStr (gS9 b p 100).1).bind λaf=>(toStr (gF9 b p 100 100 200 100).1).bind λah=>(yS (gK9 b p 100 100).1).bind λC=>(sN (gR9 b p 100 100 200).1).bind λI=>some ((⟨(nUv b p).1,bL (gS9 b p 100).1,C.1,I.1,bL (gF9 b p 100 100 200 100).1⟩:M.fA),(gF9 b p 100 100 200 100).2.1,true))=_
 cases h1:(nUv b p).2.2 with
 |false=>rfl
 |true=>
  cases h2:(gS9 b p 100).2.2 with
  |false=>rfl
  |true=>
   cases h3:(gK9 b p 100 100).2.2 with
   |false=>rfl
   |true=>
    cases h4:(gR9 b p 100 100 200).2.2 with
    |false=>rfl
    |true=>
     cases h5:(gF9 b p 100 100 200 100).2.2 with
     |false=>rfl
     |true=>
      have U:okB (gS9 b p 100).1/\(gS9 b p 100).1.length<=b.length:=Cz hb j h2
      have p3:okB (gK9 b p 100 100).1/\(gK9 b p 100 100).1.length<=b.length:=Cz hb j h3
      have p4:okB (gR9 b p 100 100 200).1/\(gR9 b p 100 100 200).1.length<=b.length:=Cz hb j h4
      have p5:okB (gF9 b p 100 100 200 100).1/\(gF9 b p 100 100 200 100).1.length<=b.length:=Cz hb j h5
      simp only[qB,qD,jH,jI]
      rw[Dk U.1.2,qA,Dk p5.1.2,qA,NG p3.1 wg,qA,KA p4.1 wg,qA]
theorem doS{b:List Int}{x1:Int×Int×Bool}{N:Nat}(hb:okB b)(I:b.length<=1500000)(hN:N<=6)(J:x1.1=N):∀(j k m:Nat) (p:Int) (C:List M.fA),k+j=N->j<m->inI p->C.length=k->(∀x∈C,Kb x)->nJ b x1 m p k C=some (aAz b (GZ b 100 100 200 100 j p C))
 |_,_,0,_,_,_,h,_,_,_=>by omega
 |0,k,m+1,p,C,hk,_,hp,U,ho=>by simp only[nJ,GZ,aAz];rw[J,jG wV,Iq wg ho,qA,Me (RL _) hb,qA];cases eqL yK (Be C) b<;>rfl
 |j+1,k,m+1,p,C,hk,hm,hp,U,ho=>by
  simp only[nJ,GZ]
  rw[J,jF wV,RX hb I hp,qA]
  cases h:op9 b p 100 100 200 100 with
  |none=>rfl
  |some x=>
   obtain⟨o,q⟩:=x
   obtain⟨k1,k2⟩:=YR hb I h
   simp only[qD]
   rw[dK wV,qA,bM wg]
   refine doS hb I hN J j (k+1) m q _ wg wg k2 (by simp[U]) (λy hy=> ?_)
   grind
theorem MW{b:List Int}(hb:okB b)(j:b.length<=1500000):yR b=some (O3 b 100 100 200 100):=by
 unfold yR O3
 rw[uJ hb j yH,qA]
 cases h:(nUv b 0).2.2 with
 |false=>rfl
 |true=>
  obtain⟨a,m,e,C,I,u3,u4,J,U⟩:=CR hb h
  rw[C]
  simp only[qB,qD,jH,jI]
  by_cases h6:(m:Int)>6
  ·rw[jF (by simpa using h6),jF h6]
  ·rw[jG wX,jG h6,qH];exact doS (x1:=(m,e,true)) hb j (N:=m) wg rfl m 0 aJ e [] wg wG (M1 u4 j) rfl (λ_ h=>absurd h wb)
theorem doI{b:List Int}{x1:Int×Int×Bool}{N:Nat}(hb:okB b)(J:b.length<=1500000)(hN:N<=6)(U:x1.1=N):∀(j k m:Nat) (p:Int) (C:List M.fA),k+j=N->j<m->C.length=k->(∀x∈C,Kb x)->hH b x1 m p k C=some (aAz b (GZ b b.length b.length b.length b.length j p C))
 |_,_,0,_,_,_,h,_,_=>by omega
 |0,k,m+1,p,C,hk,_,ha,ho=>by simp only[hH,GZ,aAz];rw[U,jG wV,Ig wg ho,qA,xE (RL _),qA];cases eqL yK (Be C) b<;>rfl
 |j+1,k,m+1,p,C,hk,hm,ha,ho=>by
  have I:∀o q,op9 b p b.length b.length b.length b.length=some (o,q)->Kb o/\inI q:=λo q h=>YR hb J h
  simp only[hH,GZ]
  rw[U,jF wV,tU hb J,qA]
  unfold op9 at I⊢
  cases h1:(nUv b p).2.2 with
  |false=>rfl
  |true=>
   rw[h1]at I
   rw[zK hb J,qA]
   change (if(gS9 b p b.length).2.2=true then(eQ b (gS9 b p b.length).2.1 b.length).bind _ else _)=_
   cases h2:(gS9 b p b.length).2.2 with
   |false=>rfl
   |true=>
    rw[h2]at I
    rw[zK hb J,qA]
    change (if(gK9 b p b.length b.length).2.2=true then(eQ b (gK9 b p b.length b.length).2.1 b.length).bind _ else _)=_
    cases h3:(gK9 b p b.length b.length).2.2 with
    |false=>rfl
    |true=>
     rw[h3]at I
     rw[zK hb J,qA]
     change (if(gR9 b p b.length b.length b.length).2.2=true then(eQ b (gR9 b p b.length b.length b.length).2.1 b.length).bind _ else _)=_
     cases h4:(gR9 b p b.length b.length b.length).2.2 with
     |false=>rfl
     |true=>
      rw[h4]at I
      rw[zK hb J,qA]
      change (if(!(gF9 b p b.length b.length b.length b.length).2.2)=true then _ else(toStr (gS9 b p b.length).1).bind λaf=>(zQ (gK9 b p b.length b.length).1).bind λaa=>(sB (gR9 b p b.length b.length b.length).1).bind λae=>(toStr (gF9 b p b.length b.length b.length b.length).1).bind λah=>(app 96 C ([⟨(nUv b p).1,bL (gS9 b p b.length).1,aa.1,ae.1,bL (gF9 b p b.length b.length b.length b.length).1⟩])).bind λai=>hH b x1 m (gF9 b p b.length b.length b.length b.length).2.1 (i64.wrap (k+1)) (C++[⟨(nUv b p).1,bL (gS9 b p b.length).1,aa.1,ae.1,bL (gF9 b p b.length b.length b.length b.length).1⟩]))=_
      cases h5:(gF9 b p b.length b.length b.length b.length).2.2 with
      |false=>rfl
      |true=>
       rw[h5]at I
       have p2:okB (gS9 b p b.length).1/\(gS9 b p b.length).1.length<=b.length:=Cz hb J h2
       have p3:okB (gK9 b p b.length b.length).1/\(gK9 b p b.length (b.length:Int)).1.length<=b.length:=Cz hb J h3
       have p4:okB (gR9 b p (b.length:Int) (b.length:Int) (b.length:Int)).1/\(gR9 b p (b.length:Int) (b.length:Int) (b.length:Int)).1.length<=b.length:=Cz hb J h4
       have p5:okB (gF9 b p (b.length:Int) (b.length:Int) (b.length:Int) (b.length:Int)).1/\(gF9 b p (b.length:Int) (b.length:Int) (b.length:Int) (b.length:Int)).1.length<=b.length:=Cz hb J h5
       simp only[qB,qD]
       rw[Dk p2.1.2,qA,Nz p3.1 wg,qA,Kq p4.1 wg,qA,Dk p5.1.2,qA,dK wV,qA,bM wg]
       refine doI hb J hN U j (k+1) m _ _ wg wg (by simp[ha]) (λy hy=> ?_)
       grind
theorem MO{b:List Int}(hb:okB b)(j:b.length<=1500000):zH b=some (O3 b b.length b.length b.length b.length):=by
 unfold zH O3
 rw[tU hb j,qA]
 cases h:(nUv b 0).2.2 with
 |false=>rfl
 |true=>
  obtain⟨a,m,e,C,I,u3,u4,J,U⟩:=CR hb h
  rw[C]
  simp only[qB,qD,jH,jI]
  by_cases h6:(m:Int)>6
  ·rw[jF (by simpa using h6),jF h6]
  ·rw[jG wX,jG h6,qH];exact doI (x1:=(m,e,true)) hb j (N:=m) wg rfl m 0 aJ e [] wg wG rfl (λ_ h=>absurd h wb)
theorem R6{b x y:List Int}{a:Nat}(h:b.drop a=x++y):b.drop (a+x.length)=y:=by rw[<-List.drop_drop,h,List.drop_left]
theorem H4{b s r:List Int}{a:Nat}{c:Int}(h:b.drop a=CJ s++r)(hc:s.length<=c)(j:s.length<=1000000000000):nRb b a c=(s,((a+(CJ s).length:Nat):Int),true)/\b.drop (a+(CJ s).length)=r:=by refine⟨?_,R6 h⟩;unfold CJ at h⊢;rw[qT]at h;rw[Yg h hc j,qE,jA]
theorem JQ{b r:List Int}{a m:Nat}(h:b.drop a=uv m++r)(j:m<=1000000000000):nUv b a=((m:Int),((a+(uv m).length:Nat):Int),true)/\b.drop (a+(uv m).length)=r:=⟨Ue h j,R6 h⟩
theorem T9{b r:List Int}{a:Nat}{o:M.fA}{c1 c2 c3 c4:Int}(h:b.drop a=enO o++r)(C:nOp o=true)(h1:o.aD.size<=c1)(h2:((enK o.Key).length)<=c2)(h3:((enR o.aF).length)<=c3)(h4:o.Field.size<=c4):op9 b a c1 c2 c3 c4=some (⟨o.aKx,bL (bF o.aD),(PH (enK o.Key)).1,(NM (enR o.aF)).1,bL (bF o.Field)⟩,((a+(enO o).length:Nat):Int))/\b.drop (a+(enO o).length)=r:=by
 obtain⟨s1,s2,s3,s4,_⟩:=BF C
 have I:=aP o.aD
 have k5:=aP o.Field
 have J:=I8 o.Key
 have U:=I0 o.aF
 refine⟨?_,R6 h⟩
 have j:=h
 unfold enO at j
 simp only[qT]at j
 obtain⟨e1,d1⟩:=JQ j wg
 obtain⟨e2,d2⟩:=H4 (c:=c1) d1 wg wg
 obtain⟨e3,d3⟩:=H4 (c:=c2) d2 h2 wg
 obtain⟨e4,d4⟩:=H4 (c:=c3) d3 h3 wg
 obtain⟨e5,d5⟩:=H4 (c:=c4) d4 wg wg
 have f2:gS9 b a c1=(bF o.aD,((a+(uv o.aKx.toNat).length+(CJ (bF o.aD)).length):Int),true):=by unfold gS9;simp_all
 have f3:gK9 b a c1 c2=(enK o.Key,((a+(uv o.aKx.toNat).length+(CJ (bF o.aD)).length+(CJ (enK o.Key)).length):Int),true):=by unfold gK9;simp_all
 have f4:gR9 b a c1 c2 c3=(enR o.aF,((a+(uv o.aKx.toNat).length+(CJ (bF o.aD)).length+(CJ (enK o.Key)).length+(CJ (enR o.aF)).length):Int),true):=by unfold gR9;simp_all
 have f5:gF9 b a c1 c2 c3 c4=(bF o.Field,((a+(uv o.aKx.toNat).length+(CJ (bF o.aD)).length+(CJ (enK o.Key)).length+(CJ (enR o.aF)).length+(CJ (bF o.Field)).length):Int),true):=by unfold gF9;simp_all
 unfold op9
 rw[e1,f2,f3,f4,f5]
 simp only[jI]
 rw[jT wg]
 congr 3
 unfold enO
 simp only[qE]
 omega
theorem ZY{b:List Int}{p:Int}{x:M.fA×Int}(hb:okB b)(j:b.length<=1500000)(h:op9 b p 100 100 200 100=some x):op9 b p b.length b.length b.length b.length=some x:=by
 have mono:∀{p c:Int},(nRb b p c).2.2=true->nRb b p b.length=nRb b p c:=λ{p c} h=>by have C:=Cz hb j h;exact aAW hb (show nRb b p c=((nRb b p c).1,(nRb b p c).2.1,true)from by rw[<-h]) wg|>.trans (by rw[<-h])
 unfold op9 at h⊢
 split at h
 ·rename_i h1
  split at h
  ·rename_i h2
   split at h
   ·rename_i h3
    split at h
    ·rename_i h4
     split at h
     ·rename_i h5
      have f2:gS9 b p b.length=gS9 b p 100:=mono h2
      have f3:gK9 b p b.length b.length=gK9 b p 100 100:=by unfold gK9;rw[f2];exact mono h3
      have f4:gR9 b p b.length b.length b.length=gR9 b p 100 100 200:=by unfold gR9;rw[f3];exact mono h4
      have f5:gF9 b p b.length b.length b.length b.length=gF9 b p 100 100 200 100:=by unfold gF9;rw[f4];exact mono h5
      rw[f2,f3,f4,f5,jF h1,jF h2,jF h3,jF h4,jF h5]
      exact h
     ·cases h
    ·cases h
   ·cases h
  ·cases h
 ·cases h
theorem QH{b:List Int}(hb:okB b)(I:b.length<=1500000):∀(j:Nat) (p:Int) (C l:List M.fA),GZ b 100 100 200 100 j p C=some l->GZ b b.length b.length b.length b.length j p C=some l
 |0,_,_,_,h=>h
 |j+1,p,C,l,h=>by
  simp only[GZ]at h⊢
  cases e:op9 b p 100 100 200 100 with
  |none=>simp_all
  |some x=>
   rw[ZY hb I e]
   rw[e]at h
   exact QH hb I j _ _ l h
theorem SG{b:List Int}{c1 c2 c3 c4 d1 d2 d3 d4:Int}:∀(rest:List M.fA) (a:Nat) (j:List M.fA) (t:List Int),b.drop a=Gr enO rest++t->(∀o∈rest,nOp o=true/\o.aD.size<=c1/\((enK o.Key).length)<=c2/\((enR o.aF).length)<=c3/\o.Field.size<=c4/\o.aD.size<=d1/\((enK o.Key).length)<=d2/\((enR o.aF).length)<=d3/\o.Field.size<=d4)->GZ b c1 c2 c3 c4 rest.length a j=GZ b d1 d2 d3 d4 rest.length a j
 |[],_,_,_,_,_=>rfl
 |o::rest,a,j,t,h,I=>by obtain⟨C,U,g2,g3,g4,g5,g6,g7,g8⟩:=I o wb;rw[Gr,qT]at h;obtain⟨e1,J⟩:=T9 h C U g2 g3 g4;obtain⟨e2,_⟩:=T9 h C g5 g6 g7 g8;simp only[qJ,GZ];rw[e1,e2];exact SG rest _ _ t J (λx hx=>I x (by simp[hx]))
theorem KX{l:List M.fA}{b:List Int}(h:Be l=b)(hb:b≠[]):b=uv l.length++Gr enO l/\(∀o∈l,nOp o=true)/\l.length<=6:=by unfold Be at h;grind
theorem aDS{b:List Int}{l:List M.fA}(h:b=uv l.length++Gr enO l):∀o∈l,o.aD.size<=b.length/\(enK o.Key).length<=b.length/\(enR o.aF).length<=b.length/\o.Field.size<=b.length:=by
 have h1:(Gr enO l).length<=b.length:=by rw[h,qE];omega
 have key:∀(l:List M.fA) (o:M.fA),o∈l->(enO o).length<=(Gr enO l).length:=by
  intro l
  induction l with
  |nil=>intro o j;cases j
  |cons x U C=>
   intro o j
   rw[Gr,qE]
   rcases qq.1 j with rfl|j
   ·omega
   ·have:=C o j;omega
 intro o j
 have h2:=qh (key l o j) h1
 have I:=aP o.aD
 have J:=aP o.Field
 unfold enO CJ at h2
 simp only[qE]at h2
 omega
theorem aAg{b:List Int}(hb:okB b)(hl:b.length<=1500000):O3 b b.length b.length b.length b.length=O3 b 100 100 200 100:=by
 unfold O3
 cases h:(nUv b 0).2.2 with
 |false=>simp only[qD,jH]
 |true=>
  obtain⟨a,m,e,u1,u2,u3,u4,u5,u6⟩:=CR hb h
  obtain rfl:a=0:=by omega
  rw[List.drop_zero]at u6
  have I:b≠[]:=λh0=>by have:=congrArg List.length u6;have h2:=HA m;rw[h0]at this;simp at this;omega
  rw[u1]
  dsimp only
  by_cases h6:(m:Int)>6
  ·rw[jF h6,jF h6]
  ·rw[jG h6,jG h6,qH,jF rfl,jF rfl]
   cases hS:GZ b 100 100 200 100 m e []with
   |some l=>rw[QH hb hl m _ _ l hS]
   |none=>
    cases hL:GZ b b.length b.length b.length b.length m e []with
    |none=>rfl
    |some l=>
     simp only[aAz]
     rw[jG]
     rw[Ge]
     intro he
     obtain⟨j,U,b3⟩:=KX he I
     have pl:=aDS j
     have hu:=Ue (b:=b) (a:=0) (by rw[List.drop_zero];exact j) (show l.length<=1000000000000 by omega)
     rw[show((0:Nat):Int)=0 from rfl,u1]at hu
     simp only[qb,qp]at hu
     obtain rfl:m=l.length:=by omega
     have C:e=(uv l.length).length:=by omega
     have hd:b.drop e=Gr enO l++[]:=by
      rw[qY,C]
      conv=>lhs;rw[j]
      exact List.drop_left
     have:=SG (c1:=100) (c2:=100) (c3:=200) (c4:=100) (d1:=b.length) (d2:=b.length) (d3:=b.length) (d4:=b.length) l e [] [] hd (λo J=>by have q1:=BF (U o J);have q2:=I8 o.Key;have q3:=I0 o.aF;have q4:=pl o J;exact⟨U o J,wg,wg,wg,wg,wg,wg,wg,wg⟩)
     rw[hS,hL]at this
     cases this
def Bl(b:List Int):List M.fA×Bool:=O3 b 100 100 200 100
theorem NV{b:List Int}(hb:okB b)(j:b.length<=1500000):yR b=some (Bl b):=MW hb j
theorem Np{b:List Int}(hb:okB b)(j:b.length<=1500000):zH b=some (Bl b):=by rw[MO hb j,aAg hb j];rfl
theorem VG{b:List Int}{c1 c2 c3 c4:Int}(hb:okB b)(J:b.length<=1500000):∀(j:Nat) (p:Int) (C l:List M.fA),GZ b c1 c2 c3 c4 j p C=some l->(∀x∈C,Kb x)->(∀x∈l,Kb x)
 |0,_,_,_,h,U=>by simp only[GZ,qc]at h;rw[<-h];exact U
 |j+1,p,C,l,h,U=>by
  simp only[GZ]at h
  cases e:op9 b p c1 c2 c3 c4 with
  |none=>simp_all
  |some x=>
   obtain⟨o,q⟩:=x
   rw[e]at h
   refine VG hb J j q _ l h (λy I=> ?_)
   rcases qP.1 I with I|I
   ·simp_all
   ·rw[qQ.1 I];exact(YR hb J e).1
theorem MT{b:List Int}(hb:okB b)(hl:b.length<=1500000):(Bl b).1.length<=6/\∀o∈(Bl b).1,Kb o/\nOp o=true:=by
 have z:([]:List M.fA).length<=6/\∀o∈[],Kb o/\nOp o=true:=⟨wb,λ_ h=>absurd h wb⟩
 unfold Bl O3
 split
 ·rename_i h
  obtain⟨a,m,e,u1,u2,u3,u4,u5,u6⟩:=CR hb h
  have j:b≠[]:=λU=>by have:=congrArg List.length u6;have h2:=HA m;rw[U]at this;simp at this;omega
  rw[u1]
  split
  ·exact z
  ·cases hr:GZ b 100 100 200 100 (m:Int).toNat e []with
   |none=>exact z
   |some l=>
    simp only[aAz]
    split
    ·rename_i he;rw[Ge]at he;obtain⟨b1,I,J⟩:=KX he j;exact⟨J,λo C=>⟨VG hb hl _ _ _ l hr (λ_ h=>absurd h wb) o C,I o C⟩⟩
    ·exact z
 ·exact z
theorem Jr{i:Int}{l:List Int}(j:l.length<=1500000):AK i l=some (J0 ([101,i]++([(l.length:Int)]++l.map i64.wrap))):=by unfold AK;rw[Gy j,qA,dK wV,qA,OQ wE,qA]
theorem Jm{i:Int}{l:List Int}(j:l.length<=1500000):A7 i l=some (J0 ([101,i]++([(l.length:Int)]++l.map i64.wrap))):=by unfold A7;rw[GD j,qA,dK wV,qA,Oz wE,qA]
def KS(i:Int)(l:List Int):Int:=J0 ([101,i]++([(l.length:Int)]++l.map i64.wrap))
def JY(b:List Int):Nat->Int->List (List Int)->List (List Int)×Int
 |0,p,C=>(C,p)
 |j+1,p,C=>if(nRb b p 4000).2.2=true then if(nUv b (nRb b p 4000).2.1).2.2=true then if((nUv b (nRb b p 4000).2.1).1 !=KS (C.length:Int) (nRb b p 4000).1)=true then(C,p)else JY b j (nUv b (nRb b p 4000).2.1).2.1 (C++[(nRb b p 4000).1])else(C,p)else(C,p)
def QM(b:List Int):List (List Int)×Int:=JY b (b.length+1) 0 []
theorem Un{b:List Int}:nUv b b.length=(0,0,false):=by unfold nUv;rw[jG wg,qH];unfold Tl;rw[qZ wg]
theorem XF{b:List Int}(hb:okB b)(I:b.length<=1500000):∀(j m a:Nat) (C:List (List Int)),b.length-a<j->j<=m->a<=b.length->C.length<=a->xL b m a C=some (JY b j a C)
 |0,_,_,_,h,_,_,_=>by omega
 |_+1,0,_,_,_,h,_,_=>by omega
 |j+1,m+1,a,C,hj,hm,J,hc=>by
  simp only[xL,JY]
  by_cases hlt:a<b.length
  case neg=>
   obtain rfl:a=b.length:=by omega
   rw[jG wb]
   have:(nRb b b.length 4000).2.2=false:=by unfold nRb;rw[Un];rfl
   rw[this]
   rfl
  rw[jF wV,yP hb I (M1 J I),qA]
  cases h1:(nRb b a 4000).2.2 with
  |false=>rfl
  |true=>
   obtain⟨s,a1,e1,U,r2,r3,r4,r5,r6,r7,r8⟩:=HJ hb h1
   rw[U]
   simp only[jH]
   rw[uJ hb I (M1 r4 I),qA]
   cases h2:(nUv b e1).2.2 with
   |false=>rfl
   |true=>
    obtain⟨a2,v,e2,u1,u2,u3,u4,u5,u6⟩:=CR hb h2
    have g1:=HA s.length
    rw[u1]
    simp only[jH]
    rw[Jr wg,qA]
    show(if(v !=KS C.length s)=true then _ else _)=_
    split
    ·rfl
    ·rw[dK wV,qA];exact XF hb I j m e2 _ wg wg u4 wV
theorem J4{b:List Int}(hb:okB b)(j:b.length<=1500000):CX b=some (QM b):=by exact XF hb j (b.length+1) aJ 0 [] wg wG wg wb
theorem Yh{b:List Int}(hb:okB b)(I:b.length<=1500000):∀(j m a:Nat) (C:List (List Int)),b.length-a<j->j<=m->a<=b.length->C.length<=a->xF b m a C=some (JY b j a C)
 |0,_,_,_,h,_,_,_=>by omega
 |_+1,0,_,_,_,h,_,_=>by omega
 |j+1,m+1,a,C,hj,hm,ha,hc=>by
  simp only[xF,JY]
  rw[zK hb I,qA]
  cases h1:(nRb b a 4000).2.2 with
  |false=>rfl
  |true=>
   obtain⟨s,a1,e1,J,r2,r3,r4,r5,r6,r7,r8⟩:=HJ hb h1
   rw[J]
   simp only[jH]
   rw[tU hb I,qA]
   cases h2:(nUv b e1).2.2 with
   |false=>rfl
   |true=>
    obtain⟨a2,v,e2,U,u2,u3,u4,u5,u6⟩:=CR hb h2
    have g1:=HA s.length
    rw[U]
    simp only[jH]
    rw[Jm wg,qA]
    show(if(v !=KS C.length s)=true then _ else _)=_
    split
    ·rfl
    ·rw[dK wV,qA];exact Yh hb I j m e2 _ wg wg u4 wV
theorem PF{b:List Int}(hb:okB b)(j:b.length<=1500000):EM b=some (QM b):=by exact Yh hb j (b.length+1) aJ 0 [] wg wG wg wb
theorem Wk{b:List Int}(hb:okB b):∀(j a:Nat) (C:List (List Int)),a<=b.length->C.length<=a->(∀l∈C,okB l/\l.length<=4000)->(JY b j a C).1.length<=b.length/\∀l∈(JY b j a C).1,okB l/\l.length<=4000
 |0,a,C,J,hc,h=>⟨by simp only[JY];omega,h⟩
 |j+1,a,C,J,hc,h=>by simp only[JY];split;(rename_i h1;obtain⟨s,a1,e1,U,r2,r3,r4,r5,r6,r7,r8⟩:=HJ hb h1;rw[U];dsimp only;split;(rename_i h2;obtain⟨a2,v,e2,u1,u2,u3,u4,u5,u6⟩:=CR hb h2;have g1:=HA s.length;rw[u1];split;(exact⟨wH,h⟩);·refine Wk hb j e2 _ u4 wV (λl I=> ?_);rcases qP.1 I with I|I;(exact h l I);·rw[qQ.1 I];exact⟨r8,wg⟩);·exact⟨wH,h⟩);grind
theorem UA{b:List Int}(hb:okB b):(QM b).1.length<=b.length/\∀l∈(QM b).1,okB l/\l.length<=4000:=Wk hb (b.length+1) 0 [] wg wb (λ_ h=>absurd h wb)
theorem Qe{α:Type}{f:α->Nat}(q:α->Bool):∀(l:List α),dO f (l.filter q)<=dO f l
 |[]=>qg _
 |x::l=>by have h:=Qe (f:=f) q l;rw[List.filter_cons];split;(simp only[dO];omega);·simp only[dO];omega
theorem aA4{x y:M.bD}(C:Ec x=true)(I:Ec y=true):decide (bZ y x<=0)= !decide (bZ x y<0):=by have j:=D4 x.aK5.toList y.aK5.toList;unfold bZ;grind
def yI(k:M.bD)(g:M.fY):Bool:=Ec k&&((!g.aLY||Ec g.Low)&&((!g.aLS||Ec g.aLW)&&((!g.aLY||decide (bZ g.Low k<=0))&&(!g.aLS||decide (bZ k g.aLW<=0)))))
theorem Nq{k:M.bD}{g:M.fY}(hk:k.ok)(C:g.Low.ok)(j:g.aLW.ok):BH k g=some (yI k g):=by unfold BH yI;simp only[oM hk,oM C,oM j,Ak C hk,Ak hk j];grind
theorem Nn{k:M.bD}{g:M.fY}(hk:k.ok)(C:g.Low.ok)(j:g.aLW.ok):Bz k g=some (yI k g):=by
 have h2:(!(decide (bZ k g.aLW>0)))=decide (bZ k g.aLW<=0):=by rw[<-decide_not,decide_eq_decide];omega
 have h1:Ec k=true->Ec g.Low=true->(!(decide (bZ k g.Low<0)))=decide (bZ g.Low k<=0):=λa b=>(aA4 a b).symm
 unfold Bz yI
 simp only[sZ hk,sZ C,sZ j,Af hk C,Af hk j,qA,h2]
 generalize (!(decide (bZ k g.Low<0)))=a0 at*
 generalize decide (bZ g.Low k<=0)=a1 at*
 generalize decide (bZ k g.aLW<=0)=a2
 generalize g.aLY=a3
 generalize g.aLS=a4
 generalize Ec k=a5 at*
 generalize Ec g.Low=a6 at*
 generalize Ec g.aLW=a7
 cases a5
 ·rfl
 cases a6
 ·cases a3<;>cases a4<;>cases a7<;>cases a2<;>cases a1<;>cases a0<;>rfl
 ·obtain rfl:=h1 rfl rfl;cases a0<;>cases a2<;>cases a3<;>cases a4<;>cases a7<;>rfl
theorem Q0{α R:Type}{xs:List α}{q:α->Bool}{E:List α->Option R}{L:Nat->Int->Int->List α->Option R}
  (h1:∀n (i j:Nat) (r:List α) (hj:j<r.length) (hi:i<r.length),r.length=xs.length->r[j]∈xs->L (n+1) i j r=if q r[j]=true then L n i ((j+1:Nat)) r else L n ((i+1:Nat)) ((j+1:Nat)) (r.set i r[j]))
  (h2:∀n (i:Nat) (r:List α),i<=r.length->L (n+1) i r.length r=E (r.take i)):
  ∀(n i j:Nat) (r:List α),xs.length-j<n->j<=xs.length->i<=j->r.length=xs.length->r.take i=(xs.take j).filter (λx=> !q x)->r.drop j=xs.drop j->L n i j r=E (xs.filter λx=> !q x)
 |0,i,j,r,hn,_,_,_,_,_=>by omega
 |n+1,i,j,r,hn,hj,hi,hr,ht,hd=>by
  rcases jS j xs.length with h|h
  ·have I:j<r.length:=by omega
   have U:r[j]=xs[j]:=by have:=congrArg (λl=>l[0]?) hd;simp only[List.getElem?_drop,Nat.add_zero,qF I,qF h,qc]at this;exact this
   have C:r.drop (j+1)=xs.drop (j+1):=by have:=congrArg (List.drop 1) hd;simpa only[List.drop_drop]using this
   have J:xs.take (j+1)=xs.take j++[xs[j]]:=(List.take_append_getElem h).symm
   rw[h1 n i j r I wg hr (by rw[U];exact qG h)]
   cases hq:q r[j]with
   |true=>
    refine Q0 h1 h2 n i (j+1) r wg h wg hr ?_ C
    rw[ht,J,List.filter_append,<-U]
    simp[hq]
   |false=>
    refine Q0 h1 h2 n (i+1) (j+1) (r.set i r[j]) wg h wg (by simpa using hr) ?_ ?_
    ·rw[J,List.filter_append,<-ht,<-U]
     have hl:i<(r.set i r[j]).length:=by rw[qN];omega
     rw[<-List.take_append_getElem hl,List.getElem_set_self,List.take_set_of_le (qg i)]
     simp[hq]
    ·rw[List.drop_set_of_lt wg];exact C
  grind
def MD(s:M.aD)(g:M.fY):M.aD×Int:=if iM s=true then(⟨s.Name,s.aKg.filter (λx=> !yI x.Key g),s.aK7⟩,i64.wrap (s.aKg.length-(List.length (s.aKg.filter (λx=> !yI x.Key g)))))else(s,0)
theorem OG{α:Type}{f:α->Bool}{l:List α}{k:Nat}(h:k<l.length):(l.take (k+1)).filter f=(l.take k).filter f++(if f l[k]=true then[l[k]]else[]):=by rw[<-List.take_append_getElem h,List.filter_append];rw[List.filter_cons,List.filter_nil]
theorem aAn{s:M.aD}(C:M.aD.sz s<=1500000){x:M.aKy}(j:x∈s.aKg):M.aKy.sz x<=1500000:=by have:=dW (f:=M.aKy.sz) j;simp only[M.aD.sz]at C;omega
