/-
  Helper text. No conditions.
-/
import Derived.Test.YtndidbigdalbnaaGreatNotesPd9
set_option linter.all false
namespace Go.Proofs.YtndidbigdalbnaaGreat.gen
open Go Go.Sh
open Go.IntKind (i64)
theorem Zs{b:List Int}{i h:Int}(c0:okC b i h):Dr b (prI 20) (Df ⟨b,i,h⟩):=by
 unfold Df
 refine .bnd (Px c0) λi0 v0 s0 aa q0=>.JX (aD1 q0 wg (bgI wC)) λr0 h0=>.bnd (bB aa) λi1 v1 r1 c1 q1=> ?_
 obtain⟨N,rfl⟩:=CK q1.1
 have hN:=q1.2.1 wg
 refine DJ (L:=λn v s=>gH ⟨b,i,h⟩ n v s.1.1.aK1.Name s.1.1.aK1.aK7 s.1.1.aLT s.1.1.aK3.aO.aKk s.1.1.aK3.aO.aLE s.1.1.aK3.aLI s.1.1.aK3.aK8 s.2.1 s.2.2 s.1.2.aD.Name s.1.2.aD.aK7 s.1.1.aK1.aKg s.1.1.aK3.aO.aKw s.1.2.aD.aKg s.1.2.aQ s.1.2.aK6) (I:=λk s=>k<=100000/\okC b s.2.1 s.2.2/\k<=5/\prI (15-2*k) s.1) (Q:=Dr b (prI 20)) (λn k s hi ih=> ?_) (λn s hi=> ?_) aJ N ((r0.1,s0),i1,v1) (nB wg) ⟨wg,c1,⟨wg,h0,q0.mono wg⟩⟩
 ·obtain⟨x,ci,ch⟩:=s
  obtain⟨k0,k1,J⟩:=hi
  dsimp only at k1 J
  simp only[gH]
  rw[jF (Xm k),NP k0]
  obtain⟨J,C,U⟩:=J
  rw[show⟨⟨x.1.aK1.Name,x.1.aK1.aKg,x.1.aK1.aK7⟩,x.1.aLT,⟨⟨x.1.aK3.aO.aKk,x.1.aK3.aO.aLE,x.1.aK3.aO.aKw⟩,x.1.aK3.aLI,x.1.aK3.aK8⟩⟩=x.1 from rfl,show⟨⟨x.2.aD.Name,x.2.aD.aKg,x.2.aD.aK7⟩,x.2.aQ,x.2.aK6⟩=x.2 from rfl]
  refine .bnd (bB k1) λi3 v3 r3 c3 q3=> ?_
  dsimp only
  split
  ·refine .bnd (BD c3) λi4 v4 r4 c4 q4=>.bnd (B9 c4) λi5 v5 r5 c5 q5=>.bnd (bB c5) λi6 v6 r6 c6 q6=>.JX (Ro C q4.any (qh q5 wg) (bgI (aAO q6))) λy j=> ?_
   exact ih ((y.1,x.2),i6,v6) ⟨wg,c6,wg,j,U.mono wg⟩
  split
  ·refine .bnd (BD c3) λi4 v4 r4 c4 q4=>.bnd (B9 c4) λi5 v5 r5 c5 q5=>.bnd (bB c5) λi6 v6 r6 c6 q6=>.JX (Ro C q4.any (qh q5 wg) (bgI (aAO q6))) λy j=> ?_
   exact ih ((y.1,x.2),i6,v6) ⟨wg,c6,wg,j,U.mono wg⟩
  split
  ·refine .bnd (bB c3) λi4 v4 r4 c4 q4=>.JX (aDI (y:=x.1.aK3) C.2.2.2.1 C.2.2.2.2.1 C.2.2.2.2.2 U wg) λy j=> ?_
   exact ih ((⟨x.1.aK1,x.1.aLT,y.1⟩,y.2.1),i4,v4) ⟨wg,c4,wg,⟨C.1,C.2.1,C.2.2.1,j.1,j.2.1,j.2.2.1⟩,j.2.2.2.mono wg⟩
  split
  ·refine .bnd (bB c3) λi4 v4 r4 c4 q4=>.JX (N5 U.2.2.1) λv hv=>.bnd (BD c4) λi5 v5 r5 c5 q5=>.bnd (B9 c5) λi6 v6 r6 c6 q6=>.bnd (bB c6) λi7 v7 r7 c7 q7=>.JX (recv U wg (J2 (bS _) (bS _) q5.any (qh q6 wg) (bgI (aAO q7)))) λy j=> ?_
   exact ih ((x.1,y.1),i7,v7) ⟨wg,c7,wg,C,j.mono wg⟩
  ·refine .JX (aB7 C U wg) λy j=> ?_
   exact ih ((y.1,x.2),i3,v3) ⟨wg,c3,wg,j,U.mono wg⟩
 ·obtain⟨x,ci,ch⟩:=s;obtain⟨k0,k1,J⟩:=hi;dsimp only at k1 J;simp only[gH];rw[jG aFQ];exact .ret k1 ⟨J.2.1,J.2.2.mono wg⟩
def Z3(r:M.aH):Prop:=r.ok/\M.aH.sz r<=25000
theorem rpI.all{r:M.aH}(h:rpI r):Z3 r:=⟨h.ok,wI⟩
theorem Z2{b:List Int}{i h:Int}(c0:okC b i h):Dr b Z3 (FE ⟨b,i,h⟩):=by
 refine .bnd (Zs c0) λi1 v1 r1 c1 q1=>.bnd (bB c1) λi2 v2 r2 J q2=> ?_
 have j:=q1.1
 have hz:=j.2.2.2.1.sz
 have hz1:=j.2.1
 split
 ·refine .bnd (YM J) λi3 v3 U I C=>.ret I ⟨⟨C.1,j.2.2.1,j.ok.aK3⟩,?_⟩
  have:=C.2
  simp only[M.aH.sz,M.aK3.sz]
  omega
 split
 ·refine .bnd (uX (λx=> -1000000000000000<=x/\x<=1000000000000000) we we J) λi3 v3 U I C=>.ret I ⟨⟨j.1,bgI C,j.ok.aK3⟩,?_⟩
  simp only[M.aH.sz,M.aK3.sz]
  omega
 split
 ·refine .bnd (aAY J) λi3 v3 U I C=>.ret I ⟨⟨j.1,j.2.2.1,⟨C.ok,j.2.2.2.2.1,j.2.2.2.2.2⟩⟩,?_⟩
  have:=C.sz
  simp only[M.aH.sz,M.aK3.sz]
  omega
 ·exact .ret J j.all
def nbI(x:M.aKe):Prop:=x.aKl.size<=16/\x.Top.size<=16/\(M.aKd.ok x.aKd/\x.aKd.aKl.size<=16)/\Fm x.aKi/\(x.bJ.ok/\M.bJ.sz x.bJ<=1000/\SGn 0 x.bJ)/\rpI x.aH/\inI x.aLC
theorem Q3:Xp ⟨⟨#[110,111,116,101,115]⟩,[],0⟩:=aBn we we
theorem aEY{a t:ByteArray}{d:Int}(j:a.size<=16)(I:t.size<=16)(C:inI d):∃x,uP a t d=some x/\nbI x.1:=by refine⟨_,Ir (s16 j) (s16 I) C,?_⟩;have J:nbI Hk:=⟨we,we,⟨⟨s16 we,yH,yH,yH⟩,we⟩,Y6,⟨(Oj).bJ,we,.nil⟩,R5,yH⟩;unfold FL;split;(split;(have ok:=Q4 (s16 j) (s16 I) C;exact⟨j,I,⟨ok.aKd,j⟩,Y6,⟨ok.bJ,by show M.bJ.sz (Lt ⟨#[]⟩ ⟨#[]⟩ 0).bJ<=1000;decide,.nil⟩,⟨Q3.1,tR Q3.2.1,yH,TA C WA,yH,yH⟩,yH⟩);·exact J);·exact J
def bkI(x:M.aKe):Prop:=x.aKl.size<=16/\x.Top.size<=16/\(M.aKd.ok x.aKd/\x.aKd.aKl.size<=16)/\Se x.aKi/\U1 x.bJ/\Z3 x.aH/\inI x.aLC
theorem bkI.ok{x:M.aKe}(h:bkI x):x.ok:=⟨s16 h.1,s16 h.2.1,h.2.2.1.1,h.2.2.2.1.1,h.2.2.2.2.1.1,h.2.2.2.2.2.1.1,h.2.2.2.2.2.2⟩
theorem bkI.sz{x:M.aKe}(h:bkI x):M.aKe.sz x<=180000:=by obtain⟨h1,h2,⟨_,h3⟩,⟨_,h4⟩,⟨_,h5,_⟩,⟨_,h6⟩,_⟩:=h;simp only[M.aKe.sz,M.aKd.sz];omega
def Vr(k:M.bJ):Prop:=k.ok/\M.bJ.sz k<=20000/\SGn 10 k
def bkS(x:M.aKe):Prop:=x.aKl.size<=16/\x.Top.size<=16/\(M.aKd.ok x.aKd/\x.aKd.aKl.size<=16)/\Se x.aKi/\Vr x.bJ/\Z3 x.aH/\inI x.aLC
theorem Vr.all{k:M.bJ}(h:Vr k):U1 k:=⟨h.1,by have:=h.2.1;omega,h.2.2.1.LG⟩
theorem bkS.all{x:M.aKe}(h:bkS x):bkI x:=⟨h.1,h.2.1,h.2.2.1,h.2.2.2.1,h.2.2.2.2.1.all,h.2.2.2.2.2⟩
theorem aF5{b:List Int}{i h:Int}{X:M.aKe×Bool}{kd:M.bJ}{N:Nat}{i1 v1:Int}(hX:nbI X.1)(hk:Vr kd)(hN:N<=10)(c1:okC b i1 v1):Dr b bkS (kJ ⟨b,i,h⟩ X kd.aK1.Name kd.aK1.aKb kd.aLF kd.aK1.aKm kd.aK1.aKz kd.Log aJ N X.1.aH.aK1.Name X.1.aH.aK1.aK7 X.1.aH.aLT X.1.aH.aK3.aO.aKk X.1.aH.aK3.aO.aLE X.1.aH.aK3.aLI X.1.aH.aK3.aK8 i1 v1 X.1.aH.aK1.aKg X.1.aH.aK3.aO.aKw):=by
 obtain⟨h1,h2,h3,h4,h5,h6,h7⟩:=hX
 refine DJ (L:=λn v (s:(M.aH)×Int×Int)=>kJ ⟨b,i,h⟩ X kd.aK1.Name kd.aK1.aKb kd.aLF kd.aK1.aKm kd.aK1.aKz kd.Log n v s.1.aK1.Name s.1.aK1.aK7 s.1.aLT s.1.aK3.aO.aKk s.1.aK3.aO.aLE s.1.aK3.aLI s.1.aK3.aK8 s.2.1 s.2.2 s.1.aK1.aKg s.1.aK3.aO.aKw) (I:=λk s=>k<=100000/\okC b s.2.1 s.2.2/\rpI s.1) (Q:=Dr b bkS) (λn k s hi ih=> ?_) (λn s hi=> ?_) aJ N (X.1.aH,i1,v1) (nB wg) ⟨wg,c1,h6⟩
 ·obtain⟨x,ci,ch⟩:=s
  obtain⟨k0,k1,U⟩:=hi
  simp only[kJ]
  rw[jF (Xm k),NP k0]
  refine .bnd (BD k1) λi3 v3 r3 J q3=>.bnd (B9 J) λi4 v4 r4 c4 q4=>.bnd (bB c4) λi5 v5 r5 c5 C=>.JX (Ro (r:=x) U q3.any (qh q4 wg) (bgI (aAO C))) λy hy=> ?_
  exact ih (y.1,i5,v5) ⟨wg,c5,hy⟩
 ·obtain⟨k0,k1,U⟩:=hi
  have j:=hk
  have hl:∀{r:Int},(0<=r/\(0<(50:Int)->r<50)/\r<=16777215)->inI r:=λq=>bgI ⟨wg,wg⟩
  refine .bnd (Bh k1) λi3 v3 r3 J q3=> ?_
  split
  ·refine .bnd (bB J) λi4 v4 r4 c4 q4=>.JX (Ri h4 (bS _)) λy hy=>.bnd (bB c4) λi5 v5 r5 c5 C=>.bnd (Bh c5) λi6 v6 r6 c6 q6=>.ret c6 ⟨h1,h2,⟨⟨h3.1.aKl,h3.1.aLB,h3.1.aLH,bS _⟩,h3.2⟩,hy.all,j,U.all,hl C⟩
  ·exact .bnd (bB J) λi5 v5 r5 c5 C=>.bnd (Bh c5) λi6 v6 r6 c6 q6=>.ret c6 ⟨h1,h2,h3,h4.all,j,U.all,hl C⟩
theorem aFj{b:List Int}{i h:Int}{X:M.aKe×Bool}{N:Nat}{i1 v1:Int}(hX:nbI X.1)(hN:N<=4)(c1:okC b i1 v1):Dr b bkS (kO ⟨b,i,h⟩ X aJ N X.1.bJ.aK1.Name X.1.bJ.aK1.aKb X.1.bJ.aLF i1 v1 X.1.bJ.aK1.aKm X.1.bJ.aK1.aKz X.1.bJ.Log):=by
 have h5:=hX.2.2.2.2.1
 refine DJ (L:=λn v s=>kO ⟨b,i,h⟩ X n v s.1.aK1.Name s.1.aK1.aKb s.1.aLF s.2.1 s.2.2 s.1.aK1.aKm s.1.aK1.aKz s.1.Log) (I:=λk s=>k<=100000/\okC b s.2.1 s.2.2/\s.1.ok/\M.bJ.sz s.1+4000*k<=20000/\∃c,c+k<=4/\SGn c s.1) (Q:=Dr b bkS) (λn k s hi ih=> ?_) (λn s hi=> ?_) aJ N (X.1.bJ,i1,v1) (nB wg) ⟨wg,c1,⟨h5.1,by have:=h5.2.1;dsimp only;omega,0,wg,h5.2.2⟩⟩
 ·obtain⟨x,ci,ch⟩:=s
  obtain⟨k0,C,j⟩:=hi
  dsimp only at C j
  simp only[kO]
  rw[jF (Xm k),NP k0]
  refine .bnd (BD C) λi3 v3 r3 U J=>.bnd (FP U) λi4 v4 r4 c4 q4=>.JX (TE (k:=x) (n:=M.bJ.sz x) j.1 (qg _) (by have:=j.2.1;omega) wb (by simp only[qq,qO,or_false];rintro o rfl;exact⟨WA,s16 (s:=⟨#[110,111,116,101,115]⟩) we,J.any.1,q4.1,s16 (s:=⟨#[]⟩) we⟩)) λy hy=> ?_
  obtain⟨c,c8,c9⟩:=j.2.2
  exact ih (y.1,i4,v4) ⟨wg,c4,hy.1,by have:=hy.2.1;dsimp only;omega,c+1,wg,hy.2.2 _ c9⟩
 ·obtain⟨x,ci,ch⟩:=s
  obtain⟨k0,C,j⟩:=hi
  dsimp only at C j
  refine .bnd (bB C) λi3 v3 r3 U J=> ?_
  obtain⟨M,rfl⟩:=CK J.1
  have hM:=J.2.1 wg
  exact aF5 hX (kd:=x) ⟨j.1,by have:=j.2.1;omega,by obtain⟨c,c8,c9⟩:=j.2.2;exact c9.mono wg⟩ wg U
theorem On{b:List Int}{i h:Int}(J:okC b i h):Dr b bkS (BK ⟨b,i,h⟩):=by
 refine .bnd (K3 J) λi1 v1 r1 U C=>.JX (aEU U C) λy j=>.bnd (bB j.2) λi4 v4 r4 c4 q4=>.JX (aEY (qh C wg) (qh j.1 wg) (bS _)) λx hx=>.bnd (bB c4) λi5 v5 r5 c5 I=> ?_
 obtain⟨N,rfl⟩:=CK I.1
 have hN:=I.2.1 wg
 exact aFj hx wg c5
theorem aAx{b:List Int}{i h:Int}(c0:okC b i h):Dr b bkI (FK ⟨b,i,h⟩):=by
 refine .bnd (On c0) λi1 v1 r1 c1 q1=>.bnd (bB c1) λi2 v2 r2 U q2=> ?_
 have q0:=q1.all
 obtain⟨h1,h2,h3,h4,h5,h6,h7⟩:=q1
 have I:=h5.all
 split
 ·exact .bnd (EG (λs=>s.size<=16) we we U) λi3 v3 r3 C J=>.ret C ⟨J,h2,h3,h4,I,h6,h7⟩
 split
 ·exact .bnd (aAC U) λi3 v3 r3 C J=>.ret C ⟨h1,h2,h3,J,I,h6,h7⟩
 split
 ·exact .bnd (aBN U) λi3 v3 r3 C J=>.ret C ⟨h1,h2,h3,h4,J,h6,h7⟩
 split
 ·exact .bnd (Z2 U) λi3 v3 r3 C J=>.ret C ⟨h1,h2,h3,h4,I,J,h7⟩
 split
 ·exact .bnd (uX (λx=> -1000000000000000<=x/\x<=1000000000000000) we we U) λi3 v3 r3 C J=>.ret C ⟨h1,h2,h3,h4,I,h6,bgI J⟩
 split
 ·have hz:=h5.2.1
  simp only[M.bJ.sz]at hz
  have key:∀(n:Nat) (l:List Int),100000<n+l.length->okB l->l.length<=20000->(∃j,l=r1.bJ.Log++List.replicate j 0)->Dr b bkI (rH (i1,v1,r1) (i2,v2,r2) n l):=by
   intro n
   induction n with
   |zero=>omega
   |succ n ih=>
    intro l hn hl hz2 hj
    have e1:(l++[0]).length=l.length+1:=by rw[qE];rfl
    simp only[rH]
    by_cases h6':(l.length:Int)<2600
    ·have h7':l.length<2600:=by omega
     rw[jF (decide_eq_true h6'),DA (by show l.length+1<=_;omega) wg,qA]
     refine ih (l++[0]) wg ⟨ml wg,λx hx=> ?_⟩ wg (by obtain⟨j,rfl⟩:=hj;exact⟨j+1,by rw[qT,List.replicate_succ']⟩)
     rcases qP.1 hx with hx|hx
     ·exact hl.2 x hx
     ·rw[qQ.1 hx];exact⟨Int.le_refl _,we⟩
    ·obtain⟨j,rfl⟩:=hj;rw[jG (by rw[decide_eq_false h6'];exact Bool.false_ne_true)];exact .ret U ⟨h1,h2,h3,h4,⟨⟨h5.1.aK1,hl,h5.1.aLF⟩,by show M.aKc.sz r1.bJ.aK1+(r1.bJ.Log++List.replicate j 0).length<=80000;omega,aCl h5.2.2.1 (by have:=h5.2.2.2;omega)⟩,h6,h7⟩
  exact key aJ r1.bJ.Log (qw (nB (k:=100000) wg) (jU _ _)) h5.1.Log wg ⟨0,wb⟩
 ·exact .ret U q0
theorem jn{α β:Type}{o:Option α}{v:α}{f:α->Option β}{r:Option β}(h1:o=some v)(h2:f v=r):o.bind f=r:=by simp_all
theorem rL{α:Type}{f:α->α->Bool}(j:∀x,f x x=true):∀l:List α,eqL f l l=true
 |[]=>rfl
 |x::l=>by simp only[eqL,j x,rL j l,Bool.and_self]
theorem P4(x:M.aKo):Ji x x=true:=by simp[Ji,rL (f:=yK) (λx=>by simp[yK])]
theorem P2(x:M.aN):Lk x x=true:=rL (λc=>by simp[SS,rL (f:=Mc) (λy=>by simp[Mc,P4])]) _
theorem SK(x:M.aF):QY x x=true:=rL (λy=>by simp[N6]) _
theorem KK(x:M.aD):Lh x x=true:=by simp[Lh,rL (f:=Xc) (λy=>by simp[Xc,aF3,SK])]
theorem PA(x:M.aKc):IW x x=true:=by simp[IW,rL (f:=Lh) KK,rL (f:=Gi) (λy=>by simp[Gi])]
theorem WQ(x:M.bJ):YE x x=true:=by simp[YE,PA,rL (f:=yK) (λx=>by simp[yK])]
theorem S9(x:M.aO):O0 x x=true:=by simp[O0,rL (f:=GG) (λy=>by simp[GG])]
theorem QW(x:M.aH):LQ x x=true:=by simp[LQ,aAs,KK,S9]
theorem S6(x:M.aKe):MP x x=true:=by simp[MP,aFy,P2,WQ,QW]
theorem Iu(x:List M.aY)(j:x.length<=1073741824):zG x=some x:=by unfold zG;rw[Ip j wg,qA]
theorem GO(x:M.aKh)(j:M.aKh.sz x<=1073741824):Au x=some x:=by simp only[M.aKh.sz]at j;unfold Au;rw[Iu _ wg,qA,Ip wg wg,qA]
theorem GU(x:M.bK)(j:M.bK.sz x<=1073741824):mL x=some x:=by simp only[M.bK.sz]at j;unfold mL;rw[Ip wg wg,qA,GO _ wg,qA]
theorem J9(x:M.aW)(j:M.aW.sz x<=1073741824):Ax x=some x:=by simp only[M.aW.sz]at j;unfold Ax;rw[Ip wg wg,qA]
theorem PR(x:M.aKp)(j:M.aKp.sz x<=1073741824):BZ x=some x:=by simp only[M.aKp.sz]at j;unfold BZ;rw[Ip wg wg,qA]
theorem PI(x:M.aKl)(j:M.aKl.sz x<=1073741824):C5 x=some x:=by simp only[M.aKl.sz]at j;unfold C5;rw[Ip wg wg,qA]
theorem PD(x:M.aKt)(j:M.aKt.sz x<=1073741824):iJ x=some x:=by simp only[M.aKt.sz]at j;unfold iJ;rw[pM _ wg,qA,Ip wg wg,qA,Ip wg wg,qA]
theorem zW(x:M.aKh)(j:M.aKh.sz x<=1073741824):pI x=some x:=by simp only[M.aKh.sz]at j;unfold pI;rw[Ip wg wg,qA,Ip wg wg,qA]
theorem Gb(x:M.bK)(j:M.bK.sz x<=1073741824):kY x=some x:=by simp only[M.bK.sz]at j;unfold kY;rw[Ip wg wg,qA,zW _ wg,qA]
theorem NQ(x:M.aW)(j:M.aW.sz x<=1073741824):Bx x=some x:=by simp only[M.aW.sz]at j;unfold Bx;rw[Ip wg wg,qA]
theorem LA(x:M.aKp)(j:M.aKp.sz x<=1073741824):Ai x=some x:=by simp only[M.aKp.sz]at j;unfold Ai;rw[Ip wg wg,qA]
theorem O7(x:M.aKl)(j:M.aKl.sz x<=1073741824):Co x=some x:=by simp only[M.aKl.sz]at j;unfold Co;rw[Ip wg wg,qA]
theorem MX(x:M.aKt)(j:M.aKt.sz x<=1073741824):AX x=some x:=by simp only[M.aKt.sz]at j;unfold AX;rw[kZ _ wg,qA,Ip wg wg,qA,Ip wg wg,qA]
theorem aGW{α β:Type}(c:Bool)(x y:Option α)(f:α->Option β):(if c=true then x else y).bind f=if c=true then x.bind f else y.bind f:=by split<;>rfl
theorem aJ3(n:Int):inR n 0 0=(n==0):=by unfold inR;rw[jR];simp only[qM,qL,beq_iff_eq];omega
theorem Qt{k:Int}(h:inR k 1 9=true):k=1\/k=2\/k=3\/k=4\/k=5\/k=6\/k=7\/k=8\/k=9:=by unfold inR at h;simp only[qM,qL]at h;omega
theorem Qs{k r n m:Int}{t:ByteArray}(j:t.size<=maxLen):∃b,Ao ⟨k,r,n,t⟩ m=some b/\BS ⟨k,r,n,t⟩ m=some b:=by
 unfold Ao BS
 simp only[cO,bX,dX j,dG j,qA]
 generalize inR r 0 3=a1
 generalize (r !=0)=a2
 generalize oO t=a3
 generalize (t.toList==(⟨#[]⟩:ByteArray).toList)=a4
 cases hk:inR k 1 9 with
 |false=>exact⟨false,wa,wc⟩
 |true=>
  rcases Qt hk with rfl|rfl|rfl|rfl|rfl|rfl|rfl|rfl|rfl
  all_goals simp+decide only[qA,jI,jH,aJ3,show inR 8 6 8=true from rfl]
  all_goals (try generalize inR n 0 1000=b1)
  all_goals (try generalize inR n 0 3=b2)
  all_goals (try generalize inR n 0 m=b3)
  all_goals (try generalize inR n 0 100=b4)
  all_goals (try generalize (n==0)=b5)
  all_goals (try clear a1)
  all_goals (try clear a2)
  all_goals (try clear a3try clear b1)
  all_goals (try clear b2)
  all_goals (try clear b3)
  all_goals (try clear b4)
  all_goals (try clear b5)
  all_goals (try cases a1)
  all_goals (try cases a2)
  all_goals (try cases a3)
  all_goals (try cases a4)
  all_goals (try cases b1)
  all_goals (try cases b2)
  all_goals (try cases b3)
  all_goals (try cases b4)
  all_goals (try cases b5)
  all_goals first|exact⟨true,rfl,rfl⟩|exact⟨false,rfl,rfl⟩
def Nk(x:M.aY)(m:Int):Bool:=(BS x m).getD false
theorem J3{x:M.aY}{m:Int}(j:x.ok):Ao x m=some (Nk x m):=by obtain⟨k,r,n,t⟩:=x;obtain⟨b,e1,e2⟩:=Qs (k:=k) (r:=r) (n:=n) (m:=m) j.aK5;unfold Nk;rw[e1,e2];rfl
theorem PO{x:M.aY}{m:Int}(j:x.ok):BS x m=some (Nk x m):=by obtain⟨k,r,n,t⟩:=x;obtain⟨b,e1,e2⟩:=Qs (k:=k) (r:=r) (n:=n) (m:=m) j.aK5;unfold Nk;rw[e2];rfl
def Rx(l:List M.aY)(k:Nat):Bool:=(l[k]?).any λx=>Nk x (l.length)
def Ry(l:List M.aY):Bool:=(List.range l.length).all (Rx l)&&decide ((l.length:Int)<=16)
def Fx(l:List M.aY):Prop:=l.length<=maxLen/\∀x∈l,M.aY.ok x
theorem Pf{l:List M.aY}(j:Fx l):Cr l=some (Ry l):=by have C:=aZ j.1;unfold Cr Ry;rw[rO (L:=pF l) (g:=Rx l) (F:=some false) (E:=some (decide ((l.length:Int)<=16))) j.1 (λn k hk=> ?_) (λn=> ?_),bI];(simp only[pF];rw[jF (bE hk),aK hk,qA,bM wg,J3 (j.2 _ (qG hk)),qA];unfold Rx;grind);·simp only[pF];rw[jG wb]
def Ul(l:List M.aY):M.aKh:=if Ry l=true then⟨l,0,[0,0,0,0],0,false,false⟩else⟨[],0,[0,0,0,0],0,true,false⟩
theorem Yc:okI [0,0,0,0]:=⟨by unfold maxLen;simp,λx j=>by simp only[qq,qO,or_false,or_self]at j;subst j;exact yH⟩
theorem aAE{l:List M.aY}(j:Fx l):(Ul l).ok:=by unfold Ul;split;(exact⟨j,yH,Yc,yH⟩);·exact⟨⟨wb,wb⟩,yH,Yc,yH⟩
theorem aAM(l:List M.aY):M.aKh.sz (Ul l)<=l.length+dO M.aY.sz l+4:=by unfold Ul;split;(simp only[M.aKh.sz,qJ,qK];omega);·simp only[M.aKh.sz,dO,qJ,qK];omega
theorem MJ{l:List M.aY}(j:Fx l)(C:l.length<=1073741824):A4 l=some (Ul l):=by unfold A4 Ul;rw[Pf j,qA,Iu l C];cases Ry l<;>rfl
def G0(i:Int)(a b:ByteArray)(v:Int)(l:List M.aY):M.bK:=⟨i,a,b,v,[],Ul l⟩
def VL:M.bK:=⟨0,⟨#[]⟩,⟨#[]⟩,0,[],⟨[],0,[],0,false,false⟩⟩
def Fs(i:Int)(a b:ByteArray)(v:Int)(l:List M.aY):M.bK×Bool:=if Hs (G0 i a b v l)=true then(G0 i a b v l,true)else(VL,false)
theorem QE{i v:Int}{a b:ByteArray}{l:List M.aY}(C:inI i)(j:a.size<=maxLen)(hb:b.size<=maxLen)(J:inI v)(I:Fx l):(G0 i a b v l).ok:=⟨C,j,hb,J,⟨by simp[G0],by simp[G0]⟩,aAE I⟩
theorem Xz:VL.ok:=⟨yH,sz0,sz0,yH,⟨wR,wR⟩,⟨⟨wR,wR⟩,yH,⟨wR,wR⟩,yH⟩⟩
theorem Tg{i v:Int}{a b:ByteArray}{l:List M.aY}(C:inI i)(j:a.size<=maxLen)(hb:b.size<=maxLen)(J:inI v)(I:Fx l):(Fs i a b v l).1.ok:=by unfold Fs;split;(exact QE C j hb J I);·exact Xz
theorem Si(i:Int)(a b:ByteArray)(v:Int)(l:List M.aY):M.bK.sz (Fs i a b v l).1<=a.size+b.size+(l.length+dO M.aY.sz l)+4/\(Fs i a b v l).1.aT.length=0:=by have h:=aAM l;unfold Fs;split;(refine⟨?_,rfl⟩;simp only[G0,M.bK.sz,dO,qK];omega);·refine⟨?_,rfl⟩;have j:(⟨#[]⟩:ByteArray).size=0:=rfl;simp only[VL,M.bK.sz,M.aKh.sz,dO,qK,j];omega
theorem Ib{i v:Int}{a b:ByteArray}{l:List M.aY}(I:inI i)(C:a.size<=maxLen)(hb:b.size<=maxLen)(J:inI v)(j:Fx l)(U:l.length<=1073741824):mU i a b v l=some (Fs i a b v l):=by unfold mU Fs;rw[MJ j U,qA];show((vW (G0 i a b v l)).bind _)=_;rw[Ft (QE I C hb J j),qA];cases Hs (G0 i a b v l)<;>rfl
def TS(r:M.aKd)(s:M.aKl)(o:Bool):Int:=if(r.aLL !=0)=true then r.aLL else if o=true then s.aKb else 0
theorem Mo(r:M.aKd)(s:M.aKl)(o:Bool):sC r s o=some (TS r s o):=by unfold sC TS;cases (r.aLL !=0)<;>cases o<;>rfl
theorem aCU{r:M.aKd}{s:M.aKl}{o:Bool}(j:r.ok)(C:s.ok):inI (TS r s o):=by unfold TS;split;(exact j.aLL);·split;(exact C.aKb);·exact yH
def Gt(p:M.bK)(f:ByteArray)(v:Int):M.bK:=⟨p.Id,p.aKl,p.Top,p.aKb,p.aT++[⟨f,v⟩],p.aKh⟩
def Eh(p:M.bK)(f:ByteArray)(x:M.aKo):M.bK×Bool:=if(x.aLV !=200)=true then(p,false)else if(x.aKb !=p.aKb)=true then(p,false)else if Hs p=true then if Hs (Gt p f x.aKb)=true then(Gt p f x.aKb,true)else(p,false)else(p,false)
theorem Ov{p:M.bK}{f:ByteArray}{v:Int}(j:p.ok)(hl:p.aT.length<=6000000)(J:f.size<=maxLen)(U:inI v):(Gt p f v).ok:=
 ⟨j.Id,j.aKl,j.Top,j.aKb,⟨by show(p.aT++_).length<=maxLen;unfold maxLen;simp;omega,λy I=>by have C:y∈p.aT++[⟨f,v⟩]:=I;simp only[qP,qq,qO,or_false]at C;rcases C with I|rfl;(exact j.aT.2 y I);·exact⟨J,U⟩⟩,j.aKh⟩
theorem RQ{p:M.bK}{f:ByteArray}{x:M.aKo}(j:p.ok)(I:p.aT.length<=6000000)(C:f.size<=maxLen)(J:inI x.aKb):(Eh p f x).1.ok:=by unfold Eh;split;(exact j);·split;(exact j);·split;(split;(exact Ov j I C J);·exact j);·exact j
theorem Rl(p:M.bK)(f:ByteArray)(x:M.aKo):M.bK.sz (Eh p f x).1<=M.bK.sz p+f.size+1:=by
 have h:M.bK.sz (Gt p f x.aKb)=M.bK.sz p+f.size+1:=by simp only[Gt,M.bK.sz,qE,qJ,qK,xT,dO,M.aT.sz];omega
 unfold Eh
 split
 ·show M.bK.sz p<=_;omega
 ·split;(show M.bK.sz p<=_;omega);·split;(split;(show M.bK.sz (Gt p f x.aKb)<=_;omega);·show M.bK.sz p<=_;omega);·show M.bK.sz p<=_;omega
theorem Gq{p:M.bK}{f:ByteArray}{x:M.aKo}(j:p.ok)(I:p.aT.length<=6000000)(U:M.bK.sz p<=1073741824)(C:f.size<=maxLen)(J:inI x.aKb):kI p f x=some (Eh p f x):=by have e:=Ft (Ov j I C J);unfold Gt at e;unfold kI Eh;rw[GU p U,qA,dK jz,qA,Ft j,qA,e,qA];unfold Gt;grind
theorem Pe{p:M.bK}{f:ByteArray}{x:M.aKo}(j:p.ok)(I:p.aT.length<=6000000)(U:M.bK.sz p<=1073741824)(C:f.size<=maxLen)(J:inI x.aKb):Gf p f x=some (Eh p f x):=by have e:=HQ (Ov j I C J);unfold Gt at e;unfold Gf Eh;rw[Gb p U,qA,dK jz,qA,HQ j,qA,e,qA];unfold Gt;grind
def FO(x:M.aY):Prop:=M.aY.ok x/\x.aK5.size<=8
theorem GP{k r n:Int}{s:ByteArray}(h1: -1000000000000<=k/\k<=1000000000000)(h2:0<=r/\r<=1000000000000)(h3:0<=n/\n<=1000000000000)(j:s.size<=8):FO ⟨k,r,n,s⟩:=⟨⟨N1 (by show -1000000000000000<=k;omega) (by show k<=_;omega),N1 (by show -1000000000000000<=r;omega) (by show r<=_;omega),N1 (by show -1000000000000000<=n;omega) (by show n<=_;omega),HU j⟩,j⟩
theorem WB{b:List Int}{i h n:Int}(hn:0<=n/\n<=1000)(hc:okC b i h):Dr b FO (D1 ⟨b,i,h⟩ n):=by
 have e0:(⟨#[]⟩:ByteArray).size<=8:=by decide
 refine .bnd (bB hc) λi1 v1 r1 c1 q1=>.bnd (bB c1) λi2 v2 r2 c2 q2=> ?_
 have hr1:=q1.2.1 wg
 have hr2:=q2.2.1 wg
 rw[eU (n:=1+r1) wg wg,eU (n:=n+1) wg wg]
 have U: -1000000000000<=1+r1/\1+r1<=1000000000000:=by omega
 have a2:0<=r2/\r2<=1000000000000:=by omega
 have a0:(0:Int)<=0/\(0:Int)<=1000000000000:=by omega
 have below:∀{m:Int} {f:Int×Int×Int->Option (Int×Int×M.aY)},(∀i3 J I,okC b i3 J->(0<=I/\I<=1000000000000)->Dr b FO (f (i3,J,I)))->Dr b FO ((aG ⟨b,i2,v2⟩ m).bind f):=λhf=>.bnd (bB c2) λi3 J I j C=>hf i3 J I j ⟨C.1,wg⟩
 split
 ·exact below λi3 J I j C=>.ret j (GP U a2 C e0)
 split
 ·exact below λi3 J I j C=>.ret j (GP U a2 C e0)
 split
 ·exact below λi3 J I j C=>.ret j (GP U a2 C e0)
 split
 ·exact below λi3 J I j C=>.ret j (GP U a0 C e0)
 split
 ·exact .bnd (EG (λs=>s.size<=8) we we c2) λi3 J I j C=>.ret j (GP U a2 a0 C)
 split
 ·exact below λi3 J I j C=>.bnd (B9 j) λi4 v4 r4 c4 q4=>.ret c4 (GP U a2 C q4)
 split
 ·exact below λi3 J I j C=>.bnd (B9 j) λi4 v4 r4 c4 q4=>.ret c4 (GP U a2 C q4)
 split
 ·exact below λi3 J I j C=>.bnd (B9 j) λi4 v4 r4 c4 q4=>.ret c4 (GP U a2 C q4)
 split
 ·exact .ret c2 (GP U a0 a0 e0)
 ·exact .ret c2 (GP U a2 a0 e0)
def Ep(l:List M.aY):Prop:=l.length<=8/\∀x∈l,FO x
theorem Kl{b:List Int}{i h:Int}(hc:okC b i h):Dr b Ep (uY ⟨b,i,h⟩):=by
 unfold uY
 refine .bnd (bB hc) λi1 v1 r1 c1 q1=> ?_
 obtain⟨N,rfl⟩:=CK q1.1
 have hN:=q1.2.1 wg
 refine aCK (N:=N) (L:=λn v s=>nC ⟨b,i,h⟩ (i1,v1,N) n v s.1 s.2.1 s.2.2) (I:=λk s=>okC b s.2.1 s.2.2/\s.1.length=k/\∀x∈s.1,FO x) (Q:=Dr b Ep) (λn k s hk hi ih=> ?_) (λn s hi=> ?_) aJ 0 ([],i1,v1) (nB wg) wg ⟨c1,rfl,wb⟩
 ·obtain⟨l,ci,ch⟩:=s
  obtain⟨C,U,J⟩:=hi
  simp only at C U J
  simp only[nC]
  rw[jF (bE hk)]
  refine .bnd (WB ⟨wg,wg⟩ C) λi3 v3 r3 c3 q3=> ?_
  rw[dK jz,qA,bM wg]
  refine ih (l++[r3],i3,v3) ⟨c3,by simp[U],λx j=> ?_⟩
  rcases qP.1 j with j|j
  ·exact J x j
  ·rw[qQ.1 j];exact q3
 ·obtain⟨l,ci,ch⟩:=s;obtain⟨C,U,J⟩:=hi;simp only at C U J;simp only[nC];rw[jG wb];exact .ret C ⟨wg,J⟩
theorem Pd{l:List M.aY}(h:Ep l):Fx l:=⟨qh h.1 wD,λx j=>(h.2 x j).1⟩
theorem S8{l:List M.aY}(h:Ep l):l.length+dO M.aY.sz l<=72:=by
 have h1:=OA (c:=M.aY.sz) (A:=8) (xs:=l) λx j=>(h.2 x j).2
 have h2:=h.1
 omega
def KV(p:M.bK):Prop:=M.bK.ok p/\p.aT.length<=3/\M.bK.sz p<=1000
theorem OI{b:List Int}{i h:Int}(hc:okC b i h):Dr b KV (Az ⟨b,i,h⟩):=by
 have fin:∀{L:Nat->Int->Int->ByteArray->ByteArray->Int->Int->Int->Bool->Bool->Int->Int->List M.aT->List M.aY->List Int->Option (Int×Int×M.bK)} {n:Int} {i1 h1:Int} {p:M.bK},(∀m v a0 a1 a2 a3 a6 a8 a9 ae ci U r0 r1 r2,L (m+1) v a0 a1 a2 a3 a6 a8 a9 ae ci U r0 r1 r2=if(decide (v>0))=true then(BW ⟨b,ci,U⟩).bind λaf=>(kI ⟨a0,a1,a2,a3,r0,⟨r1,a6,r2,a8,a9,ae⟩⟩ af.2.2 ⟨0,200,a3,[],false⟩).bind λC=>L m (i64.wrap (v-1)) C.1.Id C.1.aKl C.1.Top C.1.aKb C.1.aKh.Pc C.1.aKh.aLM C.1.aKh.aLU C.1.aKh.aLR af.1 af.2.1 C.1.aT C.1.aKh.aLA C.1.aKh.aLN else some (ci,U,⟨a0,a1,a2,a3,r0,⟨r1,a6,r2,a8,a9,ae⟩⟩))->
   (0<=n/\n<3)->okC b i1 h1->M.bK.ok p->p.aT.length=0->M.bK.sz p<=200->Dr b KV (L aJ n p.Id p.aKl p.Top p.aKb p.aKh.Pc p.aKh.aLM p.aKh.aLU p.aKh.aLR i1 h1 p.aT p.aKh.aLA p.aKh.aLN):=by
  intro L n i1 h1 p hL hn hc hp hl hz
  obtain⟨N,rfl⟩:=CK hn.1
  refine DJ (L:=λm v s=>L m v s.1.Id s.1.aKl s.1.Top s.1.aKb s.1.aKh.Pc s.1.aKh.aLM s.1.aKh.aLU s.1.aKh.aLR s.2.1 s.2.2 s.1.aT s.1.aKh.aLA s.1.aKh.aLN) (I:=λk s=>okC b s.2.1 s.2.2/\M.bK.ok s.1/\s.1.aT.length+k<=3/\M.bK.sz s.1+20*k<=300) (Q:=Dr b KV) (λm k s hi ih=> ?_) (λm s hi=> ?_) aJ N (p,i1,h1) (nB wg) ⟨hc,hp,by show p.aT.length+N<=3;omega,by show M.bK.sz p+20*N<=300;omega⟩
  ·obtain⟨p,ci,U⟩:=s
   obtain⟨k1,J,k3,k4⟩:=hi
   simp only at k1 J k3 k4
   simp only[hL]
   rw[jF (by first|(simp;done)|(omega))]
   refine .bnd (Tq k1) λi3 v3 r3 c3 q3=> ?_
   have hv:inI (⟨0,200,p.aKb,[],false⟩:M.aKo).aKb:=J.aKb
   show Dr b KV ((kI p r3 _).bind _)
   rw[Gq J wg wg (HU q3) hv,qA,show i64.wrap (((k+1:Nat))-1)=k from by rw[eU wg wg];omega]
   have z:=Rl p r3 ⟨0,200,p.aKb,[],false⟩
   refine ih ((Eh p r3 ⟨0,200,p.aKb,[],false⟩).1,i3,v3) ⟨c3,RQ J wg (HU q3) hv,?_,wH⟩
   have:(Eh p r3 ⟨0,200,p.aKb,[],false⟩).1.aT.length<=p.aT.length+1:=by unfold Eh;split;(show p.aT.length<=_;omega);·split;(show p.aT.length<=_;omega);·split;(split;(simp[Gt]);·show p.aT.length<=_;omega);·show p.aT.length<=_;omega
   dsimp only
   omega
  ·obtain⟨p,ci,U⟩:=s;obtain⟨k1,J,k3,k4⟩:=hi;simp only at k1 J k3 k4;simp only[hL];exact .ret k1 ⟨J,wg,by show M.bK.sz p<=_;omega⟩
 have page:∀{j v:Int} {s t:ByteArray} {l:List M.aY},(0<=j/\j<=1000)->(0<=v/\v<=1000)->s.size<=8->t.size<=8->Ep l->∃r,mU (i64.wrap (1+j)) s t (i64.wrap (1+v)) l=some r/\(M.bK.ok r.1/\r.1.aT.length=0/\M.bK.sz r.1<=200):=by intro j v s t l hj hv hs ht hl;have h1:=S8 hl;refine⟨_,Ib (bS _) (HU hs) (HU ht) (bS _) (Pd hl) wg,Tg (bS _) (HU hs) (HU ht) (bS _) (Pd hl),?_⟩;have h2:=Si (i64.wrap (1+j)) s t (i64.wrap (1+v)) l;exact⟨h2.2,wg⟩
 unfold Az
 refine .bnd (K3 hc) λi1 v1 r1 c1 q1=>.JX (aEU c1 q1) λy hy=>.bnd (bB hy.2) λi4 v4 r4 c4 q4=>.bnd (bB c4) λi5 v5 r5 c5 q5=>.bnd (Kl c5) λi6 v6 r6 c6 q6=> ?_
 have z4:=q4.2.1 wg
 have z5:=q5.2.1 wg
 refine .JX (page ⟨q4.1,wH⟩ ⟨q5.1,wH⟩ q1 hy.1 q6) λr hr=>.bnd (bB c6) λi7 v7 r7 c7 q7=> ?_
 have z7:=q7.2.1 wg
 exact fin (L:=sK ⟨b,i,h⟩) (λ_ _ _ _ _ _ _ _ _ _ _ _ _ _ _=>by simp only[sK]) ⟨q7.1,z7⟩ c7 hr.1 hr.2.1 hr.2.2
def stN(n:Nat)(s:M.aC):Prop:=s.aKf.length<=n/\∀b∈s.aKf,bkI b
theorem stN.ok{n:Nat}{s:M.aC}(h:stN n s)(j:n<=1000):s.ok:=⟨⟨ml (by have:=h.1;omega),λb hb=>(h.2 b hb).ok⟩⟩
theorem stN.sz{n:Nat}{s:M.aC}(h:stN n s)(j:n<=5):M.aC.sz s<=900005:=by
 have h1:=eN (w:=M.aKe.sz) (b:=180000) (xs:=s.aKf) λb hb=>(h.2 b hb).sz
 have h2:=h.1
 simp only[M.aC.sz]
 omega
theorem stN.mono{n m:Nat}{s:M.aC}(h:stN n s)(j:n<=m):stN m s:=⟨by have:=h.1;omega,h.2⟩
theorem aER{n:Nat}{s:M.aC}{b:M.aKe}(h:stN n s)(J:n<=4)(hb:bkI b):∃x,hU s b=some x/\stN (n+1) x.1:=by have U:=h.sz wg;have C:=hb.sz;refine⟨_,NH (h.ok wg) hb.ok wg wg,?_⟩;have I:=Of s b;have h1:=h.1;unfold Ij Kr;split;(split;(refine⟨wH,λx j=> ?_⟩;rcases L4 j with rfl|j;(exact hb);·exact h.2 x j);·exact h.mono (Nat.le_succ n));·exact h.mono (Nat.le_succ n)
theorem SN{b:List Int}{i h:Int}(c0:okC b i h):Dr b (stN 4) (A6 ⟨b,i,h⟩):=by
 refine .bnd (bB c0) λi1 v1 r1 c1 q1=> ?_
 obtain⟨N,rfl⟩:=CK q1.1
 have hN:=q1.2.1 wg
 refine DJ (L:=λn v (s:(M.aC)×Int×Int)=>pQ ⟨b,i,h⟩ n v s.2.1 s.2.2 s.1.aKf) (I:=λk s=>k<=100000/\okC b s.2.1 s.2.2/\k<=3/\stN (3-k) s.1) (Q:=Dr b (stN 4)) (λn k s hi ih=> ?_) (λn s hi=> ?_) aJ N (⟨[]⟩,i1,v1) (nB wg) ⟨wg,c1,⟨wg,wb,wb⟩⟩
 ·obtain⟨x,ci,ch⟩:=s
  obtain⟨k0,J,j⟩:=hi
  dsimp only at J j
  simp only[pQ]
  rw[jF (Xm k),NP k0]
  refine .bnd (On J) λi3 v3 r3 U q3=>.JX (aER (s:=x) j.2 wg q3.all) λy C=> ?_
  exact ih (y.1,i3,v3) ⟨wg,U,wg,C.mono wg⟩
 ·obtain⟨x,ci,ch⟩:=s
  obtain⟨k0,J,j⟩:=hi
  dsimp only at J j
  refine .bnd (Bh J) λi3 v3 r3 U q3=> ?_
  have hl:=j.2.1
  split
  ·refine .bnd (aAx U) λi4 v4 r4 c4 q4=> ?_
   rw[DA jz wg,qA]
   refine .ret c4 ⟨ju,λy C=> ?_⟩
   rcases qP.1 C with C|C
   ·exact j.2.2 y C
   simp_all
  ·exact .ret U (j.2.mono wg)
theorem Xd{b:List Int}{i h:Int}(c0:okC b i h):Dr b wsm (DI ⟨b,i,h⟩):=by
 refine .bnd (bB c0) λi1 v1 r1 c1 q1=>.bnd (bB c1) λi2 v2 r2 c2 q2=>.bnd (BD c2) λi3 v3 r3 c3 q3=>.bnd (B9 c3) λi4 v4 r4 c4 q4=>.bnd (bB c4) λi5 v5 r5 c5 q5=>.bnd (bB c5) λi6 v6 r6 c6 q6=> ?_
 have C:r4.size<=16:=qh q4 wg
 have I:inI r5:=bgI (aAO q5)
 have hk:=q3.any
 split
 ·exact .bnd (uX (λx=> -1000000000000000<=x/\x<=1000000000000000) we we c6) λi7 U J c7 j=>.ret c7 (J2 (bgI j) (bS _) hk C I)
 split
 ·exact .bnd (uX (λx=> -1000000000000000<=x/\x<=1000000000000000) we we c6) λi7 U J c7 j=>.ret c7 (J2 (bS _) (bgI j) hk C I)
 split
 ·exact .bnd (Uh c6) λi7 U J c7 j=>.ret c7 (J2 (bS _) (bS _) j C I)
 split
 ·exact .ret c6 (J2 (bS _) (bS _) hk we I)
 split
 ·exact .bnd (uX (λx=> -1000000000000000<=x/\x<=1000000000000000) we we c6) λi7 U J c7 j=>.ret c7 (J2 (bS _) (bS _) hk C (bgI j))
 ·exact .ret c6 (J2 (bS _) (bS _) hk C I)
def Xy(s:M.aKt):Prop:=M.aKt.ok s/\M.aKt.sz s<=30000
theorem aDb{s:M.aD}{a:List M.aQ}{c:List M.cH}(C:QJ s)(I:a.length<=100/\∀x∈a,M.aQ.ok x)(hc:c.length<=100/\∀x∈c,wsm x):Xy ⟨s,a,c⟩:=by
 have h1:=C.2
 have h4:=eN (w:=M.cH.sz) (b:=32) (xs:=c) λw j=>(hc.2 w j).2
 refine⟨⟨C.1,⟨ml wH,I.2⟩,⟨ml wH,λw j=>(hc.2 w j).1⟩⟩,?_⟩
 simp only[M.aKt.sz]
 omega
theorem aBF{b:List Int}{i h:Int}(c0:okC b i h):Dr b Xy (D5 ⟨b,i,h⟩):=by
 refine .bnd (Px c0) λi1 v1 J c1 q1=>.bnd (bB c1) λi2 v2 r2 c2 q2=> ?_
 have hs:QJ J.aD:=⟨q1.1,by have:=tR q1.2.1;omega⟩
 have ha:J.aQ.length<=60:=q1.2.2.1.1
 have hc:J.aK6.length<=5:=q1.2.2.2.1
 have ha2:=q1.2.2.1.2
 have hc2:=q1.2.2.2.2
 have U:J.aQ.length<=100/\∀x∈J.aQ,M.aQ.ok x:=⟨wg,ha2⟩
 have C:J.aK6.length<=100/\∀x∈J.aK6,wsm x:=⟨wg,hc2⟩
 split
 ·exact .bnd (YM c2) λi3 v3 r3 c3 q3=>.ret c3 (aDb q3 U C)
 split
 ·refine .bnd (uX (λx=> -1000000000000000<=x/\x<=1000000000000000) we we c2) λi3 v3 r3 c3 q3=>.bnd (uX (λx=> -1000000000000000<=x/\x<=1000000000000000) we we c3) λi4 v4 r4 c4 q4=> ?_
  rw[DA jz wg,qA]
  refine .ret c4 (aDb hs ⟨ju,λx j=> ?_⟩ C)
  rcases qP.1 j with j|j
  ·simp_all
  ·rw[qQ.1 j];exact⟨bgI q3,bgI q4⟩
 split
 ·refine .bnd (Xd c2) λi3 v3 r3 c3 q3=> ?_
  rw[DA jz wg,qA]
  refine .ret c3 (aDb hs U ⟨ju,λx j=> ?_⟩)
  rcases qP.1 j with j|j
  ·exact hc2 x j
  ·rw[qQ.1 j];exact q3
 split
 ·have key:∀(n k:Nat) (l:List M.aQ),64-k<n->k<=64->l.length<=k->(∀x∈l,M.aQ.ok x)->Dr b Xy (zU (i1,v1,J) (i2,v2,r2) n k l):=by
   intro n
   induction n with
   |zero=>omega
   |succ n ih=>
    intro k l hn hk hl j
    simp only[zU]
    rcases jS k 64 with h6|h6
    ·rw[jF wV,DA jz wg,qA,bM wg]
     refine ih (k+1) (l++[_]) wg wg ju λx I=> ?_
     rcases qP.1 I with I|I
     ·simp_all
     ·rw[qQ.1 I];exact⟨bgI wC,yH⟩
    ·rw[jG wV];exact .ret c2 (aDb hs ⟨wg,j⟩ C)
  exact key aJ 4 [] (nB wg) wg wb wb
 ·exact .ret c2 (aDb hs U C)
def aAu(p:M.bK):Prop:=M.bK.ok p/\M.bK.sz p<=2000
theorem aBB{b:List Int}{i h:Int}(c0:okC b i h):Dr b aAu (DL ⟨b,i,h⟩):=by
 refine .bnd (OI c0) λi1 v1 r1 c1 q1=>.bnd (bB c1) λi2 v2 r2 J q2=> ?_
 dsimp only
 obtain⟨j,hl,hz⟩:=q1
 have hz':=hz
 simp only[M.bK.sz]at hz'
 split
 ·exact .bnd (uX (λx=> -1000000000000000<=x/\x<=1000000000000000) we we J) λi3 v3 r3 U q3=>.ret U ⟨⟨bgI q3,j.aKl,j.Top,j.aKb,j.aT,j.aKh⟩,by show M.bK.sz r1<=2000;omega⟩
 split
 ·refine .bnd (EG (λs=>s.size<=16) we we J) λi3 v3 r3 U q3=>.bnd (bB U) λi4 v4 r4 c4 q4=> ?_
  rw[DA jz wg,qA]
  refine .ret c4 ⟨⟨j.Id,j.aKl,j.Top,j.aKb,⟨ml ju,λx I=> ?_⟩,j.aKh⟩,?_⟩
  ·rcases qP.1 I with I|I;(exact j.aT.2 x I);·rw[qQ.1 I];exact⟨s16 q3,bS _⟩
  ·simp only[M.bK.sz,xT,dO,M.aT.sz,qE,qJ,qK];omega
 split
 ·exact .bnd (uX (λx=> -1000000000000000<=x/\x<=1000000000000000) we we J) λi3 v3 r3 U q3=>.ret U ⟨⟨j.Id,j.aKl,j.Top,bgI q3,j.aT,j.aKh⟩,by show M.bK.sz r1<=2000;omega⟩
 split
 ·have e5:(⟨#[105,110,100,101,120]⟩:ByteArray).size=5:=rfl
  have key:∀(n:Nat) (l:List M.aT),8-l.length<n->l.length<=8->(∀x∈l,M.aT.ok x)->dO M.aT.sz l+6*(8-l.length)<=dO M.aT.sz r1.aT+48->Dr b aAu (yZ (i1,v1,r1) (i2,v2,r2) n l):=by
   intro n
   induction n with
   |zero=>omega
   |succ n ih=>
    intro l hn hk I hs
    simp only[yZ]
    rcases jS l.length 8 with h6|h6
    ·rw[jF wV,DA jz wg,qA];refine ih (l++[_]) ju ju (λx C=> ?_) ?_;(rcases qP.1 C with C|C;(simp_all);·rw[qQ.1 C];exact⟨s16 (show(⟨#[105,110,100,101,120]⟩:ByteArray).size<=16 by decide),j.aKb⟩);·simp only[xT,dO,M.aT.sz,e5,qE,qJ,qK];omega
    ·rw[jG wV];refine .ret J ⟨⟨j.Id,j.aKl,j.Top,j.aKb,⟨ml (by show l.length<=_;omega),I⟩,j.aKh⟩,?_⟩;simp only[M.bK.sz];omega
  exact key aJ r1.aT (nB wg) wg j.aT.2 wg
 ·exact .ret J ⟨j,wg⟩
def wdI(n:Nat)(w:M.aE):Prop:=inI w.Now/\inI w.aKk/\stN 4 w.aC/\(w.aKq.length<=n/\∀p∈w.aKq,aAu p)/\inI w.aKn/\(w.aKu.aKu=[])/\(w.aKp.aLJ=[])/\(w.aK0.length<=3/\(∀s∈w.aK0,M.aKl.ok s/\M.aKl.sz s<=100))/\(w.aKr.length<=3/\∀s∈w.aKr,Xy s)
theorem wdI.ok{n:Nat}{w:M.aE}(h:wdI n w)(C:n<=20):M.aE.ok w:=by obtain⟨h1,h2,h3,h4,h5,h6,h7,h8,h9⟩:=h;exact⟨h1,h2,h3.ok wg,⟨ml wg,λp j=>(h4.2 p j).1⟩,h5,⟨by rw[h6];simp[maxLen],by rw[h6];simp⟩,⟨by rw[h7];simp[maxLen],by rw[h7];simp⟩,⟨ml wg,λp j=>(h8.2 p j).1⟩,⟨ml wg,λp j=>(h9.2 p j).1⟩⟩
theorem wdI.sz{n:Nat}{w:M.aE}(h:wdI n w)(hn:n<=20):M.aE.sz w<=900000:=by
 obtain⟨h1,h2,h3,h4,h5,h6,h7,h8,h9⟩:=h
 have j:=eN (w:=M.aKe.sz) (b:=180000) (xs:=w.aC.aKf) λb hb=>(h3.2 b hb).sz
 have C:=eN (w:=M.bK.sz) (b:=2000) (xs:=w.aKq) λb hb=>(h4.2 b hb).2
 have I:=eN (w:=M.aKl.sz) (b:=100) (xs:=w.aK0) λb hb=>(h8.2 b hb).2
 have J:=eN (w:=M.aKt.sz) (b:=30000) (xs:=w.aKr) λb hb=>(h9.2 b hb).2
 have U:=h3.1
 have b2:=h4.1
 have b3:=h8.1
 have b4:=h9.1
 simp only[M.aE.sz,M.aC.sz,M.aW.sz,M.aKp.sz,h6,h7,dO,qK]
 omega
theorem aD5{d:Int}:wdI 0 (Xq d):=by unfold Xq;split;(rename_i h;refine⟨yH,bgI wC,⟨wb,wb⟩,⟨wb,wb⟩,WA,rfl,rfl,⟨by simp[tV],λs j=> ?_⟩,⟨by simp[tV],λs j=> ?_⟩⟩;(simp only[tV,jJ,jK,qq,qO,or_false]at j;rcases j with rfl|rfl|rfl<;>exact⟨⟨s16 we,WA,⟨ml wb,λy C=>by simp only[qq,qO,or_false]at C;rcases C with rfl|rfl|rfl|rfl<;>exact s16 we⟩⟩,we⟩);·simp only[tV,jJ,jK,qq,qO,or_false]at j;rcases j with rfl|rfl|rfl<;>exact aDb Q3.any ⟨wb,wb⟩ ⟨wb,wb⟩);·exact⟨yH,yH,⟨wb,wb⟩,⟨wb,wb⟩,yH,rfl,rfl,⟨wb,wb⟩,⟨wb,wb⟩⟩
theorem QQ(x:M.aC):N2 x x=true:=rL S6 _
theorem W9(x:M.bK):T0 x x=true:=by simp[T0,NY,rL (f:=IC) (λy=>by simp[IC]),rL (f:=L9) (λy=>by simp[L9]),rL (f:=Sf) (λy=>by simp[Sf])]
theorem SI(x:M.aKt):KM x x=true:=by simp[KM,KK,rL (f:=Hi) (λy=>by simp[Hi]),rL (f:=GG) (λy=>by simp[GG])]
theorem Xf(x:M.aKl):UN x x=true:=by simp[UN,rL (f:=Jq) (λy=>by simp[Jq])]
theorem OD(x:M.aE):Wc x x=true:=by simp[Wc,QQ,rL (f:=T0) W9,rL (f:=Pv) (λy=>by simp[Pv]),rL (f:=OL) (λy=>by simp[OL]),rL (f:=UN) Xf,rL (f:=KM) SI]
theorem NL(x:List M.bK)(j:x.length+dO M.bK.sz x<=1073741824):Bv x=some x:=by
 unfold Bv
 exact CQ (xs:=x) (b:=144) (L:=nM x) (E:=some) wg wg (λn r k hk=>by
  have C:=dW (f:=M.bK.sz) (qG hk)
  simp only[nM]
  rw[jF (bE hk),aK hk,qA,Gb _ wg,qA,bM wg]) (λn r=>by
  simp only[nM]
  rw[jG wF])
theorem BX(w:M.aE)(C:M.aE.sz w<=1073741824):dM w=some w:=by
 simp only[M.aE.sz]at C
 have e3:lI w w.aC w.aKq w.aKu w.aKp w.aK0 aJ 0 []=some w:=CQ (xs:=w.aKr) (b:=96) (L:=lI w w.aC w.aKq w.aKu w.aKp w.aK0) (E:=λr=>some { w with aKr:=r }) wg wg (λn r k hk=>by
   have j:=dW (f:=M.aKt.sz) (qG hk)
   simp only[lI]
   rw[jF (bE hk),aK hk,qA,PD _ wg,qA,bM wg]) (λn r=>by
   simp only[lI]
   rw[jG wF])
 have e2:lM w w.aC w.aKq w.aKu w.aKp aJ 0 []=some w:=(CQ (xs:=w.aK0) (b:=56) (L:=lM w w.aC w.aKq w.aKu w.aKp) (E:=λr=>lI w w.aC w.aKq w.aKu w.aKp r aJ 0 []) wg wg (λn r k hk=>by
   have j:=dW (f:=M.aKl.sz) (qG hk)
   simp only[lM]
   rw[jF (bE hk),aK hk,qA,PI _ wg,qA,bM wg]) (λn r=>by
   simp only[lM]
   rw[jG wF])).trans e3
 have e1:oE w w.aC aJ 0 []=some w:=(CQ (xs:=w.aKq) (b:=144) (L:=oE w w.aC) (E:=λr=>(Ax w.aKu).bind λx=>(BZ w.aKp).bind λy=>lM w w.aC r x y aJ 0 []) wg wg (λn r k hk=>by
   have j:=dW (f:=M.bK.sz) (qG hk)
   simp only[oE]
   rw[jF (bE hk),aK hk,qA,GU _ wg,qA,bM wg]) (λn r=>by
   simp only[oE]
   rw[jG wF])).trans (by rw[J9 _ wg,qA,PR _ wg,qA];exact e2)
 unfold dM
 rw[GY _ wg,qA]
 exact e1
