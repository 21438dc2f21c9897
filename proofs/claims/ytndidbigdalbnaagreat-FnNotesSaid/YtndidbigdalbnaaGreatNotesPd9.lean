/-
  Helper text. No conditions.
-/
import Derived.Test.YtndidbigdalbnaaGreatNotesPd8
set_option linter.all false
namespace Go.Proofs.YtndidbigdalbnaaGreat.gen
open Go Go.Sh
open Go.IntKind (i64)
theorem YM{b:List Int}{i h:Int}(c0:okC b i h):Dr b QJ (EX ⟨b,i,h⟩):=by
 refine .bnd (I5 we we c0) λi1 v1 r1 c1 j=>.bnd (bB c1) λi2 v2 r2 I q2=> ?_
 have hz:=tR j.2.1
 have hl:r1.aKg.length<=10000:=by simp only[M.aD.sz]at hz;omega
 split
 ·refine .bnd (EG (λs=>s.size<=16) we we I) λi3 v3 r3 J U=>.ret J ⟨⟨s16 U,j.1.aKg,j.1.aK7⟩,?_⟩
  simp only[M.aD.sz]at hz⊢
  omega
 split
 ·exact .bnd (uX (λx=> -1000000000000000<=x/\x<=1000000000000000) we we I) λi3 v3 r3 J U=>.ret J ⟨⟨j.1.Name,j.1.aKg,bgI U⟩,qh hz wg⟩
 split
 ·refine .bnd (Uh I) λi3 v3 r3 J U=>.bnd (aCi J) λi4 v4 r4 c4 q4=> ?_
  rw[DA wa wg,qA]
  exact .ret c4 (aCm j U q4)
 split
 ·have key:∀(n:Nat) (s:M.aD),16-s.aKg.length<n->s.ok->iM s=true->aA5 s->Dr b QJ (A9 (i2,v2,r2) n s.Name s.aK7 s.aKg):=by
   intro n
   induction n with
   |zero=>simp
   |succ n ih=>
    intro s h hs C hj
    have hm:=tR C
    simp only[A9]
    rcases jS s.aKg.length 16 with h6|h6
    ·rw[jF wV,show⟨s.Name,s.aKg,s.aK7⟩=s from rfl,B2 hs,qA,C,jF rfl]
     refine .JX (XV hs C hj h6) λy hy=> ?_
     grind
    ·rw[jG wV];exact .ret I ⟨hs,by show M.aD.sz s<=_;omega⟩
  exact key aJ r1 (nB wg) j.1 j.2.1 ⟨by have:=j.2.2.1;omega,j.2.2.2⟩
 ·exact .ret I j.any
theorem Ti{b:List Int}{i h n:Int}(hn:0<=n/\n<=1000)(c0:okC b i h):Dr b (λl=>okB l/\l.length<=1000) (C7 ⟨b,i,h⟩ n):=by
 obtain⟨N,rfl⟩:=CK hn.1
 refine aCK (N:=N) (L:=λm v s=>sR ⟨b,i,h⟩ N m v s.1 s.2.1 s.2.2) (I:=λk s=>okC b s.2.1 s.2.2/\s.1.length=k/\∀x∈s.1,0<=x/\x<=255) (Q:=Dr b (λl=>okB l/\l.length<=1000)) (λm k s hk J ih=> ?_) (λm s J=> ?_) aJ 0 ([],i,h) (nB wg) wg ⟨c0,rfl,wb⟩
 ·obtain⟨l,ci,ch⟩:=s
  obtain⟨C,U,k3⟩:=J
  simp only[sR]
  rw[jF (bE hk)]
  refine .bnd (Lc C) λi3 v3 r3 c3 q3=> ?_
  rw[DA wa wg,qA,bM wg]
  refine ih (l++[_],i3,v3) ⟨c3,by simp[U],λx j=> ?_⟩
  rcases qP.1 j with j|j
  ·simp_all
  ·rw[qQ.1 j,wrap_u8];omega
 ·obtain⟨l,ci,ch⟩:=s;obtain⟨C,U,k3⟩:=J;dsimp only at C U k3;simp only[sR];rw[jG wb];exact .ret C ⟨⟨ml wg,k3⟩,wg⟩
theorem aBJ{b l:List Int}{i h:Int}(C:okB l)(hz:l.length<=100000)(c0:okC b i h):Dr b (λr=>okB r/\r.length<=l.length+1/\aBx l r) (D6 ⟨b,i,h⟩ l):=by
 unfold D6
 rw[Ip wg wg,qA]
 refine .bnd (bB c0) λi1 v1 r1 J q1=> ?_
 split
 ·split
  ·rename_i hp
   refine .bnd (bB J) λi2 v2 r2 U I=>.bnd (bB U) λi3 v3 r3 c3 q3=> ?_
   have hp':0<(l.length:Int):=by simpa using hp
   obtain⟨k,rfl⟩:=CK I.1
   have hk:=I.2.1 hp'
   dsimp only
   rw[aK wg,qA]
   refine .ret c3 ⟨⟨by rw[qN];exact C.1,λx j=> ?_⟩,by rw[qN];omega,.inr (.inl ⟨k,_,wg,rfl⟩)⟩
   rcases jE j with j|rfl
   ·exact C.2 x j
   ·rw[wrap_u8];omega
  ·exact .ret J ⟨C,wg,.inl rfl⟩
 split
 ·refine .bnd (bB J) λi2 v2 r2 U I=> ?_
  have hw:i64.wrap (l.length+1)=l.length+1:=eU wg wg
  rw[hw]at I
  obtain⟨k,rfl⟩:=CK I.1
  have hk:=I.2.1 wg
  rw[Ew wg,qA,qH]
  exact .ret U ⟨⟨by have:=C.1;rw[qV];omega,λx j=>C.2 x (qk j)⟩,wO,.inr (.inr (.inl ⟨k,rfl⟩))⟩
 split
 ·refine .bnd (uX (λx=>x=0\/x=1\/x=128\/x=255) we we J) λi2 v2 r2 U I=> ?_
  dsimp only
  rw[DA jz wg,qA]
  refine .ret U ⟨⟨ml ju,λx j=> ?_⟩,wb,.inr (.inr (.inr ⟨_,by rw[wrap_u8];omega,rfl⟩))⟩
  rcases qP.1 j with j|j
  ·exact C.2 x j
  ·rw[qQ.1 j,wrap_u8];omega
 ·exact .ret J ⟨C,wg,.inl rfl⟩
def aBr(x:M.aKo):Prop:=x.ok/\x.aLZ.length<=1000
theorem LD{b:List Int}{i h:Int}(c0:okC b i h):Dr b aBr (Ag ⟨b,i,h⟩):=by
 refine .bnd (bB c0) λi1 v1 r1 c1 q1=>.bnd (bB c1) λi2 v2 r2 c2 q2=>.bnd (bB c2) λi3 v3 r3 c3 q3=>.bnd (Ti (aJo q3 wg wg) c3) λi4 v4 r4 c4 j=>.bnd (Bh c4) λi5 v5 r5 c5 q5=>.bnd (bB c5) λi6 v6 r6 c6 q6=> ?_
 split
 ·exact .bnd (uX (λx=> -1000000000000000<=x/\x<=1000000000000000) we we c6) λi7 U J c7 C=>.ret c7 ⟨⟨bgI C,bgI wb,bS _,j.1⟩,j.2⟩
 split
 ·exact .bnd (uX (λx=> -1000000000000000<=x/\x<=1000000000000000) we we c6) λi7 U J c7 C=>.ret c7 ⟨⟨bS _,bgI C,bS _,j.1⟩,j.2⟩
 split
 ·exact .bnd (uX (λx=>0<=x/\x<=1000) we we c6) λi7 U J c7 C=>.bnd (Ti C c7) λi8 v8 r8 c8 I=>.ret c8 ⟨⟨bS _,bgI wb,bS _,I.1⟩,I.2⟩
 ·exact .ret c6 ⟨⟨bS _,bgI wb,bS _,j.1⟩,j.2⟩
def Fm(s:M.aN):Prop:=s.ok/\M.aN.sz s<=65536
theorem Ri{s:M.aN}{v:Int}(h:Fm s)(j:inI v):∃x,rJ s v=some x/\Fm x.1:=by
 have I:=h.2
 refine⟨_,NT h.1 j wg,YO h.1 j wg,?_⟩
 cases h2:(Kc s v).2 with
 |true=>exact Nd (WN h2)
 |false=>
  have e:(Kc s v).1=s:=by unfold Kc at h2⊢;split at h2;(cases h2);·rename_i C;rw[jG C]
  rw[e];exact h.2
theorem ZZ{s:M.aN}{v:Int}{a p:ByteArray}{x:M.aKo}(h:Fm s)(J:a.size<=16)(U:p.size<=16)(I:aBr x):∃y,pU s v a p x=some y/\Fm y.1:=by
 have hz:=h.2
 have hx2:=I.2
 refine⟨_,JZ h.1 wg (s16 J) (s16 U) I.1 (by simp only[M.aKo.sz];omega),aAt h.1 wg (s16 J) (s16 U) I.1,?_⟩
 cases h2:(PE s v a p x).2 with
 |true=>exact Nd (XE h2)
 |false=>
  have e:(PE s v a p x).1=s:=by unfold PE at h2⊢;split at h2;(rename_i j;rw[jF j]);·rename_i j;rw[jG j];split at h2;(cases h2);·rename_i C;rw[jG C]
  rw[e];exact h.2
theorem Y6:Fm ⟨[]⟩:=⟨⟨⟨wb,wb⟩⟩,by simp[M.aN.sz,dO]⟩
theorem ZI{b:List Int}{i h:Int}{N:Nat}(hN:N<=10){i1 U:Int}(c1:okC b i1 U){s:M.aN}(hs:Fm s):Dr b Fm (uZ ⟨b,i,h⟩ aJ N i1 U s.aKi):=by
 refine DJ (L:=λn v s=>uZ ⟨b,i,h⟩ n v s.2.1 s.2.2 s.1.aKi) (I:=λk s=>k<=100000/\okC b s.2.1 s.2.2/\Fm s.1) (Q:=Dr b Fm) (λn k s j ih=> ?_) (λn s j=> ?_) aJ N (s,i1,U) (nB wg) ⟨wg,c1,hs⟩
 ·obtain⟨k0,C,J⟩:=j
  simp only[uZ]
  rw[jF (Xm k),NP k0]
  refine .bnd (bB C) λi3 v3 r3 c3 q3=>.bnd (K3 c3) λi4 v4 r4 c4 q4=>.bnd (Tq c4) λi5 v5 r5 c5 q5=>.bnd (LD c5) λi6 v6 r6 c6 q6=>.JX (ZZ J (qh q4 wg) (qh q5 wg) q6) λy hy=> ?_
  exact ih (y.1,i6,v6) ⟨wg,c6,hy⟩
 ·obtain⟨k0,C,J⟩:=j;exact .ret C J
theorem aAT{b:List Int}{i h:Int}(c0:okC b i h):Dr b Fm (Fv ⟨b,i,h⟩):=by
 refine .bnd (bB c0) λi1 v1 r1 c1 q1=> ?_
 obtain⟨N,rfl⟩:=CK q1.1
 refine DJ (L:=λn v s=>yX ⟨b,i,h⟩ n v s.2.1 s.2.2 s.1.aKi) (I:=λk s=>k<=100000/\okC b s.2.1 s.2.2/\Fm s.1) (Q:=Dr b Fm) (λn k s C ih=> ?_) (λn s C=> ?_) aJ N (⟨[]⟩,i1,v1) (nB wg) ⟨wg,c1,Y6⟩
 ·obtain⟨k0,J,U⟩:=C
  simp only[yX]
  rw[jF (Xm k),NP k0]
  refine .bnd (bB J) λi3 v3 r3 j q3=>.JX (Ri U (bS _)) λy hy=> ?_
  exact ih (y.1,i3,v3) ⟨wg,j,hy⟩
 ·obtain⟨k0,J,U⟩:=C
  refine .bnd (bB J) λi3 v3 r3 j q3=> ?_
  obtain⟨M,rfl⟩:=CK q3.1
  exact ZI wg j U
def Se(s:M.aN):Prop:=s.ok/\M.aN.sz s<=70000
theorem Fm.all{s:M.aN}(h:Fm s):Se s:=⟨h.1,by have:=h.2;omega⟩
theorem aAC{b:List Int}{i h:Int}(c0:okC b i h):Dr b Se (Fz ⟨b,i,h⟩):=by
 refine .bnd (aAT c0) λi1 v1 r1 c1 I=>.bnd (bB c1) λi2 v2 r2 J q2=> ?_
 have C:=I.2
 simp only[M.aN.sz]at C
 split
 ·refine .bnd (uX (λx=> -1000000000000000<=x/\x<=1000000000000000) we we J) λi3 v3 r3 c3 q3=> ?_
  rw[DA wa wg,qA]
  refine .ret c3 ⟨⟨⟨ml wa,λy j=> ?_⟩⟩,?_⟩
  ·rcases qP.1 j with j|j;(exact I.1.aKi.2 y j);·rw[qQ.1 j];exact⟨bgI q3,⟨wb,wb⟩⟩
  ·simp only[M.aN.sz];rw[xT];simp only[dO,M.aKv.sz,qE,qJ,qK];omega
 split
 ·split
  ·cases hc:r1.aKi with
   |nil=>simp_all
   |cons U xs=>
    have hx0:U∈r1.aKi:=by rw[hc];simp
    have ho:=I.1.aKi.2 U hx0
    rw[hc]at C
    simp only[dO,M.aKv.sz,qJ]at C
    refine .bnd (EG (λs=>s.size<=16) we we J) λi3 v3 r3 c3 q3=>.bnd (LD c3) λi4 v4 r4 c4 q4=> ?_
    rw[DA jz wg,qA]
    have aa:=q4.2
    refine .ret c4 ⟨⟨⟨ml (by rw[qN,qJ];omega),λy j=> ?_⟩⟩,?_⟩
    ·rcases jE j with j|rfl;(exact I.1.aKi.2 y (by rw[hc];exact j));·refine⟨ho.aKb,ml ju,λz C=> ?_⟩;rcases qP.1 C with C|C;(exact ho.aKs.2 z C);·rw[qQ.1 C];exact⟨s16 (s:=⟨#[98,97,110,107]⟩) we,s16 q3,q4.1⟩
    ·have e4:(⟨#[98,97,110,107]⟩:ByteArray).size=4:=rfl;show M.aN.sz ⟨⟨U.aKb,U.aKs++[_]⟩::xs⟩<=70000;simp only[M.aN.sz,dO,M.aKv.sz,xT,M.aK2.sz,M.aKo.sz,qE,qJ,qK];omega
  ·exact .ret J I.all
 split
 ·have key:∀(n k:Nat) (s:M.aN),5-k<n->k<=5->Fm s->Dr b Se (uS (i2,v2,r2) n k s.aKi):=by
   intro n
   induction n with
   |zero=>simp
   |succ n ih=>
    intro k s h hk hs
    simp only[uS]
    rcases jS k 5 with h6|h6
    ·rw[jF wV]
     refine .JX (Ri hs (bgI wg)) λy j=> ?_
     rw[bM wg]
     exact ih (k+1) y.1 wg wg j
    ·rw[jG wV];exact .ret J hs.all
  exact key aJ 1 r1 (nB wg) wg I
 ·exact .ret J I.all
theorem Ta{d:M.aKc}{u:M.tC}(C:d.aKz.length<=100000):∃v,ET d u=some v:=by
 have key:∀(n k:Nat),d.aKz.length-k<n->k<=d.aKz.length->∃v,rR d u n k=some v:=by
  intro n
  induction n with
  |zero=>simp
  |succ n j=>
   intro k h hk
   simp only[rR]
   rcases jS k d.aKz.length with h6|h6
   ·rw[jF (bE h6),aK h6,qA,bM wg];have:=j (k+1) wg wg;split;(split;(exact⟨_,rfl⟩);·exact this);·exact this
   ·rw[jG wV];exact⟨_,rfl⟩
 exact key aJ 0 (nB wg) wg
theorem aE5{d:M.aKc}{a f:ByteArray}(j:d.ok)(hz:M.aKc.sz d<=100000)(I:a.size<=16)(J:f.size<=16):∃x,nN d ⟨3,a,f⟩=some x/\(x.1.ok/\M.aKc.sz x.1<=M.aKc.sz d+40):=by
 have U:d.aKz.length<=100000:=by simp only[M.aKc.sz]at hz;omega
 obtain⟨x5,e5⟩:=Ta (u:=⟨3,a,f⟩) U
 have ok':M.aKc.ok ⟨d.Name,d.aKb,d.aKm,d.aKz++[⟨a,f⟩]⟩:=⟨j.Name,j.aKb,j.aKm,ml ju,λy C=>by rcases qP.1 C with C|C;(exact j.aKz.2 y C);·rw[qQ.1 C];exact⟨s16 I,s16 J⟩⟩
 have sz':M.aKc.sz ⟨d.Name,d.aKb,d.aKm,d.aKz++[⟨a,f⟩]⟩<=M.aKc.sz d+40:=by simp only[M.aKc.sz,xT,dO,M.aV.sz,qE,qJ,qK];omega
 unfold nN
 rw[CI d wg,qA,Dh j,qA,e5,qA]
 generalize gJ (BL a) d.aKm=x3
 simp only[qA]
 by_cases h:x3>=0
 ·by_cases h5:x5<0;(simp only[h,h5,jI];rw[DA jz wg,qA,xH j wg,qA,xH ok' wg,qA];cases nDb d;(simp_all);·cases nDb ⟨d.Name,d.aKb,d.aKm,d.aKz++[⟨a,f⟩]⟩;(exact⟨_,rfl,j,wH⟩);simp_all);·simp only[h5,jI];simp_all
 ·simp only[h,jH];simp_all
def aEG(d:M.aKc):Prop:=d.ok/\M.aKc.sz d<=40000
theorem aJe{l:List M.aD}(C:l.length<=3)(h:∀s∈l,Xp s):M.aKc.ok ⟨⟨#[97,112,112]⟩,1,l,[]⟩/\M.aKc.sz ⟨⟨#[97,112,112]⟩,1,l,[]⟩<=39000:=by
 have h3:(⟨#[97,112,112]⟩:ByteArray).size=3:=rfl
 have:=eN (w:=M.aD.sz) (b:=10000) (xs:=l) λs j=>tR (h s j).2.1
 refine⟨⟨s16 (s:=⟨#[97,112,112]⟩) we,WA,⟨ml wH,λs j=>(h s j).1⟩,⟨wb,wb⟩⟩,?_⟩
 simp only[M.aKc.sz,dO,qK,h3]
 omega
theorem aDL{α:Type}{b:Nat}{xs:List α}(h:xs.length<=1000000)(hb:b<=1000):aEa b xs=some xs:=by unfold aEa;rw[jF (qh (Nat.mul_le_mul h hb) wg)]
theorem aAa{b:List Int}{i h:Int}(c0:okC b i h):Dr b aEG (FG ⟨b,i,h⟩):=by
 refine .bnd (I5 we we c0) λi1 v1 r1 c1 q1=>.bnd (I5 we we c1) λi2 v2 r2 c2 q2=> ?_
 rw[aDL wb wg,qA]
 have fin:∀{l:List M.aD} {i5 I:Int} {f:Int×Int×Bool->Option (Int×Int×M.aKc)},l.length<=3->(∀s∈l,Xp s)->okC b i5 I->f=(λj=>if j.2.2=true then(cE ⟨b,j.1,j.2.1⟩).bind λC=>(nN ⟨⟨#[97,112,112]⟩,1,l,[]⟩ ⟨3,⟨#[110,111,116,101,115]⟩,C.2.2⟩).bind λaf=>some (C.1,C.2.1,af.1)else some (j.1,j.2.1,⟨⟨#[97,112,112]⟩,1,l,[]⟩))->Dr b aEG ((cF ⟨b,i5,I⟩ 3).bind f):=by
  intro l i5 I f hl hg c5 hf
  subst hf
  obtain⟨U,o2⟩:=aJe hl hg
  refine .bnd (Bh c5) λi6 v6 r6 c6 q6=> ?_
  split
  ·refine .bnd (B9 c6) λi7 v7 r7 c7 q7=>.JX (aE5 U wg we (qh q7 wg)) λy J=>.ret c7 ⟨J.1,?_⟩
   have:=J.2
   omega
  ·exact .ret c6 ⟨U,wg⟩
 refine .bnd (Bh c2) λi3 v3 r3 c3 q3=> ?_
 dsimp only
 split
 ·refine .bnd (I5 we we c3) λi4 v4 r4 c4 q4=> ?_
  exact fin (l:=[r4]++[r1,r2]) wb (by simp only[qP,qq,qO,or_false];rintro s (rfl|rfl|rfl)<;>assumption) c4 rfl
 simp_all
theorem aDw{b:List Int}{i h:Int}(c0:okC b i h):Dr b Kb (HM ⟨b,i,h⟩):=by
 refine .bnd (bB c0) λi1 v1 r1 c1 q1=>.bnd (EG (λs=>s.size<=16) we we c1) λi2 v2 r2 c2 j=>.bnd (BD c2) λi3 v3 r3 I q3=> ?_
 have hk:=q3.any.1
 have J:(⟨#[]⟩:ByteArray).size<=maxLen:=s16 we
 split
 ·exact .bnd (FP I) λi4 v4 U c4 C=>.ret c4 ⟨bS _,s16 j,hk,C.1,J⟩
 split
 ·exact .bnd (FP I) λi4 v4 U c4 C=>.ret c4 ⟨bS _,s16 j,hk,C.1,J⟩
 split
 ·exact .bnd (B9 I) λi4 v4 U c4 C=>.ret c4 ⟨bS _,s16 j,hk,IX,s16 (qh C wg)⟩
 split
 ·refine .bnd (Bh I) λi4 v4 U c4 C=> ?_
  split
  ·exact .bnd (BD c4) λi5 v5 r5 c5 q5=>.ret c5 ⟨WA,s16 j,q5.any.1,IX,J⟩
  ·exact .ret c4 ⟨bS _,s16 j,OH,IX,J⟩
 ·exact .ret I ⟨bS _,s16 j,hk,IX,J⟩
def aD8(l:List M.fA):Prop:=l.length<=10/\∀o∈l,Kb o
theorem aCM{b:List Int}{i h:Int}(c0:okC b i h):Dr b aD8 (E3 ⟨b,i,h⟩ 3):=by
 unfold E3
 rw[show i64.wrap (3+1)=4 from by rw[eU wg wg];rfl]
 refine .bnd (bB c0) λi1 v1 r1 c1 q1=> ?_
 obtain⟨N,rfl⟩:=CK q1.1
 have hN:=q1.2.1 wg
 refine DJ (L:=λn v s=>yF ⟨b,i,h⟩ n v s.1 s.2.1 s.2.2) (I:=λk s=>k<=100000/\okC b s.2.1 s.2.2/\s.1.length+k<=10/\∀o∈s.1,Kb o) (Q:=Dr b aD8) (λn k s J ih=> ?_) (λn s J=> ?_) aJ N ([],i1,v1) (nB wg) ⟨wg,c1,⟨by simp only[qK];omega,wb⟩⟩
 ·obtain⟨x,ci,ch⟩:=s
  obtain⟨U,j,C⟩:=J
  dsimp only at j C
  simp only[yF]
  rw[jF (Xm k),NP U]
  refine .bnd (aDw j) λi3 v3 r3 c3 q3=> ?_
  dsimp only
  rw[DA jz wg,qA]
  refine ih (x++[r3],i3,v3) ⟨wg,c3,ju,λo ho=> ?_⟩
  grind
 ·obtain⟨x,ci,ch⟩:=s;obtain⟨U,j,C⟩:=J;dsimp only at j C;simp only[yF];exact .ret j ⟨wg,C.2⟩
theorem TE{k:M.bJ}{l:List M.fA}{n:Nat}(h:k.ok)(J:M.bJ.sz k<=n)(I:n<=200000)(j:l.length<=1000)(C:∀o∈l,Kb o):∃x,nR k l=some x/\(x.1.ok/\M.bJ.sz x.1<=n+4000/\∀c:Nat,SGn c k->SGn (c+1) x.1):=⟨_,Hq h wg j C,(JH h).1,by have:=(JH (l:=l) h).2.1;omega,λ_ h=>h.So⟩
def XO(k:M.bJ):Prop:=k.ok/\M.bJ.sz k<=70000/\SGo k
theorem Yo{b:List Int}{i h:Int}(c0:okC b i h):Dr b XO (C2 ⟨b,i,h⟩):=by
 unfold C2
 refine .bnd (aAa c0) λi0 v0 d aa q0=>.bnd (bB aa) λi1 v1 r1 c1 q1=> ?_
 obtain⟨N,rfl⟩:=CK q1.1
 have hN:=q1.2.1 wg
 have hz:=q0.2
 refine DJ (L:=λn v s=>xP ⟨b,i,h⟩ n v s.1.aK1.Name s.1.aK1.aKb s.1.aLF s.2.1 s.2.2 s.1.aK1.aKm s.1.aK1.aKz s.1.Log) (I:=λk s=>k<=100000/\okC b s.2.1 s.2.2/\s.1.ok/\M.bJ.sz s.1+4000*k<=60000/\SGo s.1) (Q:=Dr b XO) (λn k s J ih=> ?_) (λn s J=> ?_) aJ N (⟨d,[],0⟩,i1,v1) (nB wg) ⟨wg,c1,⟨⟨q0.1,⟨wb,wb⟩,yH⟩,by show M.aKc.sz d+0+4000*N<=60000;omega,.nil⟩⟩
 ·obtain⟨x,ci,ch⟩:=s
  obtain⟨k0,C,j⟩:=J
  dsimp only at C j
  simp only[xP]
  rw[jF (Xm k),NP k0]
  refine .bnd (aCM C) λi3 v3 r3 c3 q3=>.JX (TE (k:=x) (n:=M.bJ.sz x) j.1 (qg _) (by have:=j.2.1;omega) (qh q3.1 wg) q3.2) λy U=> ?_
  exact ih (y.1,i3,v3) ⟨wg,c3,U.1,by have:=U.2.1;dsimp only;omega,(U.2.2 _ j.2.2.n).1⟩
 ·obtain⟨x,ci,ch⟩:=s;obtain⟨k0,C,j⟩:=J;dsimp only at C j;exact .ret C ⟨j.1,by show M.bJ.sz x<=70000;omega,j.2.2⟩
theorem aDO{l b:List Int}{i:Int}(C:okB l)(J:l.length<=100000)(hb:∀x∈b,0<=x/\x<=255):okB (Uj l i b).1/\(Uj l i b).1.length<=l.length+4000:=by unfold Uj;split;(exact⟨C,wH⟩);split;(exact⟨C,wH⟩);·refine⟨⟨ml wH,λy I=> ?_⟩,wH⟩;have j:y∈W5 l i b:=I;unfold W5 at j;simp only[qP]at j;rcases j with h|h|h;(exact C.2 y h);(exact HK hb y h);·exact Kk _ y h
def U1(k:M.bJ):Prop:=k.ok/\M.bJ.sz k<=80000/\LG k
theorem aBN{b:List Int}{i h:Int}(c0:okC b i h):Dr b U1 (FH ⟨b,i,h⟩):=by
 refine .bnd (Yo c0) λi1 v1 r1 c1 j=>.bnd (bB c1) λi2 v2 r2 C q2=> ?_
 dsimp only
 have J:=j.2.1
 have I:=j.2.2
 have hl:r1.Log.length<=70000:=by simp only[M.bJ.sz]at J;omega
 split
 ·exact .ret C ⟨⟨j.1.aK1,j.1.Log,bS _⟩,by simp only[M.bJ.sz]at J⊢;omega,Zy I j.1.Log wg⟩
 split
 ·refine .bnd (aBJ j.1.Log wg C) λi3 v3 r3 c3 U=>.ret c3 ⟨⟨j.1.aK1,U.1,j.1.aLF⟩,?_,aCH I U.2.2 U.1⟩
  have:=U.2.1
  simp only[M.bJ.sz]at J⊢
  omega
 split
 ·rw[Ie wg we,qA];obtain⟨o1,o2⟩:=aDO (i:=r1.aLF) (b:=[1,2]) j.1.Log wg we;refine .ret C ⟨⟨j.1.aK1,o1,bS _⟩,?_,aEN I j.1.Log wg we⟩;simp only[M.bJ.sz]at J⊢;omega
 ·exact .ret C ⟨j.1,wg,I.LG⟩
def wsm(w:M.cH):Prop:=w.ok/\M.cH.sz w<=32
theorem J2{d q n:Int}{k:M.bD}{f:ByteArray}(j:inI d)(J:inI q)(hk:RE k)(C:f.size<=16)(I:inI n):wsm ⟨d,q,k,f,n⟩:=⟨⟨j,J,hk.1,s16 C,I⟩,by have:=hk.2;simp only[M.cH.sz,M.bD.sz];omega⟩
def obI(o:M.aO):Prop:=inI o.aKk/\inI o.aLE/\o.aKw.length<=30/\∀w∈o.aKw,wsm w
theorem obI.ok{o:M.aO}(h:obI o):o.ok:=⟨h.1,h.2.1,ml (by have:=h.2.2.1;omega),λw j=>(h.2.2.2 w j).1⟩
theorem obI.sz{o:M.aO}(h:obI o):M.aO.sz o<=1000:=by
 have h1:=eN (w:=M.cH.sz) (b:=32) (xs:=o.aKw) λw j=>(h.2.2.2 w j).2
 have h2:=h.2.2.1
 simp only[M.aO.sz]
 omega
theorem Us{o:M.aO}(h:uO o=true):o.aKw.length<=20:=by unfold uO at h;simp_all
theorem Yk{o:M.aO}{k:M.bD}{f:ByteArray}{n:Int}(h:obI o)(hk:RE k)(I:f.size<=16)(J:inI n):obI (Pk o k f n).1:=by unfold Pk;split;(split;(rename_i h2;have:=Us h2;refine⟨h.1,bS _,by show(Iv o k f n).aKw.length<=30;omega,λw j=> ?_⟩;have C:w∈o.aKw++[⟨o.aKk,o.aLE,k,f,n⟩]:=j;rcases qP.1 C with j|j;(exact h.2.2.2 w j);·rw[qQ.1 j];exact J2 h.1 h.2.1 hk I J);·exact h);·exact h
theorem VB{o:M.aO}{k:M.bD}{f:ByteArray}{n:Int}(h:obI o)(hk:RE k)(j:f.size<=16)(C:inI n):kN o k f n=some (Pk o k f n):=F6 h.ok wI hk.1 (s16 j) C
theorem TA{d n:Int}(j:inI d)(C:inI n):obI ⟨d,n,[]⟩:=⟨j,C,wb,wb⟩
theorem aBa{d:Int}(j:inI d):∃x,rF d=some x/\obI x.1/\x.1.aLE<=1/\x.1.aKw.length<=0:=by unfold rF;rw[tO (TA j WA).ok,qA];cases uO ⟨d,1,[]⟩;(exact⟨_,rfl,TA yH yH,we,wb⟩);·exact⟨_,rfl,TA j WA,wb,wb⟩
theorem YF{o:M.aO}{q:Int}(h:obI o):∃x,dQ o q=some x/\obI x.1/\x.1.aLE=o.aLE/\inI x.2/\x.1.aKw.length<=o.aKw.length:=by
 have hlen:=h.2.2.1
 have fin:∀(k:Nat),k<=o.aKw.length->∃x,(BM o.aKw k).bind (λI=>(app 72 [] (o.aKw.drop (k:Int).toNat)).bind λJ=>some (⟨o.aKk,o.aLE,o.aKw.drop (k:Int).toNat⟩,(k:Int)))=some x/\obI x.1/\x.1.aLE=o.aLE/\inI x.2/\x.1.aKw.length<=o.aKw.length:=by intro k hk;rw[Ob hk,qA,qH,Ip wQ wg,qA];exact⟨_,rfl,⟨h.1,h.2.1,wQ,λw j=>h.2.2.2 w (qv j)⟩,rfl,bgI wH,wQ⟩
 have key:∀(n k:Nat),o.aKw.length-k<n->k<=o.aKw.length->∃x,rQ o q o n k=some x/\obI x.1/\x.1.aLE=o.aLE/\inI x.2/\x.1.aKw.length<=o.aKw.length:=by
  intro n
  induction n with
  |zero=>omega
  |succ n C=>
   intro k U hk
   simp only[rQ]
   rcases jS k o.aKw.length with h6|h6
   ·rw[jF (bE h6),aK h6,qA,bM wg];split;(exact C (k+1) wg wg);·exact fin k hk
   ·rw[jG wV];exact fin k hk
 unfold dQ
 rw[EK o wI,qA,tO h.ok,qA]
 cases uO o
 ·exact⟨_,rfl,h,rfl,yH,qg _⟩
 ·rw[jG wb];exact key aJ 0 (nB wg) wg
theorem aDV(o:M.aO)(k:M.bD)(f:ByteArray)(n:Int):(Pk o k f n).1.aKw.length<=o.aKw.length+1:=by unfold Pk;split;(split;(simp[Iv]);·exact Nat.le_succ _);simp
theorem aAJ{o:M.aO}{k:M.bD}{f:ByteArray}{n:Int}(h:o.aLE<=1000):(Pk o k f n).1.aLE<=1+o.aLE\/(Pk o k f n).1.aLE=o.aLE:=by unfold Pk;split;(rename_i h1;split;(left;unfold uO inR at h1;simp only[qM,qL]at h1;show i64.wrap (o.aLE+1)<=_;rw[eU wg wg];omega);·exact .inr rfl);simp
theorem Ur{b:List Int}{i h d:Int}(hd:inI d)(c0:okC b i h):Dr b (λo=>obI o/\o.aLE<=10/\o.aKw.length<=20) (Dm ⟨b,i,h⟩ d):=by
 refine .JX (aBa hd) λo ho=>.bnd (uX (λx=>0<=x/\x<=6) we we c0) λi1 v1 r1 c1 q1=> ?_
 obtain⟨N,rfl⟩:=CK q1.1
 refine DJ (L:=λn v (s:(M.aO)×Int×Int)=>rY ⟨b,i,h⟩ n v s.1.aKk s.1.aLE s.2.1 s.2.2 s.1.aKw) (I:=λk s=>k<=100000/\okC b s.2.1 s.2.2/\obI s.1/\s.1.aLE+k<=8/\s.1.aKw.length+k<=7) (Q:=Dr b (λo=>obI o/\o.aLE<=10/\o.aKw.length<=20)) (λn k s hi ih=> ?_) (λn s hi=> ?_) aJ N (o.1,i1,v1) (nB wg) ⟨wg,c1,⟨ho.1,by have:=ho.2.1;dsimp only;omega,by have:=ho.2.2;dsimp only;omega⟩⟩
 ·obtain⟨x,ci,ch⟩:=s
  obtain⟨k0,J,j⟩:=hi
  dsimp only at J j
  simp only[rY]
  rw[jF (Xm k),NP k0]
  refine .bnd (BD J) λi3 v3 r3 U q3=>.bnd (B9 U) λi4 v4 C c4 q4=>.bnd (bB c4) λi5 v5 r5 c5 q5=> ?_
  have hf:C.size<=16:=qh q4 wg
  have hn:inI r5:=bgI (aAO q5)
  rw[show⟨x.aKk,x.aLE,x.aKw⟩=x from rfl,VB j.1 q3.any hf hn,qA]
  refine ih ((Pk x r3 C r5).1,i5,v5) ⟨wg,c5,Yk j.1 q3.any hf hn,?_,?_⟩
  ·have h1:=j.2.1;dsimp only;rcases aAJ (o:=x) (k:=r3) (f:=C) (n:=r5) wg with h2|h2<;>omega
  ·have h2:=aDV x r3 C r5;dsimp only;omega
 ·obtain⟨x,ci,ch⟩:=s
  obtain⟨k0,J,j⟩:=hi
  dsimp only at J j
  refine .bnd (Bh J) λi3 v3 r3 U q3=> ?_
  split
  ·refine .bnd (bB U) λi4 v4 C c4 q4=> ?_
   obtain⟨y,e,y1,y2,_,y3⟩:=YF (q:=C) j.1
   rw[show⟨x.aKk,x.aLE,x.aKw⟩=x from rfl,e,qA]
   exact .ret c4 ⟨y1,wg,wg⟩
  ·exact .ret U ⟨j.1,wH,wH⟩
theorem aAS{o:M.aO}{k:M.bD}{f:ByteArray}{n:Int}(h:uO o=true)(J:o.aLE<=1000)(hl:o.aKw.length<20)(I:GS ⟨o.aKk,o.aLE,k,f,n⟩=true):uO (Iv o k f n)=true:=by
 unfold uO inR at h
 simp only[qM,qL,qR,qS]at h
 obtain⟨h1,⟨h2,h3⟩,⟨h4,h5⟩,h6⟩:=h
 have C:i64.wrap (o.aLE+1)=o.aLE+1:=eU wg wg
 unfold uO inR Iv
 simp only[qM,qL,qR,qS,qE,qJ,qK,C]
 refine⟨λj U=> ?_,⟨h2,h3⟩,⟨wg,wg⟩,wg⟩
 unfold GN
 simp only[qE,qJ,qK]
 rcases jS j o.aKw.length with hlt|hge
 ·have:=h1 j hlt;unfold GN at this;rw[qF hlt,qf]at this;rw[qy hlt,qF hlt,qf,show(o.aLE+1-((o.aKw.length+(0+1):Nat)))=o.aLE-o.aKw.length by omega];exact this
 ·have:j=o.aKw.length:=by omega
  subst this
  rw[qz (qg _),Nat.sub_self]
  simp only[List.getElem?_cons_zero,qf]
  rw[I,show(o.aLE+1-((o.aKw.length+(0+1):Nat)))=o.aLE-o.aKw.length by omega,eU (n:=o.aLE-o.aKw.length) wg wg,show o.aLE-o.aKw.length+o.aKw.length=o.aLE by omega,eU wg wg]
  simp
theorem UL.n{k:M.bD}(h:UL k):Ec k=true:=by
 obtain⟨a,n,s⟩:=k
 obtain⟨h1,h2,h3,h4⟩:=h
 dsimp only at h1 h2 h3 h4
 subst h4 h1
 unfold Ec inR
 have e:SJ ⟨#[]⟩=true:=by decide
 simp[e]
 omega
theorem aAY{b:List Int}{i h:Int}(c0:okC b i h):Dr b obI (Fu ⟨b,i,h⟩):=by
 refine .bnd (bB c0) λi1 v1 r1 c1 q1=>.bnd (Ur (bS _) c1) λi2 v2 o c2 q2=>.bnd (bB c2) λi3 v3 r3 J q3=> ?_
 obtain⟨j,hN,q2len⟩:=q2
 split
 ·exact .bnd (uX (λx=> -1000000000000000<=x/\x<=1000000000000000) we we J) λi4 v4 C c4 I=>.ret c4 ⟨bgI I,j.2.1,j.2.2⟩
 split
 ·exact .bnd (uX (λx=> -1000000000000000<=x/\x<=1000000000000000) we we J) λi4 v4 C c4 I=>.ret c4 ⟨j.1,bgI I,j.2.2⟩
 split
 ·refine .bnd (Uh J) λi4 v4 C c4 I=>.bnd (uX (λx=> -1000000000000000<=x/\x<=1000000000000000) we we c4) λi5 v5 r5 c5 q5=> ?_
  rw[DA jz wg,qA]
  refine .ret c5 ⟨j.1,j.2.1,ju,λw U=> ?_⟩
  rcases qP.1 U with U|U
  ·exact j.2.2.2 w U
  ·rw[qQ.1 U];exact J2 j.1 j.2.1 I we (bgI q5)
 split
 ·have key:∀(n:Nat) (o:M.aO) (ci ch:Int),20-o.aKw.length<n->obI o->o.aLE<=10+o.aKw.length->okC b ci ch->Dr b obI (zP ⟨b,i,h⟩ n o.aKk o.aLE ci ch o.aKw):=by
   intro n
   induction n with
   |zero=>omega
   |succ n ih=>
    intro o ci ch hn j hN k1
    simp only[zP]
    rcases jS o.aKw.length 20 with h6|h6
    ·rw[jF wV,show⟨o.aKk,o.aLE,o.aKw⟩=o from rfl,tO j.ok,qA]
     cases hob:uO o with
     |false=>exact .ret k1 j
     |true=>
      refine .bnd (BD k1) λi4 v4 C c4 I=> ?_
      have hf:(⟨#[97]⟩:ByteArray).size<=16:=by decide
      rw[VB j I.any hf WA,qA]
      have h7:=hob
      unfold uO inR at h7
      simp only[qM,qL]at h7
      have hq:GS ⟨o.aKk,o.aLE,C,⟨#[97]⟩,1⟩=true:=by
       have e:oO ⟨#[97]⟩=true:=by decide
       unfold GS inR
       simp[I.n,e]
       omega
      have hb:=aAS hob wg h6 hq
      have en:Pk o C ⟨#[97]⟩ 1=(Iv o C ⟨#[97]⟩ 1,true):=by unfold Pk;rw[jF hob,jF hb]
      have hob2:=Yk (k:=C) (f:=⟨#[97]⟩) (n:=1) j I.any hf WA
      rw[en]at hob2⊢
      have e3:(Iv o C ⟨#[97]⟩ 1).aKw.length=o.aKw.length+1:=by simp[Iv]
      have e4:(Iv o C ⟨#[97]⟩ 1).aLE=o.aLE+1:=eU wg wg
      exact ih (Iv o C ⟨#[97]⟩ 1) i4 v4 wg hob2 wg c4
    ·rw[jG wV];exact .ret k1 j
  exact key aJ o i3 v3 (nB wg) j wg J
 ·exact .ret J j
def svI(n:Nat)(s:M.aKt):Prop:=s.aD.ok/\iM s.aD=true/\(s.aQ.length<=60/\∀a∈s.aQ,M.aQ.ok a)/\s.aK6.length<=n/\∀w∈s.aK6,wsm w
theorem svI.ok{n:Nat}{s:M.aKt}(h:svI n s)(C:n<=1000):M.aKt.ok s:=⟨h.1,⟨ml (by have:=h.2.2.1.1;omega),h.2.2.1.2⟩,⟨ml (by have:=h.2.2.2.1;omega),λw j=>(h.2.2.2.2 w j).1⟩⟩
theorem svI.mono{n m:Nat}{s:M.aKt}(h:svI n s)(j:n<=m):svI m s:=⟨h.1,h.2.1,h.2.2.1,by have:=h.2.2.2.1;omega,h.2.2.2.2⟩
theorem XX{n:Nat}{s:M.aKt}(h:svI n s)(j:n<=1000):iJ s=some s:=by have h1:=tR h.2.1;have h2:=h.2.2.1.1;have h3:=h.2.2.2.1;unfold iJ;rw[pM _ wg,qA,Ip wg wg,qA,Ip wg wg,qA]
theorem N5{s:M.aKt}{d:Int}(h:s.aQ.length<=60/\∀a∈s.aQ,M.aQ.ok a):∃v,At s d=some v/\inI v:=by
 have key:∀(n k:Nat),s.aQ.length-k<n->k<=s.aQ.length->∃v,xI s d n k=some v/\inI v:=by
  intro n
  induction n with
  |zero=>simp
  |succ n j=>
   intro k C hk
   simp only[xI]
   rcases jS k s.aQ.length with h6|h6
   ·rw[jF (bE h6),aK h6,qA,bM wg];split;(exact⟨_,rfl,(h.2 _ (qG h6)).Seq⟩);·exact j (k+1) wg wg
   ·rw[jG wV];exact⟨_,rfl,yH⟩
 exact key aJ 0 (nB wg) wg
theorem aCb{l:List M.aQ}{d q:Int}(h:l.length<=60/\∀a∈l,M.aQ.ok a)(I:inI d)(C:inI q):∃r,C0 l d q=some r/\∀a∈r,M.aQ.ok a:=by
 have ins:∀(k:Nat),k<=l.length->∀a∈(l.take k++[⟨d,q⟩])++l.drop k,M.aQ.ok a:=by intro k hk a j;simp only[qP,qQ]at j;rcases j with(j|rfl)|j;(exact h.2 a (qk j));(exact⟨I,C⟩);·exact h.2 a (qv j)
 have fin:∀(k:Nat),k<=l.length->∃r,((B6 l k).bind λU=>(app 16 [] (l.take (k:Int).toNat)).bind λae=>(app 16 (l.take (k:Int).toNat) ([⟨d,q⟩])).bind λaf=>(BM l k).bind λah=>(app 16 ((l.take (k:Int).toNat)++[⟨d,q⟩]) (l.drop (k:Int).toNat)).bind λai=>some (((l.take (k:Int).toNat)++[⟨d,q⟩])++(l.drop (k:Int).toNat)))=some r/\∀a∈r,M.aQ.ok a:=by intro k hk;rw[Ew hk,qA,qH,Ip wO wg,qA,DA jv wg,qA,Ob hk,qA,DA jr wg,qA];exact⟨_,rfl,ins k hk⟩
 have key:∀(n k:Nat),l.length-k<n->k<=l.length->∃r,xK l d q n k=some r/\∀a∈r,M.aQ.ok a:=by
  intro n
  induction n with
  |zero=>omega
  |succ n J=>
   intro k hn hk
   simp only[xK]
   rcases jS k l.length with h6|h6
   ·rw[jF (bE h6),aK h6,qA,bM wg];split;(exact J (k+1) wg wg);split;(refine⟨_,rfl,λa j=> ?_⟩;rcases jE j with j|rfl;(exact h.2 a j);·exact⟨(h.2 _ (qG h6)).aKk,C⟩);·exact fin k hk
   ·rw[jG wV];exact fin k hk
 unfold C0
 rw[Ip wg wg,qA]
 exact key aJ 0 (nB wg) wg
theorem Yu{s:M.aD}{w:M.cH}(j:iM s=true):iM (Mz s w).1=true:=by
 cases h2:(Mz s w).2 with
 |false=>rw[Pn h2];exact j
 |true=>
  unfold Mz at h2⊢
  by_cases h1:(GL (fC s w.Key) w.Field w.N).2=true
  ·rw[jF h1]at h2⊢;exact G5 (Ga h1) h2
  simp_all
theorem recv{n:Nat}{s:M.aKt}{w:M.cH}(h:svI n s)(hn:n<=900)(C:wsm w):∃x,dP s w=some x/\svI (n+1) x.1:=by
 have hm:=h.mono (Nat.le_succ n)
 have hz:=tR h.2.1
 have hc:=h.2.2.2.1
 unfold dP
 rw[XX h wg,qA,DM (h.ok wg),qA]
 cases I7 s
 ·simp_all
 rw[jG wb,CT C.1,qA]
 cases GS w
 ·simp_all
 rw[jG wb]
 obtain⟨r,U,J⟩:=aCb h.2.2.1 C.1.aKk C.1.Seq
 obtain⟨v,ev,hv⟩:=N5 (s:=s) (d:=w.aKk) h.2.2.1
 rw[U,qA,ev,qA]
 by_cases aa:(r.length:Int)>60
 ·simp_all
 rw[jG wX]
 split
 ·simp_all
 split
 ·simp_all
 have j:∀y∈s.aK6++[w],wsm y:=λy I=>by rcases qP.1 I with I|I;(exact h.2.2.2.2 y I);simp_all
 have hlen:(s.aK6++[w]).length<=n+1:=by simp only[qE,qJ,qK];omega
 rw[Dq h.1 C.1 wg,qA,DA jz wg,qA]
 split
 ·exact⟨_,rfl,(Lr h.1 C.1 wg).1,Yu h.2.1,⟨wH,J⟩,hlen,j⟩
 ·exact⟨_,rfl,h.1,h.2.1,⟨wa,J⟩,hlen,j⟩
theorem Px{b:List Int}{i h:Int}(c0:okC b i h):Dr b (svI 5) (BE ⟨b,i,h⟩):=by
 refine .bnd (I5 we we c0) λi0 v0 s0 aa q0=>.bnd (bB aa) λi1 v1 r1 c1 q1=> ?_
 obtain⟨N,rfl⟩:=CK q1.1
 have hN:=q1.2.1 wg
 refine DJ (L:=λn v s=>sL ⟨b,i,h⟩ n v s.1.aD.Name s.1.aD.aK7 s.2.1 s.2.2 s.1.aD.aKg s.1.aQ s.1.aK6) (I:=λk s=>k<=100000/\okC b s.2.1 s.2.2/\k<=5/\svI (5-k) s.1) (Q:=Dr b (svI 5)) (λn k s C ih=> ?_) (λn s C=> ?_) aJ N (⟨s0,[],[]⟩,i1,v1) (nB wg) ⟨wg,c1,⟨wg,q0.1,q0.2.1,⟨wb,wb⟩,wb,wb⟩⟩
 ·obtain⟨U,J,j⟩:=C
  simp only[sL]
  rw[jF (Xm k),NP U]
  obtain⟨j,k3⟩:=j
  refine .bnd (bB J) λi3 v3 r3 c3 q3=> ?_
  refine .JX (N5 k3.2.2.1) λv hv=>.bnd (BD c3) λi4 v4 r4 c4 q4=>.bnd (B9 c4) λi5 v5 r5 c5 q5=>.bnd (bB c5) λi6 v6 r6 c6 q6=>.JX (recv k3 wg (J2 (bS _) (bS _) q4.any (qh q5 wg) (bgI (aAO q6)))) λy hy=> ?_
  exact ih (y.1,i6,v6) ⟨wg,c6,wg,hy.mono wg⟩
 ·obtain⟨U,J,j⟩:=C;exact .ret J (j.2.mono wg)
def rpI(r:M.aH):Prop:=r.aK1.ok/\M.aD.sz r.aK1<=10000/\inI r.aLT/\obI r.aK3.aO/\inI r.aK3.aLI/\inI r.aK3.aK8
theorem rpI.ok{r:M.aH}(h:rpI r):r.ok:=⟨h.1,h.2.2.1,h.2.2.2.1.ok,h.2.2.2.2.1,h.2.2.2.2.2⟩
theorem rpI.sz{r:M.aH}(h:rpI r):M.aH.sz r<=11000:=by have h1:=h.2.1;have h2:=h.2.2.2.1.sz;simp only[M.aH.sz,M.aK3.sz];omega
theorem R5:rpI ⟨⟨⟨#[]⟩,[],0⟩,0,⟨⟨0,0,[]⟩,0,0⟩⟩:=⟨⟨s16 we,⟨wb,wb⟩,yH⟩,we,yH,TA yH yH,yH,yH⟩
theorem aD1{n:Nat}{s:M.aKt}{d:Int}(h:svI n s)(hn:n<=900)(C:inI d):∃x,AQ s d=some x/\rpI x.1:=by have U:=tR h.2.1;have hc:=h.2.2.2.1;obtain⟨o,j,I,_⟩:=aBa C;have J:rpI ⟨s.aD,s.aK6.length,⟨o.1,0,0⟩⟩:=⟨h.1,U,bgI wH,I,yH,yH⟩;unfold AQ;rw[j,qA,pM _ wg,qA];cases o.2;(exact⟨_,rfl,R5⟩);rw[jG wb,DM (h.ok wg),qA];cases I7 s;(exact⟨_,rfl,R5⟩);rw[jG wb,Dg J.ok,qA];cases DU ⟨s.aD,s.aK6.length,⟨o.1,0,0⟩⟩;(exact⟨_,rfl,R5⟩);·simp_all
theorem Ro{r:M.aH}{k:M.bD}{f:ByteArray}{n:Int}(h:rpI r)(hk:RE k)(j:f.size<=16)(C:inI n):∃x,lJ r k f n=some x/\rpI x.1:=by refine⟨_,Hw h.ok wI hk.1 (s16 j) C,?_⟩;unfold nWL;split;(exact⟨h.1,h.2.1,h.2.2.1,Yk h.2.2.2.1 hk j C,h.2.2.2.2.1,h.2.2.2.2.2⟩);·exact h
theorem aC8{l:List M.cH}:∀{s:M.aD},s.ok->iM s=true->(∀w∈l,M.cH.ok w)->(Bs s l).ok/\iM (Bs s l)=true:=by
 induction l with
 |nil=>intro s C j _;exact⟨C,j⟩
 |cons w l U=>
  intro s C j I
  have hz:=tR j
  exact U (s:=(Mz s w).1) (Lr C (I w wb) wg).1 (Yu j) λy J=>I y (by simp[J])
theorem aB7{n:Nat}{r:M.aH}{s:M.aKt}(h:rpI r)(j:svI n s)(hn:n<=900):∃x,An r s=some x/\rpI x.1:=by
 have hc:=j.2.2.2.1
 unfold An
 rw[EP _ wI,qA,Dg h.ok,qA]
 cases hR:DU r
 ·simp_all
 rw[jG wb,DM (j.ok wg),qA]
 cases I7 s
 ·simp_all
 rw[jG wb]
 by_cases hgt:r.aLT>s.aK6.length
 ·simp_all
 rw[jG wX]
 unfold DU inR at hR
 simp only[qM,qL]at hR
 obtain⟨k,U⟩:=CK hR.2.2.1.1
 rw[U]at hgt⊢
 have hbs:=tR hR.1
 have C:∀w∈s.aK6.drop k,M.cH.ok w:=λw hw=>(j.2.2.2.2 w (qv hw)).1
 obtain⟨I,J⟩:=aC8 h.1 hR.1 C
 obtain⟨v,ev,hv⟩:=N5 (s:=s) (d:=r.aK3.aO.aKk) j.2.2.1
 obtain⟨y,ey,y1,_⟩:=YF (q:=v) h.2.2.2.1
 rw[Ob wg,qA,qH,IU h.1 (ml wQ) C wg,qA,ev,qA,ey,qA]
 exact⟨_,rfl,I,tR J,bgI wH,y1,h.2.2.2.2.1,h.2.2.2.2.2⟩
theorem aD3{a c:Int}(j:inI a)(hc:inI c):∃r,dS a c=some r/\inI r:=by unfold dS;grind
theorem aFe{c:Int}:∃r,dS 60 c=some r/\r<=60/\(inI c->inI r):=by unfold dS;split;(rename_i h;exact⟨_,rfl,by have:=of_decide_eq_true h;omega,λh=>h⟩);·exact⟨_,rfl,wg,λ_=>bgI wb⟩
theorem aCY{t:Int}(I:t<=60):∃r,lA t=some r:=by
 have key:∀(n k:Nat) (v:Int),100-k<n->k<=99->∃r,sJ t n v k=some r:=by
  intro n
  induction n with
  |zero=>simp
  |succ n j=>
   intro k v C hk
   simp only[sJ]
   split
   ·rename_i h;have:=of_decide_eq_true h;split;(rw[bM wg];exact j (k+1) _ wg wg);·exact⟨_,rfl⟩
   simp
 exact key aJ 0 1 (nB wg) wg
def Op'{α:Type}(P:α->Prop)(o:Option α):Prop:=∃r,o=some r/\P r
theorem Op'.bnd{α β:Type}{P:β->Prop}{Q:α->Prop}{o:Option α}{f:α->Option β}(C:∃r,o=some r/\Q r)(j:∀r,Q r->Op' P (f r)):Op' P (o.bind f):=by grind
def syI(n:Nat)(x:M.aK3×M.aKt×Int):Prop:=obI x.1.aO/\inI x.1.aLI/\inI x.1.aK8/\svI n x.2.1
theorem aDI{n:Nat}{y:M.aK3}{s:M.aKt}{now fate:Int}(U:obI y.aO)(ht:inI y.aLI)(hw:inI y.aK8)(J:svI n s)(hn:n<=800):Op' (syI (n+2)) (Cn y s now fate):=by
 have hs1:=J.mono (Nat.le_succ n)
 have hs2:=J.mono (show n<=n+2 by omega)
 have hz:=U.sz
 have j:∀{q:Int},∃x,dQ y.aO q=some x/\obI x.1:=λ{q}=>by obtain⟨x,e,h,_⟩:=YF (q:=q) U;simp_all
 have fail:∀{x:M.aKt} {f:Int->Option (M.aK3×M.aKt×Int)},svI (n+2) x->(f=λae=>(dS 60 (i64.wrap (ae+1))).bind λaa=>(lA aa).bind λaf=>some (⟨y.aO,aa,i64.wrap (now+af)⟩,x,2))->Op' (syI (n+2)) ((dS 59 y.aLI).bind f):=by
  intro x f hx hf
  subst hf
  refine .bnd (aD3 (bgI wC) ht) λt1 h1=>.bnd aFe λt2 h2=> ?_
  obtain⟨r,er⟩:=aCY h2.1
  rw[er,qA]
  exact⟨_,rfl,U,h2.2 (bS _),bS _,hx⟩
 unfold Cn As CF
 rw[EK _ wg,qA,qA,XX J wg,tO U.ok]
 have same:syI (n+2) (y,s,0):=⟨U,ht,hw,hs2⟩
 cases hW:y.aO.aKw with
 |nil=>exact⟨_,rfl,same⟩
 |cons w ws=>
  have I:wsm w:=U.2.2.2 w (by rw[hW];simp)
  rw[jG wV,show idx (w::ws) 0=some w from rfl]
  simp only[qA]
  rw[jG wb]
  cases uO y.aO
  ·exact⟨_,rfl,same⟩
  rw[jG wb]
  split
  ·exact⟨_,rfl,same⟩
  rw[cO,qA]
  split
  ·exact⟨_,rfl,same⟩
  have good:∀{x:M.aK3×M.aKt×Int},obI x.1.aO->inI x.1.aLI->inI x.1.aK8->svI (n+2) x.2.1->Op' (syI (n+2)) (some x):=λa1 a2 a3 a4=>⟨_,rfl,a1,a2,a3,a4⟩
  have two:∀{a:M.aKt} {c:Int},svI (n+1) a->svI (n+2) a:=λh=>h.mono wg
  split
  ·refine .bnd (recv J wg I) λx1 h1=> ?_
   split
   ·refine .bnd (recv h1 wg I) λx2 h2=> ?_
    split
    ·exact .bnd j λq C=>good C yH yH h2
    split
    ·exact .bnd j λq C=>good C yH yH h2
    ·exact fail h2 rfl
   ·split;(exact .bnd j λq C=>good C yH yH (h1.mono wg));split;(exact .bnd j λq C=>good C yH yH (h1.mono wg));·exact fail (h1.mono wg) rfl
  split
  ·refine .bnd (recv J wg I) λx1 h1=> ?_
   split
   ·refine .bnd (recv h1 wg I) λx2 h2=> ?_
    split
    ·exact .bnd j λq C=>good C yH yH h2
    split
    ·exact .bnd j λq C=>good C yH yH h2
    ·exact fail h2 rfl
   ·exact fail (h1.mono wg) rfl
  split
  ·refine .bnd (recv J wg I) λx1 h1=>.bnd (recv h1 wg I) λx2 h2=> ?_
   split
   ·exact .bnd j λq C=>good C yH yH h2
   split
   ·exact .bnd j λq C=>good C yH yH h2
   ·exact fail h2 rfl
  ·exact fail hs2 rfl
def prI(n:Nat)(x:M.aH×M.aKt):Prop:=rpI x.1/\svI n x.2
