/-
  Helper text. No conditions.
-/
import Derived.Test.YtbpbocchokbggaaGreatOpenedPd5
set_option linter.all false
namespace Go.Proofs.YtbpbocchokbggaaGreat.gen
open Go Go.Sh
theorem Vy{r:M.aD}{a:ByteArray}{n:Int}(h:Lr r)(j:a.size<=16)(C: -1000000000000000<=n/\n<=1000000000000000):∃x,iQ r a n=some x/\Lr x.1:=by
 have J:=Hb h.2
 have I:r.aHG.length<=1073741824:=by simp only[M.aD.sz]at J;omega
 exact⟨_,Cb h.1 jF (s16 j) (bgI C),NK h.1 I (s16 j) (bgI C),RB h.2 _ _⟩
theorem ZE:Lr (⟨([]:List M.Field)⟩:M.aD):=⟨Ic,Ff⟩
theorem DG{b:List Int}{i h:Int}(c0:okC b i h):Dr b Lr (lD (⟨b,i,h⟩:M.aQ)):=by
 unfold lD
 refine .bnd (aW c0) λi1 v1 r1 c1 U=> ?_
 have hN:=U.2.2
 obtain⟨N,rfl⟩:=BW U.1
 have hN:=U.2.1 jF
 refine Ca (L:=λn v (s:(M.aD)×Int×Int)=>oE (⟨b,i,h⟩:M.aQ) n v s.2.1 s.2.2 s.1.aHG) (I:=λk s=>k<=100000/\okC b s.2.1 s.2.2/\Lr s.1) (Q:=Dr b Lr) (λn k s J ih=> ?_) (λn s J=> ?_) fuel N ((⟨([]:List M.Field)⟩:M.aD),i1,v1) (nJ jF) ⟨jF,c1,ZE⟩
 ·obtain⟨x,ci,ch⟩:=s
  obtain⟨k0,j,C⟩:=J
  dsimp only at j C
  simp only[oE]
  rw[if_pos (Ts k),KS k0]
  refine .bnd (Ba j) λi3 v3 r3 c3 q3=>.bnd (aW c3) λi4 v4 r4 c4 q4=>.Ha (Vy C (qh q3 jF) (Ws q4)) λy hy=> ?_
  exact ih (y.1,i4,v4) ⟨jF,c4,hy⟩
 ·obtain⟨x,ci,ch⟩:=s;obtain⟨k0,j,C⟩:=J;dsimp only at j C;simp only[oE];rw[if_neg KC];exact .ret j C
theorem Y6{r:M.aD}{a:ByteArray}{n:Int}(h:Lr r)(C:a.size<=16)(I: -1000000000000000<=n/\n<=1000000000000000):M.aD.ok (⟨r.aHG++[(⟨a,n⟩:M.Field)]⟩:M.aD)/\M.aD.sz (⟨r.aHG++[(⟨a,n⟩:M.Field)]⟩:M.aD)<=200:=by have J:=Hb h.2;simp only[M.aD.sz]at J⊢;refine⟨⟨ml jR,λy j=> ?_⟩,?_⟩;(rcases qP.1 j with j|j;(exact h.1.aHG.2 y j);·rw[qQ.1 j];exact⟨s16 C,bgI I⟩);·rw[zT];simp only[dG,M.Field.sz,qE,qJ,qK];omega
def RG(r:M.aD):Prop:=r.ok/\M.aD.sz r<=200
theorem Lr.any{r:M.aD}(h:Lr r):RG r:=⟨h.1,by have:=Hb h.2;omega⟩
theorem YQ{b:List Int}{i h:Int}(U:okC b i h):Dr b RG (Db (⟨b,i,h⟩:M.aQ)):=by
 unfold Db
 refine .bnd (DG U) λi1 v1 J c1 j=>.bnd (aW c1) λi2 v2 r2 C q2=> ?_
 dsimp only
 have hz:=Hb j.2
 have hl:J.aHG.length<=100:=by simp only[M.aD.sz]at hz;omega
 split
 ·refine .bnd (BT (λs=>s.size<=16) jI jI C) λi3 v3 r3 c3 q3=>.bnd (uE (λx=> -1000000000000000<=x/\x<=1000000000000000) jI jI c3) λi4 v4 r4 c4 q4=> ?_
  dsimp only
  rw[BF jV jF,qA]
  exact .ret c4 (Y6 j q3 q4)
 split
 ·have key:∀(n k:Nat) (r:M.aD),6-k<n->k<=6->Lr r->Dr b RG (uV (i2,v2,r2) n (k:Int) r.aHG):=by
   intro n
   induction n with
   |zero=>intro k r h _ _;omega
   |succ n ih=>
    intro k r h hk I
    simp only[uV]
    rcases Nat.lt_or_ge k 6 with h6|h6
    ·have e:∃s,idx ([(⟨#[100]⟩:ByteArray),(⟨#[101]⟩:ByteArray),(⟨#[102]⟩:ByteArray),(⟨#[103]⟩:ByteArray),(⟨#[104]⟩:ByteArray),(⟨#[105]⟩:ByteArray)]) (k:Int)=some s/\s.size<=16:=by
      have:k=0\/k=1\/k=2\/k=3\/k=4\/k=5:=by omega
      rcases this with rfl|rfl|rfl|rfl|rfl|rfl<;>exact⟨_,rfl,jI⟩
     rw[if_pos (aY h6)]
     refine .Ha e λs hs=>.Ha (Vy I hs jF) λy hy=> ?_
     rw[bD jF]
     exact ih (k+1) y.1 jF jF hy
    ·have:k=6:=by omega
     subst this
     rw[if_neg jH]
     exact .ret C I.any
  exact key fuel 0 J (nJ jF) jF j
 ·exact .ret C j.any
def Yg(s:M.aC):Prop:=s.aHg<=256/\∀x∈s.aHF,x.Key.aHb=1->x.Key.N<=s.aHg\/x.Key.N=1000000000000
def Tw(s:M.aC):Prop:=s.ok/\iJ s=true/\Yg s
theorem Xb{s:M.aC}{k:M.Key}{r:M.aD}(C:Yg s)(hk:N0 k):Yg (Dj s k r).1:=by
 have U:s.aHg<=IK s k/\IK s k<=256/\(k.aHb=1->k.N<=IK s k\/k.N=1000000000000):=by obtain⟨a1,a2⟩:=C;have J:=hk.2;unfold IK;by_cases hc:((k.aHb==1)&&(decide (k.N>s.aHg)&&decide (k.N<=1000000)))=true;(rw[if_pos hc];simp only[qM,qL,beq_iff_eq]at hc;have:=J hc.1;exact⟨jF,jF,λ_=>.inl jF⟩);·rw[if_neg hc];refine⟨jF,a1,λh1=> ?_⟩;have:=J h1;simp only[qM,qL,beq_iff_eq,not_and]at hc;by_cases h2:k.N>s.aHg;(have:=hc h1 h2;omega);·omega
 unfold Dj
 split
 ·split;(split;(split;(refine⟨U.2.1,λx I h1=> ?_⟩;have j:x∈s.aHF.take (D0 s.aHF k)++([(⟨k,r⟩:M.aHV)]++s.aHF.drop (D0 s.aHF k)):=I;simp only[qP,qQ]at j;show x.Key.N<=IK s k\/_;rcases j with j|rfl|j;(have:=C.2 x (qk j) h1;omega);(exact U.2.2 h1);·have:=C.2 x (qv j) h1;omega);·exact C);·unfold QL;refine⟨C.1,?_⟩;dsimp only;split;(rename_i y hy;intro x I h1;rcases jD I with I|rfl;(exact C.2 x I h1);·exact C.2 y (jC hy) h1);·exact C.2);·exact C
 ·exact C
theorem VG{s:M.aC}{k:M.Key}{r:M.aD}(C:Tw s)(hk:N0 k)(j:Lr r):∃x,eF s k r=some x/\Tw x.1:=by
 have J:=sH C.2.1
 have I:s.aHF.length<=1073741824:=by simp only[M.aC.sz]at J;omega
 refine⟨_,Am C.1 hk.1.1 j.1 j.2 jF (qh (Hb j.2) jF),NV C.1 I hk.1.1 j.1,?_,Xb C.2.2 hk⟩
 cases h2:(Dj s k r).2 with
 |true=>exact Ep j.2 h2
 |false=>rw[JZ h2];exact C.2.1
theorem XO{a:ByteArray}(C:nY a=true)(j:a.size<=16):Tw (⟨a,([]:List M.aHV),0⟩:M.aC):=⟨⟨s16 j,⟨by simp[maxLen],jH⟩,xV⟩,by unfold iJ;simp[C,inR],by show(0:Int)<=256;omega,jH⟩
theorem F6{b:List Int}{i h:Int}{a:ByteArray}(hn:nY a=true)(ha:a.size<=16)(c0:okC b i h):Dr b Tw (rT (⟨b,i,h⟩:M.aQ) a):=by
 unfold rT
 refine .bnd (uE (λx=>0<=x/\x<=6) jI jI c0) λi1 v1 r1 c1 q1=> ?_
 obtain⟨N,rfl⟩:=BW q1.1
 have hN:=q1.2
 refine Ca (L:=λn v (s:(M.aC)×Int×Int)=>pX (⟨b,i,h⟩:M.aQ) n v s.1.Name s.1.aHg s.2.1 s.2.2 s.1.aHF) (I:=λk s=>k<=100000/\okC b s.2.1 s.2.2/\Tw s.1) (Q:=Dr b Tw) (λn k s hi ih=> ?_) (λn s hi=> ?_) fuel N ((⟨a,([]:List M.aHV),0⟩:M.aC),i1,v1) (nJ jF) ⟨jF,c1,XO hn ha⟩
 ·obtain⟨x,ci,ch⟩:=s
  obtain⟨k0,C,j⟩:=hi
  dsimp only at C j
  simp only[pX]
  rw[if_pos (Ts k),KS k0]
  refine .bnd (zW C) λi3 v3 r3 J q3=>.bnd (DG J) λi4 v4 r4 U q4=>.Ha (VG j q3.auto q4) λy hy=> ?_
  exact ih (y.1,i4,v4) ⟨jF,U,hy⟩
 ·obtain⟨x,ci,ch⟩:=s
  obtain⟨k0,C,j⟩:=hi
  dsimp only at C j
  simp only[pX]
  rw[if_neg KC]
  refine .bnd (Ay C) λi3 v3 r3 J q3=> ?_
  dsimp only
  split
  ·exact .bnd (VB J) λi4 v4 r4 U q4=>.bnd (DG U) λi5 v5 r5 c5 q5=>.Ha (VG j q4 q5) λy hy=>.ret c5 hy
  ·exact .ret J j
def Nv(s:M.aC):Prop:=s.ok/\M.aC.sz s<=20000
theorem Tw.any{s:M.aC}(h:Tw s):Nv s:=⟨h.1,by have:=sH h.2.1;omega⟩
def W6(s:M.aC):Prop:=s.aHg<=256+s.aHF.length/\∀x∈s.aHF,x.Key.aHb=1->x.Key.N<=s.aHg\/x.Key.N=1000000000000
theorem Ua{s:M.aC}(h1:s.ok)(h2:iJ s=true)(h3:W6 s)(hl:s.aHF.length<16):∃x,AB s (⟨([]:List M.Field)⟩:M.aD)=some x/\x.1.ok/\iJ x.1=true/\W6 x.1/\x.1.aHF.length=s.aHF.length+1:=by
 obtain⟨_,_,_,h0,_⟩:=zH h2
 obtain⟨a1,J⟩:=h3
 have ew:IntKind.i64.wrap (s.aHg+1)=s.aHg+1:=wrap_small jF jF
 have hz:=sH h2
 have hkey:Dq (⟨1,s.aHg+1,(⟨#[]⟩:ByteArray)⟩:M.Key)=true:=by
  unfold Dq inR
  have e:MG (⟨#[]⟩:ByteArray)=true:=by decide
  simp[e]
  omega
 have hf:mM (AA (⟨1,s.aHg+1,(⟨#[]⟩:ByteArray)⟩:M.Key)) s.aHF<0:=Classical.byContradiction λhn=>by obtain⟨j,ej,hj⟩:=iF hn;obtain⟨_,C⟩:=B1 ej;unfold AA at C;simp only[qM,beq_iff_eq]at C;have:=J _ (qG hj) C.1;omega
 have hk:M.Key.ok (⟨1,s.aHg+1,(⟨#[]⟩:ByteArray)⟩:M.Key):=(mkKey jF jF jI).1
 have e:=Hg h1 hk Ic Ff jF (by simp[M.aD.sz,dG])
 have U:Dj s (⟨1,s.aHg+1,(⟨#[]⟩:ByteArray)⟩:M.Key) (⟨([]:List M.Field)⟩:M.aD)=(O7 s (⟨1,s.aHg+1,(⟨#[]⟩:ByteArray)⟩:M.Key) (⟨([]:List M.Field)⟩:M.aD),true):=by unfold Dj;rw[if_pos h2,if_pos hkey,if_pos hf,if_pos hl]
 have hg:=Ep (s:=s) (k:=(⟨1,s.aHg+1,(⟨#[]⟩:ByteArray)⟩:M.Key)) Ff (by rw[U])
 rw[U]at hg
 have en:Ql s (⟨1,s.aHg+1,(⟨#[]⟩:ByteArray)⟩:M.Key) (⟨([]:List M.Field)⟩:M.aD)=(O7 s (⟨1,s.aHg+1,(⟨#[]⟩:ByteArray)⟩:M.Key) (⟨([]:List M.Field)⟩:M.aD),true):=by unfold Ql;rw[if_pos hf,U]
 have ea:IK s (⟨1,s.aHg+1,(⟨#[]⟩:ByteArray)⟩:M.Key)=s.aHg+1:=by unfold IK;rw[if_pos jG]
 have hp:=N8 s.aHF (⟨1,s.aHg+1,(⟨#[]⟩:ByteArray)⟩:M.Key)
 rw[en]at e
 refine⟨(O7 s (⟨1,s.aHg+1,(⟨#[]⟩:ByteArray)⟩:M.Key) (⟨([]:List M.Field)⟩:M.aD),(⟨1,s.aHg+1,(⟨#[]⟩:ByteArray)⟩:M.Key),true),?_,?_,hg,?_,?_⟩
 ·unfold AB;rw[if_neg jG,ew,e,qA,if_neg jH]
 ·unfold O7;exact Vd _ h1 jF hk Ic (by rw[ea];exact bgI jL)
 ·unfold O7 W6;dsimp only;rw[ea];refine⟨jS,λx I h1=> ?_⟩;simp only[qP,qQ]at I;rcases I with I|rfl|I;(have:=J x (qk I) h1;omega);(exact .inl (Int.le_refl _));·have:=J x (qv I) h1;omega
 ·unfold O7;simp only[qE,qV,qW,qJ,qK];omega
theorem YS{s:M.aC}{k:M.Key}{r:M.aD}(C:Tw s)(hk:Of k)(I:RG r):Nv (⟨s.Name,s.aHF++[(⟨k,r⟩:M.aHV)],s.aHg⟩:M.aC):=by have J:=sH C.2.1;have h1:=hk.2;have h2:=I.2;refine⟨⟨C.1.Name,⟨?_,λy j=> ?_⟩,C.1.aHg⟩,?_⟩;(simp only[M.aC.sz]at J;exact ml jR);(rcases qP.1 j with j|j;(exact C.1.aHF.2 y j);·rw[qQ.1 j];exact⟨hk.1,I.1⟩);·simp only[M.aC.sz]at J⊢;rw[zT];simp only[dG,M.aHV.sz,M.Key.sz,qE,qJ,qK];omega
theorem U0{b:List Int}{i h:Int}(c0:okC b i h):Dr b Nv (BV (⟨b,i,h⟩:M.aQ)):=by
 unfold BV
 refine .bnd (F6 jI jI c0) λi1 v1 r1 c1 j=>.bnd (aW c1) λi2 v2 r2 J q2=> ?_
 dsimp only
 have hz:=sH j.2.1
 have hl:r1.aHF.length<=10000:=by simp only[M.aC.sz]at hz;omega
 split
 ·refine .bnd (BT (λs=>s.size<=16) jI jI J) λi3 v3 r3 U I=>.ret U ⟨⟨s16 I,j.1.aHF,j.1.aHg⟩,?_⟩
  have q3':r3.size<=16:=I
  simp only[M.aC.sz]at hz⊢
  omega
 split
 ·exact .bnd (uE (λx=> -1000000000000000<=x/\x<=1000000000000000) jI jI J) λi3 v3 r3 U I=>.ret U ⟨⟨j.1.Name,j.1.aHF,bgI I⟩,qh hz jF⟩
 split
 ·refine .bnd (Qw J) λi3 v3 r3 U I=>.bnd (YQ U) λi4 v4 r4 c4 q4=> ?_
  dsimp only
  rw[BF jV jF,qA]
  exact .ret c4 (YS j I q4)
 split
 ·have key:∀(n:Nat) (s:M.aC),16-s.aHF.length<n->s.ok->iJ s=true->W6 s->Dr b Nv (zF (i2,v2,r2) n s.Name s.aHg s.aHF):=by
   intro n
   induction n with
   |zero=>intro s h _ _ _;omega
   |succ n ih=>
    intro s h hs C hj
    have hm:=sH C
    simp only[zF]
    rcases Nat.lt_or_ge s.aHF.length 16 with h6|h6
    ·rw[if_pos jG,show(⟨s.Name,s.aHF,s.aHg⟩:M.aC)=s from rfl,Au hs,qA,C,if_pos rfl]
     refine .Ha (Ua hs C hj h6) λy hy=> ?_
     have hy':=hy.2.2.2
     exact ih y.1 jF hy.1 hy.2.1 hy.2.2.1
    ·rw[if_neg jG];exact .ret J ⟨hs,by show M.aC.sz s<=_;omega⟩
  exact key fuel r1 (nJ jF) j.1 j.2.1 ⟨by have:=j.2.2.1;omega,j.2.2.2⟩
 ·exact .ret J j.any
theorem PL{b:List Int}{i h n:Int}(hn:0<=n/\n<=1000)(c0:okC b i h):Dr b (λl=>okB l/\l.length<=1000) (At (⟨b,i,h⟩:M.aQ) n):=by
 unfold At
 obtain⟨N,rfl⟩:=BW hn.1
 refine Yn (N:=N) (L:=λm v (s:List Int×Int×Int)=>rK (⟨b,i,h⟩:M.aQ) (N:Int) m v s.1 s.2.1 s.2.2) (I:=λk s=>okC b s.2.1 s.2.2/\s.1.length=k/\∀x∈s.1,0<=x/\x<=255) (Q:=Dr b (λl=>okB l/\l.length<=1000)) (λm k s hk hi ih=> ?_) (λm s hi=> ?_) fuel 0 (([]:List Int),i,h) (nJ jF) jF ⟨c0,rfl,jH⟩
 ·obtain⟨l,ci,ch⟩:=s
  obtain⟨C,U,J⟩:=hi
  dsimp only at C U J
  simp only[rK]
  rw[if_pos (aY hk)]
  refine .bnd (Ie C) λi3 v3 r3 c3 q3=> ?_
  dsimp only
  rw[BF jV jF,qA,bD jF]
  refine ih (l++[_],i3,v3) ⟨c3,by simp[U],λx j=> ?_⟩
  rcases qP.1 j with j|j
  ·exact J x j
  ·rw[qQ.1 j,wrap_u8];omega
 ·obtain⟨l,ci,ch⟩:=s;obtain⟨C,U,J⟩:=hi;dsimp only at C U J;simp only[rK];rw[if_neg jO];exact .ret C ⟨⟨ml jF,J⟩,jF⟩
theorem Xl{b l:List Int}{i h:Int}(C:okB l)(hz:l.length<=100000)(c0:okC b i h):Dr b (λr=>okB r/\r.length<=l.length+1) (Ct (⟨b,i,h⟩:M.aQ) l):=by
 unfold Ct
 rw[FG jF jF,qA]
 refine .bnd (aW c0) λi1 v1 r1 J q1=> ?_
 dsimp only
 split
 ·split
  ·rename_i hp
   refine .bnd (aW J) λi2 v2 r2 U I=>.bnd (aW U) λi3 v3 r3 c3 q3=> ?_
   have hp':(0:Int)<(l.length:Int):=by simpa using hp
   obtain⟨k,rfl⟩:=BW I.1
   have hk:=I.2.1 hp'
   dsimp only
   rw[aK jF,qA]
   refine .ret c3 ⟨⟨by rw[qN];exact C.1,λx j=> ?_⟩,by rw[qN];omega⟩
   rcases jD j with j|rfl
   ·exact C.2 x j
   ·rw[wrap_u8];omega
  ·exact .ret J ⟨C,jF⟩
 split
 ·refine .bnd (aW J) λi2 v2 r2 U I=> ?_
  have hw:IntKind.i64.wrap ((l.length:Int)+1)=(l.length:Int)+1:=wrap_small jF jF
  rw[hw]at I
  obtain⟨k,rfl⟩:=BW I.1
  have hk:=I.2.1 jF
  dsimp only
  rw[CF jF,qA,qH]
  exact .ret U ⟨⟨by have:=C.1;rw[qV];omega,λx j=>C.2 x (qk j)⟩,by rw[qV];omega⟩
 split
 ·refine .bnd (uE (λ_=>True) jI (λ_ _=>trivial) J) λi2 v2 r2 U I=> ?_
  dsimp only
  rw[BF jV jF,qA]
  refine .ret U ⟨⟨ml jR,λx j=> ?_⟩,jH⟩
  rcases qP.1 j with j|j
  ·exact C.2 x j
  ·rw[qQ.1 j,wrap_u8];omega
 ·exact .ret J ⟨C,jF⟩
def XU(x:M.aHH):Prop:=x.ok/\x.aH3.length<=1000
theorem Iz{b:List Int}{i h:Int}(c0:okC b i h):Dr b XU (sR (⟨b,i,h⟩:M.aQ)):=by
 unfold sR
 refine .bnd (aW c0) λi1 v1 r1 c1 q1=>.bnd (aW c1) λi2 v2 r2 c2 q2=>.bnd (aW c2) λi3 v3 r3 c3 q3=>.bnd (PL (aGX q3 jF jF) c3) λi4 v4 r4 c4 j=>.bnd (Ay c4) λi5 v5 r5 c5 q5=>.bnd (aW c5) λi6 v6 r6 J q6=> ?_
 dsimp only
 split
 ·exact .bnd (uE (λx=> -1000000000000000<=x/\x<=1000000000000000) jI jI J) λi7 v7 r7 C I=>.ret C ⟨⟨bgI I,bgI jL,bJ _,j.1⟩,j.2⟩
 split
 ·exact .bnd (uE (λx=> -1000000000000000<=x/\x<=1000000000000000) jI jI J) λi7 v7 r7 C I=>.ret C ⟨⟨bJ _,bgI I,bJ _,j.1⟩,j.2⟩
 split
 ·exact .bnd (uE (λx=>0<=x/\x<=1000) jI jI J) λi7 v7 r7 C I=>.bnd (PL I C) λi8 v8 r8 c8 U=>.ret c8 ⟨⟨bJ _,bgI jL,bJ _,U.1⟩,U.2⟩
 ·exact .ret J ⟨⟨bJ _,bgI jL,bJ _,j.1⟩,j.2⟩
def Dn(s:M.aF):Prop:=s.ok/\M.aF.sz s<=65536
theorem N2{s:M.aF}{v:Int}(h:Dn s)(j:inI v):∃x,pF s v=some x/\Dn x.1:=by
 have I:=h.2
 refine⟨_,KV h.1 j jF,U1 h.1 j jF,?_⟩
 cases h2:(Hd s v).2 with
 |true=>exact Ki (SX h2)
 |false=>
  have e:(Hd s v).1=s:=by unfold Hd at h2⊢;split at h2;(cases h2);·rename_i C;rw[if_neg C]
  rw[e];exact h.2
theorem V5{s:M.aF}{v:Int}{a p:ByteArray}{x:M.aHH}(h:Dn s)(J:a.size<=16)(U:p.size<=16)(I:XU x):∃y,oT s v a p x=some y/\Dn y.1:=by
 have hz:=h.2
 have hx2:=I.2
 refine⟨_,GU h.1 jF (s16 J) (s16 U) I.1 (by simp only[M.aHH.sz];omega),WX h.1 jF (s16 J) (s16 U) I.1,?_⟩
 cases h2:(MB s v a p x).2 with
 |true=>exact Ki (TR h2)
 |false=>
  have e:(MB s v a p x).1=s:=by unfold MB at h2⊢;split at h2;(rename_i j;rw[if_pos j]);·rename_i j;rw[if_neg j];split at h2;(cases h2);·rename_i C;rw[if_neg C]
  rw[e];exact h.2
theorem Vi:Dn (⟨([]:List M.aHM)⟩:M.aF):=⟨⟨⟨by simp[maxLen],jH⟩⟩,by simp[M.aF.sz,dG]⟩
theorem VP{b:List Int}{i h:Int}{N:Nat}(hN:N<=10){i1 U:Int}(c1:okC b i1 U){s:M.aF}(hs:Dn s):Dr b Dn (pC (⟨b,i,h⟩:M.aQ) fuel (N:Int) i1 U s.aHC):=by
 refine Ca (L:=λn v (s:(M.aF)×Int×Int)=>pC (⟨b,i,h⟩:M.aQ) n v s.2.1 s.2.2 s.1.aHC) (I:=λk s=>k<=100000/\okC b s.2.1 s.2.2/\Dn s.1) (Q:=Dr b Dn) (λn k s J ih=> ?_) (λn s J=> ?_) fuel N (s,i1,U) (nJ jF) ⟨jF,c1,hs⟩
 ·obtain⟨x,ci,ch⟩:=s
  obtain⟨k0,j,C⟩:=J
  dsimp only at j C
  simp only[pC]
  rw[if_pos (Ts k),KS k0]
  refine .bnd (aW j) λi3 v3 r3 c3 q3=>.bnd (H4 c3) λi4 v4 r4 c4 q4=>.bnd (PT c4) λi5 v5 r5 c5 q5=>.bnd (Iz c5) λi6 v6 r6 c6 q6=>.Ha (V5 C (qh q4 jF) (qh q5 jF) q6) λy hy=> ?_
  exact ih (y.1,i6,v6) ⟨jF,c6,hy⟩
 ·obtain⟨x,ci,ch⟩:=s;obtain⟨k0,j,C⟩:=J;dsimp only at j C;simp only[pC];rw[if_neg KC];exact .ret j C
theorem Wy{b:List Int}{i h:Int}(c0:okC b i h):Dr b Dn (B8 (⟨b,i,h⟩:M.aQ)):=by
 unfold B8
 refine .bnd (aW c0) λi1 v1 r1 c1 q1=> ?_
 obtain⟨N,rfl⟩:=BW q1.1
 have hN:=q1.2.1 jF
 refine Ca (L:=λn v (s:(M.aF)×Int×Int)=>tH (⟨b,i,h⟩:M.aQ) n v s.2.1 s.2.2 s.1.aHC) (I:=λk s=>k<=100000/\okC b s.2.1 s.2.2/\Dn s.1) (Q:=Dr b Dn) (λn k s U ih=> ?_) (λn s U=> ?_) fuel N ((⟨([]:List M.aHM)⟩:M.aF),i1,v1) (nJ jF) ⟨jF,c1,Vi⟩
 ·obtain⟨x,ci,ch⟩:=s
  obtain⟨k0,j,C⟩:=U
  dsimp only at j C
  simp only[tH]
  rw[if_pos (Ts k),KS k0]
  refine .bnd (aW j) λi3 v3 r3 J q3=>.Ha (N2 C (bJ _)) λy hy=> ?_
  exact ih (y.1,i3,v3) ⟨jF,J,hy⟩
 ·obtain⟨x,ci,ch⟩:=s
  obtain⟨k0,j,C⟩:=U
  dsimp only at j C
  simp only[tH]
  rw[if_neg KC]
  refine .bnd (aW j) λi3 v3 r3 J q3=> ?_
  obtain⟨M,rfl⟩:=BW q3.1
  have hM:=q3.2.1 jF
  exact VP jF J C
def OK(s:M.aF):Prop:=s.ok/\M.aF.sz s<=70000
theorem Dn.all{s:M.aF}(h:Dn s):OK s:=⟨h.1,by have:=h.2;omega⟩
theorem Wh{b:List Int}{i h:Int}(c0:okC b i h):Dr b OK (Ce (⟨b,i,h⟩:M.aQ)):=by
 unfold Ce
 refine .bnd (Wy c0) λi1 v1 r1 c1 I=>.bnd (aW c1) λi2 v2 r2 U q2=> ?_
 have C:=I.2
 simp only[M.aF.sz]at C
 dsimp only
 split
 ·refine .bnd (uE (λx=> -1000000000000000<=x/\x<=1000000000000000) jI jI U) λi3 v3 r3 c3 q3=> ?_
  dsimp only
  rw[BF jV jF,qA]
  refine .ret c3 ⟨⟨⟨ml jR,λy j=> ?_⟩⟩,?_⟩
  ·rcases qP.1 j with j|j;(exact I.1.aHC.2 y j);·rw[qQ.1 j];exact⟨bgI q3,⟨by simp[maxLen],jH⟩⟩
  ·simp only[M.aF.sz];rw[zT];simp only[dG,M.aHM.sz,qE,qJ,qK];omega
 split
 ·split
  ·rename_i hp
   cases hc:r1.aHC with
   |nil=>rw[hc]at hp;simp at hp
   |cons J xs=>
    have hx0:J∈r1.aHC:=by rw[hc];simp
    have ho:=I.1.aHC.2 J hx0
    rw[hc]at C
    simp only[dG,M.aHM.sz,qJ]at C
    rw[show idx (J::xs) 0=some J from rfl,qA]
    refine .bnd (BT (λs=>s.size<=16) jI jI U) λi3 v3 r3 c3 q3=>.bnd (Iz c3) λi4 v4 r4 c4 q4=> ?_
    dsimp only
    rw[BF jV jF,qA]
    have aa:=q4.2
    have ae:r3.size<=16:=q3
    refine .ret c4 ⟨⟨⟨ml (by show(List.set _ _ _).length<=_;rw[qN,qJ];omega),λy j=> ?_⟩⟩,?_⟩
    ·rcases jD j with j|rfl;(exact I.1.aHC.2 y (by rw[hc];exact j));·refine⟨ho.aHA,ml jR,λz C=> ?_⟩;rcases qP.1 C with C|C;(exact ho.aHS.2 z C);·rw[qQ.1 C];exact⟨s16 (s:=(⟨#[98,97,110,107]⟩:ByteArray)) jI,s16 q3,q4.1⟩
    ·have e4:(⟨#[98,97,110,107]⟩:ByteArray).size=4:=rfl;show M.aF.sz (⟨(⟨J.aHA,J.aHS++[_]⟩:M.aHM)::xs⟩:M.aF)<=70000;simp only[M.aF.sz,dG,M.aHM.sz,zT,M.aHU.sz,M.aHH.sz,qE,qJ,qK,e4];omega
  ·exact .ret U I.all
 split
 ·have key:∀(n k:Nat) (s:M.aF),5-k<n->k<=5->Dn s->Dr b OK (tL (i2,v2,r2) n (k:Int) s.aHC):=by
   intro n
   induction n with
   |zero=>intro k s h _ _;omega
   |succ n ih=>
    intro k s h hk hs
    simp only[tL]
    rcases Nat.lt_or_ge k 5 with h6|h6
    ·rw[if_pos jG]
     refine .Ha (N2 hs (bgI jL)) λy j=> ?_
     rw[bD jF]
     exact ih (k+1) y.1 jF jF j
    ·rw[if_neg jG];exact .ret U hs.all
  exact key fuel 1 r1 (nJ jF) jF I
 ·exact .ret U I.all
theorem PC{d:M.aHB}{u:M.lW}(C:d.aHX.length<=100000):∃v,C4 d u=some v:=by
 have key:∀(n k:Nat),d.aHX.length-k<n->k<=d.aHX.length->∃v,pQ d u n (k:Int)=some v:=by
  intro n
  induction n with
  |zero=>intro k h _;omega
  |succ n j=>
   intro k h hk
   simp only[pQ]
   rcases Nat.lt_or_ge k d.aHX.length with h6|h6
   ·rw[if_pos (aY h6),aK h6,qA,bD jF];have:=j (k+1) jF jF;split;(split;(exact⟨_,rfl⟩);·exact this);·exact this
   ·rw[if_neg jG];exact⟨_,rfl⟩
 exact key fuel 0 (nJ jF) jF
theorem aAs{d:M.aHB}{a f:ByteArray}(j:d.ok)(hz:M.aHB.sz d<=100000)(I:a.size<=16)(J:f.size<=16):∃x,mJ d (⟨3,a,f⟩:M.lW)=some x/\(x.1.ok/\M.aHB.sz x.1<=M.aHB.sz d+40):=by
 have U:d.aHX.length<=100000:=by simp only[M.aHB.sz]at hz;omega
 obtain⟨x5,e5⟩:=PC (u:=(⟨3,a,f⟩:M.lW)) U
 have ok':M.aHB.ok (⟨d.Name,d.aHA,d.aHP,d.aHX++[(⟨a,f⟩:M.aN)]⟩:M.aHB):=⟨j.Name,j.aHA,j.aHP,ml jR,λy C=>by rcases qP.1 C with C|C;(exact j.aHX.2 y C);·rw[qQ.1 C];exact⟨s16 I,s16 J⟩⟩
 have sz':M.aHB.sz (⟨d.Name,d.aHA,d.aHP,d.aHX++[(⟨a,f⟩:M.aN)]⟩:M.aHB)<=M.aHB.sz d+40:=by simp only[M.aHB.sz,zT,dG,M.aN.sz,qE,qJ,qK];omega
 unfold mJ
 rw[Bf d jF,qA,Dh j,qA,e5,qA]
 dsimp only
 generalize mM (De a) d.aHP=x3
 have k1:((3:Int)==1)=false:=rfl
 have k2:((3:Int)==2)=false:=rfl
 have k3:((3:Int)==3)=true:=rfl
 have k4:((3:Int)==4)=false:=rfl
 simp only[k1,k2,k3,k4,qD,if_false,if_true,qA]
 by_cases h:x3>=0
 ·by_cases h5:x5<0;(simp only[h,h5,decide_true,if_true,qA];rw[BF jV jF,qA,uN j jF,qA,uN ok' jF,qA];cases nDb d;(exact⟨_,rfl,j,jK⟩);·cases nDb (⟨d.Name,d.aHA,d.aHP,d.aHX++[(⟨a,f⟩:M.aN)]⟩:M.aHB);(exact⟨_,rfl,j,jK⟩);·exact⟨_,rfl,ok',sz'⟩);·simp only[h,h5,decide_true,decide_false,qD,if_false,if_true,qA];exact⟨_,rfl,j,jK⟩
 ·simp only[h,decide_false,qD,if_false,qA];exact⟨_,rfl,j,jK⟩
def Z8(d:M.aHB):Prop:=d.ok/\M.aHB.sz d<=40000
theorem aGC{l:List M.aC}(C:l.length<=3)(h:∀s∈l,Tw s):M.aHB.ok (⟨(⟨#[97,112,112]⟩:ByteArray),1,l,([]:List M.aN)⟩:M.aHB)/\M.aHB.sz (⟨(⟨#[97,112,112]⟩:ByteArray),1,l,([]:List M.aN)⟩:M.aHB)<=39000:=by
 have h3:(⟨#[97,112,112]⟩:ByteArray).size=3:=rfl
 have:=dR (w:=M.aC.sz) (b:=10000) (xs:=l) λs j=>sH (h s j).2.1
 refine⟨⟨s16 (s:=(⟨#[97,112,112]⟩:ByteArray)) jI,RE,⟨ml jK,λs j=>(h s j).1⟩,⟨by simp[maxLen],jH⟩⟩,?_⟩
 simp only[M.aHB.sz,dG,qK,h3]
 omega
theorem Zk{α:Type}{b:Nat}{xs:List α}(h:xs.length<=1000000)(hb:b<=1000):aAO b xs=some xs:=by unfold aAO;rw[if_pos (qh (Nat.mul_le_mul h hb) jF)]
theorem WE{b:List Int}{i h:Int}(c0:okC b i h):Dr b Z8 (Ck (⟨b,i,h⟩:M.aQ)):=by
 unfold Ck
 refine .bnd (F6 jI jI c0) λi1 v1 r1 c1 q1=>.bnd (F6 jI jI c1) λi2 v2 r2 c2 q2=> ?_
 dsimp only
 rw[Zk jH jF,qA]
 have fin:∀{l:List M.aC} {i5 I:Int} {f:Int×Int×Bool->Option (Int×Int×M.aHB)},l.length<=3->(∀s∈l,Tw s)->okC b i5 I->f=(λj=>if j.2.2=true then(dC (⟨b,j.1,j.2.1⟩:M.aQ)).bind λC=>(mJ (⟨(⟨#[97,112,112]⟩:ByteArray),1,l,([]:List M.aN)⟩:M.aHB) (⟨3,(⟨#[110,111,116,101,115]⟩:ByteArray),C.2.2⟩:M.lW)).bind λaf=>some (C.1,C.2.1,af.1)else some (j.1,j.2.1,(⟨(⟨#[97,112,112]⟩:ByteArray),1,l,([]:List M.aN)⟩:M.aHB)))->Dr b Z8 ((cF (⟨b,i5,I⟩:M.aQ) 3).bind f):=by
  intro l i5 I f hl hg c5 hf
  subst hf
  obtain⟨o1,o2⟩:=aGC hl hg
  refine .bnd (Ay c5) λi6 v6 r6 U q6=> ?_
  dsimp only
  split
  ·refine .bnd (Ba U) λi7 v7 r7 c7 q7=>.Ha (aAs o1 jF jI (qh q7 jF)) λy hy=>.ret c7 ⟨hy.1,?_⟩
   have:=hy.2
   omega
  ·exact .ret U ⟨o1,jF⟩
 refine .bnd (Ay c2) λi3 v3 r3 J q3=> ?_
 dsimp only
 split
 ·refine .bnd (F6 jI jI J) λi4 v4 r4 c4 q4=> ?_
  dsimp only
  rw[BF jH jF,qA]
  exact fin (l:=[r4]++[r1,r2]) jH (by simp only[qP,qq,qO,or_false];rintro s (rfl|rfl|rfl)<;>assumption) c4 rfl
 ·exact fin (l:=[r1,r2]) jH (by simp only[qq,qO,or_false];rintro s (rfl|rfl)<;>assumption) J rfl
theorem ZQ{b:List Int}{i h:Int}(c0:okC b i h):Dr b Mr (DM (⟨b,i,h⟩:M.aQ)):=by
 unfold DM
 refine .bnd (aW c0) λi1 v1 r1 c1 q1=>.bnd (BT (λs=>s.size<=16) jI jI c1) λi2 v2 r2 c2 C=>.bnd (zW c2) λi3 v3 r3 J q3=> ?_
 dsimp only
 have hk:=q3.any.1
 have U:(⟨#[]⟩:ByteArray).size<=maxLen:=s16 jI
 split
 ·exact .bnd (DG J) λi4 v4 r4 j I=>.ret j ⟨bJ _,s16 C,hk,I.1,U⟩
 split
 ·exact .bnd (DG J) λi4 v4 r4 j I=>.ret j ⟨bJ _,s16 C,hk,I.1,U⟩
 split
 ·exact .bnd (Ba J) λi4 v4 r4 j I=>.ret j ⟨bJ _,s16 C,hk,Ic,s16 (qh I jF)⟩
 split
 ·refine .bnd (Ay J) λi4 v4 r4 j I=> ?_
  dsimp only
  split
  ·exact .bnd (zW j) λi5 v5 r5 c5 q5=>.ret c5 ⟨RE,s16 C,q5.any.1,Ic,U⟩
  ·exact .ret j ⟨bJ _,s16 C,Qz,Ic,U⟩
 ·exact .ret J ⟨bJ _,s16 C,hk,Ic,U⟩
def Z1(l:List M.Op):Prop:=l.length<=10/\∀o∈l,Mr o
theorem Yp{b:List Int}{i h:Int}(c0:okC b i h):Dr b Z1 (Df (⟨b,i,h⟩:M.aQ) 3):=by
 unfold Df
 rw[show IntKind.i64.wrap (3+1)=4 from by rw[wrap_small jF jF];rfl]
 refine .bnd (aW c0) λi1 v1 r1 c1 q1=> ?_
 obtain⟨N,rfl⟩:=BW q1.1
 have hN:=q1.2.1 jF
 refine Ca (L:=λn v (s:(List M.Op)×Int×Int)=>vQ (⟨b,i,h⟩:M.aQ) n v s.1 s.2.1 s.2.2) (I:=λk s=>k<=100000/\okC b s.2.1 s.2.2/\s.1.length+k<=10/\∀o∈s.1,Mr o) (Q:=Dr b Z1) (λn k s U ih=> ?_) (λn s U=> ?_) fuel N (([]:List M.Op),i1,v1) (nJ jF) ⟨jF,c1,⟨by simp only[qK];omega,jH⟩⟩
 ·obtain⟨x,ci,ch⟩:=s
  obtain⟨k0,J,j⟩:=U
  dsimp only at J j
  simp only[vQ]
  rw[if_pos (Ts k),KS k0]
  refine .bnd (ZQ J) λi3 v3 r3 c3 q3=> ?_
  dsimp only
  have aa:=j.1
  rw[BF jV jF,qA]
  refine ih (x++[r3],i3,v3) ⟨jF,c3,jR,λo C=> ?_⟩
  rcases qP.1 C with C|C
  ·exact j.2 o C
  ·rw[qQ.1 C];exact q3
 ·obtain⟨x,ci,ch⟩:=s;obtain⟨k0,J,j⟩:=U;dsimp only at J j;simp only[vQ];rw[if_neg KC];exact .ret J ⟨by have:=j.1;omega,j.2⟩
theorem P5{k:M.bP}{l:List M.Op}{n:Nat}(h:k.ok)(J:M.bP.sz k<=n)(I:n<=200000)(j:l.length<=1000)(C:∀o∈l,Mr o):∃x,pP k l=some x/\(x.1.ok/\M.bP.sz x.1<=n+4000):=⟨_,JG h jF j C,(M7 h).1,by have:=(M7 (l:=l) h).2.1;omega⟩
def T4(k:M.bP):Prop:=k.ok/\M.bP.sz k<=70000
theorem Uz{b:List Int}{i h:Int}(c0:okC b i h):Dr b T4 (Bv (⟨b,i,h⟩:M.aQ)):=by
 unfold Bv
 refine .bnd (WE c0) λi0 v0 d aa q0=>.bnd (aW aa) λi1 v1 r1 c1 q1=> ?_
 obtain⟨N,rfl⟩:=BW q1.1
 have hN:=q1.2.1 jF
 have hz:=q0.2
 refine Ca (L:=λn v (s:(M.bP)×Int×Int)=>rO (⟨b,i,h⟩:M.aQ) n v s.1.aHa.Name s.1.aHa.aHA s.1.aHs s.2.1 s.2.2 s.1.aHa.aHP s.1.aHa.aHX s.1.Log) (I:=λk s=>k<=100000/\okC b s.2.1 s.2.2/\s.1.ok/\M.bP.sz s.1+4000*k<=60000) (Q:=Dr b T4) (λn k s J ih=> ?_) (λn s J=> ?_) fuel N ((⟨d,([]:List Int),0⟩:M.bP),i1,v1) (nJ jF) ⟨jF,c1,⟨⟨q0.1,⟨by simp[maxLen],jH⟩,xV⟩,by show M.aHB.sz d+0+4000*N<=60000;omega⟩⟩
 ·obtain⟨x,ci,ch⟩:=s
  obtain⟨k0,C,j⟩:=J
  dsimp only at C j
  simp only[rO]
  rw[if_pos (Ts k),KS k0]
  refine .bnd (Yp C) λi3 v3 r3 c3 q3=>.Ha (P5 (k:=x) (n:=M.bP.sz x) j.1 (qg _) (by have:=j.2;omega) (qh q3.1 jF) q3.2) λy U=> ?_
  exact ih (y.1,i3,v3) ⟨jF,c3,U.1,by have:=U.2;have:=j.2;dsimp only;omega⟩
 ·obtain⟨x,ci,ch⟩:=s;obtain⟨k0,C,j⟩:=J;dsimp only at C j;simp only[rO];rw[if_neg KC];exact .ret C ⟨j.1,by have:=j.2;show M.bP.sz x<=70000;omega⟩
theorem Zl{l b:List Int}{i:Int}(C:okB l)(U:l.length<=100000)(hb:∀x∈b,0<=x/\x<=255):okB (WH l i b).1/\(WH l i b).1.length<=l.length+4000:=by unfold WH;split;(exact⟨C,jK⟩);split;(exact⟨C,jK⟩);·rename_i J;refine⟨⟨ml jK,λy I=> ?_⟩,jK⟩;have j:y∈VV l i b:=I;unfold VV at j;simp only[qP]at j;rcases j with h|h|h;(exact C.2 y h);(exact EZ hb y h);·exact Hn _ y h
def Re(k:M.bP):Prop:=k.ok/\M.bP.sz k<=80000
theorem Xr{b:List Int}{i h:Int}(c0:okC b i h):Dr b Re (Cl (⟨b,i,h⟩:M.aQ)):=by
 unfold Cl
 refine .bnd (Uz c0) λi1 v1 U c1 j=>.bnd (aW c1) λi2 v2 r2 C q2=> ?_
 dsimp only
 have I:=j.2
 have hl:U.Log.length<=70000:=by simp only[M.bP.sz]at I;omega
 split
 ·exact .ret C ⟨⟨j.1.aHa,j.1.Log,bJ _⟩,by simp only[M.bP.sz]at I⊢;omega⟩
 split
 ·refine .bnd (Xl j.1.Log jF C) λi3 v3 r3 c3 J=>.ret c3 ⟨⟨j.1.aHa,J.1,j.1.aHs⟩,?_⟩
  have:=J.2
  simp only[M.bP.sz]at I⊢
  omega
 split
 ·rw[Ft jF jI,qA];obtain⟨o1,o2⟩:=Zl (i:=U.aHs) (b:=[1,2]) j.1.Log jF jI;refine .ret C ⟨⟨j.1.aHa,o1,bJ _⟩,?_⟩;simp only[M.bP.sz]at I⊢;omega
 ·exact .ret C ⟨j.1,jF⟩
def wsm(w:M.bB):Prop:=w.ok/\M.bB.sz w<=32
theorem GZ{d q n:Int}{k:M.Key}{f:ByteArray}(j:inI d)(J:inI q)(hk:Of k)(C:f.size<=16)(I:inI n):wsm (⟨d,q,k,f,n⟩:M.bB):=⟨⟨j,J,hk.1,s16 C,I⟩,by have:=hk.2;simp only[M.bB.sz,M.Key.sz];omega⟩
def obI(o:M.aJ):Prop:=inI o.aHI/\inI o.aHj/\o.aHW.length<=30/\∀w∈o.aHW,wsm w
theorem obI.ok{o:M.aJ}(h:obI o):o.ok:=⟨h.1,h.2.1,ml (by have:=h.2.2.1;omega),λw j=>(h.2.2.2 w j).1⟩
theorem obI.sz{o:M.aJ}(h:obI o):M.aJ.sz o<=1000:=by
 have h1:=dR (w:=M.bB.sz) (b:=32) (xs:=o.aHW) λw j=>(h.2.2.2 w j).2
 have h2:=h.2.2.1
 simp only[M.aJ.sz]
 omega
theorem QI{o:M.aJ}(h:uC o=true):o.aHW.length<=20:=by unfold uC at h;simp only[qM,qL]at h;exact h.2.2.2
theorem Uw{o:M.aJ}{k:M.Key}{f:ByteArray}{n:Int}(h:obI o)(hk:Of k)(I:f.size<=16)(J:inI n):obI (Qj o k f n).1:=by unfold Qj;split;(split;(rename_i h2;have:=QI h2;refine⟨h.1,bJ _,by show(H7 o k f n).aHW.length<=30;omega,λw j=> ?_⟩;have C:w∈o.aHW++[(⟨o.aHI,o.aHj,k,f,n⟩:M.bB)]:=j;rcases qP.1 C with j|j;(exact h.2.2.2 w j);·rw[qQ.1 j];exact GZ h.1 h.2.1 hk I J);·exact h);·exact h
theorem RM{o:M.aJ}{k:M.Key}{f:ByteArray}{n:Int}(h:obI o)(hk:Of k)(j:f.size<=16)(C:inI n):iM o k f n=some (Qj o k f n):=DO h.ok (by have:=h.sz;omega) hk.1 (s16 j) C
theorem P4{d n:Int}(j:inI d)(C:inI n):obI (⟨d,n,([]:List M.bB)⟩:M.aJ):=⟨j,C,jH,jH⟩
theorem XD{d:Int}(j:inI d):∃x,pB d=some x/\obI x.1/\x.1.aHj<=1/\x.1.aHW.length<=0:=by unfold pB;rw[sE (P4 j RE).ok,qA];cases uC (⟨d,1,([]:List M.bB)⟩:M.aJ);(exact⟨_,rfl,P4 xV xV,jI,jH⟩);·exact⟨_,rfl,P4 j RE,by show(1:Int)<=1;omega,jH⟩
theorem UN{o:M.aJ}{q:Int}(h:obI o):∃x,cW o q=some x/\obI x.1/\x.1.aHj=o.aHj/\inI x.2/\x.1.aHW.length<=o.aHW.length:=by
 have hlen:=h.2.2.1
 have fin:∀(k:Nat),k<=o.aHW.length->∃x,(Bd o.aHW (k:Int)).bind (λI=>(app 72 ([]:List M.bB) (List.drop (k:Int).toNat o.aHW)).bind λJ=>some ((⟨o.aHI,o.aHj,List.drop (k:Int).toNat o.aHW⟩:M.aJ),(k:Int)))=some x/\obI x.1/\x.1.aHj=o.aHj/\inI x.2/\x.1.aHW.length<=o.aHW.length:=by intro k hk;rw[Ho hk,qA,qH,FG (by rw[qW];omega) jF,qA];exact⟨_,rfl,⟨h.1,h.2.1,by show(List.drop k o.aHW).length<=30;rw[qW];omega,λw j=>h.2.2.2 w (qv j)⟩,rfl,bgI jK,by show(List.drop k o.aHW).length<=_;rw[qW];omega⟩
 have key:∀(n k:Nat),o.aHW.length-k<n->k<=o.aHW.length->∃x,pO o q o n (k:Int)=some x/\obI x.1/\x.1.aHj=o.aHj/\inI x.2/\x.1.aHW.length<=o.aHW.length:=by
  intro n
  induction n with
  |zero=>intro k h _;omega
  |succ n C=>
   intro k U hk
   simp only[pO]
   rcases Nat.lt_or_ge k o.aHW.length with h6|h6
   ·rw[if_pos (aY h6),aK h6,qA,bD jF];split;(exact C (k+1) jF jF);·exact fin k hk
   ·rw[if_neg jG];exact fin k hk
 unfold cW
 rw[CU o (by have:=h.sz;omega),qA,sE h.ok,qA]
 cases uC o
 ·rw[if_pos jH];exact⟨_,rfl,h,rfl,xV,qg _⟩
 ·rw[if_neg jH];exact key fuel 0 (nJ jF) jF
theorem Zr(o:M.aJ)(k:M.Key)(f:ByteArray)(n:Int):(Qj o k f n).1.aHW.length<=o.aHW.length+1:=by unfold Qj;split;(split;(simp[H7]);·exact Nat.le_succ _);·exact Nat.le_succ _
theorem Wp{o:M.aJ}{k:M.Key}{f:ByteArray}{n:Int}(h:o.aHj<=1000):(Qj o k f n).1.aHj<=1+o.aHj\/(Qj o k f n).1.aHj=o.aHj:=by unfold Qj;split;(rename_i h1;split;(left;unfold uC inR at h1;simp only[qM,qL]at h1;show IntKind.i64.wrap (o.aHj+1)<=_;rw[wrap_small jF jF];omega);·exact .inr rfl);·exact .inr rfl
theorem QG{b:List Int}{i h d:Int}(hd:inI d)(c0:okC b i h):Dr b (λo=>obI o/\o.aHj<=10/\o.aHW.length<=20) (Aj (⟨b,i,h⟩:M.aQ) d):=by
 unfold Aj
 refine .Ha (XD hd) λo ho=>.bnd (uE (λx=>0<=x/\x<=6) jI jI c0) λi1 v1 r1 c1 q1=> ?_
 obtain⟨N,rfl⟩:=BW q1.1
 have hN:=q1.2
 refine Ca (L:=λn v (s:(M.aJ)×Int×Int)=>mA (⟨b,i,h⟩:M.aQ) n v s.1.aHI s.1.aHj s.2.1 s.2.2 s.1.aHW) (I:=λk s=>k<=100000/\okC b s.2.1 s.2.2/\obI s.1/\s.1.aHj+k<=8/\s.1.aHW.length+k<=7) (Q:=Dr b (λo=>obI o/\o.aHj<=10/\o.aHW.length<=20)) (λn k s hi ih=> ?_) (λn s hi=> ?_) fuel N (o.1,i1,v1) (nJ jF) ⟨jF,c1,⟨ho.1,by have:=ho.2.1;dsimp only;omega,by have:=ho.2.2;dsimp only;omega⟩⟩
 ·obtain⟨x,ci,ch⟩:=s
  obtain⟨k0,J,j⟩:=hi
  dsimp only at J j
  simp only[mA]
  rw[if_pos (Ts k),KS k0]
  refine .bnd (zW J) λi3 v3 r3 U q3=>.bnd (Ba U) λi4 v4 C c4 q4=>.bnd (aW c4) λi5 v5 r5 c5 q5=> ?_
  dsimp only
  have hf:C.size<=16:=qh q4 jF
  have hn:inI r5:=bgI (Ws q5)
  rw[show(⟨x.aHI,x.aHj,x.aHW⟩:M.aJ)=x from rfl,RM j.1 q3.any hf hn,qA]
  refine ih ((Qj x r3 C r5).1,i5,v5) ⟨jF,c5,Uw j.1 q3.any hf hn,?_,?_⟩
  ·have h1:=j.2.1;dsimp only;rcases Wp (o:=x) (k:=r3) (f:=C) (n:=r5) jF with h2|h2<;>omega
  ·have h1:=j.2.2;have h2:=Zr x r3 C r5;dsimp only;omega
 ·obtain⟨x,ci,ch⟩:=s
  obtain⟨k0,J,j⟩:=hi
  dsimp only at J j
  simp only[mA]
  rw[if_neg KC]
  refine .bnd (Ay J) λi3 v3 r3 U q3=> ?_
  dsimp only
  have h1:=j.2.1
  have h2:=j.2.2
  split
  ·refine .bnd (aW U) λi4 v4 C c4 q4=> ?_
   dsimp only
   obtain⟨y,e,y1,y2,_,y3⟩:=UN (q:=C) j.1
   rw[show(⟨x.aHI,x.aHj,x.aHW⟩:M.aJ)=x from rfl,e,qA]
   exact .ret c4 ⟨y1,jF,jF⟩
  ·exact .ret U ⟨j.1,jK,jK⟩
theorem Wx{o:M.aJ}{k:M.Key}{f:ByteArray}{n:Int}(h:uC o=true)(J:o.aHj<=1000)(hl:o.aHW.length<20)(I:El (⟨o.aHI,o.aHj,k,f,n⟩:M.bB)=true):uC (H7 o k f n)=true:=by
 unfold uC inR at h
 simp only[qM,qL,qR,qS]at h
 obtain⟨h1,⟨h2,h3⟩,⟨h4,h5⟩,h6⟩:=h
 have C:IntKind.i64.wrap (o.aHj+1)=o.aHj+1:=wrap_small jF jF
 unfold uC inR H7
 simp only[qM,qL,qR,qS,qE,qJ,qK,C]
 refine⟨λj U=> ?_,⟨h2,h3⟩,⟨jF,jF⟩,jF⟩
 unfold Eg
 simp only[qE,qJ,qK]
 rcases Nat.lt_or_ge j o.aHW.length with hlt|hge
 ·have:=h1 j hlt;unfold Eg at this;rw[qF hlt,qf]at this;rw[qy hlt,qF hlt,qf,show(o.aHj+1-((o.aHW.length+(0+1):Nat):Int))=o.aHj-(o.aHW.length:Int)by omega];exact this
 ·have:j=o.aHW.length:=by omega
  subst this
  rw[qz (qg _),Nat.sub_self]
  simp only[List.getElem?_cons_zero,qf]
  rw[I,show(o.aHj+1-((o.aHW.length+(0+1):Nat):Int))=o.aHj-(o.aHW.length:Int)by omega,wrap_small (n:=o.aHj-(o.aHW.length:Int)) jF jF,show o.aHj-(o.aHW.length:Int)+(o.aHW.length:Int)=o.aHj by omega,wrap_small jF jF]
  simp
theorem Q0.n{k:M.Key}(h:Q0 k):Dq k=true:=by
 obtain⟨a,n,s⟩:=k
 obtain⟨h1,h2,h3,h4⟩:=h
 dsimp only at h1 h2 h3 h4
 subst h4 h1
 unfold Dq inR
 have e:MG (⟨#[]⟩:ByteArray)=true:=by decide
 simp[e]
 omega
theorem WB{b:List Int}{i h:Int}(c0:okC b i h):Dr b obI (B5 (⟨b,i,h⟩:M.aQ)):=by
 unfold B5
 refine .bnd (aW c0) λi1 v1 r1 c1 q1=>.bnd (QG (bJ _) c1) λi2 v2 o c2 q2=>.bnd (aW c2) λi3 v3 r3 U q3=> ?_
 dsimp only
 obtain⟨j,hN,q2len⟩:=q2
 have hlen:=j.2.2.1
 split
 ·exact .bnd (uE (λx=> -1000000000000000<=x/\x<=1000000000000000) jI jI U) λi4 v4 C J I=>.ret J ⟨bgI I,j.2.1,j.2.2⟩
 split
 ·exact .bnd (uE (λx=> -1000000000000000<=x/\x<=1000000000000000) jI jI U) λi4 v4 C J I=>.ret J ⟨j.1,bgI I,j.2.2⟩
 split
 ·refine .bnd (Qw U) λi4 v4 C J I=>.bnd (uE (λx=> -1000000000000000<=x/\x<=1000000000000000) jI jI J) λi5 v5 r5 c5 q5=> ?_
  dsimp only
  rw[BF jV jF,qA]
  refine .ret c5 ⟨j.1,j.2.1,jR,λw hw=> ?_⟩
  rcases qP.1 hw with hw|hw
  ·exact j.2.2.2 w hw
  ·rw[qQ.1 hw];exact GZ j.1 j.2.1 I jI (bgI q5)
 split
 ·have key:∀(n:Nat) (o:M.aJ) (ci ch:Int),20-o.aHW.length<n->obI o->o.aHj<=10+o.aHW.length->okC b ci ch->Dr b obI (wO (⟨b,i,h⟩:M.aQ) n o.aHI o.aHj ci ch o.aHW):=by
   intro n
   induction n with
   |zero=>intro o ci ch h _ _ _;omega
   |succ n ih=>
    intro o ci ch hn j hN k1
    simp only[wO]
    rcases Nat.lt_or_ge o.aHW.length 20 with h6|h6
    ·rw[if_pos jG,show(⟨o.aHI,o.aHj,o.aHW⟩:M.aJ)=o from rfl,sE j.ok,qA]
     cases hob:uC o with
     |false=>rw[if_neg jH];exact .ret k1 j
     |true=>
      rw[if_pos rfl]
      refine .bnd (zW k1) λi4 v4 C J I=> ?_
      dsimp only
      have hf:(⟨#[97]⟩:ByteArray).size<=16:=by decide
      rw[RM j I.any hf RE,qA]
      have h7:=hob
      unfold uC inR at h7
      simp only[qM,qL]at h7
      have hq:El (⟨o.aHI,o.aHj,C,(⟨#[97]⟩:ByteArray),1⟩:M.bB)=true:=by
       have e:nY (⟨#[97]⟩:ByteArray)=true:=by decide
       unfold El inR
       simp[I.n,e]
       omega
      have hb:=Wx hob jF h6 hq
      have en:Qj o C (⟨#[97]⟩:ByteArray) 1=(H7 o C (⟨#[97]⟩:ByteArray) 1,true):=by unfold Qj;rw[if_pos hob,if_pos hb]
      have hob2:=Uw (k:=C) (f:=(⟨#[97]⟩:ByteArray)) (n:=1) j I.any hf RE
      rw[en]at hob2⊢
      have e3:(H7 o C (⟨#[97]⟩:ByteArray) 1).aHW.length=o.aHW.length+1:=by simp[H7]
      have e4:(H7 o C (⟨#[97]⟩:ByteArray) 1).aHj=o.aHj+1:=wrap_small jF jF
      exact ih (H7 o C (⟨#[97]⟩:ByteArray) 1) i4 v4 jF hob2 jF J
    ·rw[if_neg jG];exact .ret k1 j
  exact key fuel o i3 v3 (nJ jF) j jF U
 ·exact .ret U j
def svI(n:Nat)(s:M.aHO):Prop:=s.aC.ok/\iJ s.aC=true/\(s.aO.length<=60/\∀a∈s.aO,M.aO.ok a)/\s.aHd.length<=n/\∀w∈s.aHd,wsm w
theorem svI.ok{n:Nat}{s:M.aHO}(h:svI n s)(C:n<=1000):M.aHO.ok s:=⟨h.1,⟨ml (by have:=h.2.2.1.1;omega),h.2.2.1.2⟩,⟨ml (by have:=h.2.2.2.1;omega),λw j=>(h.2.2.2.2 w j).1⟩⟩
theorem svI.mono{n m:Nat}{s:M.aHO}(h:svI n s)(j:n<=m):svI m s:=⟨h.1,h.2.1,h.2.2.1,by have:=h.2.2.2.1;omega,h.2.2.2.2⟩
theorem Uc{n:Nat}{s:M.aHO}(h:svI n s)(j:n<=1000):gQ s=some s:=by have h1:=sH h.2.1;have h2:=h.2.2.1.1;have h3:=h.2.2.2.1;unfold gQ;rw[oN _ jF,qA,FG jF jF,qA,FG jF jF,qA]
theorem K8{s:M.aHO}{d:Int}(h:s.aO.length<=60/\∀a∈s.aO,M.aO.ok a):∃v,xP s d=some v/\inI v:=by
 have C:=h.1
 have key:∀(n k:Nat),s.aO.length-k<n->k<=s.aO.length->∃v,uO s d n (k:Int)=some v/\inI v:=by
  intro n
  induction n with
  |zero=>intro k h _;omega
  |succ n j=>
   intro k I hk
   simp only[uO]
   rcases Nat.lt_or_ge k s.aO.length with h6|h6
   ·rw[if_pos (aY h6),aK h6,qA,bD jF];split;(exact⟨_,rfl,(h.2 _ (qG h6)).Seq⟩);·exact j (k+1) jF jF
   ·rw[if_neg jG];exact⟨_,rfl,xV⟩
 exact key fuel 0 (nJ jF) jF
theorem YE{l:List M.aO}{d q:Int}(h:l.length<=60/\∀a∈l,M.aO.ok a)(I:inI d)(C:inI q):∃r,Bu l d q=some r/\∀a∈r,M.aO.ok a:=by
 have hl:=h.1
 have ins:∀(k:Nat),k<=l.length->∀a∈(List.take k l++[(⟨d,q⟩:M.aO)])++List.drop k l,M.aO.ok a:=by intro k hk a j;simp only[qP,qQ]at j;rcases j with(j|rfl)|j;(exact h.2 a (qk j));(exact⟨I,C⟩);·exact h.2 a (qv j)
 have fin:∀(k:Nat),k<=l.length->∃r,((AX l (k:Int)).bind λU=>(app 16 ([]:List M.aO) (List.take (k:Int).toNat l)).bind λae=>(app 16 (List.take (k:Int).toNat l) ([(⟨d,q⟩:M.aO)])).bind λaf=>(Bd l (k:Int)).bind λah=>(app 16 ((List.take (k:Int).toNat l)++[(⟨d,q⟩:M.aO)]) (List.drop (k:Int).toNat l)).bind λai=>some (((List.take (k:Int).toNat l)++[(⟨d,q⟩:M.aO)])++(List.drop (k:Int).toNat l)))=some r/\∀a∈r,M.aO.ok a:=by intro k hk;rw[CF hk,qA,qH,FG (by rw[qV];omega) jF,qA,BF jX jF,qA,Ho hk,qA,BF jS jF,qA];exact⟨_,rfl,ins k hk⟩
 have key:∀(n k:Nat),l.length-k<n->k<=l.length->∃r,uQ l d q n (k:Int)=some r/\∀a∈r,M.aO.ok a:=by
  intro n
  induction n with
  |zero=>intro k h _;omega
  |succ n J=>
   intro k hn hk
   simp only[uQ]
   rcases Nat.lt_or_ge k l.length with h6|h6
   ·rw[if_pos (aY h6),aK h6,qA,bD jF];split;(exact J (k+1) jF jF);split;(refine⟨_,rfl,λa j=> ?_⟩;rcases jD j with j|rfl;(exact h.2 a j);·exact⟨(h.2 _ (qG h6)).aHI,C⟩);·exact fin k hk
   ·rw[if_neg jG];exact fin k hk
 unfold Bu
 rw[FG jF jF,qA]
 exact key fuel 0 (nJ jF) jF
theorem UF{s:M.aC}{w:M.bB}(j:iJ s=true):iJ (Ni s w).1=true:=by
 cases h2:(Ni s w).2 with
 |false=>rw[Mg h2];exact j
 |true=>
  unfold Ni at h2⊢
  by_cases h1:(JX (lS s w.Key) w.Field w.N).2=true
  ·rw[if_pos h1]at h2⊢;exact Ep (Gi h1) h2
  ·rw[if_neg h1]at h2;cases h2
theorem recv{n:Nat}{s:M.aHO}{w:M.bB}(h:svI n s)(hn:n<=900)(j:wsm w):∃x,cV s w=some x/\svI (n+1) x.1:=by
 have I:=h.mono (Nat.le_succ n)
 have hz:=sH h.2.1
 have hc:=h.2.2.2.1
 unfold cV
 rw[Uc h jF,qA,Cc (h.ok jF),qA]
 cases F9 s
 ·exact⟨_,rfl,I⟩
 rw[if_neg jH,Bm j.1,qA]
 cases El w
 ·exact⟨_,rfl,I⟩
 rw[if_neg jH]
 obtain⟨r,er,U⟩:=YE h.2.2.1 j.1.aHI j.1.Seq
 obtain⟨v,ev,hv⟩:=K8 (s:=s) (d:=w.aHI) h.2.2.1
 rw[er,qA,ev,qA]
 by_cases aa:(r.length:Int)>60
 ·rw[if_pos (by simpa using aa)];exact⟨_,rfl,I⟩
 rw[if_neg (by simpa using aa)]
 split
 ·exact⟨_,rfl,I⟩
 split
 ·exact⟨_,rfl,I⟩
 have C:∀y∈s.aHd++[w],wsm y:=λy J=>by rcases qP.1 J with J|J;(exact h.2.2.2.2 y J);·rw[qQ.1 J];exact j
 have hlen:(s.aHd++[w]).length<=n+1:=by simp only[qE,qJ,qK];omega
 rw[BS h.1 j.1 jF,qA,BF jV jF,qA]
 split
 ·exact⟨_,rfl,(K5 h.1 j.1 jF).1,UF h.2.1,⟨jK,U⟩,hlen,C⟩
 ·exact⟨_,rfl,h.1,h.2.1,⟨jK,U⟩,hlen,C⟩
