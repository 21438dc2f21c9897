/-
  Helper text. No conditions.
-/
import Derived.Test.YtjlnkcoeghonfaaGreatRunningPagesPd7
set_option linter.all false
namespace Go.Proofs.YtjlnkcoeghonfaaGreat.gen
open Go Go.Sh
theorem aEt{d:M.aLS}{a f:ByteArray}(j:d.ok)(hz:M.aLS.sz d<=100000)(I:a.size<=16)(J:f.size<=16):∃x,oD d (⟨3,a,f⟩:M.pR)=some x/\(x.1.ok/\M.aLS.sz x.1<=M.aLS.sz d+40):=by
 have U:d.aLm.length<=100000:=by simp only[M.aLS.sz]at hz;omega
 obtain⟨x5,e5⟩:=S8 (u:=(⟨3,a,f⟩:M.pR)) U
 have ok':M.aLS.ok (⟨d.Name,d.aLT,d.aLc,d.aLm++[(⟨a,f⟩:M.aU)]⟩:M.aLS):=⟨j.Name,j.aLT,j.aLc,ml jv,λy C=>by rcases qP.1 C with C|C;(exact j.aLm.2 y C);·rw[qQ.1 C];exact⟨s16 I,s16 J⟩⟩
 have sz':M.aLS.sz (⟨d.Name,d.aLT,d.aLc,d.aLm++[(⟨a,f⟩:M.aU)]⟩:M.aLS)<=M.aLS.sz d+40:=by simp only[M.aLS.sz,yY,dV,M.aU.sz,qE,qJ,qK];omega
 unfold oD
 rw[Du d wi,qA,D4 j,qA,e5,qA]
 dsimp only
 generalize kP (C6 a) d.aLc=x3
 have k1:((3:Int)==1)=false:=rfl
 have k2:((3:Int)==2)=false:=rfl
 have k3:((3:Int)==3)=true:=rfl
 have k4:((3:Int)==4)=false:=rfl
 simp only[k1,k2,k3,k4,qD,jG,jH,qA]
 by_cases h:x3>=0
 ·by_cases h5:x5<0;(simp only[h,h5,jb,jH,qA];rw[DY wA wi,qA,yM j wi,qA,yM ok' wi,qA];cases nDb d;(exact⟨_,rfl,j,wI⟩);·cases nDb (⟨d.Name,d.aLT,d.aLc,d.aLm++[(⟨a,f⟩:M.aU)]⟩:M.aLS);(exact⟨_,rfl,j,wI⟩);·exact⟨_,rfl,ok',sz'⟩);·simp only[h,h5,jb,jc,qD,jG,jH,qA];exact⟨_,rfl,j,wI⟩
 ·simp only[h,jc,qD,jG,qA];exact⟨_,rfl,j,wI⟩
def aD0(d:M.aLS):Prop:=d.ok/\M.aLS.sz d<=40000
theorem aKP{l:List M.aE}(C:l.length<=3)(h:∀s∈l,Xh s):M.aLS.ok (⟨(⟨#[97,112,112]⟩:ByteArray),1,l,([]:List M.aU)⟩:M.aLS)/\M.aLS.sz (⟨(⟨#[97,112,112]⟩:ByteArray),1,l,([]:List M.aU)⟩:M.aLS)<=39000:=by
 have h3:(⟨#[97,112,112]⟩:ByteArray).size=3:=rfl
 have:=eU (w:=M.aE.sz) (b:=10000) (xs:=l) λs j=>uZ (h s j).2.1
 refine⟨⟨s16 (s:=(⟨#[97,112,112]⟩:ByteArray)) wh,Wt,⟨ml wI,λs j=>(h s j).1⟩,⟨wQ,we⟩⟩,?_⟩
 simp only[M.aLS.sz,dV,qK,h3]
 omega
theorem aC0{α:Type}{b:Nat}{xs:List α}(h:xs.length<=1000000)(hb:b<=1000):aEG b xs=some xs:=by unfold aEG;rw[jE (qh (Nat.mul_le_mul h hb) wi)]
theorem aAN{b:List Int}{i h:Int}(c0:okC b i h):Dr b aD0 (EF (⟨b,i,h⟩:M.bI)):=by
 unfold EF
 refine .bnd (Jn wh wh c0) λi1 v1 r1 c1 q1=>.bnd (Jn wh wh c1) λi2 v2 r2 c2 q2=> ?_
 dsimp only
 rw[aC0 we wi,qA]
 have fin:∀{l:List M.aE} {i5 I:Int} {f:Int×Int×Bool->Option (Int×Int×M.aLS)},l.length<=3->(∀s∈l,Xh s)->okC b i5 I->f=(λj=>if j.2.2=true then(eK (⟨b,j.1,j.2.1⟩:M.bI)).bind λC=>(oD (⟨(⟨#[97,112,112]⟩:ByteArray),1,l,([]:List M.aU)⟩:M.aLS) (⟨3,(⟨#[110,111,116,101,115]⟩:ByteArray),C.2.2⟩:M.pR)).bind λaf=>some (C.1,C.2.1,af.1)else some (j.1,j.2.1,(⟨(⟨#[97,112,112]⟩:ByteArray),1,l,([]:List M.aU)⟩:M.aLS)))->Dr b aD0 ((dF (⟨b,i5,I⟩:M.bI) 3).bind f):=by
  intro l i5 I f hl hg c5 hf
  subst hf
  obtain⟨o1,o2⟩:=aKP hl hg
  refine .bnd (CG c5) λi6 v6 r6 U q6=> ?_
  dsimp only
  split
  ·refine .bnd (Dj U) λi7 v7 r7 c7 q7=>.J9 (aEt o1 wi wh (qh q7 wi)) λy hy=>.ret c7 ⟨hy.1,?_⟩
   have:=hy.2
   omega
  ·exact .ret U ⟨o1,wi⟩
 refine .bnd (CG c2) λi3 v3 r3 J q3=> ?_
 dsimp only
 split
 ·refine .bnd (Jn wh wh J) λi4 v4 r4 c4 q4=> ?_
  dsimp only
  rw[DY we wi,qA]
  exact fin (l:=[r4]++[r1,r2]) we (by simp only[qP,qq,qO,or_false];rintro s (rfl|rfl|rfl)<;>assumption) c4 rfl
 ·exact fin (l:=[r1,r2]) we (by simp only[qq,qO,or_false];rintro s (rfl|rfl)<;>assumption) J rfl
theorem aDg{b:List Int}{i h:Int}(c0:okC b i h):Dr b Kn (GC (⟨b,i,h⟩:M.bI)):=by
 unfold GC
 refine .bnd (bA c0) λi1 v1 r1 c1 q1=>.bnd (Fo (λs=>s.size<=16) wh wh c1) λi2 v2 r2 c2 C=>.bnd (Ci c2) λi3 v3 r3 J q3=> ?_
 dsimp only
 have hk:=q3.any.1
 have U:(⟨#[]⟩:ByteArray).size<=maxLen:=s16 wh
 split
 ·exact .bnd (Gq J) λi4 v4 r4 j I=>.ret j ⟨bV _,s16 C,hk,I.1,U⟩
 split
 ·exact .bnd (Gq J) λi4 v4 r4 j I=>.ret j ⟨bV _,s16 C,hk,I.1,U⟩
 split
 ·exact .bnd (Dj J) λi4 v4 r4 j I=>.ret j ⟨bV _,s16 C,hk,Ji,s16 (qh I wi)⟩
 split
 ·refine .bnd (CG J) λi4 v4 r4 j I=> ?_
  dsimp only
  split
  ·exact .bnd (Ci j) λi5 v5 r5 c5 q5=>.ret c5 ⟨Wt,s16 C,q5.any.1,Ji,U⟩
  ·exact .ret j ⟨bV _,s16 C,OO,Ji,U⟩
 ·exact .ret J ⟨bV _,s16 C,hk,Ji,U⟩
def aDs(l:List M.gN):Prop:=l.length<=10/\∀o∈l,Kn o
theorem aB4{b:List Int}{i h:Int}(c0:okC b i h):Dr b aDs (FN (⟨b,i,h⟩:M.bI) 3):=by
 unfold FN
 rw[show IntKind.i64.wrap (3+1)=4 from by rw[mO wi wi];rfl]
 refine .bnd (bA c0) λi1 v1 r1 c1 q1=> ?_
 obtain⟨N,rfl⟩:=Dw q1.1
 have hN:=q1.2.1 wi
 refine Et (L:=λn v (s:(List M.gN)×Int×Int)=>zS (⟨b,i,h⟩:M.bI) n v s.1 s.2.1 s.2.2) (I:=λk s=>k<=100000/\okC b s.2.1 s.2.2/\s.1.length+k<=10/\∀o∈s.1,Kn o) (Q:=Dr b aDs) (λn k s U ih=> ?_) (λn s U=> ?_) aH N (([]:List M.gN),i1,v1) (nN wi) ⟨wi,c1,⟨by simp only[qK];omega,we⟩⟩
 ·obtain⟨x,ci,ch⟩:=s
  obtain⟨k0,J,j⟩:=U
  dsimp only at J j
  simp only[zS]
  rw[jE (Xc k),NY k0]
  refine .bnd (aDg J) λi3 v3 r3 c3 q3=> ?_
  dsimp only
  have aa:=j.1
  rw[DY wA wi,qA]
  refine ih (x++[r3],i3,v3) ⟨wi,c3,jv,λo C=> ?_⟩
  rcases qP.1 C with C|C
  ·exact j.2 o C
  ·rw[qQ.1 C];exact q3
 ·obtain⟨x,ci,ch⟩:=s;obtain⟨k0,J,j⟩:=U;dsimp only at J j;simp only[zS];rw[jF SY];exact .ret J ⟨by have:=j.1;omega,j.2⟩
theorem TA{k:M.bP}{l:List M.gN}{n:Nat}(h:k.ok)(J:M.bP.sz k<=n)(I:n<=200000)(j:l.length<=1000)(C:∀o∈l,Kn o):∃x,oI k l=some x/\(x.1.ok/\M.bP.sz x.1<=n+4000):=⟨_,HO h wi j C,(Mo h).1,by have:=(Mo (l:=l) h).2.1;omega⟩
def XE(k:M.bP):Prop:=k.ok/\M.bP.sz k<=70000
theorem Ye{b:List Int}{i h:Int}(c0:okC b i h):Dr b XE (DL (⟨b,i,h⟩:M.bI)):=by
 unfold DL
 refine .bnd (aAN c0) λi0 v0 d aa q0=>.bnd (bA aa) λi1 v1 r1 c1 q1=> ?_
 obtain⟨N,rfl⟩:=Dw q1.1
 have hN:=q1.2.1 wi
 have hz:=q0.2
 refine Et (L:=λn v (s:(M.bP)×Int×Int)=>tY (⟨b,i,h⟩:M.bI) n v s.1.aLq.Name s.1.aLq.aLT s.1.aL5 s.2.1 s.2.2 s.1.aLq.aLc s.1.aLq.aLm s.1.Log) (I:=λk s=>k<=100000/\okC b s.2.1 s.2.2/\s.1.ok/\M.bP.sz s.1+4000*k<=60000) (Q:=Dr b XE) (λn k s J ih=> ?_) (λn s J=> ?_) aH N ((⟨d,([]:List Int),0⟩:M.bP),i1,v1) (nN wi) ⟨wi,c1,⟨⟨q0.1,⟨wQ,we⟩,zV⟩,by show M.aLS.sz d+0+4000*N<=60000;omega⟩⟩
 ·obtain⟨x,ci,ch⟩:=s
  obtain⟨k0,C,j⟩:=J
  dsimp only at C j
  simp only[tY]
  rw[jE (Xc k),NY k0]
  refine .bnd (aB4 C) λi3 v3 r3 c3 q3=>.J9 (TA (k:=x) (n:=M.bP.sz x) j.1 (qg _) (by have:=j.2;omega) (qh q3.1 wi) q3.2) λy U=> ?_
  exact ih (y.1,i3,v3) ⟨wi,c3,U.1,by have:=U.2;have:=j.2;dsimp only;omega⟩
 ·obtain⟨x,ci,ch⟩:=s;obtain⟨k0,C,j⟩:=J;dsimp only at C j;simp only[tY];rw[jF SY];exact .ret C ⟨j.1,by have:=j.2;show M.bP.sz x<=70000;omega⟩
theorem aC2{l b:List Int}{i:Int}(C:okB l)(U:l.length<=100000)(hb:∀x∈b,0<=x/\x<=255):okB (Xd l i b).1/\(Xd l i b).1.length<=l.length+4000:=by unfold Xd;split;(exact⟨C,wI⟩);split;(exact⟨C,wI⟩);·rename_i J;refine⟨⟨ml wI,λy I=> ?_⟩,wI⟩;have j:y∈YY l i b:=I;unfold YY at j;simp only[qP]at j;rcases j with h|h|h;(exact C.2 y h);(exact H2 hb y h);·exact Kw _ y h
def UW(k:M.bP):Prop:=k.ok/\M.bP.sz k<=80000
theorem aA7{b:List Int}{i h:Int}(c0:okC b i h):Dr b UW (EH (⟨b,i,h⟩:M.bI)):=by
 unfold EH
 refine .bnd (Ye c0) λi1 v1 U c1 j=>.bnd (bA c1) λi2 v2 r2 C q2=> ?_
 dsimp only
 have I:=j.2
 have hl:U.Log.length<=70000:=by simp only[M.bP.sz]at I;omega
 split
 ·exact .ret C ⟨⟨j.1.aLq,j.1.Log,bV _⟩,by simp only[M.bP.sz]at I⊢;omega⟩
 split
 ·refine .bnd (aA2 j.1.Log wi C) λi3 v3 r3 c3 J=>.ret c3 ⟨⟨j.1.aLq,J.1,j.1.aL5⟩,?_⟩
  have:=J.2
  simp only[M.bP.sz]at I⊢
  omega
 split
 ·rw[Iy wi wh,qA];obtain⟨o1,o2⟩:=aC2 (i:=U.aL5) (b:=[1,2]) j.1.Log wi wh;refine .ret C ⟨⟨j.1.aLq,o1,bV _⟩,?_⟩;simp only[M.bP.sz]at I⊢;omega
 ·exact .ret C ⟨j.1,wi⟩
def wsm(w:M.bR):Prop:=w.ok/\M.bR.sz w<=32
theorem Kg{d q n:Int}{k:M.bD}{f:ByteArray}(j:inI d)(J:inI q)(hk:RF k)(C:f.size<=16)(I:inI n):wsm (⟨d,q,k,f,n⟩:M.bR):=⟨⟨j,J,hk.1,s16 C,I⟩,by have:=hk.2;simp only[M.bR.sz,M.bD.sz];omega⟩
def obI(o:M.aN):Prop:=inI o.aLZ/\inI o.aL2/\o.aLl.length<=30/\∀w∈o.aLl,wsm w
theorem obI.ok{o:M.aN}(h:obI o):o.ok:=⟨h.1,h.2.1,ml (by have:=h.2.2.1;omega),λw j=>(h.2.2.2 w j).1⟩
theorem obI.sz{o:M.aN}(h:obI o):M.aN.sz o<=1000:=by
 have h1:=eU (w:=M.bR.sz) (b:=32) (xs:=o.aLl) λw j=>(h.2.2.2 w j).2
 have h2:=h.2.2.1
 simp only[M.aN.sz]
 omega
theorem Ul{o:M.aN}(h:xA o=true):o.aLl.length<=20:=by unfold xA at h;simp only[qM,qL]at h;exact h.2.2.2
theorem Yb{o:M.aN}{k:M.bD}{f:ByteArray}{n:Int}(h:obI o)(hk:RF k)(I:f.size<=16)(J:inI n):obI (Pr o k f n).1:=by unfold Pr;split;(split;(rename_i h2;have:=Ul h2;refine⟨h.1,bV _,by show(IM o k f n).aLl.length<=30;omega,λw j=> ?_⟩;have C:w∈o.aLl++[(⟨o.aLZ,o.aL2,k,f,n⟩:M.bR)]:=j;rcases qP.1 C with j|j;(exact h.2.2.2 w j);·rw[qQ.1 j];exact Kg h.1 h.2.1 hk I J);·exact h);·exact h
theorem Vv{o:M.aN}{k:M.bD}{f:ByteArray}{n:Int}(h:obI o)(hk:RF k)(j:f.size<=16)(C:inI n):lD o k f n=some (Pr o k f n):=GH h.ok wJ hk.1 (s16 j) C
theorem Ty{d n:Int}(j:inI d)(C:inI n):obI (⟨d,n,([]:List M.bR)⟩:M.aN):=⟨j,C,we,we⟩
theorem aBK{d:Int}(j:inI d):∃x,rX d=some x/\obI x.1/\x.1.aL2<=1/\x.1.aLl.length<=0:=by unfold rX;rw[uV (Ty j Wt).ok,qA];cases xA (⟨d,1,([]:List M.bR)⟩:M.aN);(exact⟨_,rfl,Ty zV zV,wh,we⟩);·exact⟨_,rfl,Ty j Wt,by show(1:Int)<=1;omega,we⟩
theorem Yu{o:M.aN}{q:Int}(h:obI o):∃x,dS o q=some x/\obI x.1/\x.1.aL2=o.aL2/\inI x.2/\x.1.aLl.length<=o.aLl.length:=by
 have hlen:=h.2.2.1
 have fin:∀(k:Nat),k<=o.aLl.length->∃x,(Cn o.aLl (k:Int)).bind (λI=>(app 72 ([]:List M.bR) (List.drop (k:Int).toNat o.aLl)).bind λJ=>some ((⟨o.aLZ,o.aL2,List.drop (k:Int).toNat o.aLl⟩:M.aN),(k:Int)))=some x/\obI x.1/\x.1.aL2=o.aL2/\inI x.2/\x.1.aLl.length<=o.aLl.length:=by intro k hk;rw[Oi hk,qA,qH,IP wT wi,qA];exact⟨_,rfl,⟨h.1,h.2.1,by show(List.drop k o.aLl).length<=30;rw[qW];omega,λw j=>h.2.2.2 w (qv j)⟩,rfl,bgI wI,by show(List.drop k o.aLl).length<=_;rw[qW];omega⟩
 have key:∀(n k:Nat),o.aLl.length-k<n->k<=o.aLl.length->∃x,sP o q o n (k:Int)=some x/\obI x.1/\x.1.aL2=o.aL2/\inI x.2/\x.1.aLl.length<=o.aLl.length:=by
  intro n
  induction n with
  |zero=>intro k h _;omega
  |succ n C=>
   intro k U hk
   simp only[sP]
   rcases jR k o.aLl.length with h6|h6
   ·rw[jE (bE h6),aM h6,qA,bL wi];split;(exact C (k+1) wi wi);·exact fin k hk
   ·rw[jF wX];exact fin k hk
 unfold dS
 rw[Fu o wJ,qA,uV h.ok,qA]
 cases xA o
 ·rw[jE we];exact⟨_,rfl,h,rfl,zV,qg _⟩
 ·rw[jF we];exact key aH 0 (nN wi) wi
theorem aDB(o:M.aN)(k:M.bD)(f:ByteArray)(n:Int):(Pr o k f n).1.aLl.length<=o.aLl.length+1:=by unfold Pr;split;(split;(simp[IM]);·exact Nat.le_succ _);·exact Nat.le_succ _
theorem Z7{o:M.aN}{k:M.bD}{f:ByteArray}{n:Int}(h:o.aL2<=1000):(Pr o k f n).1.aL2<=1+o.aL2\/(Pr o k f n).1.aL2=o.aL2:=by unfold Pr;split;(rename_i h1;split;(left;unfold xA inR at h1;simp only[qM,qL]at h1;show IntKind.i64.wrap (o.aL2+1)<=_;rw[mO wi wi];omega);·exact .inr rfl);·exact .inr rfl
theorem Uk{b:List Int}{i h d:Int}(hd:inI d)(c0:okC b i h):Dr b (λo=>obI o/\o.aL2<=10/\o.aLl.length<=20) (Cs (⟨b,i,h⟩:M.bI) d):=by
 unfold Cs
 refine .J9 (aBK hd) λo ho=>.bnd (xX (λx=>0<=x/\x<=6) wh wh c0) λi1 v1 r1 c1 q1=> ?_
 obtain⟨N,rfl⟩:=Dw q1.1
 have hN:=q1.2
 refine Et (L:=λn v (s:(M.aN)×Int×Int)=>nS (⟨b,i,h⟩:M.bI) n v s.1.aLZ s.1.aL2 s.2.1 s.2.2 s.1.aLl) (I:=λk s=>k<=100000/\okC b s.2.1 s.2.2/\obI s.1/\s.1.aL2+k<=8/\s.1.aLl.length+k<=7) (Q:=Dr b (λo=>obI o/\o.aL2<=10/\o.aLl.length<=20)) (λn k s hi ih=> ?_) (λn s hi=> ?_) aH N (o.1,i1,v1) (nN wi) ⟨wi,c1,⟨ho.1,by have:=ho.2.1;dsimp only;omega,by have:=ho.2.2;dsimp only;omega⟩⟩
 ·obtain⟨x,ci,ch⟩:=s
  obtain⟨k0,J,j⟩:=hi
  dsimp only at J j
  simp only[nS]
  rw[jE (Xc k),NY k0]
  refine .bnd (Ci J) λi3 v3 r3 U q3=>.bnd (Dj U) λi4 v4 C c4 q4=>.bnd (bA c4) λi5 v5 r5 c5 q5=> ?_
  dsimp only
  have hf:C.size<=16:=qh q4 wi
  have hn:inI r5:=bgI (aAC q5)
  rw[show(⟨x.aLZ,x.aL2,x.aLl⟩:M.aN)=x from rfl,Vv j.1 q3.any hf hn,qA]
  refine ih ((Pr x r3 C r5).1,i5,v5) ⟨wi,c5,Yb j.1 q3.any hf hn,?_,?_⟩
  ·have h1:=j.2.1;dsimp only;rcases Z7 (o:=x) (k:=r3) (f:=C) (n:=r5) wi with h2|h2<;>omega
  ·have h1:=j.2.2;have h2:=aDB x r3 C r5;dsimp only;omega
 ·obtain⟨x,ci,ch⟩:=s
  obtain⟨k0,J,j⟩:=hi
  dsimp only at J j
  simp only[nS]
  rw[jF SY]
  refine .bnd (CG J) λi3 v3 r3 U q3=> ?_
  dsimp only
  have h1:=j.2.1
  have h2:=j.2.2
  split
  ·refine .bnd (bA U) λi4 v4 C c4 q4=> ?_
   dsimp only
   obtain⟨y,e,y1,y2,_,y3⟩:=Yu (q:=C) j.1
   rw[show(⟨x.aLZ,x.aL2,x.aLl⟩:M.aN)=x from rfl,e,qA]
   exact .ret c4 ⟨y1,wi,wi⟩
  ·exact .ret U ⟨j.1,wI,wI⟩
theorem aAG{o:M.aN}{k:M.bD}{f:ByteArray}{n:Int}(h:xA o=true)(J:o.aL2<=1000)(hl:o.aLl.length<20)(I:Hq (⟨o.aLZ,o.aL2,k,f,n⟩:M.bR)=true):xA (IM o k f n)=true:=by
 unfold xA inR at h
 simp only[qM,qL,qR,qS]at h
 obtain⟨h1,⟨h2,h3⟩,⟨h4,h5⟩,h6⟩:=h
 have C:IntKind.i64.wrap (o.aL2+1)=o.aL2+1:=mO wi wi
 unfold xA inR IM
 simp only[qM,qL,qR,qS,qE,qJ,qK,C]
 refine⟨λj U=> ?_,⟨h2,h3⟩,⟨wi,wi⟩,wi⟩
 unfold Hl
 simp only[qE,qJ,qK]
 rcases jR j o.aLl.length with hlt|hge
 ·have:=h1 j hlt;unfold Hl at this;rw[qF hlt,qf]at this;rw[qy hlt,qF hlt,qf,show(o.aL2+1-((o.aLl.length+(0+1):Nat):Int))=o.aL2-(o.aLl.length:Int)by omega];exact this
 ·have:j=o.aLl.length:=by omega
  subst this
  rw[qz (qg _),Nat.sub_self]
  simp only[List.getElem?_cons_zero,qf]
  rw[I,show(o.aL2+1-((o.aLl.length+(0+1):Nat):Int))=o.aL2-(o.aLl.length:Int)by omega,mO (n:=o.aL2-(o.aLl.length:Int)) wi wi,show o.aL2-(o.aLl.length:Int)+(o.aLl.length:Int)=o.aL2 by omega,mO wi wi]
  simp
theorem UG.n{k:M.bD}(h:UG k):EZ k=true:=by
 obtain⟨a,n,s⟩:=k
 obtain⟨h1,h2,h3,h4⟩:=h
 dsimp only at h1 h2 h3 h4
 subst h4 h1
 unfold EZ inR
 have e:PQ (⟨#[]⟩:ByteArray)=true:=by decide
 simp[e]
 omega
theorem aAL{b:List Int}{i h:Int}(c0:okC b i h):Dr b obI (En (⟨b,i,h⟩:M.bI)):=by
 unfold En
 refine .bnd (bA c0) λi1 v1 r1 c1 q1=>.bnd (Uk (bV _) c1) λi2 v2 o c2 q2=>.bnd (bA c2) λi3 v3 r3 U q3=> ?_
 dsimp only
 obtain⟨j,hN,q2len⟩:=q2
 have hlen:=j.2.2.1
 split
 ·exact .bnd (xX (λx=> -1000000000000000<=x/\x<=1000000000000000) wh wh U) λi4 v4 C J I=>.ret J ⟨bgI I,j.2.1,j.2.2⟩
 split
 ·exact .bnd (xX (λx=> -1000000000000000<=x/\x<=1000000000000000) wh wh U) λi4 v4 C J I=>.ret J ⟨j.1,bgI I,j.2.2⟩
 split
 ·refine .bnd (T9 U) λi4 v4 C J I=>.bnd (xX (λx=> -1000000000000000<=x/\x<=1000000000000000) wh wh J) λi5 v5 r5 c5 q5=> ?_
  dsimp only
  rw[DY wA wi,qA]
  refine .ret c5 ⟨j.1,j.2.1,jv,λw hw=> ?_⟩
  rcases qP.1 hw with hw|hw
  ·exact j.2.2.2 w hw
  ·rw[qQ.1 hw];exact Kg j.1 j.2.1 I wh (bgI q5)
 split
 ·have key:∀(n:Nat) (o:M.aN) (ci ch:Int),20-o.aLl.length<n->obI o->o.aL2<=10+o.aLl.length->okC b ci ch->Dr b obI (AB (⟨b,i,h⟩:M.bI) n o.aLZ o.aL2 ci ch o.aLl):=by
   intro n
   induction n with
   |zero=>intro o ci ch h _ _ _;omega
   |succ n ih=>
    intro o ci ch hn j hN k1
    simp only[AB]
    rcases jR o.aLl.length 20 with h6|h6
    ·rw[jE wX,show(⟨o.aLZ,o.aL2,o.aLl⟩:M.aN)=o from rfl,uV j.ok,qA]
     cases hob:xA o with
     |false=>rw[jF we];exact .ret k1 j
     |true=>
      rw[jE rfl]
      refine .bnd (Ci k1) λi4 v4 C J I=> ?_
      dsimp only
      have hf:(⟨#[97]⟩:ByteArray).size<=16:=by decide
      rw[Vv j I.any hf Wt,qA]
      have h7:=hob
      unfold xA inR at h7
      simp only[qM,qL]at h7
      have hq:Hq (⟨o.aLZ,o.aL2,C,(⟨#[97]⟩:ByteArray),1⟩:M.bR)=true:=by
       have e:pS (⟨#[97]⟩:ByteArray)=true:=by decide
       unfold Hq inR
       simp[I.n,e]
       omega
      have hb:=aAG hob wi h6 hq
      have en:Pr o C (⟨#[97]⟩:ByteArray) 1=(IM o C (⟨#[97]⟩:ByteArray) 1,true):=by unfold Pr;rw[jE hob,jE hb]
      have hob2:=Yb (k:=C) (f:=(⟨#[97]⟩:ByteArray)) (n:=1) j I.any hf Wt
      rw[en]at hob2⊢
      have e3:(IM o C (⟨#[97]⟩:ByteArray) 1).aLl.length=o.aLl.length+1:=by simp[IM]
      have e4:(IM o C (⟨#[97]⟩:ByteArray) 1).aL2=o.aL2+1:=mO wi wi
      exact ih (IM o C (⟨#[97]⟩:ByteArray) 1) i4 v4 wi hob2 wi J
    ·rw[jF wX];exact .ret k1 j
  exact key aH o i3 v3 (nN wi) j wi U
 ·exact .ret U j
def svI(n:Nat)(s:M.aLj):Prop:=s.aE.ok/\kB s.aE=true/\(s.aQ.length<=60/\∀a∈s.aQ,M.aQ.ok a)/\s.aLv.length<=n/\∀w∈s.aLv,wsm w
theorem svI.ok{n:Nat}{s:M.aLj}(h:svI n s)(C:n<=1000):M.aLj.ok s:=⟨h.1,⟨ml (by have:=h.2.2.1.1;omega),h.2.2.1.2⟩,⟨ml (by have:=h.2.2.2.1;omega),λw j=>(h.2.2.2.2 w j).1⟩⟩
theorem svI.mono{n m:Nat}{s:M.aLj}(h:svI n s)(j:n<=m):svI m s:=⟨h.1,h.2.1,h.2.2.1,by have:=h.2.2.2.1;omega,h.2.2.2.2⟩
theorem XN{n:Nat}{s:M.aLj}(h:svI n s)(j:n<=1000):iY s=some s:=by have h1:=uZ h.2.1;have h2:=h.2.2.1.1;have h3:=h.2.2.2.1;unfold iY;rw[rF _ wi,qA,IP wi wi,qA,IP wi wi,qA]
theorem Od{s:M.aLj}{d:Int}(h:s.aQ.length<=60/\∀a∈s.aQ,M.aQ.ok a):∃v,Be s d=some v/\inI v:=by
 have C:=h.1
 have key:∀(n k:Nat),s.aQ.length-k<n->k<=s.aQ.length->∃v,yN s d n (k:Int)=some v/\inI v:=by
  intro n
  induction n with
  |zero=>intro k h _;omega
  |succ n j=>
   intro k I hk
   simp only[yN]
   rcases jR k s.aQ.length with h6|h6
   ·rw[jE (bE h6),aM h6,qA,bL wi];split;(exact⟨_,rfl,(h.2 _ (qG h6)).Seq⟩);·exact j (k+1) wi wi
   ·rw[jF wX];exact⟨_,rfl,zV⟩
 exact key aH 0 (nN wi) wi
theorem aCI{l:List M.aQ}{d q:Int}(h:l.length<=60/\∀a∈l,M.aQ.ok a)(I:inI d)(C:inI q):∃r,DJ l d q=some r/\∀a∈r,M.aQ.ok a:=by
 have hl:=h.1
 have ins:∀(k:Nat),k<=l.length->∀a∈(List.take k l++[(⟨d,q⟩:M.aQ)])++List.drop k l,M.aQ.ok a:=by intro k hk a j;simp only[qP,qQ]at j;rcases j with(j|rfl)|j;(exact h.2 a (qk j));(exact⟨I,C⟩);·exact h.2 a (qv j)
 have fin:∀(k:Nat),k<=l.length->∃r,((CK l (k:Int)).bind λU=>(app 16 ([]:List M.aQ) (List.take (k:Int).toNat l)).bind λae=>(app 16 (List.take (k:Int).toNat l) ([(⟨d,q⟩:M.aQ)])).bind λaf=>(Cn l (k:Int)).bind λah=>(app 16 ((List.take (k:Int).toNat l)++[(⟨d,q⟩:M.aQ)]) (List.drop (k:Int).toNat l)).bind λai=>some (((List.take (k:Int).toNat l)++[(⟨d,q⟩:M.aQ)])++(List.drop (k:Int).toNat l)))=some r/\∀a∈r,M.aQ.ok a:=by intro k hk;rw[FT hk,qA,qH,IP wR wi,qA,DY jw wi,qA,Oi hk,qA,DY js wi,qA];exact⟨_,rfl,ins k hk⟩
 have key:∀(n k:Nat),l.length-k<n->k<=l.length->∃r,yP l d q n (k:Int)=some r/\∀a∈r,M.aQ.ok a:=by
  intro n
  induction n with
  |zero=>intro k h _;omega
  |succ n J=>
   intro k hn hk
   simp only[yP]
   rcases jR k l.length with h6|h6
   ·rw[jE (bE h6),aM h6,qA,bL wi];split;(exact J (k+1) wi wi);split;(refine⟨_,rfl,λa j=> ?_⟩;rcases jD j with j|rfl;(exact h.2 a j);·exact⟨(h.2 _ (qG h6)).aLZ,C⟩);·exact fin k hk
   ·rw[jF wX];exact fin k hk
 unfold DJ
 rw[IP wi wi,qA]
 exact key aH 0 (nN wi) wi
theorem Yl{s:M.aE}{w:M.bR}(j:kB s=true):kB (MH s w).1=true:=by
 cases h2:(MH s w).2 with
 |false=>rw[Pt h2];exact j
 |true=>
  unfold MH at h2⊢
  by_cases h1:(JO (gP s w.Key) w.Field w.N).2=true
  ·rw[jE h1]at h2⊢;exact Hv (GN h1) h2
  ·rw[jF h1]at h2;cases h2
theorem recv{n:Nat}{s:M.aLj}{w:M.bR}(h:svI n s)(hn:n<=900)(j:wsm w):∃x,dR s w=some x/\svI (n+1) x.1:=by
 have I:=h.mono (Nat.le_succ n)
 have hz:=uZ h.2.1
 have hc:=h.2.2.2.1
 unfold dR
 rw[XN h wi,qA,Eu (h.ok wi),qA]
 cases Jp s
 ·exact⟨_,rfl,I⟩
 rw[jF we,DC j.1,qA]
 cases Hq w
 ·exact⟨_,rfl,I⟩
 rw[jF we]
 obtain⟨r,er,U⟩:=aCI h.2.2.1 j.1.aLZ j.1.Seq
 obtain⟨v,ev,hv⟩:=Od (s:=s) (d:=w.aLZ) h.2.2.1
 rw[er,qA,ev,qA]
 by_cases aa:(r.length:Int)>60
 ·rw[jE (by simpa using aa)];exact⟨_,rfl,I⟩
 rw[jF (by simpa using aa)]
 split
 ·exact⟨_,rfl,I⟩
 split
 ·exact⟨_,rfl,I⟩
 have C:∀y∈s.aLv++[w],wsm y:=λy J=>by rcases qP.1 J with J|J;(exact h.2.2.2.2 y J);·rw[qQ.1 J];exact j
 have hlen:(s.aLv++[w]).length<=n+1:=by simp only[qE,qJ,qK];omega
 rw[Ec h.1 j.1 wi,qA,DY wA wi,qA]
 split
 ·exact⟨_,rfl,(LD h.1 j.1 wi).1,Yl h.2.1,⟨wI,U⟩,hlen,C⟩
 ·exact⟨_,rfl,h.1,h.2.1,⟨wI,U⟩,hlen,C⟩
theorem PD{b:List Int}{i h:Int}(c0:okC b i h):Dr b (svI 5) (Ao (⟨b,i,h⟩:M.bI)):=by
 unfold Ao
 refine .bnd (Jn wh wh c0) λi0 v0 s0 aa q0=>.bnd (bA aa) λi1 v1 r1 c1 q1=> ?_
 obtain⟨N,rfl⟩:=Dw q1.1
 have hN:=q1.2.1 wi
 refine Et (L:=λn v (s:(M.aLj)×Int×Int)=>oC (⟨b,i,h⟩:M.bI) n v s.1.aE.Name s.1.aE.aLx s.2.1 s.2.2 s.1.aE.aLV s.1.aQ s.1.aLv) (I:=λk s=>k<=100000/\okC b s.2.1 s.2.2/\k<=5/\svI (5-k) s.1) (Q:=Dr b (svI 5)) (λn k s J ih=> ?_) (λn s J=> ?_) aH N ((⟨s0,([]:List M.aQ),([]:List M.bR)⟩:M.aLj),i1,v1) (nN wi) ⟨wi,c1,⟨wi,q0.1,q0.2.1,⟨we,we⟩,we,we⟩⟩
 ·obtain⟨x,ci,ch⟩:=s
  obtain⟨U,C,j⟩:=J
  dsimp only at C j
  simp only[oC]
  rw[jE (Xc k),NY U]
  obtain⟨j,k3⟩:=j
  refine .bnd (bA C) λi3 v3 r3 c3 q3=> ?_
  dsimp only
  rw[show(⟨(⟨x.aE.Name,x.aE.aLV,x.aE.aLx⟩:M.aE),x.aQ,x.aLv⟩:M.aLj)=x from rfl]
  refine .J9 (Od k3.2.2.1) λv hv=>.bnd (Ci c3) λi4 v4 r4 c4 q4=>.bnd (Dj c4) λi5 v5 r5 c5 q5=>.bnd (bA c5) λi6 v6 r6 c6 q6=>.J9 (recv k3 wi (Kg (bV _) (bV _) q4.any (qh q5 wi) (bgI (aAC q6)))) λy hy=> ?_
  exact ih (y.1,i6,v6) ⟨wi,c6,wi,hy.mono wi⟩
 ·obtain⟨x,ci,ch⟩:=s;obtain⟨U,C,j⟩:=J;dsimp only at C j;simp only[oC];rw[jF SY];exact .ret C (j.2.mono wi)
def rpI(r:M.aG):Prop:=r.aLq.ok/\M.aE.sz r.aLq<=10000/\inI r.aMG/\obI r.aLs.aN/\inI r.aLs.aL7/\inI r.aLs.aLw
theorem rpI.ok{r:M.aG}(h:rpI r):r.ok:=⟨h.1,h.2.2.1,h.2.2.2.1.ok,h.2.2.2.2.1,h.2.2.2.2.2⟩
theorem rpI.sz{r:M.aG}(h:rpI r):M.aG.sz r<=11000:=by have h1:=h.2.1;have h2:=h.2.2.2.1.sz;simp only[M.aG.sz,M.aLs.sz];omega
theorem RZ:rpI (⟨(⟨(⟨#[]⟩:ByteArray),([]:List M.aLo),0⟩:M.aE),0,(⟨(⟨0,0,([]:List M.bR)⟩:M.aN),0,0⟩:M.aLs)⟩:M.aG):=⟨⟨s16 wh,⟨wQ,we⟩,zV⟩,wh,zV,Ty zV zV,zV,zV⟩
theorem aDj{n:Nat}{s:M.aLj}{d:Int}(h:svI n s)(hn:n<=900)(I:inI d):∃x,BC s d=some x/\rpI x.1:=by have U:=uZ h.2.1;have hc:=h.2.2.2.1;obtain⟨o,C,J,_⟩:=aBK I;have j:rpI (⟨s.aE,(List.length s.aLv:Int),(⟨o.1,0,0⟩:M.aLs)⟩:M.aG):=⟨h.1,U,bgI wI,J,zV,zV⟩;unfold BC;rw[C,qA,rF _ wi,qA];cases o.2;(exact⟨_,rfl,RZ⟩);rw[jF we,Eu (h.ok wi),qA];cases Jp s;(exact⟨_,rfl,RZ⟩);rw[jF we,D2 j.ok,qA];cases EC (⟨s.aE,(List.length s.aLv:Int),(⟨o.1,0,0⟩:M.aLs)⟩:M.aG);(exact⟨_,rfl,RZ⟩);·exact⟨_,rfl,j⟩
theorem Rp{r:M.aG}{k:M.bD}{f:ByteArray}{n:Int}(h:rpI r)(hk:RF k)(j:f.size<=16)(C:inI n):∃x,lW r k f n=some x/\rpI x.1:=by refine⟨_,HT h.ok wJ hk.1 (s16 j) C,?_⟩;unfold nWL;split;(exact⟨h.1,h.2.1,h.2.2.1,Yb h.2.2.2.1 hk j C,h.2.2.2.2.1,h.2.2.2.2.2⟩);·exact h
theorem aCq{l:List M.bR}:∀{s:M.aE},s.ok->kB s=true->(∀w∈l,M.bR.ok w)->(B8 s l).ok/\kB (B8 s l)=true:=by
 induction l with
 |nil=>intro s C j _;exact⟨C,j⟩
 |cons w l U=>
  intro s C j I
  have hz:=uZ j
  exact U (s:=(MH s w).1) (LD C (I w we) wi).1 (Yl j) λy J=>I y (by simp[J])
theorem aBr{n:Nat}{r:M.aG}{s:M.aLj}(h:rpI r)(j:svI n s)(hn:n<=900):∃x,A8 r s=some x/\rpI x.1:=by
 have hc:=j.2.2.2.1
 unfold A8
 rw[Fz _ wJ,qA,D2 h.ok,qA]
 cases hR:EC r
 ·exact⟨_,rfl,h⟩
 rw[jF we,Eu (j.ok wi),qA]
 cases Jp s
 ·exact⟨_,rfl,h⟩
 rw[jF we]
 by_cases hgt:r.aMG>(s.aLv.length:Int)
 ·rw[jE (by simpa using hgt)];exact⟨_,rfl,h⟩
 rw[jF (by simpa using hgt)]
 unfold EC inR at hR
 simp only[qM,qL]at hR
 obtain⟨k,U⟩:=Dw hR.2.2.1.1
 rw[U]at hgt⊢
 have hbs:=uZ hR.1
 have C:∀w∈List.drop k s.aLv,M.bR.ok w:=λw hw=>(j.2.2.2.2 w (qv hw)).1
 obtain⟨I,J⟩:=aCq h.1 hR.1 C
 obtain⟨v,ev,hv⟩:=Od (s:=s) (d:=r.aLs.aN.aLZ) j.2.2.1
 obtain⟨y,ey,y1,_⟩:=Yu (q:=v) h.2.2.2.1
 rw[Oi wi,qA,qH,Jg h.1 (ml wT) C wi,qA,ev,qA,ey,qA]
 exact⟨_,rfl,I,uZ J,bgI wI,y1,h.2.2.2.2.1,h.2.2.2.2.2⟩
theorem aDl{a c:Int}(j:inI a)(hc:inI c):∃r,fN a c=some r/\inI r:=by unfold fN;split;(exact⟨_,rfl,hc⟩);·exact⟨_,rfl,j⟩
theorem aFS{c:Int}:∃r,fN 60 c=some r/\r<=60/\(inI c->inI r):=by unfold fN;split;(rename_i h;exact⟨_,rfl,by have:=of_decide_eq_true h;omega,λh=>h⟩);·exact⟨_,rfl,wi,λ_=>bgI wD⟩
theorem aCF{t:Int}(I:t<=60):∃r,lN t=some r:=by
 have key:∀(n k:Nat) (v:Int),100-k<n->k<=99->∃r,tM t n v (k:Int)=some r:=by
  intro n
  induction n with
  |zero=>intro k v h _;omega
  |succ n j=>
   intro k v C hk
   simp only[tM]
   split
   ·rename_i h;have:=of_decide_eq_true h;split;(rw[bL wi];exact j (k+1) _ wi wi);·exact⟨_,rfl⟩
   ·exact⟨_,rfl⟩
 exact key aH 0 1 (nN wi) wi
def Op'{α:Type}(P:α->Prop)(o:Option α):Prop:=∃r,o=some r/\P r
theorem Op'.bnd{α β:Type}{P:β->Prop}{Q:α->Prop}{o:Option α}{f:α->Option β}(C:∃r,o=some r/\Q r)(j:∀r,Q r->Op' P (f r)):Op' P (o.bind f):=by obtain⟨r,rfl,I⟩:=C;exact j r I
def syI(n:Nat)(x:M.aLs×M.aLj×Int):Prop:=obI x.1.aN/\inI x.1.aL7/\inI x.1.aLw/\svI n x.2.1
theorem aCy{n:Nat}{y:M.aLs}{s:M.aLj}{now fate:Int}(U:obI y.aN)(ht:inI y.aL7)(hw:inI y.aLw)(J:svI n s)(hn:n<=800):Op' (syI (n+2)) (C0 y s now fate):=by
 have hs1:=J.mono (Nat.le_succ n)
 have hs2:=J.mono (show n<=n+2 by omega)
 have hz:=U.sz
 have j:∀{q:Int},∃x,dS y.aN q=some x/\obI x.1:=λ{q}=>by obtain⟨x,e,h,_⟩:=Yu (q:=q) U;exact⟨x,e,h⟩
 have fail:∀{x:M.aLj} {f:Int->Option (M.aLs×M.aLj×Int)},svI (n+2) x->(f=λae=>(fN 60 (IntKind.i64.wrap (ae+1))).bind λaa=>(lN aa).bind λaf=>some ((⟨y.aN,aa,IntKind.i64.wrap (now+af)⟩:M.aLs),x,2))->Op' (syI (n+2)) ((fN 59 y.aL7).bind f):=by
  intro x f hx hf
  subst hf
  refine .bnd (aDl (bgI wD) ht) λt1 h1=>.bnd aFS λt2 h2=> ?_
  obtain⟨r,er⟩:=aCF h2.1
  rw[er,qA]
  exact⟨_,rfl,U,h2.2 (bV _),bV _,hx⟩
 unfold C0 Bd Ds
 rw[Fu _ wi,qA,qA,XN J wi,uV U.ok]
 have same:syI (n+2) (y,s,0):=⟨U,ht,hw,hs2⟩
 cases hW:y.aN.aLl with
 |nil=>exact⟨_,rfl,same⟩
 |cons w ws=>
  have I:wsm w:=U.2.2.2 w (by rw[hW];simp)
  rw[jF wX,show idx (w::ws) 0=some w from rfl]
  simp only[qA]
  rw[jF we]
  cases xA y.aN
  ·exact⟨_,rfl,same⟩
  rw[jF we]
  split
  ·exact⟨_,rfl,same⟩
  rw[cK,qA]
  split
  ·exact⟨_,rfl,same⟩
  have good:∀{x:M.aLs×M.aLj×Int},obI x.1.aN->inI x.1.aL7->inI x.1.aLw->svI (n+2) x.2.1->Op' (syI (n+2)) (some x):=λa1 a2 a3 a4=>⟨_,rfl,a1,a2,a3,a4⟩
  have two:∀{a:M.aLj} {c:Int},svI (n+1) a->svI (n+2) a:=λh=>h.mono wi
  split
  ·refine .bnd (recv J wi I) λx1 h1=> ?_
   split
   ·refine .bnd (recv h1 wi I) λx2 h2=> ?_
    split
    ·exact .bnd j λq C=>good C zV zV h2
    split
    ·exact .bnd j λq C=>good C zV zV h2
    ·exact fail h2 rfl
   ·split;(exact .bnd j λq C=>good C zV zV (h1.mono wi));split;(exact .bnd j λq C=>good C zV zV (h1.mono wi));·exact fail (h1.mono wi) rfl
  split
  ·refine .bnd (recv J wi I) λx1 h1=> ?_
   split
   ·refine .bnd (recv h1 wi I) λx2 h2=> ?_
    split
    ·exact .bnd j λq C=>good C zV zV h2
    split
    ·exact .bnd j λq C=>good C zV zV h2
    ·exact fail h2 rfl
   ·exact fail (h1.mono wi) rfl
  split
  ·refine .bnd (recv J wi I) λx1 h1=>.bnd (recv h1 wi I) λx2 h2=> ?_
   split
   ·exact .bnd j λq C=>good C zV zV h2
   split
   ·exact .bnd j λq C=>good C zV zV h2
   ·exact fail h2 rfl
  ·exact fail hs2 rfl
def prI(n:Nat)(x:M.aG×M.aLj):Prop:=rpI x.1/\svI n x.2
theorem Zh{b:List Int}{i h:Int}(c0:okC b i h):Dr b (prI 20) (D1 (⟨b,i,h⟩:M.bI)):=by
 unfold D1
 refine .bnd (PD c0) λi0 v0 s0 aa q0=>.J9 (aDj q0 wi (bgI wD)) λr0 h0=>.bnd (bA aa) λi1 v1 r1 c1 q1=> ?_
 obtain⟨N,rfl⟩:=Dw q1.1
 have hN:=q1.2.1 wi
 refine Et (L:=λn v (s:(M.aG×M.aLj)×Int×Int)=>gR (⟨b,i,h⟩:M.bI) n v s.1.1.aLq.Name s.1.1.aLq.aLx s.1.1.aMG s.1.1.aLs.aN.aLZ s.1.1.aLs.aN.aL2 s.1.1.aLs.aL7 s.1.1.aLs.aLw s.2.1 s.2.2 s.1.2.aE.Name s.1.2.aE.aLx s.1.1.aLq.aLV s.1.1.aLs.aN.aLl s.1.2.aE.aLV s.1.2.aQ s.1.2.aLv) (I:=λk s=>k<=100000/\okC b s.2.1 s.2.2/\k<=5/\prI (15-2*k) s.1) (Q:=Dr b (prI 20)) (λn k s hi ih=> ?_) (λn s hi=> ?_) aH N ((r0.1,s0),i1,v1) (nN wi) ⟨wi,c1,⟨wi,h0,q0.mono wi⟩⟩
 ·obtain⟨x,ci,ch⟩:=s
  obtain⟨k0,k1,U⟩:=hi
  dsimp only at k1 U
  simp only[gR]
  rw[jE (Xc k),NY k0]
  obtain⟨U,C,k4⟩:=U
  rw[show(⟨(⟨x.1.aLq.Name,x.1.aLq.aLV,x.1.aLq.aLx⟩:M.aE),x.1.aMG,(⟨(⟨x.1.aLs.aN.aLZ,x.1.aLs.aN.aL2,x.1.aLs.aN.aLl⟩:M.aN),x.1.aLs.aL7,x.1.aLs.aLw⟩:M.aLs)⟩:M.aG)=x.1 from rfl,show(⟨(⟨x.2.aE.Name,x.2.aE.aLV,x.2.aE.aLx⟩:M.aE),x.2.aQ,x.2.aLv⟩:M.aLj)=x.2 from rfl]
  refine .bnd (bA k1) λi3 v3 r3 c3 q3=> ?_
  dsimp only
  split
  ·refine .bnd (Ci c3) λi4 v4 r4 J q4=>.bnd (Dj J) λi5 v5 r5 c5 q5=>.bnd (bA c5) λi6 v6 r6 c6 q6=>.J9 (Rp C q4.any (qh q5 wi) (bgI (aAC q6))) λy j=> ?_
   exact ih ((y.1,x.2),i6,v6) ⟨wi,c6,wi,j,k4.mono wi⟩
  split
  ·refine .bnd (Ci c3) λi4 v4 r4 J q4=>.bnd (Dj J) λi5 v5 r5 c5 q5=>.bnd (bA c5) λi6 v6 r6 c6 q6=>.J9 (Rp C q4.any (qh q5 wi) (bgI (aAC q6))) λy j=> ?_
   exact ih ((y.1,x.2),i6,v6) ⟨wi,c6,wi,j,k4.mono wi⟩
  split
  ·refine .bnd (bA c3) λi4 v4 r4 J q4=>.J9 (aCy (y:=x.1.aLs) C.2.2.2.1 C.2.2.2.2.1 C.2.2.2.2.2 k4 wi) λy j=> ?_
   exact ih (((⟨x.1.aLq,x.1.aMG,y.1⟩:M.aG),y.2.1),i4,v4) ⟨wi,J,wi,⟨C.1,C.2.1,C.2.2.1,j.1,j.2.1,j.2.2.1⟩,j.2.2.2.mono wi⟩
  split
  ·refine .bnd (bA c3) λi4 v4 r4 J q4=>.J9 (Od k4.2.2.1) λv hv=>.bnd (Ci J) λi5 v5 r5 c5 q5=>.bnd (Dj c5) λi6 v6 r6 c6 q6=>.bnd (bA c6) λi7 v7 r7 c7 q7=>.J9 (recv k4 wi (Kg (bV _) (bV _) q5.any (qh q6 wi) (bgI (aAC q7)))) λy j=> ?_
   exact ih ((x.1,y.1),i7,v7) ⟨wi,c7,wi,C,j.mono wi⟩
  ·refine .J9 (aBr C k4 wi) λy j=> ?_
   exact ih ((y.1,x.2),i3,v3) ⟨wi,c3,wi,j,k4.mono wi⟩
 ·obtain⟨x,ci,ch⟩:=s;obtain⟨k0,k1,U⟩:=hi;dsimp only at k1 U;simp only[gR];rw[jF SY];exact .ret k1 ⟨U.2.1,U.2.2.mono wi⟩
def ZS(r:M.aG):Prop:=r.ok/\M.aG.sz r<=25000
theorem rpI.all{r:M.aG}(h:rpI r):ZS r:=⟨h.ok,wJ⟩
theorem ZR{b:List Int}{i h:Int}(c0:okC b i h):Dr b ZS (EB (⟨b,i,h⟩:M.bI)):=by
 unfold EB
 refine .bnd (Zh c0) λi1 v1 r1 c1 q1=>.bnd (bA c1) λi2 v2 r2 J q2=> ?_
 dsimp only
 have j:=q1.1
 have hz:=j.2.2.2.1.sz
 have hz1:=j.2.1
 split
 ·refine .bnd (YC J) λi3 v3 U I C=>.ret I ⟨⟨C.1,j.2.2.1,j.ok.aLs⟩,?_⟩
  have:=C.2
  simp only[M.aG.sz,M.aLs.sz]
  omega
 split
 ·refine .bnd (xX (λx=> -1000000000000000<=x/\x<=1000000000000000) wh wh J) λi3 v3 U I C=>.ret I ⟨⟨j.1,bgI C,j.ok.aLs⟩,?_⟩
  simp only[M.aG.sz,M.aLs.sz]
  omega
 split
 ·refine .bnd (aAL J) λi3 v3 U I C=>.ret I ⟨⟨j.1,j.2.2.1,⟨C.ok,j.2.2.2.2.1,j.2.2.2.2.2⟩⟩,?_⟩
  have:=C.sz
  simp only[M.aG.sz,M.aLs.sz]
  omega
 ·exact .ret J j.all
def nbI(x:M.Bucket):Prop:=x.aLa.size<=16/\x.Top.size<=16/\(M.aLU.ok x.aLU/\x.aLU.aLa.size<=16)/\FZ x.aLW/\(x.bP.ok/\M.bP.sz x.bP<=1000)/\rpI x.aG/\inI x.aL1
theorem Q2:Xh (⟨(⟨#[110,111,116,101,115]⟩:ByteArray),([]:List M.aLo),0⟩:M.aE):=aBY wh wh
theorem aEF{a t:ByteArray}{d:Int}(j:a.size<=16)(I:t.size<=16)(C:inI d):∃x,xB a t d=some x/\nbI x.1:=by refine⟨_,IJ (s16 j) (s16 I) C,?_⟩;have J:nbI DP:=⟨wh,wh,⟨⟨s16 wh,zV,zV,zV⟩,wh⟩,YU,⟨(Oo).bP,wh⟩,RZ,zV⟩;unfold FW;split;(split;(have ok:=Q4 (s16 j) (s16 I) C;exact⟨j,I,⟨ok.aLU,j⟩,YU,⟨ok.bP,by show M.bP.sz (LG (⟨#[]⟩:ByteArray) (⟨#[]⟩:ByteArray) 0).bP<=1000;decide⟩,⟨Q2.1,uZ Q2.2.1,zV,Ty C Wt,zV,zV⟩,zV⟩);·exact J);·exact J
def bkI(x:M.Bucket):Prop:=x.aLa.size<=16/\x.Top.size<=16/\(M.aLU.ok x.aLU/\x.aLU.aLa.size<=16)/\Se x.aLW/\UW x.bP/\ZS x.aG/\inI x.aL1
theorem bkI.ok{x:M.Bucket}(h:bkI x):x.ok:=⟨s16 h.1,s16 h.2.1,h.2.2.1.1,h.2.2.2.1.1,h.2.2.2.2.1.1,h.2.2.2.2.2.1.1,h.2.2.2.2.2.2⟩
theorem bkI.sz{x:M.Bucket}(h:bkI x):M.Bucket.sz x<=180000:=by obtain⟨h1,h2,⟨_,h3⟩,⟨_,h4⟩,⟨_,h5⟩,⟨_,h6⟩,_⟩:=h;simp only[M.Bucket.sz,M.aLU.sz];omega
def Vk(k:M.bP):Prop:=k.ok/\M.bP.sz k<=20000
def bkS(x:M.Bucket):Prop:=x.aLa.size<=16/\x.Top.size<=16/\(M.aLU.ok x.aLU/\x.aLU.aLa.size<=16)/\Se x.aLW/\Vk x.bP/\ZS x.aG/\inI x.aL1
theorem Vk.all{k:M.bP}(h:Vk k):UW k:=⟨h.1,by have:=h.2;omega⟩
theorem bkS.all{x:M.Bucket}(h:bkS x):bkI x:=⟨h.1,h.2.1,h.2.2.1,h.2.2.2.1,h.2.2.2.2.1.all,h.2.2.2.2.2⟩
theorem aFu{b:List Int}{i h:Int}{X:M.Bucket×Bool}{kd:M.bP}{N:Nat}{i1 v1:Int}(hX:nbI X.1)(hk:Vk kd)(hN:N<=10)(c1:okC b i1 v1):Dr b bkS (iF (⟨b,i,h⟩:M.bI) X kd.aLq.Name kd.aLq.aLT kd.aL5 kd.aLq.aLc kd.aLq.aLm kd.Log aH (N:Int) X.1.aG.aLq.Name X.1.aG.aLq.aLx X.1.aG.aMG X.1.aG.aLs.aN.aLZ X.1.aG.aLs.aN.aL2 X.1.aG.aLs.aL7 X.1.aG.aLs.aLw i1 v1 X.1.aG.aLq.aLV X.1.aG.aLs.aN.aLl):=by
 obtain⟨h1,h2,h3,h4,h5,h6,h7⟩:=hX
 refine Et (L:=λn v (s:(M.aG)×Int×Int)=>iF (⟨b,i,h⟩:M.bI) X kd.aLq.Name kd.aLq.aLT kd.aL5 kd.aLq.aLc kd.aLq.aLm kd.Log n v s.1.aLq.Name s.1.aLq.aLx s.1.aMG s.1.aLs.aN.aLZ s.1.aLs.aN.aL2 s.1.aLs.aL7 s.1.aLs.aLw s.2.1 s.2.2 s.1.aLq.aLV s.1.aLs.aN.aLl) (I:=λk s=>k<=100000/\okC b s.2.1 s.2.2/\rpI s.1) (Q:=Dr b bkS) (λn k s hi ih=> ?_) (λn s hi=> ?_) aH N (X.1.aG,i1,v1) (nN wi) ⟨wi,c1,h6⟩
 ·obtain⟨x,ci,ch⟩:=s
  obtain⟨k0,U,j⟩:=hi
  dsimp only at U j
  simp only[iF]
  rw[jE (Xc k),NY k0]
  refine .bnd (Ci U) λi3 v3 r3 c3 q3=>.bnd (Dj c3) λi4 v4 r4 c4 q4=>.bnd (bA c4) λi5 v5 r5 C q5=>.J9 (Rp (r:=x) j q3.any (qh q4 wi) (bgI (aAC q5))) λy hy=> ?_
  exact ih (y.1,i5,v5) ⟨wi,C,hy⟩
 ·obtain⟨x,ci,ch⟩:=s
  obtain⟨k0,U,j⟩:=hi
  dsimp only at U j
  simp only[iF]
  rw[jF SY]
  have J:=hk
  have hl:∀{r:Int},(0<=r/\(0<(50:Int)->r<50)/\r<=16777215)->inI r:=λq=>bgI ⟨wi,wi⟩
  refine .bnd (CG U) λi3 v3 r3 c3 q3=> ?_
  dsimp only
  split
  ·refine .bnd (bA c3) λi4 v4 r4 c4 q4=>.J9 (Rh h4 (bV _)) λy hy=>.bnd (bA c4) λi5 v5 r5 C q5=>.bnd (CG C) λi6 v6 r6 c6 q6=>.ret c6 ⟨h1,h2,⟨⟨h3.1.aLa,h3.1.aL0,h3.1.aL6,bV _⟩,h3.2⟩,hy.all,J,j.all,hl q5⟩
  ·exact .bnd (bA c3) λi5 v5 r5 C q5=>.bnd (CG C) λi6 v6 r6 c6 q6=>.ret c6 ⟨h1,h2,h3,h4.all,J,j.all,hl q5⟩
theorem aFX{b:List Int}{i h:Int}{X:M.Bucket×Bool}{N:Nat}{i1 v1:Int}(hX:nbI X.1)(hN:N<=4)(c1:okC b i1 v1):Dr b bkS (iJ (⟨b,i,h⟩:M.bI) X aH (N:Int) X.1.bP.aLq.Name X.1.bP.aLq.aLT X.1.bP.aL5 i1 v1 X.1.bP.aLq.aLc X.1.bP.aLq.aLm X.1.bP.Log):=by
 have h5:=hX.2.2.2.2.1
 refine Et (L:=λn v (s:(M.bP)×Int×Int)=>iJ (⟨b,i,h⟩:M.bI) X n v s.1.aLq.Name s.1.aLq.aLT s.1.aL5 s.2.1 s.2.2 s.1.aLq.aLc s.1.aLq.aLm s.1.Log) (I:=λk s=>k<=100000/\okC b s.2.1 s.2.2/\s.1.ok/\M.bP.sz s.1+4000*k<=20000) (Q:=Dr b bkS) (λn k s hi ih=> ?_) (λn s hi=> ?_) aH N (X.1.bP,i1,v1) (nN wi) ⟨wi,c1,⟨h5.1,by have:=h5.2;dsimp only;omega⟩⟩
 ·obtain⟨x,ci,ch⟩:=s
  obtain⟨k0,C,j⟩:=hi
  dsimp only at C j
  simp only[iJ]
  rw[jE (Xc k),NY k0]
  refine .bnd (Ci C) λi3 v3 r3 U J=>.bnd (Gq U) λi4 v4 r4 c4 q4=>.J9 (TA (k:=x) (n:=M.bP.sz x) j.1 (qg _) (by have:=j.2;omega) we (by simp only[qq,qO,or_false];rintro o rfl;exact⟨Wt,s16 (s:=(⟨#[110,111,116,101,115]⟩:ByteArray)) wh,J.any.1,q4.1,s16 (s:=(⟨#[]⟩:ByteArray)) wh⟩)) λy hy=> ?_
  exact ih (y.1,i4,v4) ⟨wi,c4,hy.1,by have:=hy.2;have:=j.2;dsimp only;omega⟩
 ·obtain⟨x,ci,ch⟩:=s
  obtain⟨k0,C,j⟩:=hi
  dsimp only at C j
  simp only[iJ]
  rw[jF SY]
  refine .bnd (bA C) λi3 v3 r3 U J=> ?_
  obtain⟨M,rfl⟩:=Dw J.1
  have hM:=J.2.1 wi
  exact aFu hX (kd:=x) ⟨j.1,by have:=j.2;omega⟩ wi U
theorem Ov{b:List Int}{i h:Int}(J:okC b i h):Dr b bkS (Aw (⟨b,i,h⟩:M.bI)):=by
 unfold Aw
 refine .bnd (Lk J) λi1 v1 r1 U C=>.J9 (aEC U C) λy j=>.bnd (bA j.2) λi4 v4 r4 c4 q4=>.J9 (aEF (qh C wi) (qh j.1 wi) (bV _)) λx hx=>.bnd (bA c4) λi5 v5 r5 c5 I=> ?_
 obtain⟨N,rfl⟩:=Dw I.1
 have hN:=I.2.1 wi
 exact aFX hx wi c5
theorem aAh{b:List Int}{i h:Int}(c0:okC b i h):Dr b bkI (EL (⟨b,i,h⟩:M.bI)):=by
 unfold EL
 refine .bnd (Ov c0) λi1 v1 r1 c1 q1=>.bnd (bA c1) λi2 v2 r2 J q2=> ?_
 have q0:=q1.all
 obtain⟨h1,h2,h3,h4,h5,h6,h7⟩:=q1
 have C:=h5.all
 dsimp only
 split
 ·exact .bnd (Fo (λs=>s.size<=16) wh wh J) λi3 v3 r3 j I=>.ret j ⟨I,h2,h3,h4,C,h6,h7⟩
 split
 ·exact .bnd (Z1 J) λi3 v3 r3 j I=>.ret j ⟨h1,h2,h3,I,C,h6,h7⟩
 split
 ·exact .bnd (aA7 J) λi3 v3 r3 j I=>.ret j ⟨h1,h2,h3,h4,I,h6,h7⟩
 split
 ·exact .bnd (ZR J) λi3 v3 r3 j I=>.ret j ⟨h1,h2,h3,h4,C,I,h7⟩
 split
 ·exact .bnd (xX (λx=> -1000000000000000<=x/\x<=1000000000000000) wh wh J) λi3 v3 r3 j I=>.ret j ⟨h1,h2,h3,h4,C,h6,bgI I⟩
 split
 ·have hz:=h5.2
  simp only[M.bP.sz]at hz
  have key:∀(n:Nat) (l:List Int),100000<n+l.length->okB l->l.length<=20000->Dr b bkI (sC (i1,v1,r1) (i2,v2,r2) n l):=by
   intro n
   induction n with
   |zero=>intro l h _ hz2;exact absurd h wi
   |succ n ih=>
    intro l hn hl hz2
    have e1:(l++[(0:Int)]).length=l.length+1:=by rw[qE];rfl
    simp only[sC]
    by_cases h6':(l.length:Int)<2600
    ·have h7':l.length<2600:=by omega
     rw[jE (decide_eq_true h6'),DY (by show l.length+1<=_;omega) wi,qA]
     refine ih (l++[0]) wi ⟨ml wi,λx U=> ?_⟩ wi
     rcases qP.1 U with U|U
     ·exact hl.2 x U
     ·rw[qQ.1 U];exact⟨Int.le_refl _,wh⟩
    ·rw[jF (by rw[decide_eq_false h6'];exact Bool.false_ne_true)];exact .ret J ⟨h1,h2,h3,h4,⟨⟨h5.1.aLq,hl,h5.1.aL5⟩,by show M.aLS.sz r1.bP.aLq+l.length<=80000;omega⟩,h6,h7⟩
  exact key aH r1.bP.Log (qw (nN (k:=100000) wi) (jT _ _)) h5.1.Log wi
 ·exact .ret J q0
theorem jn{α β:Type}{o:Option α}{v:α}{f:α->Option β}{r:Option β}(h1:o=some v)(h2:f v=r):o.bind f=r:=by rw[h1];exact h2
theorem sJ{α:Type}{f:α->α->Bool}(j:∀x,f x x=true):∀l:List α,eqL f l l=true
 |[]=>rfl
 |x::l=>by simp only[eqL,j x,sJ j l,Bool.and_self]
theorem Qa(x:M.aLb):GM x x=true:=by simp[GM,sJ (f:=zX) (λx=>by simp[zX])]
theorem P8(x:M.aJ):Jr x x=true:=sJ (λc=>by simp[Qq,sJ (f:=IW) (λy=>by simp[IW,Qa])]) _
theorem SI(x:M.aF):OC x x=true:=sJ (λy=>by simp[L3]) _
theorem KX(x:M.aE):Ix x x=true:=by simp[Ix,aEe,sJ (f:=UB) (λy=>by simp[UB,aEe,SI])]
theorem PG(x:M.aLS):GB x x=true:=by simp[GB,sJ (f:=Ix) KX,sJ (f:=B7) (λy=>by simp[B7])]
theorem WH(x:M.bP):Uh x x=true:=by simp[Uh,PG,sJ (f:=zX) (λx=>by simp[zX])]
theorem S7(x:M.aN):MU x x=true:=by simp[MU,sJ (f:=Gj) (λy=>by simp[Gj])]
theorem QW(x:M.aG):Ic x x=true:=by simp[Ic,WG,KX,S7]
theorem Nl(x:M.Bucket):JH x x=true:=by simp[JH,aEb,P8,WH,QW]
theorem IL(x:List M.aZ)(j:x.length<=1073741824):Aq x=some x:=by unfold Aq;rw[IP j wi,qA]
theorem Hm(x:M.aLX)(j:M.aLX.sz x<=1073741824):Bf x=some x:=by simp only[M.aLX.sz]at j;unfold Bf;rw[IL _ wi,qA,IP wi wi,qA]
theorem Hr(x:M.bO)(j:M.bO.sz x<=1073741824):mZ x=some x:=by simp only[M.bO.sz]at j;unfold mZ;rw[IP wi wi,qA,Hm _ wi,qA]
theorem Km(x:M.aT)(j:M.aT.sz x<=1073741824):Bj x=some x:=by simp only[M.aT.sz]at j;unfold Bj;rw[IP wi wi,qA]
theorem PY(x:M.aLe)(j:M.aLe.sz x<=1073741824):CB x=some x:=by simp only[M.aLe.sz]at j;unfold CB;rw[IP wi wi,qA]
theorem PO(x:M.aLa)(j:M.aLa.sz x<=1073741824):DQ x=some x:=by simp only[M.aLa.sz]at j;unfold DQ;rw[IP wi wi,qA]
theorem PK(x:M.aLj)(j:M.aLj.sz x<=1073741824):iY x=some x:=by simp only[M.aLj.sz]at j;unfold iY;rw[rF _ wi,qA,IP wi wi,qA,IP wi wi,qA]
theorem AJ(x:M.aLX)(j:M.aLX.sz x<=1073741824):pZ x=some x:=by simp only[M.aLX.sz]at j;unfold pZ;rw[IP wi wi,qA,IP wi wi,qA]
