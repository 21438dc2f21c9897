/-
  Helper text. No conditions.
-/
import Derived.Test.YtbpbocchokbggaaGreatUpdatesPd7
set_option linter.all false
namespace Go.Proofs.YtbpbocchokbggaaGreat.gen
open Go Go.Sh
open Go.IntKind (i64)
theorem VK{b:List Int}{i h:Int}(hc:okC b i h):Dr b IJ (B4 (⟨b,i,h⟩:M.aM)):=by
 have fin:∀{L:Nat->Int->Int->ByteArray->ByteArray->Int->Int->Int->Bool->Bool->Int->Int->List M.aV->List M.Instr->List Int->Option (Int×Int×M.bG)} {n:Int} {i1 h1:Int} {p:M.bG},(∀m v a0 a1 a2 a3 a6 a8 a9 ae ci U r0 r1 r2,L (m+1) v a0 a1 a2 a3 a6 a8 a9 ae ci U r0 r1 r2=if(decide (v>0))=true then(yM (⟨b,ci,U⟩:M.aM)).bind λaf=>(lS (⟨a0,a1,a2,a3,r0,(⟨r1,a6,r2,a8,a9,ae⟩:M.aJH)⟩:M.bG) af.2.2 (⟨0,200,a3,([]:List Int),false⟩:M.aI8)).bind λC=>L m (i64.wrap (v-1)) C.1.Id C.1.aI7 C.1.Top C.1.aI0 C.1.aJH.Pc C.1.aJH.aJp C.1.aJH.aJy C.1.aJH.aJ0 af.1 af.2.1 C.1.aV C.1.aJH.aJj C.1.aJH.aJt else some (ci,U,(⟨a0,a1,a2,a3,r0,(⟨r1,a6,r2,a8,a9,ae⟩:M.aJH)⟩:M.bG)))->
   (0<=n/\n<3)->okC b i1 h1->M.bG.ok p->p.aV.length=0->M.bG.sz p<=200->Dr b IJ (L fuel n p.Id p.aI7 p.Top p.aI0 p.aJH.Pc p.aJH.aJp p.aJH.aJy p.aJH.aJ0 i1 h1 p.aV p.aJH.aJj p.aJH.aJt):=by
  intro L n i1 h1 p hL hn hc hp hl hz
  obtain⟨N,rfl⟩:=BE hn.1
  refine CA (L:=λm v (s:M.bG×Int×Int)=>L m v s.1.Id s.1.aI7 s.1.Top s.1.aI0 s.1.aJH.Pc s.1.aJH.aJp s.1.aJH.aJy s.1.aJH.aJ0 s.2.1 s.2.2 s.1.aV s.1.aJH.aJj s.1.aJH.aJt) (I:=λk s=>okC b s.2.1 s.2.2/\M.bG.ok s.1/\s.1.aV.length+k<=3/\M.bG.sz s.1+20*k<=300) (Q:=Dr b IJ) (λm k s hi ih=> ?_) (λm s hi=> ?_) fuel N (p,i1,h1) (mI jB) ⟨hc,hp,by show p.aV.length+N<=3;omega,by show M.bG.sz p+20*N<=300;omega⟩
  ·obtain⟨p,ci,U⟩:=s
   obtain⟨k1,J,k3,k4⟩:=hi
   simp only at k1 J k3 k4
   simp only[hL]
   rw[if_pos (by first|(simp;done)|(simp;omega))]
   refine .bnd (QK k1) λi3 v3 r3 c3 q3=> ?_
   have hv:inI (⟨0,200,p.aI0,([]:List Int),false⟩:M.aI8).aI0:=J.aI0
   show Dr b IJ ((lS p r3 _).bind _)
   rw[Hi J jB jB (FZ q3) hv,qA,show i64.wrap (((k+1:Nat):Int)-1)=(k:Int)from by rw[wrap_small jB jB];omega]
   have z:=S4 p r3 (⟨0,200,p.aI0,([]:List Int),false⟩:M.aI8)
   refine ih ((IF p r3 (⟨0,200,p.aI0,([]:List Int),false⟩:M.aI8)).1,i3,v3) ⟨c3,Ti J jB (FZ q3) hv,?_,jG⟩
   have:(IF p r3 (⟨0,200,p.aI0,([]:List Int),false⟩:M.aI8)).1.aV.length<=p.aV.length+1:=by unfold IF;split;(show p.aV.length<=_;omega);·split;(show p.aV.length<=_;omega);·split;(split;(simp[GD]);·show p.aV.length<=_;omega);·show p.aV.length<=_;omega
   dsimp only
   omega
  ·obtain⟨p,ci,U⟩:=s;obtain⟨k1,J,k3,k4⟩:=hi;simp only at k1 J k3 k4;simp only[hL];rw[if_neg jD];exact .ret k1 ⟨J,by show p.aV.length<=3;omega,by show M.bG.sz p<=_;omega⟩
 have page:∀{j v:Int} {s t:ByteArray} {l:List M.Instr},(0<=j/\j<=1000)->(0<=v/\v<=1000)->s.size<=8->t.size<=8->C6 l->∃r,mA (i64.wrap (1+j)) s t (i64.wrap (1+v)) l=some r/\(M.bG.ok r.1/\r.1.aV.length=0/\M.bG.sz r.1<=200):=by intro j v s t l hj hv hs ht hl;have h1:=Qq hl;refine⟨_,Gd (bK _) (FZ hs) (FZ ht) (bK _) (MU hl) jB,Qz (bK _) (FZ hs) (FZ ht) (bK _) (MU hl),?_⟩;have h2:=PJ (i64.wrap (1+j)) s t (i64.wrap (1+v)) l;exact⟨h2.2,jB⟩
 unfold B4
 refine .bnd (IX hc) λi1 v1 r1 c1 q1=>.Gl (aBv c1 q1) λy hy=>.bnd (aT hy.2) λi4 v4 r4 c4 q4=>.bnd (aT c4) λi5 v5 r5 c5 q5=>.bnd (FE c5) λi6 v6 r6 c6 q6=> ?_
 have z4:=q4.2.1 jB
 have z5:=q5.2.1 jB
 refine .Gl (page ⟨q4.1,jG⟩ ⟨q5.1,jG⟩ q1 hy.1 q6) λr hr=>.bnd (aT c6) λi7 v7 r7 c7 q7=> ?_
 have z7:=q7.2.1 jB
 exact fin (L:=rL (⟨b,i,h⟩:M.aM)) (λ_ _ _ _ _ _ _ _ _ _ _ _ _ _ _=>by simp only[rL]) ⟨q7.1,z7⟩ c7 hr.1 hr.2.1 hr.2.2
def stN(n:Nat)(s:M.aA):Prop:=s.aI4.length<=n/\∀b∈s.aI4,bkI b
theorem stN.ok{n:Nat}{s:M.aA}(h:stN n s)(j:n<=1000):s.ok:=⟨⟨ml (by have:=h.1;omega),λb hb=>(h.2 b hb).ok⟩⟩
theorem stN.sz{n:Nat}{s:M.aA}(h:stN n s)(j:n<=5):M.aA.sz s<=900005:=by
 have h1:=eB (w:=M.aI3.sz) (b:=180000) (xs:=s.aI4) λb hb=>(h.2 b hb).sz
 have h2:=h.1
 simp only[M.aA.sz]
 omega
theorem stN.mono{n m:Nat}{s:M.aA}(h:stN n s)(j:n<=m):stN m s:=⟨by have:=h.1;omega,h.2⟩
theorem aBr{n:Nat}{s:M.aA}{b:M.aI3}(h:stN n s)(J:n<=4)(hb:bkI b):∃x,gQ s b=some x/\stN (n+1) x.1:=by have U:=h.sz jB;have C:=hb.sz;refine⟨_,Lq (h.ok jB) hb.ok jB jB,?_⟩;have I:=IM s b;have h1:=h.1;unfold E6 K7;split;(split;(refine⟨jG,λx j=> ?_⟩;rcases JI j with rfl|j;(exact hb);·exact h.2 x j);·exact h.mono (Nat.le_succ n));·exact h.mono (Nat.le_succ n)
theorem P5{b:List Int}{i h:Int}(c0:okC b i h):Dr b (stN 4) (vG (⟨b,i,h⟩:M.aM)):=by
 unfold vG
 refine .bnd (aT c0) λi1 v1 r1 c1 q1=> ?_
 obtain⟨N,rfl⟩:=BE q1.1
 have hN:=q1.2.1 jB
 refine CA (L:=λn v (s:(M.aA)×Int×Int)=>kT (⟨b,i,h⟩:M.aM) n v s.2.1 s.2.2 s.1.aI4) (I:=λk s=>k<=100000/\okC b s.2.1 s.2.2/\k<=3/\stN (3-k) s.1) (Q:=Dr b (stN 4)) (λn k s hi ih=> ?_) (λn s hi=> ?_) fuel N ((⟨([]:List M.aI3)⟩:M.aA),i1,v1) (mI jB) ⟨jB,c1,⟨jB,jD,jD⟩⟩
 ·obtain⟨x,ci,ch⟩:=s
  obtain⟨k0,J,j⟩:=hi
  dsimp only at J j
  simp only[kT]
  rw[if_pos (UF k),Lv k0]
  refine .bnd (Mb J) λi3 v3 r3 U q3=>.Gl (aBr (s:=x) j.2 jB q3.all) λy C=> ?_
  have:=j.1
  exact ih (y.1,i3,v3) ⟨jB,U,jB,C.mono jB⟩
 ·obtain⟨x,ci,ch⟩:=s
  obtain⟨k0,J,j⟩:=hi
  dsimp only at J j
  simp only[kT]
  rw[if_neg Ll]
  refine .bnd (Ab J) λi3 v3 r3 U q3=> ?_
  have hl:=j.2.1
  dsimp only
  split
  ·refine .bnd (Yk U) λi4 v4 r4 c4 q4=> ?_
   dsimp only
   rw[B7 jS jB,qA]
   refine .ret c4 ⟨jN,λy C=> ?_⟩
   rcases qP.1 C with C|C
   ·exact j.2.2 y C
   ·rw[qQ.1 C];exact q4
  ·exact .ret U (j.2.mono jB)
theorem Uv{b:List Int}{i h:Int}(c0:okC b i h):Dr b wsm (A4 (⟨b,i,h⟩:M.aM)):=by
 unfold A4
 refine .bnd (aT c0) λi1 v1 r1 c1 q1=>.bnd (aT c1) λi2 v2 r2 c2 q2=>.bnd (At c2) λi3 v3 r3 c3 q3=>.bnd (Bv c3) λi4 v4 r4 c4 q4=>.bnd (aT c4) λi5 v5 r5 c5 q5=>.bnd (aT c5) λi6 v6 r6 I q6=> ?_
 have J:r4.size<=16:=qf q4 jB
 have U:inI r5:=bgI (XJ q5)
 have hk:=q3.any
 dsimp only
 split
 ·exact .bnd (uL (λx=> -1000000000000000<=x/\x<=1000000000000000) jE jE I) λi7 v7 r7 j C=>.ret j (HO (bgI C) (bK _) hk J U)
 split
 ·exact .bnd (uL (λx=> -1000000000000000<=x/\x<=1000000000000000) jE jE I) λi7 v7 r7 j C=>.ret j (HO (bK _) (bgI C) hk J U)
 split
 ·exact .bnd (Rs I) λi7 v7 r7 j C=>.ret j (HO (bK _) (bK _) C J U)
 split
 ·exact .ret I (HO (bK _) (bK _) hk jE U)
 split
 ·exact .bnd (uL (λx=> -1000000000000000<=x/\x<=1000000000000000) jE jE I) λi7 v7 r7 j C=>.ret j (HO (bK _) (bK _) hk J (bgI C))
 ·exact .ret I (HO (bK _) (bK _) hk J U)
def US(s:M.aJC):Prop:=M.aJC.ok s/\M.aJC.sz s<=30000
theorem aA0{s:M.aD}{a:List M.aP}{c:List M.bC}(I:Oj s)(C:a.length<=100/\∀x∈a,M.aP.ok x)(hc:c.length<=100/\∀x∈c,wsm x):US (⟨s,a,c⟩:M.aJC):=by
 have h1:=I.2
 have h2:=C.1
 have h3:=hc.1
 have h4:=eB (w:=M.bC.sz) (b:=32) (xs:=c) λw j=>(hc.2 w j).2
 refine⟨⟨I.1,⟨ml jG,C.2⟩,⟨ml jG,λw j=>(hc.2 w j).1⟩⟩,?_⟩
 simp only[M.aJC.sz]
 omega
theorem YD{b:List Int}{i h:Int}(c0:okC b i h):Dr b US (BC (⟨b,i,h⟩:M.aM)):=by
 unfold BC
 refine .bnd (Nc c0) λi1 v1 J c1 q1=>.bnd (aT c1) λi2 v2 r2 c2 q2=> ?_
 dsimp only
 have hs:Oj J.aD:=⟨q1.1,by have:=sN q1.2.1;omega⟩
 have ha:J.aP.length<=60:=q1.2.2.1.1
 have hc:J.aJU.length<=5:=q1.2.2.2.1
 have ha2:=q1.2.2.1.2
 have hc2:=q1.2.2.2.2
 have U:J.aP.length<=100/\∀x∈J.aP,M.aP.ok x:=⟨jB,ha2⟩
 have I:J.aJU.length<=100/\∀x∈J.aJU,wsm x:=⟨jB,hc2⟩
 split
 ·exact .bnd (V8 c2) λi3 v3 r3 c3 q3=>.ret c3 (aA0 q3 U I)
 split
 ·refine .bnd (uL (λx=> -1000000000000000<=x/\x<=1000000000000000) jE jE c2) λi3 v3 r3 c3 q3=>.bnd (uL (λx=> -1000000000000000<=x/\x<=1000000000000000) jE jE c3) λi4 v4 r4 c4 q4=> ?_
  dsimp only
  rw[B7 jS jB,qA]
  refine .ret c4 (aA0 hs ⟨jN,λx j=> ?_⟩ I)
  rcases qP.1 j with j|j
  ·exact ha2 x j
  ·rw[qQ.1 j];exact⟨bgI q3,bgI q4⟩
 split
 ·refine .bnd (Uv c2) λi3 v3 r3 c3 q3=> ?_
  dsimp only
  rw[B7 jS jB,qA]
  refine .ret c3 (aA0 hs U ⟨jN,λx j=> ?_⟩)
  rcases qP.1 j with j|j
  ·exact hc2 x j
  ·rw[qQ.1 j];exact q3
 split
 ·have key:∀(n k:Nat) (l:List M.aP),64-k<n->k<=64->l.length<=k->(∀x∈l,M.aP.ok x)->Dr b US (xL (i1,v1,J) (i2,v2,r2) n (k:Int) l):=by
   intro n
   induction n with
   |zero=>intro k l h _ _ _;omega
   |succ n ih=>
    intro k l hn hk hl j
    simp only[xL]
    rcases Nat.lt_or_ge k 64 with h6|h6
    ·rw[if_pos jC,B7 jS jB,qA,bF jB]
     refine ih (k+1) (l++[_]) jB jB jN λx C=> ?_
     rcases qP.1 C with C|C
     ·exact j x C
     ·rw[qQ.1 C];exact⟨bgI jH,yR⟩
    ·rw[if_neg jC];exact .ret c2 (aA0 hs ⟨jB,j⟩ I)
  exact key fuel 4 [] (mI jB) jB jD jD
 ·exact .ret c2 (aA0 hs U I)
def V5(p:M.bG):Prop:=M.bG.ok p/\M.bG.sz p<=2000
theorem Yz{b:List Int}{i h:Int}(c0:okC b i h):Dr b V5 (Bt (⟨b,i,h⟩:M.aM)):=by
 unfold Bt
 refine .bnd (VK c0) λi1 v1 r1 c1 q1=>.bnd (aT c1) λi2 v2 r2 U q2=> ?_
 dsimp only
 obtain⟨j,hl,hz⟩:=q1
 have hz':=hz
 simp only[M.bG.sz]at hz'
 split
 ·exact .bnd (uL (λx=> -1000000000000000<=x/\x<=1000000000000000) jE jE U) λi3 v3 r3 c3 J=>.ret c3 ⟨⟨bgI J,j.aI7,j.Top,j.aI0,j.aV,j.aJH⟩,by show M.bG.sz r1<=2000;omega⟩
 split
 ·refine .bnd (Di (λs=>s.size<=16) jE jE U) λi3 v3 r3 c3 J=>.bnd (aT c3) λi4 v4 r4 c4 q4=> ?_
  dsimp only
  rw[B7 jS jB,qA]
  have q3':r3.size<=16:=J
  refine .ret c4 ⟨⟨j.Id,j.aI7,j.Top,j.aI0,⟨ml jN,λx I=> ?_⟩,j.aJH⟩,?_⟩
  ·rcases qP.1 I with I|I;(exact j.aV.2 x I);·rw[qQ.1 I];exact⟨s16 J,bK _⟩
  ·simp only[M.bG.sz,xM,dH,M.aV.sz,qE,qJ,qK];omega
 split
 ·exact .bnd (uL (λx=> -1000000000000000<=x/\x<=1000000000000000) jE jE U) λi3 v3 r3 c3 J=>.ret c3 ⟨⟨j.Id,j.aI7,j.Top,bgI J,j.aV,j.aJH⟩,by show M.bG.sz r1<=2000;omega⟩
 split
 ·have e5:(⟨#[105,110,100,101,120]⟩:ByteArray).size=5:=rfl
  have key:∀(n:Nat) (l:List M.aV),8-l.length<n->l.length<=8->(∀x∈l,M.aV.ok x)->dH M.aV.sz l+6*(8-l.length)<=dH M.aV.sz r1.aV+48->Dr b V5 (wW (i1,v1,r1) (i2,v2,r2) n l):=by
   intro n
   induction n with
   |zero=>intro l h _ _ _;omega
   |succ n ih=>
    intro l hn hk I hs
    simp only[wW]
    rcases Nat.lt_or_ge l.length 8 with h6|h6
    ·rw[if_pos jC,B7 jS jB,qA];refine ih (l++[_]) jN jN (λx C=> ?_) ?_;(rcases qP.1 C with C|C;(exact I x C);·rw[qQ.1 C];exact⟨s16 (show(⟨#[105,110,100,101,120]⟩:ByteArray).size<=16 by decide),j.aI0⟩);·simp only[xM,dH,M.aV.sz,e5,qE,qJ,qK];omega
    ·rw[if_neg jC];refine .ret U ⟨⟨j.Id,j.aI7,j.Top,j.aI0,⟨ml (by show l.length<=_;omega),I⟩,j.aJH⟩,?_⟩;simp only[M.bG.sz];omega
  exact key fuel r1.aV (mI jB) jB j.aV.2 jB
 ·exact .ret U ⟨j,jB⟩
def wdI(n:Nat)(w:M.World):Prop:=inI w.Now/\inI w.aJA/\stN 4 w.aA/\(w.aJI.length<=n/\∀p∈w.aJI,V5 p)/\inI w.aJG/\(w.aJJ.aJJ=[])/\(w.aJD.aJe=[])/\(w.aJL.length<=3/\(∀s∈w.aJL,M.aI7.ok s/\M.aI7.sz s<=100))/\(w.aJK.length<=3/\∀s∈w.aJK,US s)
theorem wdI.ok{n:Nat}{w:M.World}(h:wdI n w)(C:n<=20):M.World.ok w:=by obtain⟨h1,h2,h3,h4,h5,h6,h7,h8,h9⟩:=h;exact⟨h1,h2,h3.ok jB,⟨ml jB,λp j=>(h4.2 p j).1⟩,h5,⟨by rw[h6];simp[maxLen],by rw[h6];simp⟩,⟨by rw[h7];simp[maxLen],by rw[h7];simp⟩,⟨ml jB,λp j=>(h8.2 p j).1⟩,⟨ml jB,λp j=>(h9.2 p j).1⟩⟩
theorem wdI.sz{n:Nat}{w:M.World}(h:wdI n w)(hn:n<=20):M.World.sz w<=900000:=by
 obtain⟨h1,h2,h3,h4,h5,h6,h7,h8,h9⟩:=h
 have j:=eB (w:=M.aI3.sz) (b:=180000) (xs:=w.aA.aI4) λb hb=>(h3.2 b hb).sz
 have C:=eB (w:=M.bG.sz) (b:=2000) (xs:=w.aJI) λb hb=>(h4.2 b hb).2
 have I:=eB (w:=M.aI7.sz) (b:=100) (xs:=w.aJL) λb hb=>(h8.2 b hb).2
 have J:=eB (w:=M.aJC.sz) (b:=30000) (xs:=w.aJK) λb hb=>(h9.2 b hb).2
 have U:=h3.1
 have b2:=h4.1
 have b3:=h8.1
 have b4:=h9.1
 simp only[M.World.sz,M.aA.sz,M.aQ.sz,M.aJD.sz,h6,h7,dH,qK]
 omega
theorem aBW{d:Int}:wdI 0 (UL d):=by unfold UL;split;(rename_i h;refine⟨yR,bgI jH,⟨jD,jD⟩,⟨jD,jD⟩,TV,rfl,rfl,⟨by simp[sO],λs j=> ?_⟩,⟨by simp[sO],λs j=> ?_⟩⟩;(simp only[sO,List.map_cons,List.map_nil,qo,qO,or_false]at j;rcases j with rfl|rfl|rfl<;>exact⟨⟨s16 jE,TV,⟨ml jD,λy C=>by simp only[qo,qO,or_false]at C;rcases C with rfl|rfl|rfl|rfl<;>exact s16 jE⟩⟩,jE⟩);·simp only[sO,List.map_cons,List.map_nil,qo,qO,or_false]at j;rcases j with rfl|rfl|rfl<;>exact aA0 OH.any ⟨jD,jD⟩ ⟨jD,jD⟩);·exact⟨yR,yR,⟨jD,jD⟩,⟨jD,jD⟩,yR,rfl,rfl,⟨jD,jD⟩,⟨jD,jD⟩⟩
theorem Ot(x:M.aA):LM x x=true:=pO Qo _
theorem Ur(x:M.bG):Rf x x=true:=by simp[Rf,LG,pO (f:=Gz) (λy=>by simp[Gz]),pO (f:=JN) (λy=>by simp[JN]),pO (f:=PG) (λy=>by simp[PG])]
theorem PY(x:M.aJC):IA x x=true:=by simp[IA,Iz,pO (f:=Fo) (λy=>by simp[Fo]),pO (f:=EI) (λy=>by simp[EI])]
theorem Ux(x:M.aI7):R7 x x=true:=by simp[R7,pO (f:=Ha) (λy=>by simp[Ha])]
theorem Mo(x:M.World):Tp x x=true:=by simp[Tp,Ot,pO (f:=Rf) Ur,pO (f:=Nb) (λy=>by simp[Nb]),pO (f:=Mr) (λy=>by simp[Mr]),pO (f:=R7) Ux,pO (f:=IA) PY]
theorem Lt(x:List M.bG)(j:x.length+dH M.bG.sz x<=1073741824):Am x=some x:=by
 unfold Am
 exact BI (xs:=x) (b:=144) (L:=mW x) (E:=some) jB jB (λn r k hk=>by
  have C:=cN (f:=M.bG.sz) (qG hk)
  simp only[mW]
  rw[if_pos (aW hk),aJ hk,qA,G7 _ jB,qA,bF jB]) (λn r=>by
  simp only[mW]
  rw[if_neg jK])
theorem AM(w:M.World)(C:M.World.sz w<=1073741824):bQ w=some w:=by
 simp only[M.World.sz]at C
 have e3:kJ w w.aA w.aJI w.aJJ w.aJD w.aJL fuel 0 ([]:List M.aJC)=some w:=BI (xs:=w.aJK) (b:=96) (L:=kJ w w.aA w.aJI w.aJJ w.aJD w.aJL) (E:=λr=>some { w with aJK:=r }) jB jB (λn r k hk=>by
   have j:=cN (f:=M.aJC.sz) (qG hk)
   simp only[kJ]
   rw[if_pos (aW hk),aJ hk,qA,Nn _ jB,qA,bF jB]) (λn r=>by
   simp only[kJ]
   rw[if_neg jK])
 have e2:kM w w.aA w.aJI w.aJJ w.aJD fuel 0 ([]:List M.aI7)=some w:=(BI (xs:=w.aJL) (b:=56) (L:=kM w w.aA w.aJI w.aJJ w.aJD) (E:=λr=>kJ w w.aA w.aJI w.aJJ w.aJD r fuel 0 ([]:List M.aJC)) jB jB (λn r k hk=>by
   have j:=cN (f:=M.aI7.sz) (qG hk)
   simp only[kM]
   rw[if_pos (aW hk),aJ hk,qA,HQ _ jB,qA,bF jB]) (λn r=>by
   simp only[kM]
   rw[if_neg jK])).trans e3
 have e1:nL w w.aA fuel 0 ([]:List M.bG)=some w:=(BI (xs:=w.aJI) (b:=144) (L:=nL w w.aA) (E:=λr=>(yP w.aJJ).bind λx=>(AN w.aJD).bind λy=>kM w w.aA r x y fuel 0 ([]:List M.aI7)) jB jB (λn r k hk=>by
   have j:=cN (f:=M.bG.sz) (qG hk)
   simp only[nL]
   rw[if_pos (aW hk),aJ hk,qA,E0 _ jB,qA,bF jB]) (λn r=>by
   simp only[nL]
   rw[if_neg jK])).trans (by rw[HU _ jB,qA,Ny _ jB,qA];exact e2)
 unfold bQ
 rw[E1 _ jB,qA]
 exact e1
theorem Ce(w:M.World)(j:M.World.sz w<=1073741824):pJ w=some w:=by
 simp only[M.World.sz]at j
 have e3:gG w w.aA w.aJI w.aJJ w.aJD w.aJL fuel 0 ([]:List M.aJC)=some w:=BI (xs:=w.aJK) (b:=96) (L:=gG w w.aA w.aJI w.aJJ w.aJD w.aJL) (E:=λr=>some { w with aJK:=r }) jB jB (λn r k hk=>by
   have C:=cN (f:=M.aJC.sz) (qG hk)
   simp only[gG]
   rw[if_pos (aW hk),aJ hk,qA,KH _ jB,qA,bF jB]) (λn r=>by
   simp only[gG]
   rw[if_neg jK])
 have e2:iZ w w.aA w.aJI w.aJJ w.aJD fuel 0 ([]:List M.aI7)=some w:=(BI (xs:=w.aJL) (b:=56) (L:=iZ w w.aA w.aJI w.aJJ w.aJD) (E:=λr=>gG w w.aA w.aJI w.aJJ w.aJD r fuel 0 ([]:List M.aJC)) jB jB (λn r k hk=>by
   have C:=cN (f:=M.aI7.sz) (qG hk)
   simp only[iZ]
   rw[if_pos (aW hk),aJ hk,qA,G9 _ jB,qA,bF jB]) (λn r=>by
   simp only[iZ]
   rw[if_neg jK])).trans e3
 unfold pJ
 rw[CW _ jB,qA,Lt _ jB,qA,Lw _ jB,qA,Jq _ jB,qA]
 exact e2
theorem JU{a:ByteArray}(h:¬Ah a<0):∃k:Nat,Ah a=(k:Int)/\k<3:=by obtain⟨k,e,hk⟩:=dK (show ¬iJ (λx:ByteArray=>x.toList==a.toList) sO<0 from h);exact⟨k,e,hk⟩
theorem GN{w:M.World}(h:zO w=true):w.aJL.length=3:=by unfold zO at h;rw[qM]at h;simpa using h.1
theorem aDZ{α:Type}(a b:Bool)(x y:α):(if a=true then if b=true then x else y else y)=if(a&&b)=true then x else y:=by cases a<;>cases b<;>rfl
def PM(s:M.aI7):M.aI7:=(⟨s.Name,i64.wrap (s.aI0+1),s.aJW,s.aJf⟩:M.aI7)
def PA(s:M.aI7):M.aI7×Bool:=if EZ s=true then if EZ (PM s)=true then(PM s,true)else(s,false)else(s,false)
theorem MC{s:M.aI7}(h:EZ s=true):1<=s.aI0/\s.aI0<=1000000000000:=by simp only[EZ,qM,inR,qL]at h;exact h.2.2.1
theorem ON{s:M.aI7}(j:s.ok):(PM s).ok:=⟨j.Name,bK _,j.aJW⟩
theorem WE{s:M.aI7}(j:s.ok):(PA s).1.ok:=by unfold PA;split;(split;(exact ON j);·exact j);·exact j
theorem WG(s:M.aI7):M.aI7.sz (PA s).1=M.aI7.sz s:=by unfold PA;split;(split<;>rfl);·rfl
theorem VC{s:M.aI7}(h:(PA s).2=false):(PA s).1=s:=by unfold PA at h⊢;by_cases h1:EZ s=true;(rw[if_pos h1]at h⊢;by_cases h2:EZ (PM s)=true;(rw[if_pos h2]at h;cases h);·rw[if_neg h2]);·rw[if_neg h1]
theorem Nw{s:M.aI7}(C:s.ok)(I:M.aI7.sz s<=1048576):B3 s=some (PA s):=by
 have e:∃v,CK s.aI0=some v/\(EZ s=true->v=i64.wrap (s.aI0+1)):=by unfold CK;by_cases h:s.aI0>1000000000000;(exact⟨_,if_pos (by simpa using h),λj=>absurd (MC j).2 jB⟩);·exact⟨_,if_neg (by simpa using h),λ_=>rfl⟩
 obtain⟨v,e1,e2⟩:=e
 unfold B3 PA
 rw[HQ s jB,qA,e1,qA,Bu C,qA]
 cases j:EZ s with
 |false=>simp
 |true=>
  rw[e2 j,if_neg jD,if_pos rfl,show(⟨s.Name,i64.wrap (s.aI0+1),s.aJW,s.aJf⟩:M.aI7)=PM s from rfl,Bu (ON C),qA,qA]
  cases EZ (PM s)<;>simp
theorem NC{s:M.aI7}(j:s.ok)(C:M.aI7.sz s<=1048576):EX s=some (PA s):=by
 unfold EX PA
 rw[G9 s jB,qA,Cv j,qA]
 cases hn:EZ s with
 |false=>simp
 |true=>
  rw[if_neg jD,if_pos rfl,show(⟨s.Name,i64.wrap (s.aI0+1),s.aJW,s.aJf⟩:M.aI7)=PM s from rfl,Cv (ON j),qA,qA]
  cases EZ (PM s)<;>simp
theorem KW{α:Type}{f:α->Nat}(g:α->Bool):∀j:List α,dH f (j.filter g)<=dH f j
 |[]=>qe _
 |x::j=>by have:=KW g j (f:=f);by_cases h:g x=true;(rw[List.filter_cons_of_pos h];simp only[dH];omega);·rw[List.filter_cons_of_neg h];simp only[dH];omega
def Vw(a b:ByteArray)(x:M.bG):Bool:=(x.aI7.toList==a.toList)&&(x.Top.toList==b.toList)
theorem Nv{w:M.World}{a b:ByteArray}(j:M.World.sz w<=1048576):BX w a b=some (w.aJI.filter (Vw a b)):=by
 have I:w.aJI.length<=1048576:=by simp only[M.World.sz]at j;omega
 unfold BX
 refine Hj (L:=kK w a b) (b:=144) (E:=some) jJ jB (λn r k hk=> ?_) (λn r=> ?_)
 ·have C:=cN (f:=M.bG.sz) (qG hk);simp only[M.World.sz]at j;simp only[kK];rw[if_pos (aW hk),aJ hk,qA,E0 _ jB,qA,bF jB,aDZ];rfl
 ·simp only[kK];rw[if_neg jK]
theorem Nt{w:M.World}{a b:ByteArray}(j:M.World.sz w<=1048576):BO w a b=some (w.aJI.filter (Vw a b)):=by
 have I:w.aJI.length<=1048576:=by simp only[M.World.sz]at j;omega
 unfold BO
 refine Hj (L:=kG w a b) (b:=144) (E:=some) jJ jB (λn r k hk=> ?_) (λn r=> ?_)
 ·have C:=cN (f:=M.bG.sz) (qG hk);simp only[M.World.sz]at j;simp only[kG];rw[if_pos (aW hk),aJ hk,qA,G7 _ jB,qA,bF jB,aDZ];rfl
 ·simp only[kG];rw[if_neg jK]
def Gb(s:M.aI7)(v:Int):Bool:=EZ s&&(decide (v>s.aI0-2)&&(decide (v<=s.aI0)&&decide (v>=1)))
theorem FR{s:M.aI7}{v:Int}(j:s.ok):pC s v=some (Gb s v):=by
 unfold pC Gb
 rw[Bu j,qA]
 cases hn:EZ s with
 |false=>simp
 |true=>
  have C:=MC hn
  rw[if_pos rfl,bN (n:=s.aI0-2) jB jB,bN jB jB]
  unfold AR aY
  by_cases h:s.aI0-2+1>1
  ·rw[if_pos (by simpa using h),qA]
   by_cases h1:v>=s.aI0-2+1
   ·rw[if_pos (by simpa using h1),qA]
    have e1:decide (v>s.aI0-2)=true:=by simp;omega
    have e2:decide (v>=1)=true:=by simp;omega
    rw[e1,e2];simp
   ·rw[if_neg (by simpa using h1),qA]
    have e1:decide (v>s.aI0-2)=false:=by simp;omega
    rw[e1];simp
  ·rw[if_neg (by simpa using h),qA]
   by_cases h1:v>=1
   ·rw[if_pos (by simpa using h1),qA]
    have e1:decide (v>s.aI0-2)=true:=by simp;omega
    have e2:decide (v>=1)=true:=by simpa using h1
    rw[e1,e2];simp
   ·rw[if_neg (by simpa using h1),qA]
    have e2:decide (v>=1)=false:=by simpa using h1
    rw[e2];simp
def aA5(s:M.aI7)(f:ByteArray):Bool:=s.aJW.any λx=>x.toList==f.toList
theorem H2{s:M.aI7}{f:ByteArray}(j:s.ok):BM s f=some (aA5 s f):=by have C:=le_max j.aJW.1;unfold BM aA5;rw[findAll (L:=rC s f) (f:=λx:ByteArray=>x.toList==f.toList) (A:=λ_=>some true) (E:=some false) j.aJW.1 (λm k hk=> ?_) (λm=> ?_),OZ];(cases s.aJW.any (λx=>x.toList==f.toList)<;>rfl);(simp only[rC];rw[if_pos (aW hk),aJ hk,qA,bF jB]);·simp only[rC];rw[if_neg jK]
theorem Wi:M.aI8.ok (⟨4,0,0,([]:List Int),false⟩:M.aI8):=⟨by unfold inI;simp,by unfold inI;simp,by unfold inI;simp,⟨by simp[maxLen],jD⟩⟩
theorem Oy{s:M.aI7}{f:ByteArray}{v:Int}(j:s.ok)(U:inI v)(zs:M.aI7.sz s<=1048576)(zf:f.size<=1048576):∃r,kB s f v=some r/\M.aI8.ok r:=by
 have J:s.Name.size<=1048576:=by simp only[M.aI7.sz]at zs;omega
 obtain⟨l,e1,_,I⟩:=XL (t:=s) (f:=f) (v:=v) J zf
 unfold kB cU
 rw[Bu j,FR j,H2 j,e1]
 have C:M.aI8.ok (⟨1,404,s.aI0,([]:List Int),false⟩:M.aI8):=⟨by unfold inI;simp,by unfold inI;simp,j.aI0,⟨by simp[maxLen],jD⟩⟩
 simp only[qA]
 cases EZ s
 ·exact⟨_,rfl,Wi⟩
 ·cases Gb s v;(exact⟨_,rfl,C⟩);·cases aA5 s f;(exact⟨_,rfl,C⟩);·exact⟨_,rfl,⟨by unfold inI;simp,by unfold inI;simp,U,I⟩⟩
theorem OW{s:M.aC}{v:Int}{a b:ByteArray}(I:s.ok)(U:s.sz<=1048576):∃r,zG s v a b=some r/\M.aI8.ok r.1:=by
 unfold zG cU
 rw[DM I]
 simp only[qA]
 have hnil:M.aI8.ok (⟨4,0,0,([]:List Int),false⟩:M.aI8):=⟨by unfold inI;simp,by unfold inI;simp,by unfold inI;simp,⟨by simp[maxLen],jD⟩⟩
 by_cases h:iJ (λc:M.aI5=>c.aI0==v) s.aI1<0
 ·simp only[h,decide_true,if_true];exact⟨_,rfl,hnil⟩
 ·obtain⟨k,e,hk⟩:=dK h
  simp only[h,decide_false,qD,if_false]
  rw[e,aJ hk]
  have hc:=I.aI1.2 _ (qG hk)
  simp only[qA]
  rw[H5 hc]
  simp only[qA]
  by_cases h2:iJ (DV a b) s.aI1[k].aJB<0
  ·simp only[h2,decide_true,if_true];exact⟨_,rfl,hnil⟩
  ·obtain⟨j,e2,C⟩:=dK h2
   simp only[h2,decide_false,qD,if_false]
   rw[e2,aJ C]
   have J:=hc.aJB.2 _ (qG C)
   have z1:=cN (f:=M.aI5.sz) (qG hk)
   have z2:=cN (f:=M.aJE.sz) (qG C)
   unfold M.aC.sz at U
   have q1:M.aI5.sz s.aI1[k]=s.aI1[k].aJB.length+dH M.aJE.sz s.aI1[k].aJB:=rfl
   have q2:M.aJE.sz s.aI1[k].aJB[j]=s.aI1[k].aJB[j].aI7.size+(s.aI1[k].aJB[j].aJk.size+s.aI1[k].aJB[j].aI8.aJr.length):=rfl
   have hb:(s.aI1[k].aJB[j].aI8.aJr).length<=1048576:=by omega
   simp only[qA,uR]
   rw[dS jC]
   exact⟨_,rfl,J.aI8⟩
theorem Ns{c:M.aC}{s:M.aI7}{f:ByteArray}{v:Int}{o:Bool}(hc:c.ok)(j:s.ok)(C:inI v)(U:c.sz<=1048576)(zs:M.aI7.sz s<=1048576)(zf:f.size<=1048576):∃r,oM c s v f o=some r/\M.aI8.ok r:=by obtain⟨x,e1,I⟩:=OW (s:=c) (v:=v) (a:=s.Name) (b:=f) hc U;obtain⟨y,e3,J⟩:=Oy (f:=f) j C zs zf;unfold oM cU;rw[e1,e3];simp only[qA];cases x.2;(cases o;(exact⟨_,rfl,Wi⟩);·exact⟨_,rfl,J⟩);·exact⟨_,rfl,I⟩
def aCM(x y:M.mV):Bool:=(y.Name.toList==x.Name.toList)&&(!y.aJx||(!y.aJf|| !x.aJf))
def aB1(l:List M.mV)(x:M.mV):Bool:= !(l.any (aCM x))
theorem aBk{α:Type}(n a b c:Bool)(p q:α):(if n=true then if(!a)=true then p else if(!b)=true then p else if(!c)=true then p else q else q)=if(n&&(!a||(!b|| !c)))=true then p else q:=by cases n<;>cases a<;>cases b<;>cases c<;>rfl
theorem UB{l:List M.mV}{n:Nat}{x:M.mV}(I:l.length<=maxLen)(U:n<=l.length):Cw l (n:Int) x=some (aB1 (l.take n) x):=by
 have J:=le_max I
 have C:(l.take n).length=n:=by simp;omega
 unfold Cw aB1
 rw[findAll (xs:=l.take n) (L:=pF l (n:Int) x) (f:=aCM x) (A:=λ_=>some false) (E:=some true) (by rw[C];omega) (λm k hk=> ?_) (λm=> ?_),OZ]
 ·cases (l.take n).any (aCM x)<;>rfl
 ·have j:k<n:=by omega
  simp only[pF]
  rw[if_pos (by simpa using j),aJ (show k<l.length by omega),qA,bF jB,aBk,List.getElem_take]
  rfl
 ·rw[C];simp only[pF];rw[if_neg jD]
theorem NU{α:Type}{f:α->Nat}:∀(n:Nat) (l:List α),dH f (l.drop n)<=dH f l
 |0,l=>by simp
 |n+1,[]=>by simp
 |n+1,x::l=>by have:=NU (f:=f) n l;simp only[List.drop_succ_cons,dH];omega
theorem Wg{α:Type}{f:α->Nat}(k:Nat)(l:List α):dH f (l.take k++l.drop (k+1))<=dH f l:=by have h1:=xM (f:=f) (l.take k) (l.drop (k+1));have h2:=xM (f:=f) (l.take k) (l.drop k);rw[qm]at h2;have h3:=NU (f:=f) 1 (l.drop k);rw[List.drop_drop]at h3;omega
def nGr(l:List M.mV)(k:Nat):List M.mV:=match l[k]? with
 |some x=>if x.aJx=true then l else if aB1 (l.take k) x=true then l.set k (⟨x.Name,x.bG,x.aJf,true⟩:M.mV)else l
 |none=>l
theorem aBC{l:List M.mV}{k:Nat}(h:k<l.length):nGr l k=if l[k].aJx=true then l else if aB1 (l.take k) l[k]=true then l.set k (⟨l[k].Name,l[k].bG,l[k].aJf,true⟩:M.mV)else l:=by unfold nGr;rw[qF h]
theorem aAP(l:List M.mV)(k:Nat):(nGr l k).length=l.length:=by unfold nGr;split;(split;(rfl);·split<;>simp);·rfl
def PW(l:List M.mV):List M.mV:=(List.range l.length).foldl nGr l
theorem Vu{N:Nat}{L:Nat->Int->List M.mV->Option M.aQ}(U:N<=maxLen)(h1:∀n (r:List M.mV) (k:Nat),k<N->r.length=N->L (n+1) (k:Int) r=L n ((k+1:Nat):Int) (nGr r k))(h2:∀n (r:List M.mV),r.length=N->L (n+1) (N:Int) r=some (⟨r⟩:M.aQ))(l:List M.mV)(J:l.length=N):
  L fuel 0 l=some (⟨PW l⟩:M.aQ):=by
 have C:(List.range N).length=N:=List.length_range
 have:=NQ (xs:=List.range N) (L:=λn k r=>L n k r) (step:=nGr) (I:=λk r=>r.length=N) (E:=λr=>some (⟨r⟩:M.aQ)) (by rw[C];exact U) (λs k hk j=>(aAP s _).trans j) (λn s k hk j=>by rw[List.getElem_range];exact h1 n s k (by rw[C]at hk;exact hk) j) (λn s j=>by rw[C];exact h2 n s j) l J
 unfold PW
 rw[J]
 exact this.1
theorem KI{t:M.aQ}(J:t.aJJ.length<=1048576)(I:M.aQ.sz t<=1073741824):vJ t=some (⟨PW t.aJJ⟩:M.aQ):=by
 unfold vJ
 rw[HU t I,qA]
 refine Vu (N:=t.aJJ.length) (L:=fA) jJ (λn r k hk C=> ?_) (λn r C=> ?_) t.aJJ rfl
 ·have j:k<r.length:=by omega
  simp only[fA]
  rw[if_pos (aW j),aJ j,qA,bF jB,UB jJ jB,qA,qH,aBC j]
  cases r[k].aJx
  ·cases aB1 (r.take k) r[k]<;>rfl
  ·rfl
 ·simp only[fA];rw[<-C,if_neg jK]
def Wd(t:M.aQ)(p:Int):M.aQ:=(⟨PW (t.aJJ.filter λx=>x.bG !=p)⟩:M.aQ)
theorem ZF{t:M.aQ}(p:Int):M.aQ.sz (⟨t.aJJ.filter λx=>x.bG !=p⟩:M.aQ)<=M.aQ.sz t:=by have h4:=List.length_filter_le (λx:M.mV=>x.bG !=p) t.aJJ;have h5:=KW (f:=M.mV.sz) (λx:M.mV=>x.bG !=p) t.aJJ;simp only[M.aQ.sz];omega
theorem Ie{t:M.aQ}{p:Int}(j:t.aJJ.length<=1048576)(C:M.aQ.sz t<=1073741824):vZ t p=some (Wd t p):=by have h4:=List.length_filter_le (λx:M.mV=>x.bG !=p) t.aJJ;have h5:=ZF (t:=t) p;unfold vZ Wd;rw[Hj (xs:=t.aJJ) (L:=eS t p) (b:=32) (f:=λx:M.mV=>x.bG !=p) (E:=λr=>(vJ (⟨r⟩:M.aQ)).bind λx=>some x) jJ jB (λn r k hk=> ?_) (λn r=> ?_)];(rw[KI (by simpa using qf h4 j) jB,qA]);(simp only[eS];rw[if_pos (aW hk),aJ hk,qA,bF jB]);·simp only[eS];rw[if_neg jK]
def Qv(x:M.aJD)(p:Int):M.aJD:=(⟨x.aJe.filter λm=>m.To !=p⟩:M.aJD)
theorem LA{x:M.aJD}{p:Int}(j:x.aJe.length<=1048576):Ay x p=some (Qv x p):=by unfold Ay Qv;refine Hj (xs:=x.aJe) (L:=iT x p) (b:=24) (f:=λm:M.AP=>m.To !=p) (E:=λr=>some (⟨r⟩:M.aJD)) jJ jB (λn r k hk=> ?_) (λn r=> ?_);(simp only[iT];rw[if_pos (aW hk),aJ hk,qA,bF jB]);·simp only[iT];rw[if_neg jK]
theorem SH{α:Type}{f:α->Bool}{l:List α}{k:Nat}{x:α}(e:iJ f l=(k:Int))(hx:f x=true):iJ f (l.set k x)=(k:Int)/\(l.set k x)[k]? =some x:=by
 obtain⟨hk,U⟩:=xI e
 have h1:=FD hk U
 have C:k<(l.set k x).length:=by rw[qN];exact hk
 have hg:(l.set k x)[k]? =some x:=by rw[qF C,List.getElem_set_self]
 have h2:=FD (f:=f) (xs:=l.set k x) C (by rw[List.getElem_set_self];exact hx)
 rw[e,beq_self_eq_true]at h1
 refine⟨eq_of_beq (h2.trans ?_),hg⟩
 rw[qR]
 intro j J
 have h3:=(qR.1 h1.symm) j J
 have I:k≠j:=by have:=qS.1 J;omega
 rw[List.getElem?_set_ne I]
 exact h3
theorem Yx{α:Type}{f:α->Bool}{l:List α}{p:Nat}{x:α}(hp:p<=l.length)(h:∀y∈l,f y=false)(hx:f x=true):iJ f (l.take p++([x]++l.drop p))=(p:Int)/\(l.take p++([x]++l.drop p))[p]? =some x:=by
 have U:(l.take p).length=p:=by rw[qU];omega
 have J:p<(l.take p++([x]++l.drop p)).length:=by simp only[qE,U,qJ,qK];omega
 have C:(l.take p++([x]++l.drop p))[p]? =some x:=by rw[qx jB,U,Nat.sub_self];rfl
 have I:(l.take p++([x]++l.drop p))[p]=x:=by rw[qF J]at C;exact Option.some.inj C
 refine⟨eq_of_beq ((FD J (by rw[I];exact hx)).trans ?_),C⟩
 rw[qR]
 intro j hj
 have hj':=qS.1 hj
 rw[qw jB]
 cases e:(l.take p)[j]? with
 |none=>rfl
 |some y=>
  rw[qd,h y (qi (qz e))]
  rfl
theorem Pu{s:M.aA}{b:M.aI3}(j:(E6 s b).2=true):(E6 s b).1=(⟨CJ s b⟩:M.aA)/\oP (⟨CJ s b⟩:M.aA)=true:=by unfold E6 K7 at j⊢;by_cases h1:oP s=true;(by_cases h2:oP (⟨CJ s b⟩:M.aA)=true;(rw[if_pos h1,if_pos h2];exact⟨rfl,h2⟩);·rw[if_pos h1,if_neg h2]at j;cases j);·rw[if_neg h1]at j;cases j
theorem Px(b:M.aI3):nAt b.aI7 b.Top b=true:=by unfold nAt;simp
theorem QB(s:M.aA)(b:M.aI3):∃j:Nat,iJ (nAt b.aI7 b.Top) (CJ s b)=(j:Int)/\(CJ s b)[j]? =some b:=by unfold CJ;by_cases h:iJ (nAt b.aI7 b.Top) s.aI4>=0;(rw[if_pos h];obtain⟨k,e,hk⟩:=dK (show ¬iJ (nAt b.aI7 b.Top) s.aI4<0 by omega);rw[e,qH];exact⟨k,SH e (Px b)⟩);·rw[if_neg h];exact⟨UH s b,Yx (Pj s b) (Hp jB) (Px b)⟩
theorem aAg{s:M.aA}(h:oP s=true){x:M.aI3}{j:Nat}(C:s.aI4[j]? =some x):oI x=true:=by unfold oP at h;rw[qM,qR]at h;obtain⟨I,_⟩:=qc.1 C;have:=h.1 j (qS.2 I);unfold Ej at this;rw[C,qd,qM]at this;exact this.1
theorem YZ{s:M.aA}{b:M.aI3}(C:M.aA.sz s<=1048576)(J:M.aI2.sz b.bR.aJQ<=1048576):∀x∈(E6 s b).1.aI4,M.aI2.sz x.bR.aJQ<=1048576:=by
 have j:∀x∈s.aI4,M.aI2.sz x.bR.aJQ<=1048576:=λx I=>xV (Vf C x I)
 unfold E6 K7
 split
 ·split;(exact M6 C J);·exact j
 ·exact j
def OJ(r:M.aIz)(s:M.aI7)(o:Bool):Int:=if(r.aJX !=0)=true then r.aJX else if o=true then s.aI0 else 0
theorem J2(r:M.aIz)(s:M.aI7)(o:Bool):rD r s o=some (OJ r s o):=by unfold rD OJ;cases (r.aJX !=0)<;>cases o<;>rfl
theorem ZW{r:M.aIz}{s:M.aI7}{o:Bool}(j:r.ok)(C:s.ok):inI (OJ r s o):=by unfold OJ;split;(exact j.aJX);·split;(exact C.aI0);·exact yR
theorem YN{p:M.bG}(h:Fy p=true):(p.aI0==0)=false:=by unfold Fy inR at h;simp only[qM,qL]at h;have:=h.2.2.2.2.1.1;rw[beq_eq_false_iff_ne];omega
theorem XE(p:M.bG)(f:ByteArray)(x:M.aI8):(IF p f x).1.Id=p.Id:=by unfold IF;split;(rfl);·split;(rfl);·split;(split<;>rfl);·rfl
theorem We{w:M.World}{B:M.aI3}{p:M.bG}{f:ByteArray}{k:Nat}(hw:w.ok)(J:B.ok)(hz:M.World.sz w<=1048576)(hk:k<w.aJL.length)(I:Ah p.aI7=(k:Int))(U:(E6 w.aA B).2=true)(e:nAt p.aI7 p.Top=nAt B.aI7 B.Top):
  pH (⟨w.Now,w.aJV,w.aJA,(E6 w.aA B).1,w.aJI,w.aJG,w.aJJ,w.aJD,w.aJL,w.aJK⟩:M.World) p f=oM B.aI1 w.aJL[k] p.aI0 f w.aJV:=by
 have C:=Rc hw.aA J (Dx hz)
 obtain⟨j,e1,e2⟩:=QB w.aA B
 rw[(Pu U).1]at C⊢
 unfold pH
 rw[uV C,qA,vC,qA,e,I]
 show(if decide (iJ (nAt B.aI7 B.Top) (CJ w.aA B)<0)=true then _ else _)=_
 rw[e1,if_neg jD,if_neg jD]
 show((idx (CJ w.aA B) (j:Int)).bind _)=_
 rw[aBV e2,qA,aJ hk,qA]
 cases oM B.aI1 w.aJL[k] p.aI0 f w.aJV<;>rfl
def oS(w:M.World)(B:M.aI3)(k:Nat)(a b:ByteArray)(l:List M.Instr):Option (M.World×Int×Bool):=(gQ w.aA B).bind λj=>(idx w.aJL (k:Int)).bind λU=>(rD B.aIz U w.aJV).bind λaj=>(mA w.aJG a b aj l).bind λC=>if(!j.2)=true then some (w,0,false)else if(!C.2)=true then some (w,0,false)else(pH (⟨w.Now,w.aJV,w.aJA,j.1,w.aJI,w.aJG,w.aJJ,w.aJD,w.aJL,w.aJK⟩:M.World) C.1 (⟨#[105,110,100,101,120]⟩:ByteArray)).bind λak=>(lS C.1 (⟨#[105,110,100,101,120]⟩:ByteArray) ak).bind λI=>(app 144 w.aJI ([I.1])).bind λal=>if(!I.2)=true then some (w,0,false)else(gY (⟨w.Now,w.aJV,w.aJA,j.1,w.aJI++[I.1],i64.wrap (w.aJG+1),w.aJJ,w.aJD,w.aJL,w.aJK⟩:M.World)).bind λJ=>if(!J)=true then some (w,0,false)else some ((⟨w.Now,w.aJV,w.aJA,j.1,w.aJI++[I.1],i64.wrap (w.aJG+1),w.aJJ,w.aJD,w.aJL,w.aJK⟩:M.World),C.1.Id,true)
def Ru(w:M.World)(B:M.aI3)(a b:ByteArray)(l:List M.Instr)(p:M.bG)(R:M.World×Int×Bool):Prop:=zO w=true/\zO R.1=true/\(E6 w.aA B).2=true/\nAt a b=nAt B.aI7 B.Top/\R.1=(⟨w.Now,w.aJV,w.aJA,(E6 w.aA B).1,w.aJI++[p],i64.wrap (w.aJG+1),w.aJJ,w.aJD,w.aJL,w.aJK⟩:M.World)/\R.2.1=w.aJG/\R.2.2=true/\M.bG.ok p/\M.bG.sz p<=a.size+b.size+(l.length+dH M.Instr.sz l)+10/\p.Id=w.aJG/\p.aI7=a/\p.Top=b/\p.aV=[(⟨(⟨#[105,110,100,101,120]⟩:ByteArray),p.aI0⟩:M.aV)]
def aBa(w:M.World)(q:M.aI3):M.aI3:=(⟨q.aI7,q.Top,q.aIz,q.aI1,q.bR,q.aG,w.Now,q.aJZ⟩:M.aI3)
def aBT(w:M.World)(a b:ByteArray)(d:Int):M.aI3:=(⟨(DO a b d).1.aI7,(DO a b d).1.Top,(DO a b d).1.aIz,(DO a b d).1.aI1,(DO a b d).1.bR,(DO a b d).1.aG,w.Now,(DO a b d).1.aJZ⟩:M.aI3)
def aAb(w:M.World)(a b:ByteArray)(B:M.aI3):Prop:=(∃j:Nat,∃C:j<w.aA.aI4.length,iJ (nAt a b) w.aA.aI4=(j:Int)/\B=aBa w w.aA.aI4[j])\/(∃d,inI d/\B=aBT w a b d)
theorem WY{p:M.bG}{f:ByteArray}{x:M.aI8}(h:(IF p f x).2=true):(IF p f x).1=GD p f x.aI0/\x.aI0=p.aI0:=by unfold IF at h⊢;by_cases h1:(x.aJn !=200)=true;(rw[if_pos h1]at h;cases h);·rw[if_neg h1]at h⊢;by_cases h2:(x.aI0 !=p.aI0)=true;(rw[if_pos h2]at h;cases h);·rw[if_neg h2]at h⊢;by_cases h3:Fy p=true;(rw[if_pos h3]at h⊢;by_cases h4:Fy (GD p f x.aI0)=true;(rw[if_pos h4];exact⟨rfl,by simpa using h2⟩);·rw[if_neg h4]at h;cases h);·rw[if_neg h3]at h;cases h
theorem Oe{w:M.World}{B:M.aI3}{k:Nat}{a b:ByteArray}{l:List M.Instr}(C:w.ok)(hn:zO w=true)(hz:M.World.sz w<=1048576)(ha:a.size<=1048576)(hb:b.size<=1048576)(hl:D1 l)(zl:l.length+dH M.Instr.sz l<=1048576)(ek:Ah a=(k:Int))(hk:k<w.aJL.length)
  (J:B.ok)(zB:M.aI3.sz B<=4194304)(zD:M.aI2.sz B.bR.aJQ<=1048576)(zC:M.aC.sz B.aI1<=1048576)(H:nAt a b=nAt B.aI7 B.Top\/oI B=false):∃R:M.World×Int×Bool,oS w B k a b l=some R/\(R=(w,0,false) \/∃p,Ru w B a b l p R):=by
 have hz':=hz
 simp only[M.World.sz]at hz'
 have z5:(⟨#[105,110,100,101,120]⟩:ByteArray).size=5:=rfl
 have m5:(⟨#[105,110,100,101,120]⟩:ByteArray).size<=maxLen:=Tz _ jB
 have z2:=cN (f:=M.aI7.sz) (qG hk)
 have ht:=C.aJL.2 _ (qG hk)
 have hpg:=C.aJI.1
 have hv:=ZW (r:=B.aIz) (s:=w.aJL[k]) (o:=w.aJV) J.aIz ht
 obtain⟨r,e1,e3⟩:=Ns (c:=B.aI1) (s:=w.aJL[k]) (f:=(⟨#[105,110,100,101,120]⟩:ByteArray)) (v:=OJ B.aIz w.aJL[k] w.aJV) (o:=w.aJV) J.aI1 ht hv zC jB jB
 have pk:=Qz (i:=w.aJG) (v:=OJ B.aIz w.aJL[k] w.aJV) C.aJG (Tz _ ha) (Tz _ hb) hv hl
 have pz:=PJ w.aJG a b (OJ B.aIz w.aJL[k] w.aJV) l
 have lk:=Ti (f:=(⟨#[105,110,100,101,120]⟩:ByteArray)) (x:=r) pk jB m5 e3.aI0
 have lz:=S4 (DD w.aJG a b (OJ B.aIz w.aJL[k] w.aJV) l).1 (⟨#[105,110,100,101,120]⟩:ByteArray) r
 have lid:=XE (DD w.aJG a b (OJ B.aIz w.aJL[k] w.aJV) l).1 (⟨#[105,110,100,101,120]⟩:ByteArray) r
 have sw:=Rc C.aA J (Dx hz)
 have sz:=VL w.aA B
 have sd:=YZ (b:=B) (Dx hz) zD
 have no:∃R:M.World×Int×Bool,some (w,0,false)=some R/\(R=(w,0,false) \/∃p,Ru w B a b l p R):=⟨(w,0,false),rfl,.inl rfl⟩
 unfold oS
 rw[C8 C.aA J (Dx hz) jB zD,aJ hk]
 simp only[qA]
 rw[J2]
 simp only[qA]
 rw[Gd C.aJG (Tz _ ha) (Tz _ hb) hv hl jB]
 simp only[qA]
 cases hP:(DD w.aJG a b (OJ B.aIz w.aJL[k] w.aJV) l).2 with
 |false=>
  simp only[qC,if_true,ite_self]
  exact no
 |true=>
  have hpp:Fy (Et w.aJG a b (OJ B.aIz w.aJL[k] w.aJV) l)=true:=by unfold DD at hP;split at hP;(assumption);·cases hP
  have I:(DD w.aJG a b (OJ B.aIz w.aJL[k] w.aJV) l).1=Et w.aJG a b (OJ B.aIz w.aJL[k] w.aJV) l:=by unfold DD;rw[if_pos hpp]
  have hv0:(OJ B.aIz w.aJL[k] w.aJV==0)=false:=YN hpp
  simp only[hv0,qB,qD,if_false]
  cases hp:(E6 w.aA B).2 with
  |false=>
   simp only[qC,if_true,qA,ite_self]
   exact no
  |true=>
   have e:nAt a b=nAt B.aI7 B.Top:=by rcases H with H|H;(exact H);·obtain⟨j,_,e2⟩:=QB w.aA B;have:=aAg (Pu hp).2 e2;rw[H]at this;cases this
   have hA:pH (⟨w.Now,w.aJV,w.aJA,(E6 w.aA B).1,w.aJI,w.aJG,w.aJJ,w.aJD,w.aJL,w.aJK⟩:M.World) (DD w.aJG a b (OJ B.aIz w.aJL[k] w.aJV) l).1 (⟨#[105,110,100,101,120]⟩:ByteArray)=some r:=by rw[We C J hz hk (by rw[I];exact ek) hp (by rw[I];exact e),I];exact e1
   rw[hA]
   simp only[qB,qD,if_false,qA]
   rw[Hi pk jB jB m5 e3.aI0]
   simp only[qA]
   rw[dS jS]
   simp only[qA,lid]
   generalize U:IF (DD w.aJG a b (OJ B.aIz w.aJL[k] w.aJV) l).1 (⟨#[105,110,100,101,120]⟩:ByteArray) r=X at lk lz
   cases hX:X.2 with
   |false=>
    simp only[qC,if_true]
    exact no
   |true=>
    simp only[qB,qD,if_false]
    have wo:M.World.ok (⟨w.Now,w.aJV,w.aJA,(E6 w.aA B).1,w.aJI++[X.1],i64.wrap (w.aJG+1),w.aJJ,w.aJD,w.aJL,w.aJK⟩:M.World):=⟨C.Now,C.aJA,sw,⟨by
     show(w.aJI++[X.1]).length<=maxLen
     rw[qE]
     exact Tz _ jS,λy hy=>by
     have hy':y∈w.aJI++[X.1]:=hy
     rcases qP.1 hy' with h|h
     ·exact C.aJI.2 y h
     ·rw[qQ.1 h];exact lk⟩,bK _,C.aJJ,C.aJD,C.aJL,C.aJK⟩
    rw[G6 wo sd]
    simp only[qA]
    generalize hc:zO _=c
    cases c with
    |false=>
     simp only[qC,if_true]
     exact no
    |true=>
     simp only[qB,qD,if_false]
     obtain⟨y1,y2⟩:=WY (p:=(DD w.aJG a b (OJ B.aIz w.aJL[k] w.aJV) l).1) (f:=(⟨#[105,110,100,101,120]⟩:ByteArray)) (x:=r) (by rw[U];exact hX)
     rw[U,I]at y1
     rw[I]at y2
     refine⟨_,rfl,.inr ⟨X.1,hn,hc,hp,e,rfl,?_,rfl,lk,?_,?_,?_,?_,?_⟩⟩
     ·show(DD w.aJG a b (OJ B.aIz w.aJL[k] w.aJV) l).1.Id=_;rw[I];rfl
     ·have:=pz.1;omega
     ·rw[y1];rfl
     ·rw[y1];rfl
     ·rw[y1];rfl
     ·rw[y1];show([]++[(⟨(⟨#[105,110,100,101,120]⟩:ByteArray),r.aI0⟩:M.aV)])=[(⟨(⟨#[105,110,100,101,120]⟩:ByteArray),(Et w.aJG a b (OJ B.aIz w.aJL[k] w.aJV) l).aI0⟩:M.aV)];rw[y2];rfl
theorem Zb(a b:ByteArray)(d:Int):M.aI3.sz (Ft a b d)<=2*a.size+b.size+1000:=by have h3:(⟨#[97,112,112]⟩:ByteArray).size=3:=rfl;have h5:(⟨#[110,111,116,101,115]⟩:ByteArray).size=5:=rfl;simp only[Ft,M.aI3.sz,M.aIz.sz,M.aC.sz,M.bR.sz,M.aI2.sz,M.aD.sz,M.aG.sz,M.aJR.sz,M.aK.sz,dH,qJ,qK,h3,h5];omega
