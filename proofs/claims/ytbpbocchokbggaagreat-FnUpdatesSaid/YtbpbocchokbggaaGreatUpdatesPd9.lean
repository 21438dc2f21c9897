/-
  Helper text. No conditions.
-/
import Derived.Test.YtbpbocchokbggaaGreatUpdatesPd8
set_option linter.all false
namespace Go.Proofs.YtbpbocchokbggaaGreat.gen
open Go Go.Sh
open Go.IntKind (i64)
theorem aAu{w:M.World}{a b:ByteArray}{l:List M.Instr}(J:w.ok)(hz:M.World.sz w<=1048576)(ha:a.size<=1048576)(hb:b.size<=1048576)(hl:D1 l)(zl:l.length+dH M.Instr.sz l<=1048576):∃R:M.World×Int×Bool,lM w a b l=some R/\(R=(w,0,false) \/∃B p,aAb w a b B/\Ru w B a b l p R):=by
 have hz':=hz
 simp only[M.World.sz,M.aA.sz]at hz'
 have no:∃R:M.World×Int×Bool,some (w,0,false)=some R/\(R=(w,0,false) \/∃B p,aAb w a b B/\Ru w B a b l p R):=⟨(w,0,false),rfl,.inl rfl⟩
 unfold lM Af
 rw[AM w jB,BU J hz,vC (a:=a),vC (a:=b)]
 simp only[qA]
 cases hn:zO w with
 |false=>
  simp only[qC,if_true]
  exact no
 |true=>
  simp only[qB,qD,if_false]
  by_cases h1:Ah a<0
  ·simp only[h1,decide_true,if_true];exact no
  by_cases h2:Ah b<0
  ·simp only[h1,h2,decide_true,decide_false,if_true,qD,if_false];exact no
  simp only[h1,h2,decide_false,qD,if_false]
  obtain⟨k,ek,hk⟩:=JU h1
  have hk':k<w.aJL.length:=by rw[GN hn];exact hk
  rw[Gr (Tz _ ha) (Tz _ hb) (bK _),uV J.aA]
  simp only[qA,ek]
  by_cases h:iJ (nAt a b) w.aA.aI4<0
  ·have h':¬iJ (nAt a b) w.aA.aI4>=0:=by omega
   simp only[h,h',decide_true,decide_false,if_true,qD,if_false,qA]
   have hd:=bK (i64.wrap (1000*w.aJA)+w.aJG)
   generalize i64.wrap (i64.wrap (1000*w.aJA)+w.aJG)=d at hd
   have C:=SP (Tz _ ha) (Tz _ hb) hd
   suffices H:∃R:M.World×Int×Bool,oS w (aBT w a b d) k a b l=some R/\(R=(w,0,false) \/∃p,Ru w (aBT w a b d) a b l p R)by obtain⟨R,r1,r3⟩:=H;exact⟨R,r1,r3.imp id λ⟨p,hp⟩=>⟨_,p,.inr ⟨d,hd,rfl⟩,hp⟩⟩
   refine Oe (B:=aBT w a b d) J hn hz ha hb hl zl ek hk' ⟨C.aI7,C.Top,C.aIz,C.aI1,C.bR,C.aG,J.Now⟩ ?_ ?_ ?_ ?_
   ·have:=Zb a b d;show M.aI3.sz (DO a b d).1<=_;unfold DO;split;(split;(show M.aI3.sz (Ft a b d)<=_;omega);·show M.aI3.sz uQ<=4194304;decide);·show M.aI3.sz uQ<=4194304;decide
   ·show M.aI2.sz (DO a b d).1.bR.aJQ<=_;unfold DO;split;(split;(exact Sm a b d);·show M.aI2.sz uQ.bR.aJQ<=1048576;decide);·show M.aI2.sz uQ.bR.aJQ<=1048576;decide
   ·show M.aC.sz (DO a b d).1.aI1<=_;unfold DO;split;(split;(show M.aC.sz (⟨([]:List M.aI5)⟩:M.aC)<=1048576;decide);·show M.aC.sz uQ.aI1<=1048576;decide);·show M.aC.sz uQ.aI1<=1048576;decide
   ·unfold aBT
    show nAt a b=nAt (DO a b d).1.aI7 (DO a b d).1.Top\/_
    have z:∀n p,oI (⟨uQ.aI7,uQ.Top,uQ.aIz,uQ.aI1,uQ.bR,uQ.aG,n,p⟩:M.aI3)=false:=λ_ _=>rfl
    unfold DO
    split
    ·split;(exact .inl rfl);·exact .inr (z _ _)
    ·exact .inr (z _ _)
  ·obtain⟨j,ej,hj⟩:=dK h
   have h':iJ (nAt a b) w.aA.aI4>=0:=by omega
   simp only[h,h',decide_true,decide_false,if_true,qD,if_false]
   rw[ej,aJ hj]
   simp only[qA,if_true]
   have I:=J.aA.aI4.2 _ (qG hj)
   have z1:=cN (f:=M.aI3.sz) (qG hj)
   obtain⟨_,U⟩:=xI ej
   generalize hqe:w.aA.aI4[j]=q at I z1 U
   have zq:M.aI3.sz q<=1048576:=by omega
   have z3:M.aC.sz q.aI1<=M.aI3.sz q:=by simp only[M.aI3.sz];omega
   rw[AQ q jB]
   simp only[qA]
   suffices H:∃R:M.World×Int×Bool,oS w (aBa w q) k a b l=some R/\(R=(w,0,false) \/∃p,Ru w (aBa w q) a b l p R)by obtain⟨R,r1,r3⟩:=H;exact⟨R,r1,r3.imp id λ⟨p,hp⟩=>⟨_,p,.inl ⟨j,hj,ej,by rw[hqe]⟩,hp⟩⟩
   refine Oe (B:=aBa w q) J hn hz ha hb hl zl ek hk' ⟨I.aI7,I.Top,I.aIz,I.aI1,I.bR,I.aG,J.Now⟩ ?_ (xV zq) (by show M.aC.sz q.aI1<=_;omega) (.inl ?_)
   ·show M.aI3.sz q<=_;omega
   ·funext x;unfold nAt at U⊢;rw[qM]at U;show(_&&_)=((x.aI7.toList==q.aI7.toList)&&(x.Top.toList==q.Top.toList));rw[eq_of_beq U.1,eq_of_beq U.2]
def aBM(w:M.World)(i:Int)(R:M.World×Bool):Prop:=((zO w=false\/Ry w i<0)/\R=(w,false))\/(zO w=true/\∃k:Nat,k<w.aJI.length/\Ry w i=(k:Int)/\R=((⟨w.Now,w.aJV,w.aJA,w.aA,w.aJI.take k++w.aJI.drop (k+1),w.aJG,Wd w.aJJ i,Qv w.aJD i,w.aJL,w.aJK⟩,true):M.World×Bool))
theorem X9{w:M.World}{i:Int}(C:w.ok)(I:M.World.sz w<=1048576):∃R:M.World×Bool,lX w i=some R/\aBM w i R:=by
 have j:=I
 simp only[M.World.sz]at j
 have J:w.aJJ.aJJ.length<=M.aQ.sz w.aJJ:=by simp only[M.aQ.sz];omega
 have U:w.aJD.aJe.length<=M.aJD.sz w.aJD:=by simp only[M.aJD.sz];omega
 unfold lX
 rw[AM w jB,qA,K4 C,qA,BU C I,qA]
 cases hn:zO w with
 |false=>exact⟨(w,false),jD,.inl ⟨.inl hn,rfl⟩⟩
 |true=>
  simp only[qB,qD,if_false]
  by_cases h:Ry w i<0
  ·simp only[h,decide_true,if_true];exact⟨(w,false),rfl,.inl ⟨.inr h,rfl⟩⟩
  ·obtain⟨k,e,hk⟩:=dK (show ¬iJ (λp:M.bG=>p.Id==i) w.aJI<0 from h);simp only[h,decide_false,qD,if_false];rw[show Ry w i=(k:Int)from e,Da jB,qA,bF jB,JQ jB,qA,qH,qH,dS (by simp only[qU,qV];omega),qA,Ie jB jB,qA,LA jB];simp only[qA];exact⟨(⟨w.Now,w.aJV,w.aJA,w.aA,w.aJI.take k++w.aJI.drop (k+1),w.aJG,Wd w.aJJ i,Qv w.aJD i,w.aJL,w.aJK⟩,true),rfl,.inr ⟨hn,k,hk,e,rfl⟩⟩
theorem NX{α:Type}{f:α->Nat}{x:α}:∀{l:List α} {i:Nat} (h:i<l.length),dH f (l.set i x)+f l[i]=dH f l+f x
 |[],_,h=>absurd h jD
 |y::l,0,_=>by simp only[List.set_cons_zero,dH,List.getElem_cons_zero];omega
 |y::l,i+1,h=>by have:=NX (f:=f) (x:=x) (l:=l) (i:=i) (by simpa using h);simp only[List.set_cons_succ,dH,List.getElem_cons_succ];omega
def bkJ(x:M.aI3):Prop:=x.aI7.size<=16/\x.Top.size<=16/\M.aI3.ok x
def stG(m Z:Nat)(s:M.aA):Prop:=s.aI4.length<=m/\(∀b∈s.aI4,bkJ b)/\dH M.aI3.sz s.aI4<=Z
theorem stG.mono{m n Y Z:Nat}{s:M.aA}(h:stG m Y s)(h1:m<=n)(h2:Y<=Z):stG n Z s:=⟨qf h.1 h1,h.2.1,qf h.2.2 h2⟩
theorem stN.G{s:M.aA}(h:stN 4 s):stG 4 720000 s:=by
 have h1:=eB (w:=M.aI3.sz) (b:=180000) (xs:=s.aI4) λb hb=>(h.2 b hb).sz
 have h2:=h.1
 exact⟨h2,λb hb=>⟨(h.2 b hb).1,(h.2 b hb).2.1,(h.2 b hb).ok⟩,jB⟩
theorem stG.ok{m Z:Nat}{s:M.aA}(h:stG m Z s)(j:m<=1000):s.ok:=⟨⟨ml (by have:=h.1;omega),λb hb=>(h.2.1 b hb).2.2⟩⟩
theorem aAR{m Z c:Nat}{s:M.aA}{b:M.aI3}(h:stG m Z s)(hb:bkJ b)(hc:M.aI3.sz b<=c):stG (m+1) (Z+c) (E6 s b).1:=by have C:=IM s b;have I:=Tx s b;obtain⟨h1,h2,h3⟩:=h;unfold E6 K7;split;(split;(refine⟨jG,λx j=> ?_,jG⟩;rcases JI j with rfl|j;(exact hb);·exact h2 x j);·exact⟨by show s.aI4.length<=_;omega,h2,by show dH M.aI3.sz s.aI4<=_;omega⟩);·exact⟨by show s.aI4.length<=_;omega,h2,by show dH M.aI3.sz s.aI4<=_;omega⟩
theorem RS{m Z c j:Nat}{s:M.aA}{b:M.aI3}(h:stG m Z s)(hb:bkJ b)(J:j<s.aI4.length)(e:iJ (nAt b.aI7 b.Top) s.aI4=(j:Int))(hc:M.aI3.sz b<=M.aI3.sz s.aI4[j]+c):stG m (Z+c) (E6 s b).1:=by
 have I:CJ s b=s.aI4.set j b:=by unfold CJ;rw[e,if_pos jB,qH]
 have U:=NX (f:=M.aI3.sz) (x:=b) J
 obtain⟨h1,h2,h3⟩:=h
 unfold E6 K7
 rw[I]
 split
 ·split;(refine⟨by show(s.aI4.set j b).length<=m;rw[qN];exact h1,λx C=> ?_,jG⟩;rcases jA C with C|rfl;(exact h2 x C);·exact hb);·exact⟨h1,h2,by show dH M.aI3.sz s.aI4<=_;omega⟩
 ·exact⟨h1,h2,by show dH M.aI3.sz s.aI4<=_;omega⟩
def wdG(m n Z:Nat)(w:M.World):Prop:=inI w.Now/\inI w.aJA/\stG m Z w.aA/\(w.aJI.length<=n/\∀p∈w.aJI,V5 p)/\inI w.aJG/\(w.aJJ.aJJ=[])/\(w.aJD.aJe=[])/\(w.aJL.length<=3/\(∀s∈w.aJL,M.aI7.ok s/\M.aI7.sz s<=100))/\(w.aJK.length<=3/\∀s∈w.aJK,US s)
theorem wdG.mono{m n Z I J j:Nat}{w:M.World}(h:wdG m n Z w)(h1:m<=I)(h2:n<=J)(h3:Z<=j):wdG I J j w:=by obtain⟨U,a2,a3,C,a5⟩:=h;exact⟨U,a2,a3.mono h1 h3,⟨qf C.1 h2,C.2⟩,a5⟩
theorem wdG.ok{m n Z:Nat}{w:M.World}(h:wdG m n Z w)(C:m<=1000)(I:n<=1000):M.World.ok w:=by obtain⟨h1,h2,h3,h4,h5,h6,h7,h8,h9⟩:=h;exact⟨h1,h2,h3.ok C,⟨ml jB,λp j=>(h4.2 p j).1⟩,h5,⟨by rw[h6];simp[maxLen],by rw[h6];simp⟩,⟨by rw[h7];simp[maxLen],by rw[h7];simp⟩,⟨ml jB,λp j=>(h8.2 p j).1⟩,⟨ml jB,λp j=>(h9.2 p j).1⟩⟩
theorem wdG.sz{m n Z:Nat}{w:M.World}(h:wdG m n Z w):M.World.sz w<=m+Z+2001*n+90400:=by
 obtain⟨h1,h2,h3,h4,h5,h6,h7,h8,h9⟩:=h
 have j:=eB (w:=M.bG.sz) (b:=2000) (xs:=w.aJI) λb hb=>(h4.2 b hb).2
 have C:=eB (w:=M.aI7.sz) (b:=100) (xs:=w.aJL) λb hb=>(h8.2 b hb).2
 have I:=eB (w:=M.aJC.sz) (b:=30000) (xs:=w.aJK) λb hb=>(h9.2 b hb).2
 have J:=h3.1
 have b5:=h3.2.2
 have U:=h4.1
 have b3:=h8.1
 have b4:=h9.1
 simp only[M.World.sz,M.aA.sz,M.aQ.sz,M.aJD.sz,h6,h7,dH,qK]
 omega
def lit(m n Z:Nat):Prop:=m<=20/\n<=20/\Z<=800000
theorem wdG.ok'{m n Z:Nat}{w:M.World}(h:wdG m n Z w)(j:lit m n Z):M.World.ok w:=h.ok (by have:=j.1;omega) (by have:=j.2.1;omega)
theorem wdG.sz'{m n Z:Nat}{w:M.World}(h:wdG m n Z w)(j:lit m n Z):M.World.sz w<=1048576:=by have:=h.sz;have:=j.1;have:=j.2.1;have:=j.2.2;omega
theorem aCh{d:Int}:wdG 0 0 0 (UL d):=by
 obtain⟨j,C,a3,I,J,U,a7,a8,a9⟩:=aBW (d:=d)
 have e:(UL d).aA.aI4=[]:=by unfold UL;split<;>rfl
 exact⟨j,C,⟨by rw[e];simp,by rw[e];simp,by rw[e];simp[dH]⟩,I,J,U,a7,a8,a9⟩
theorem R5{m n Z:Nat}{w:M.World}{a t:ByteArray}{l:List M.Instr}(h:wdG m n Z w)(hm:lit m n Z)(ha:a.size<=16)(ht:t.size<=16)(hl:C6 l):∃R,lM w a t l=some R/\((wdG (m+1) (n+1) (Z+1100) R.1/\R.1.aJL=w.aJL/\R.1.aJK=w.aJK)/\(R=(w,0,false) \/∃B p,aAb w a t B/\Ru w B a t l p R)):=by
 have hsc:=Qq hl
 obtain⟨R,e1,hR⟩:=aAu (h.ok' hm) (h.sz' hm) (a:=a) (b:=t) (l:=l) jB jB (MU hl) jB
 refine⟨R,e1,?_,hR⟩
 rcases hR with rfl|⟨B,p,hB,hF⟩
 ·exact⟨h.mono jB jB jB,rfl,rfl⟩
 ·obtain⟨_,_,_,hat,e,_,_,pk,pz,_⟩:=hF
  obtain⟨J,a2,U,a4,a5,a6,a7,a8,a9⟩:=h
  have hst:stG (m+1) (Z+1100) (E6 w.aA B).1:=by
   rcases hB with⟨j,hj,ej,rfl⟩|⟨d,hd,rfl⟩
   ·have C:=U.2.1 _ (qG hj);refine(RS (c:=0) U (b:=aBa w w.aA.aI4[j]) ⟨C.1,C.2.1,⟨C.2.2.aI7,C.2.2.Top,C.2.2.aIz,C.2.2.aI1,C.2.2.bR,C.2.2.aG,J⟩⟩ hj (by rw[<-hat];exact ej) (qe _)).mono jB jB
   ·have ok:=SP (s16 ha) (s16 ht) hd
    have hs:(DO a t d).1.aI7.size<=16/\(DO a t d).1.Top.size<=16/\M.aI3.sz (DO a t d).1<=1100:=by have:=Zb a t d;unfold DO;split;(split;(exact⟨ha,ht,by show M.aI3.sz (Ft a t d)<=1100;omega⟩);·exact⟨jE,jE,by show M.aI3.sz uQ<=1100;decide⟩);·exact⟨jE,jE,by show M.aI3.sz uQ<=1100;decide⟩
    exact aAR (c:=1100) U ⟨hs.1,hs.2.1,⟨ok.aI7,ok.Top,ok.aIz,ok.aI1,ok.bR,ok.aG,J⟩⟩ hs.2.2
  rw[e]
  refine⟨⟨J,a2,hst,⟨jN,λy I=> ?_⟩,bK _,a6,a7,a8,a9⟩,rfl,rfl⟩
  rcases qP.1 I with I|I
  ·exact a4.2 y I
  ·rw[qQ.1 I];exact⟨pk,jB⟩
theorem Tf{m n Z:Nat}{w:M.World}{i:Int}(h:wdG m n Z w)(J:lit m n Z):∃R,lX w i=some R/\((wdG m n Z R.1/\R.1.aJL=w.aJL/\R.1.aJK=w.aJK)/\(((zO w=false\/Ry w i<0)/\R=(w,false))\/(zO w=true/\∃k:Nat,k<w.aJI.length/\Ry w i=(k:Int)/\R=((⟨w.Now,w.aJV,w.aJA,w.aA,w.aJI.take k++w.aJI.drop (k+1),w.aJG,Wd w.aJJ i,Qv w.aJD i,w.aJL,w.aJK⟩,true):M.World×Bool)))):=by obtain⟨R,e1,I⟩:=X9 (i:=i) (h.ok' J) (h.sz' J);refine⟨R,e1,?_,I⟩;rcases I with⟨_,rfl⟩|⟨_,k,hk,_,rfl⟩;(exact⟨h,rfl,rfl⟩);·obtain⟨U,a2,a3,C,a5,a6,a7,a8,a9⟩:=h;refine⟨⟨U,a2,a3,⟨by simp only[qE,qU,qV];omega,λy j=> ?_⟩,a5,?_,?_,a8,a9⟩,rfl,rfl⟩;(rcases qP.1 j with j|j;(exact C.2 y (qi j));·exact C.2 y (qt j));(show PW (w.aJJ.aJJ.filter _)=[];rw[a6];rfl);·show w.aJD.aJe.filter _=[];rw[a7];rfl
def wd3(m n Z:Nat)(w:M.World):Prop:=wdG m n Z w/\w.aJL.length=3/\w.aJK.length=3
theorem wd3.mono{m n Z C I j:Nat}{w:M.World}(h:wd3 m n Z w)(h1:m<=C)(h2:n<=I)(h3:Z<=j):wd3 C I j w:=⟨h.1.mono h1 h2 h3,h.2⟩
theorem wd3.to{m n Z I J C:Nat}{w v:M.World}(h:wd3 m n Z w)(j:wdG I J C v/\v.aJL=w.aJL/\v.aJK=w.aJK):wd3 I J C v:=⟨j.1,by rw[j.2.1];exact h.2.1,by rw[j.2.2];exact h.2.2⟩
theorem Zi(k:Nat)(h:k<=1000):i64.wrap (((k+1:Nat):Int)-1)=(k:Int):=by rw[wrap_small jB jB];omega
theorem DE{b:List Int}{i h:Int}(hc:okC b i h):Dr b (λs=>s.size<=16) (kA (⟨b,i,h⟩:M.aM)):=by unfold kA;exact .bnd (Di (λs=>s.size<=16) jE jE hc) λi1 J I j C=>.ret j C
theorem UC{b:List Int}{i h:Int}(c0:okC b i h):Dr b (wd3 4 4 4400) (A3 (⟨b,i,h⟩:M.aM)):=by
 unfold A3
 refine .bnd (aT c0) λi1 v1 r1 c1 q1=> ?_
 have hr:=q1.2.1 jB
 have hr0:=q1.1
 dsimp only
 rw[MN,qA,wrap_small jB jB]
 have hN:(UL (1+r1)).aJL.length=3/\(UL (1+r1)).aJK.length=3:=by unfold UL;rw[if_pos jB];exact⟨rfl,rfl⟩
 have hw0:wd3 0 0 0 (UL (1+r1)):=⟨aCh,hN⟩
 generalize UL (1+r1)=w0 at hw0
 refine .bnd (aT c1) λi2 v2 r2 c2 q2=> ?_
 obtain⟨N,rfl⟩:=BE q2.1
 have hN4:=q2.2.1 jB
 have key:∀(n k:Nat) (w:M.World) (ci ch:Int),k<n->k<=4->okC b ci ch->wd3 (4-k) (4-k) (1100*(4-k)) w->Dr b (wd3 4 4 4400) (fR (⟨b,i,h⟩:M.aM) n (k:Int) w.Now w.aJV w.aJA w.aJG ci ch w.aA.aI4 w.aJI w.aJJ.aJJ w.aJD.aJe w.aJL w.aJK):=by
  intro n
  induction n with
  |zero=>intro k w ci ch h _ _ _;omega
  |succ n ih=>
   intro k w ci ch hn hk hc C
   simp only[fR]
   cases k with
   |zero=>
    rw[if_neg jD]
    exact .ret hc (C.mono jB jB jB)
   |succ k=>
    have hlit:lit (4-(k+1)) (4-(k+1)) (1100*(4-(k+1))):=⟨jB,jB,jB⟩
    have up:∀{v:M.World},wd3 (4-(k+1)) (4-(k+1)) (1100*(4-(k+1))) v->wd3 (4-k) (4-k) (1100*(4-k)) v:=λhv=>hv.mono jB jB jB
    have up2:∀{v:M.World},wd3 (4-(k+1)+1) (4-(k+1)+1) (1100*(4-(k+1))+1100) v->wd3 (4-k) (4-k) (1100*(4-k)) v:=λhv=>hv.mono jB jB jB
    rw[if_pos (decide_eq_true jB),Zi k jB]
    refine .bnd (aT hc) λi3 v3 r3 c3 q3=> ?_
    dsimp only
    split
    ·refine .bnd (aT c3) λi4 v4 r4 J I=>.Gl (Tf (w:=w) C.1 hlit) λR hR=> ?_
     exact ih k R.1 i4 v4 jB jB J (up (C.to hR.1))
    split
    ·refine .bnd (aT c3) λi4 v4 r4 J I=> ?_
     obtain⟨⟨a1,a2⟩,a3⟩:=C
     exact ih k (⟨i64.wrap (w.Now+r4),w.aJV,w.aJA,w.aA,w.aJI,w.aJG,w.aJJ,w.aJD,w.aJL,w.aJK⟩:M.World) i4 v4 jB jB J (up ⟨⟨bK _,a2⟩,a3⟩)
    split
    ·refine .bnd (aT c3) λi4 v4 r4 J I=>.bnd (aT J) λi5 v5 r5 c5 q5=> ?_
     obtain⟨⟨a1,a2,a3,a4,a5,a6,a7,a8,a9⟩,aa,ae⟩:=C
     obtain⟨j,rfl⟩:=BE I.1
     have hj:=I.2.1 jB
     have hj':j<w.aJL.length:=by omega
     dsimp only
     rw[aJ hj',qA,qH]
     have hs:=a8.2 _ (qG hj')
     refine ih k (⟨w.Now,w.aJV,w.aJA,w.aA,w.aJI,w.aJG,w.aJJ,w.aJD,w.aJL.set j (⟨w.aJL[j].Name,i64.wrap (1+r5),w.aJL[j].aJW,w.aJL[j].aJf⟩:M.aI7),w.aJK⟩:M.World) i5 v5 jB jB c5 (up ⟨⟨a1,a2,a3,a4,a5,a6,a7,⟨by rw[qN];exact a8.1,λs U=> ?_⟩,a9⟩,by rw[qN];exact aa,ae⟩)
     rcases jA U with U|rfl
     ·exact a8.2 s U
     ·exact⟨⟨hs.1.Name,bK _,hs.1.aJW⟩,hs.2⟩
    ·refine .bnd (DE c3) λi4 v4 r4 J I=>.bnd (Ab J) λi5 v5 r5 c5 q5=> ?_
     dsimp only
     split
     ·refine .bnd (DE c5) λi6 v6 r6 c6 q6=>.bnd (FE c6) λi7 v7 r7 c7 q7=>.Gl (R5 (w:=w) C.1 hlit I q6 q7) λR hR=> ?_
      exact ih k R.1 i7 v7 jB jB c7 (up2 (C.to hR.1))
     ·refine .bnd (FE c5) λi7 v7 r7 c7 q7=>.Gl (R5 (w:=w) C.1 hlit I I q7) λR hR=> ?_
      exact ih k R.1 i7 v7 jB jB c7 (up2 (C.to hR.1))
 exact key fuel N w0 i2 v2 (mI jB) jB c2 (hw0.mono jB jB jB)
theorem aAm{b:List Int}{i h:Int}{o:Bool}{w:M.World}{m n Z:Nat}(c0:okC b i h)(hw:wd3 m n Z w)(hm:4<=m)(hn:n<=1000)(hZ:Z<=720000):Dr b (wdG m (n+1) 720000) ((aF (⟨b,i,h⟩:M.aM) 24).bind λx=>if(x.2.2==0)=true then(bO (⟨b,x.1,x.2.1⟩:M.aM) ([-1,999999990000,999999990001])).bind λy=>some (y.1,y.2.1,(⟨y.2.2,o,w.aJA,w.aA,w.aJI,w.aJG,w.aJJ,w.aJD,w.aJL,w.aJK⟩:M.World))else if(x.2.2==1)=true then some (x.1,x.2.1,(⟨w.Now,o,0,w.aA,w.aJI,w.aJG,w.aJJ,w.aJD,w.aJL,w.aJK⟩:M.World))else if(x.2.2==2)=true then(Bz w.aJL 2).bind λy=>some (x.1,x.2.1,(⟨w.Now,o,w.aJA,w.aA,w.aJI,w.aJG,w.aJJ,w.aJD,List.take (2:Int).toNat w.aJL,w.aJK⟩:M.World))else if(x.2.2==3)=true then(vG (⟨b,x.1,x.2.1⟩:M.aM)).bind λy=>some (y.1,y.2.1,(⟨w.Now,o,w.aJA,y.2.2,w.aJI,w.aJG,w.aJJ,w.aJD,w.aJL,w.aJK⟩:M.World))else if(x.2.2==4)=true then(Bt (⟨b,x.1,x.2.1⟩:M.aM)).bind λy=>(app 144 w.aJI ([y.2.2])).bind λz=>some (y.1,y.2.1,(⟨w.Now,o,w.aJA,w.aA,w.aJI++[y.2.2],w.aJG,w.aJJ,w.aJD,w.aJL,w.aJK⟩:M.World))else if(x.2.2==5)=true then some (x.1,x.2.1,(⟨w.Now,o,w.aJA,w.aA,w.aJI,0,w.aJJ,w.aJD,w.aJL,w.aJK⟩:M.World))else if(x.2.2==6)=true then(BC (⟨b,x.1,x.2.1⟩:M.aM)).bind λy=>(idx w.aJK 0).bind λz=>some (y.1,y.2.1,(⟨w.Now,o,w.aJA,w.aA,w.aJI,w.aJG,w.aJJ,w.aJD,w.aJL,List.set w.aJK (0:Int).toNat y.2.2⟩:M.World))else some (x.1,x.2.1,(⟨w.Now,o,w.aJA,w.aA,w.aJI,w.aJG,w.aJJ,w.aJD,w.aJL,w.aJK⟩:M.World))):=by
 obtain⟨⟨a1,a2,a3,a4,a5,I,J,U,a9⟩,h3,hs⟩:=hw
 have C:w.aJI.length<=n+1/\∀p∈w.aJI,V5 p:=⟨jB,a4.2⟩
 have j:stG m 720000 w.aA:=a3.mono (qe _) hZ
 refine .bnd (aT c0) λi1 v1 r1 c1 q1=> ?_
 dsimp only
 split
 ·exact .bnd (uL (λx=> -1000000000000000<=x/\x<=1000000000000000) jE jE c1) λi2 v2 r2 c2 q2=>.ret c2 ⟨bgI q2,a2,j,C,a5,I,J,U,a9⟩
 split
 ·exact .ret c1 ⟨a1,yR,j,C,a5,I,J,U,a9⟩
 split
 ·rw[show Bz w.aJL 2=Bz w.aJL ((2:Nat):Int)from rfl,Da jB,qA];exact .ret c1 ⟨a1,a2,j,C,a5,I,J,⟨by show(List.take 2 w.aJL).length<=3;rw[qU];omega,λs hs=>U.2 s (qi hs)⟩,a9⟩
 split
 ·exact .bnd (P5 c1) λi2 v2 r2 c2 q2=>.ret c2 ⟨a1,a2,q2.G.mono hm (qe _),C,a5,I,J,U,a9⟩
 split
 ·refine .bnd (Yz c1) λi2 v2 r2 c2 q2=> ?_
  dsimp only
  rw[B7 jS jB,qA]
  refine .ret c2 ⟨a1,a2,j,⟨jN,λp hp=> ?_⟩,a5,I,J,U,a9⟩
  rcases qP.1 hp with hp|hp
  ·exact a4.2 p hp
  ·rw[qQ.1 hp];exact q2
 split
 ·exact .ret c1 ⟨a1,a2,j,C,yR,I,J,U,a9⟩
 split
 ·refine .bnd (YD c1) λi2 v2 r2 c2 q2=> ?_
  dsimp only
  rw[show idx w.aJK 0=idx w.aJK ((0:Nat):Int)from rfl,aJ jB,qA]
  refine .ret c2 ⟨a1,a2,j,C,a5,I,J,U,⟨by show(List.set w.aJK 0 r2).length<=3;rw[qN];omega,λs hs=> ?_⟩⟩
  rcases jA hs with hs|rfl
  ·exact a9.2 s hs
  ·exact q2
 ·exact .ret c1 ⟨a1,a2,j,C,a5,I,J,U,a9⟩
def YK:M.aI3:=(⟨(⟨#[]⟩:ByteArray),(⟨#[]⟩:ByteArray),(⟨(⟨#[]⟩:ByteArray),0,0,0⟩:M.aIz),(⟨([]:List M.aI5)⟩:M.aC),(⟨(⟨(⟨#[]⟩:ByteArray),0,([]:List M.aD),([]:List M.aN)⟩:M.aI2),([]:List Int),0⟩:M.bR),(⟨(⟨(⟨#[]⟩:ByteArray),([]:List M.aJN),0⟩:M.aD),0,(⟨(⟨0,0,([]:List M.bC)⟩:M.aK),0,0⟩:M.aJR)⟩:M.aG),0,false⟩:M.aI3)
theorem Rp{w:M.World}{a b:ByteArray}(j:w.ok)(h:iJ (nAt a b) w.aA.aI4<0):gR w a b=some (YK,false):=by unfold gR;rw[vH j.aA,qA,if_pos (by simpa using h)];rfl
theorem Na{w:M.World}{a b:ByteArray}{j:Nat}(J:w.ok)(I:iJ (nAt a b) w.aA.aI4=(j:Int))(C:j<w.aA.aI4.length):gR w a b=some (w.aA.aI4[j],true):=by unfold gR;rw[vH J.aA,qA,I,if_neg jD,aJ C,qA]
theorem aBc{w:M.World}{a:ByteArray}(j:w.ok)(U:M.World.sz w<=1048576):∃R:M.World×Bool,lD w a=some R/\CH w a=some R/\R.1.ok/\(R=(w,false) \/∃k:Nat,∃hk:k<w.aJL.length,R=((⟨w.Now,w.aJV,w.aJA,w.aA,w.aJI,w.aJG,w.aJJ,w.aJD,w.aJL.set k (PA w.aJL[k]).1,w.aJK⟩,(PA w.aJL[k]).2):M.World×Bool)):=by
 have hz':=U
 simp only[M.World.sz]at hz'
 unfold lD CH
 rw[AM w jB,Ce w jB,qA,qA,vC,C4,qA,qA,BU j U,E3 j U,qA,qA]
 cases hn:zO w with
 |false=>exact⟨(w,false),jD,jD,j,.inl rfl⟩
 |true=>
  simp only[qB,qD,if_false]
  by_cases h:Ah a<0
  ·simp only[h,decide_true,if_true];exact⟨(w,false),rfl,rfl,j,.inl rfl⟩
  ·obtain⟨k,e,hk⟩:=JU h
   have C:k<w.aJL.length:=by rw[GN hn];exact hk
   have J:=j.aJL.2 _ (qG C)
   have I:=cN (f:=M.aI7.sz) (qG C)
   simp only[h,decide_false,qD,if_false]
   rw[e,aJ C,qA,qA,Nw J jB,NC J jB,qA,qA,qA,qA,qH]
   have ok:M.World.ok (⟨w.Now,w.aJV,w.aJA,w.aA,w.aJI,w.aJG,w.aJJ,w.aJD,w.aJL.set k (PA w.aJL[k]).1,w.aJK⟩:M.World):=by refine⟨j.Now,j.aJA,j.aA,j.aJI,j.aJG,j.aJJ,j.aJD,⟨by simpa using j.aJL.1,λy I=> ?_⟩,j.aJK⟩;rcases jA I with I|rfl;(exact j.aJL.2 _ I);·exact WE J
   have hq:=Hh (f:=M.aI7.sz) (x:=(PA w.aJL[k]).1) (l:=w.aJL) (i:=k)
   have hr:=WG w.aJL[k]
   refine⟨(⟨w.Now,w.aJV,w.aJA,w.aA,w.aJI,w.aJG,w.aJJ,w.aJD,w.aJL.set k (PA w.aJL[k]).1,w.aJK⟩,(PA w.aJL[k]).2),rfl,?_,ok,.inr ⟨k,C,rfl⟩⟩
   cases hb:(PA w.aJL[k]).2 with
   |true=>simp
   |false=>rw[VC hb,List.set_getElem_self];rfl
theorem YY(x:Int):∃l,bX x fuel 5 ([]:List Int)=some l/\(okB l/\l.length<=6):=by
 have st:∀n (v:Nat) r,r.length<=7->(∀y∈r,0<=y/\y<=255)->v<=5->∃y:Int,(0<=y/\y<=255)/\bX x (n+1) (v:Int) r=bX x n ((v:Int)-1) (r++[y]):=by intro n v r hr hy hv;refine⟨IntKind.u8.wrap (Int.fdiv x (2^(min (i64.wrap (8*(v:Int))).toNat IntKind.i64.bits))),by rw[wrap_u8];omega,?_⟩;simp only[bX];rw[if_pos jD,if_pos (by rw[bN jB jB];simp;omega),dS jC,qA,bN (n:=(v:Int)-1) jB jB]
 have e7:∀n r,bX x (n+1) (-1) r=some r:=by intro n r;simp only[bX];rw[if_neg jE]
 rw[VU]
 obtain⟨x1,j,e1⟩:=st (18446744073709551609+6) 5 [] jD jD jD
 obtain⟨x2,C,e2⟩:=st (18446744073709551609+5) 4 ([]++[x1]) jD (by simpa using j) jD
 obtain⟨x3,I,e3⟩:=st (18446744073709551609+4) 3 ([]++[x1]++[x2]) jD (by simpa using⟨j,C⟩) jD
 obtain⟨x4,J,e4⟩:=st (18446744073709551609+3) 2 ([]++[x1]++[x2]++[x3]) jD (by simpa using⟨j,C,I⟩) jD
 obtain⟨x5,U,e5⟩:=st (18446744073709551609+2) 1 ([]++[x1]++[x2]++[x3]++[x4]) jD (by simpa using⟨j,C,I,J⟩) jD
 obtain⟨x6,b6,e6⟩:=st (18446744073709551609+1) 0 ([]++[x1]++[x2]++[x3]++[x4]++[x5]) jD (by simpa using⟨j,C,I,J,U⟩) jD
 exact⟨_,e1.trans (e2.trans (e3.trans (e4.trans (e5.trans (e6.trans (e7 _ _)))))),⟨by simp[maxLen],by simpa using⟨j,C,I,J,U,b6⟩⟩,jD⟩
theorem W2{t:M.aI7}{f:ByteArray}{v:Int}(h1:t.Name.size<=1048576)(h2:f.size<=1048576):∃l,Ae t f v=some l/\Aj t f v=some l/\(okB l/\l.length<=6):=by unfold Ae Aj;rw[DZ h1,D7 h1,qA,qA,DZ h2,D7 h2,qA,qA,DH jD,DP jD,qA,qA];have hb:=OP (([i64.wrap (1+v)]++[103,DJ 107 t.Name,DJ 109 f])++[i64.wrap (1+v)]);rw[Mt hb.1 hb.2];obtain⟨l,e,j⟩:=YY (HJ (([i64.wrap (1+v)]++[103,DJ 107 t.Name,DJ 109 f])++[i64.wrap (1+v)]));exact⟨l,e,e,j⟩
theorem Jc{s:M.aI7}{v:Int}(j:s.ok):pE s v=some (Gb s v):=by
 unfold pE Gb
 rw[Cv j,qA]
 cases hn:EZ s with
 |false=>simp
 |true=>
  have C:=MC hn
  rw[if_pos rfl,bN (n:=s.aI0-2) jB jB]
  cases decide (v>s.aI0-2)<;>cases decide (v<=s.aI0)<;>simp
theorem NA{s:M.aI7}{f:ByteArray}(j:s.ok):BR s f=some (aA5 s f):=by have C:=le_max j.aJW.1;unfold BR sP nM aA5;rw[findAll (L:=cM s.aJW f) (f:=λx:ByteArray=>x.toList==f.toList) (A:=λi=>some (i:Int)) (E:=some (-1)) j.aJW.1 (λm k hk=> ?_) (λm=> ?_),uH,qA,qA,Ht];(simp only[cM];rw[if_pos (aW hk),aJ hk,qA,bF jB,Bool.beq_comm]);·simp only[cM];rw[if_neg jK]
theorem Sa{s:M.aI7}{f:ByteArray}{v:Int}(j:s.ok)(U:inI v)(zs:M.aI7.sz s<=1048576)(zf:f.size<=1048576):∃r,kB s f v=some r/\xC s f v=some r/\(M.aI8.ok r/\M.aI8.sz r<=6):=by
 have J:s.Name.size<=1048576:=by simp only[M.aI7.sz]at zs;omega
 obtain⟨l,e1,e2,I⟩:=W2 (t:=s) (f:=f) (v:=v) J zf
 unfold kB xC cU kW
 rw[Bu j,Cv j,FR j,Jc j,H2 j,NA j,e1,e2]
 have C:M.aI8.ok (⟨1,404,s.aI0,([]:List Int),false⟩:M.aI8):=⟨by unfold inI;simp,by unfold inI;simp,j.aI0,⟨by simp[maxLen],jD⟩⟩
 simp only[qA]
 cases EZ s
 ·exact⟨_,rfl,rfl,Wi,by simp[M.aI8.sz]⟩
 ·cases Gb s v;(exact⟨_,rfl,rfl,C,by simp[M.aI8.sz]⟩);·cases aA5 s f;(exact⟨_,rfl,rfl,C,by simp[M.aI8.sz]⟩);·exact⟨_,rfl,rfl,⟨by unfold inI;simp,by unfold inI;simp,U,I.1⟩,I.2⟩
def E2(t:M.aI7)(v:Int)(f:ByteArray):M.aI8:=(kB t f v).getD (⟨4,0,0,([]:List Int),false⟩:M.aI8)
theorem served{t:M.aI7}{v:Int}{f:ByteArray}(j:t.ok)(C:inI v)(J:M.aI7.sz t<=1048576)(I:f.size<=1048576):kB t f v=some (E2 t v f)/\xC t f v=some (E2 t v f)/\M.aI8.ok (E2 t v f)/\M.aI8.sz (E2 t v f)<=6:=by
 obtain⟨r,e1,e2,e3,e4⟩:=Sa (f:=f) j C J I
 have e:E2 t v f=r:=by unfold E2;rw[e1];rfl
 rw[e]
 exact⟨e1,e2,e3,e4⟩
def KV(t:M.aI7)(v:Int):List ByteArray->M.aC->Option M.aC
 |[],s=>some s
 |f::j,s=>if(HC s v t.Name f (E2 t v f)).2=true then KV t v j (HC s v t.Name f (E2 t v f)).1 else none
def P7(s:M.aC)(t:M.aI7)(v:Int)(o:Bool):M.aC×Bool:=if(o&&(Gb t v&&(CR s v).2))=true then match KV t v t.aJW (CR s v).1 with|some c=>(c,true)|none=>(s,false)else(s,false)
theorem L1{t:M.aI7}{v:Int}(U:t.ok)(hv:inI v)(J:M.aI7.sz t<=1048576):∀(l:List ByteArray) (s c:M.aC),(∀f∈l,f.size<=1048576)->s.ok->cP s=true->KV t v l s=some c->c.ok/\cP c=true
 |[],s,c,_,I,C,h=>by cases h;exact⟨I,C⟩
 |f::fs,s,c,j,I,C,h=>by simp only[KV]at h;split at h;(rename_i h1;obtain⟨_,_,e3,_⟩:=served (f:=f) U hv J (j f jD);have hf:=j f jD;exact L1 U hv J fs _ c (λg hg=>j g (by simp[hg])) (LS I (by have:=Bn C;omega) (by simp only[M.aI7.sz]at J;unfold maxLen;omega) jJ e3) (IL h1) h);·cases h
theorem Qk{s:M.aC}{t:M.aI7}{v:Int}(hz:M.aC.sz s<=1073741824)(J:t.ok)(U:inI v)(C:M.aI7.sz t<=1048576):∀(n k:Nat) (c:M.aC),t.aJW.length-k<n->k<=t.aJW.length->c.ok->cP c=true->lH s t v n (k:Int) c.aI1=some (match KV t v (t.aJW.drop k) c with|some c=>(c,true)|none=>(s,false))
 |0,k,c,h,_,_,_=>by omega
 |n+1,k,c,h,hk,hc,hn=>by
  have zl:t.aJW.length<=1048576:=by simp only[M.aI7.sz]at C;omega
  simp only[lH]
  rcases Nat.lt_or_ge k t.aJW.length with hlt|hge
  ·have zf:=cN (f:=ByteArray.size) (qG hlt)
   have I:t.aJW[k].size<=1048576:=by simp only[M.aI7.sz]at C;omega
   obtain⟨e1,_,e3,e4⟩:=served (f:=t.aJW[k]) J U C I
   have zc:=Bn hn
   have zn:t.Name.size<=maxLen:=by simp only[M.aI7.sz]at C;unfold maxLen;omega
   have j:t.aJW[k].size<=maxLen:=by unfold maxLen;omega
   rw[if_pos (aW hlt),aJ hlt,qA,e1,qA,DW hc jB zn j e3 jB,qA,qW hlt,KV]
   cases hb:(HC c v t.Name t.aJW[k] (E2 t v t.aJW[k])).2 with
   |false=>rw[if_pos (by rfl),uU s hz,qA];rfl
   |true=>
    rw[if_neg jD,if_pos rfl,bF jB]
    exact Qk hz J U C n (k+1) _ jB jB (LS hc jB zn j e3) (IL hb)
  ·have e:k=t.aJW.length:=by omega
   subst e
   rw[if_neg jK,qZ]
   rfl
theorem RV{s:M.aC}{t:M.aI7}{v:Int}(j:M.aC.sz s<=1073741824)(C:t.aJW.length<=1048576):∀(n k:Nat) (r:List M.aI5),t.aJW.length-k<n->k<=t.aJW.length->dW s t v n false (k:Int) r=some (s,false)
 |0,k,r,h,_=>by omega
 |n+1,k,r,h,hk=>by
  simp only[dW]
  rcases Nat.lt_or_ge k t.aJW.length with hlt|hge
  ·rw[if_pos (aW hlt),aJ hlt,qA,if_neg jD,bF jB];exact RV j C n (k+1) r jB jB
  ·have e:k=t.aJW.length:=by omega
   subst e
   rw[if_neg jK,if_pos (show(!false)=true from rfl),mY s j,qA]
theorem QU{s:M.aC}{t:M.aI7}{v:Int}(hz:M.aC.sz s<=1073741824)(J:t.ok)(U:inI v)(C:M.aI7.sz t<=1048576):∀(n k:Nat) (c:M.aC),t.aJW.length-k<n->k<=t.aJW.length->c.ok->cP c=true->dW s t v n true (k:Int) c.aI1=some (match KV t v (t.aJW.drop k) c with|some c=>(c,true)|none=>(s,false))
 |0,k,c,h,_,_,_=>by omega
 |n+1,k,c,h,hk,hc,hn=>by
  have zl:t.aJW.length<=1048576:=by simp only[M.aI7.sz]at C;omega
  simp only[dW]
  rcases Nat.lt_or_ge k t.aJW.length with hlt|hge
  ·have zf:=cN (f:=ByteArray.size) (qG hlt)
   have I:t.aJW[k].size<=1048576:=by simp only[M.aI7.sz]at C;omega
   obtain⟨_,e2,e3,e4⟩:=served (f:=t.aJW[k]) J U C I
   have zc:=Bn hn
   have zn:t.Name.size<=maxLen:=by simp only[M.aI7.sz]at C;unfold maxLen;omega
   have j:t.aJW[k].size<=maxLen:=by unfold maxLen;omega
   rw[if_pos (aW hlt),aJ hlt,qA,if_pos trivial,e2,qA,HA hc jB zn j e3 jB,qA,qW hlt,KV,bF jB]
   cases hb:(HC c v t.Name t.aJW[k] (E2 t v t.aJW[k])).2 with
   |false=>rw[RV hz zl n (k+1) _ jB jB];rfl
   |true=>
    rw[if_pos rfl]
    exact QU hz J U C n (k+1) _ jB jB (LS hc jB zn j e3) (IL hb)
  ·have e:k=t.aJW.length:=by omega
   subst e
   rw[if_neg jK,if_neg jD,qZ]
   rfl
theorem Ic{s:M.aC}{t:M.aI7}{v:Int}{o:Bool}(I:s.ok)(j:M.aC.sz s<=1073741824)(J:t.ok)(C:inI v)(U:M.aI7.sz t<=1048576):wC s t v o=some (P7 s t v o):=by
 have zl:t.aJW.length<=1048576:=by simp only[M.aI7.sz]at U;omega
 unfold wC P7
 rw[Gq I C j,qA,uU s j,FR J]
 simp only[qA]
 cases hb:(CR s v).2 with
 |false=>simp
 |true=>
  have h:=Qk j J C U fuel 0 (CR s v).1 jI jB (Jn I C j) (Hr hb)
  rw[List.drop_zero]at h
  cases o
  ·simp
  ·cases Gb t v;(simp);·simp only[qB,qD,if_false,Bool.and_self,if_true];exact h
theorem Ir{s:M.aC}{t:M.aI7}{v:Int}{o:Bool}(I:s.ok)(j:M.aC.sz s<=1073741824)(J:t.ok)(C:inI v)(U:M.aI7.sz t<=1048576):vX s t v o=some (P7 s t v o):=by
 have zl:t.aJW.length<=1048576:=by simp only[M.aI7.sz]at U;omega
 unfold vX P7
 rw[LD I C j,qA,mY s j,Jc J]
 simp only[qA]
 cases o
 ·simp
 ·cases Gb t v
  ·simp
  ·simp only[qB,qD,if_false,Bool.true_and]
   cases hb:(CR s v).2 with
   |false=>
    have h:=RV (s:=s) (t:=t) (v:=v) j zl fuel 0 (CR s v).1.aI1 jI jB
    rw[if_neg jD]
    exact h
   |true=>
    have h:=QU j J C U fuel 0 (CR s v).1 jI jB (Jn I C j) (Hr hb)
    rw[List.drop_zero]at h
    rw[if_pos rfl]
    exact h
theorem Uy{s:M.aC}{t:M.aI7}{v:Int}{o:Bool}(C:s.ok)(j:cP s=true)(ht:t.ok)(I:inI v)(J:M.aI7.sz t<=1048576):M.aC.ok (P7 s t v o).1/\cP (P7 s t v o).1=true:=by have zc:=Bn j;unfold P7;split;(rename_i h;rw[qM,qM]at h;split;(rename_i c e;exact L1 ht I J t.aJW _ c (λf U=>by have:=cN (f:=ByteArray.size) U;simp only[M.aI7.sz]at J;omega) (Jn C I jB) (Hr h.2.2) e);·exact⟨C,j⟩);·exact⟨C,j⟩
theorem XO{p:M.aIz}(h:PB p=true):0<=p.aJX:=by
 apply Classical.byContradiction
 intro j
 unfold PB cG at h
 rw[show fuel=(fuel-1)+1 from by unfold fuel;rfl]at h
 simp only[bW]at h
 rw[if_pos jE,show(0:Int)=((0:Nat):Int)from rfl,aJ jD,qA,cH,qA]at h
 have e:inR [p.aJX,p.aJT,p.aJP][0] ((0:Nat):Int) 1000000000000=false:=by
  cases hb:inR [p.aJX,p.aJT,p.aJP][0] ((0:Nat):Int) 1000000000000 with
  |false=>rfl
  |true=>exact absurd (Tv hb).1 j
 rw[e]at h
 simp at h
theorem TP{w:M.World}{j:Nat}(h:zO w=true)(C:j<w.aA.aI4.length):oI w.aA.aI4[j]=true:=by unfold zO at h;simp only[qM]at h;have h1:=h.2.2.2.2.2.2.2.1;unfold oP at h1;rw[qM]at h1;have h2:=qR.1 h1.1 j (qS.2 C);unfold Ej at h2;rw[qF C,qd,qM]at h2;exact h2.1
theorem Rk(w:M.World)(a:ByteArray):∃t,CM w a=some t/\(Ah a<0->t.aI0=0)/\∀(k:Nat) (hk:k<w.aJL.length),Ah a=(k:Int)->t=w.aJL[k]:=by
 unfold CM
 rw[C4,qA]
 by_cases h:Ah a<0
 ·rw[if_pos (by simpa using h)];exact⟨_,rfl,λ_=>rfl,λk hk e=>by omega⟩
 ·rw[if_neg (by simpa using h)]
  by_cases h2:Ah a>=(w.aJL.length:Int)
  ·rw[if_pos (by simpa using h2)];exact⟨_,rfl,λ_=>rfl,λk hk e=>by omega⟩
  ·rw[if_neg (by simpa using h2)]
   obtain⟨k,hk⟩:=Int.eq_ofNat_of_zero_le (show 0<=Ah a by omega)
   have C:k<w.aJL.length:=by omega
   rw[hk,aJ C,qA]
   exact⟨_,rfl,λJ=>by omega,λI j e=>by
    have:k=I:=by omega
    subst this
    rfl⟩
theorem N1{α β R:Type}{xs:List α}{f:α->Bool}{g:α->β}{b:Nat}{E:List β->Option R}{L:Nat->Int->List β->Option R}(J:xs.length<=maxLen)(hb:xs.length*b<=140737488355328)
  (h1:∀n (r:List β) (k:Nat) (hk:k<xs.length),L (n+1) (k:Int) r=if f xs[k]=true then(app b r [g xs[k]]).bind λ_=>L n ((k+1:Nat):Int) (r++[g xs[k]])else L n ((k+1:Nat):Int) r)(h2:∀n r,L (n+1) (xs.length:Int) r=E r):
  L fuel 0 []=E ((xs.filter f).map g):=by
 have key:=NQ (L:=λn k r=>L n k r) (step:=λr x=>if f x=true then r++[g x]else r) (I:=λk r=>r.length<=k) (E:=E) J
  (λs k hk j=>by have C:s.length<=k:=j;split<;>(try simp only[qE,qJ,qK])<;>omega) (λn s k hk j=>by have C:s.length<=k:=j;rw[h1 n s k hk];by_cases h:f xs[k]=true;(rw[if_pos h,if_pos h,dS,qA];simp only[qJ,qK];refine qf (qh b (show s.length+(0+1)<=xs.length by omega)) hb);·rw[if_neg h,if_neg h]) (λn s _=>h2 n s) [] jD
 have e:∀(l:List α) (r:List β),l.foldl (λr x=>if f x=true then r++[g x]else r) r=r++(l.filter f).map g:=by
  intro l
  induction l with
  |nil=>intro r;simp
  |cons x l U=>
   intro r
   rw[List.foldl_cons,U,List.filter_cons]
   split<;>simp
 rw[key.1,e]
 simp
def L3(s:M.aC)(k:Nat):List M.aI5:=s.aI1.take k++s.aI1.drop (k+1)
def ET(s:M.aC)(v:Int):M.aC×Bool:=if iJ (λc:M.aI5=>c.aI0==v) s.aI1<0 then(s,false)else((⟨L3 s (iJ (λc:M.aI5=>c.aI0==v) s.aI1).toNat⟩:M.aC),true)
theorem TG{s:M.aC}{k:Nat}{x:M.aI5}(h:x∈L3 s k):x∈s.aI1:=by unfold L3 at h;rcases qP.1 h with h|h;(exact qi h);·exact qt h
theorem Ob(s:M.aC)(k:Nat):(L3 s k).length<=s.aI1.length:=by unfold L3;simp only[qE,qU,qV];omega
theorem Pp{s:M.aC}{v:Int}(j:s.ok):M.aC.ok (ET s v).1:=by unfold ET;split;(exact j);·exact⟨⟨qf (Ob s _) j.aI1.1,λx C=>j.aI1.2 x (TG C)⟩⟩
theorem Oz(s:M.aC)(v:Int):M.aC.sz (ET s v).1<=M.aC.sz s:=by unfold ET;split;(exact qe _);·have h1:=Ob s (iJ (λc:M.aI5=>c.aI0==v) s.aI1).toNat;have h2:=Wg (f:=M.aI5.sz) (iJ (λc:M.aI5=>c.aI0==v) s.aI1).toNat s.aI1;unfold L3 at h1⊢;simp only[M.aC.sz];omega
theorem Gf{s:M.aC}{v:Int}(C:s.ok)(j:M.aC.sz s<=1073741824):xG s v=some (ET s v):=by
 have I:s.aI1.length<=1073741824:=by simp only[M.aC.sz]at j;omega
 unfold xG ET
 rw[uU s j,qA,DM C,qA]
 by_cases h:iJ (λc:M.aI5=>c.aI0==v) s.aI1<0
 ·rw[if_pos (by simpa using h),if_pos h]
 ·obtain⟨k,e,hk⟩:=dK h;rw[if_neg (by simpa using h),if_neg h,e,Da jB,qA,bF jB,JQ jB,qA,qH,qH,dS (by simp only[qU,qV];omega),qA];rfl
theorem Gk{s:M.aC}{v:Int}(C:s.ok)(j:M.aC.sz s<=1073741824):wX s v=some (ET s v):=by
 have I:s.aI1.length<=1073741824:=by simp only[M.aC.sz]at j;omega
 unfold wX ET
 rw[mY s j,qA,DL C,qA]
 by_cases h:iJ (λc:M.aI5=>c.aI0==v) s.aI1<0
 ·rw[if_pos (by simpa using h),if_pos h]
 ·obtain⟨k,e,hk⟩:=dK h;rw[if_neg (by simpa using h),if_neg h,e,bF jB,YT ⟨jB,jB,jB⟩,qA,qH,qH];rfl
def IV(l:List M.bG)(a:ByteArray):List Int:=(l.filter λx:M.bG=>x.aI7.toList==a.toList).map λx=>x.aI0
theorem Wy(l:List M.bG)(a:ByteArray):(IV l a).length<=l.length:=by unfold IV;rw[List.length_map];exact List.length_filter_le _ _
theorem Io{l:List M.bG}{a:ByteArray}(j:l.length<=1048576):wD l a=some (IV l a):=by unfold wD IV;refine N1 (L:=eQ l a) (b:=8) (E:=some) (f:=λx:M.bG=>x.aI7.toList==a.toList) (g:=λx:M.bG=>x.aI0) jJ jB (λn r k hk=> ?_) (λn r=> ?_);(simp only[eQ];rw[if_pos (aW hk),aJ hk,qA,bF jB]);·simp only[eQ];rw[if_neg jK]
theorem Iu{l:List M.bG}{a:ByteArray}(j:l.length<=1048576):wL l a=some (IV l a):=by unfold wL IV;refine N1 (L:=eR l a) (b:=8) (E:=some) (f:=λx:M.bG=>x.aI7.toList==a.toList) (g:=λx:M.bG=>x.aI0) jJ jB (λn r k hk=> ?_) (λn r=> ?_);(simp only[eR];rw[if_pos (aW hk),aJ hk,qA,bF jB]);·simp only[eR];rw[if_neg jK]
def Zv(r:M.aIz)(l:List Int):Bool:=PB r&&((r.aJT !=0) && !(l.any λx=>x==r.aJX))
theorem IQ{r:M.aIz}{l:List Int}(j:r.ok)(C:l.length<=1048576):xN r l=some (Zv r l):=by unfold xN Zv;rw[findAll (xs:=l) (L:=iO r l) (f:=λx:Int=>x==r.aJX) (A:=λ_=>some false) (E:=(cG r).bind λx=>if x=true then some (r.aJT !=0)else some false) jJ (λm k hk=> ?_) (λm=> ?_),OZ,nN j,qA];(cases l.any (λx:Int=>x==r.aJX)<;>cases PB r<;>simp);(simp only[iO];rw[if_pos (aW hk),aJ hk,qA,bF jB]);·simp only[iO];rw[if_neg jK]
theorem Nx{l:List Int}{v:Int}(j:l.length<=1048576):sJ l v=some (l.any λx=>x==v):=by unfold sJ AX;rw[findAll (xs:=l) (L:=iS l v) (f:=λx:Int=>x==v) (A:=λi=>some (i:Int)) (E:=some (-1)) jJ (λm k hk=> ?_) (λm=> ?_),uH,qA,Ht];(simp only[iS];rw[if_pos (aW hk),aJ hk,qA,bF jB,Bool.beq_comm]);·simp only[iS];rw[if_neg jK]
theorem Jv{r:M.aIz}{l:List Int}(C:r.ok)(j:l.length<=1048576):xT r l=some (Zv r l):=by unfold xT Zv;rw[sK C,qA,Nx j,qA];cases PB r<;>cases (r.aJT !=0)<;>simp
def UI(r:M.aIz)(l:List Int):M.aIz×Int×Bool:=if Zv r l=true then((⟨r.aI7,r.aJP,0,r.aJT⟩:M.aIz),r.aJX,true)else(r,0,false)
theorem M5{r:M.aIz}{l:List Int}(C:r.ok)(j:l.length<=1048576):Bg r l=some (UI r l):=by unfold Bg UI;rw[IQ C j,qA];cases Zv r l<;>simp
theorem MJ{r:M.aIz}{l:List Int}(C:r.ok)(j:l.length<=1048576):Bh r l=some (UI r l):=by unfold Bh UI;rw[Jv C j,qA];cases Zv r l<;>simp
theorem aAI{r:M.aIz}{l:List Int}(j:r.ok):M.aIz.ok (UI r l).1:=by unfold UI;split;(exact⟨j.aI7,j.aJP,by unfold inI;simp,j.aJT⟩);·exact j
theorem ZD(r:M.aIz)(l:List Int):M.aIz.sz (UI r l).1=M.aIz.sz r:=by unfold UI;split<;>rfl
theorem Se{b o:M.aI3}(j:M.aI3.sz b<=1048576)(C:M.aI2.sz o.bR.aJQ<=1048576):M.aI2.sz (LQ b o).1.bR.aJQ<=1048576:=by unfold LQ;split;(split;(exact C);·exact xV j);·exact xV j
def ER(w:M.World)(b:M.aI3)(ok:Bool):M.World×Bool:=if ok=true then if(E6 w.aA b).2=true then({ w with aA:=(E6 w.aA b).1 },true)else(w,false)else(w,false)
theorem Y0{w:M.World}{b:M.aI3}{ok:Bool}(j:w.ok)(hb:b.ok)(C:M.World.sz w<=1048576):M.World.ok (ER w b ok).1:=by have h:=Rc j.aA hb (Dx C);unfold ER;split;(split;(exact⟨j.Now,j.aJA,h,j.aJI,j.aJG,j.aJJ,j.aJD,j.aJL,j.aJK⟩);·exact j);·exact j
theorem Ya(w:M.World)(b:M.aI3)(ok:Bool):M.World.sz (ER w b ok).1<=M.World.sz w+M.aI3.sz b+1:=by have h:=VL w.aA b;unfold ER;split;(split;(simp only[M.World.sz];omega);·show M.World.sz w<=_;omega);·show M.World.sz w<=_;omega
theorem FP{w:M.World}{b:M.aI3}{ok:Bool}(j:w.ok)(hb:b.ok)(C:M.World.sz w<=1048576)(J:M.aI3.sz b<=1073741824)(I:M.aI2.sz b.bR.aJQ<=1048576):Ag w b ok=some (ER w b ok):=by unfold Ag ER;rw[AM w jB,qA,C8 j.aA hb (Dx C) J I,qA];cases ok;(simp);·cases (E6 w.aA b).2<;>simp
theorem Ff{w:M.World}{b:M.aI3}{s:M.aC}{r:M.aIz}(U:w.ok)(hb:b.ok)(I:s.ok)(C:r.ok)(hz:M.World.sz w<=1048576)(j:M.aI3.sz b<=1048576)(zs:(M.aC.sz s+M.aIz.sz r)<=536870912):
  gX w b s r=some (ER w (LQ b (bD b s r)).1 (LQ b (bD b s r)).2):=by
 have J:M.aI2.sz (bD b s r).bR.aJQ<=1048576:=xV (b:=b) j
 have zr:=B1 b s r
 have zc:=Sk b (bD b s r)
 have zd:=Se (o:=bD b s r) j J
 unfold gX ER
 rw[Ce w jB,qA,HI hb I C j zs J,qA,Kw U.aA (RO hb (AK hb I C)) (Dx hz) jB zd,qA]
 cases (LQ b (bD b s r)).2
 ·simp
 ·cases (E6 w.aA (LQ b (bD b s r)).1).2<;>simp
theorem QY{w:M.World}{b:M.aI3}{ok:Bool}(h:(ER w b ok).2=true):ok=true/\(E6 w.aA b).2=true/\(ER w b ok).1={ w with aA:=(E6 w.aA b).1 }:=by
 unfold ER at h⊢
 cases ok with
 |false=>rw[if_neg jD]at h;cases h
 |true=>
  rw[if_pos rfl]at h⊢
  cases hp:(E6 w.aA b).2 with
  |false=>rw[hp,if_neg jD]at h;cases h
  |true=>rw[if_pos rfl];exact⟨rfl,rfl,rfl⟩
theorem X5{w:M.World}{b:M.aI3}{ok:Bool}(h:(ER w b ok).2=false):ER w b ok=(w,false):=by
 unfold ER at h⊢
 cases ok with
 |false=>rfl
 |true=>
  rw[if_pos rfl]at h⊢
  cases hp:(E6 w.aA b).2 with
  |false=>rfl
  |true=>rw[hp,if_pos rfl]at h;cases h
theorem SX{b o:M.aI3}(h:(LQ b o).2=true):(LQ b o).1=o/\oI o=true:=by
 unfold LQ at h⊢
 cases hb:oI b with
 |false=>rw[hb,if_neg jD]at h;cases h
 |true=>
  rw[hb,if_pos rfl]at h
  rw[if_pos rfl]
  cases ho:oI o with
  |false=>rw[ho,if_neg jD]at h;cases h
  |true=>exact⟨by rw[if_pos rfl],rfl⟩
theorem Z2{r:M.aIz}{v:Int}{ok:Bool}(h:(Ct r v).2=true)(hk:ok=true):(UD (Ct r v).1 ok).1.aJT=v/\(UD (Ct r v).1 ok).1.aJP=0:=by
 unfold Ct at h⊢
 split
 ·rename_i hc
  simp only[qM,qL]at hc
  have j:(v==0)=false:=by rw[beq_eq_false_iff_ne];omega
  unfold UD
  dsimp only
  rw[hc.2.2.2,j,if_pos jD,if_pos hk]
  exact⟨rfl,rfl⟩
 ·rename_i hc;rw[if_neg hc]at h;cases h
def aGB(w:M.World)(a b:ByteArray)(R:M.World×Bool):Prop:=zO w=true/\∃(j:Nat) (C:j<w.aA.aI4.length) (k:Nat) (hk:k<w.aJL.length) (s:M.aC) (r:M.aIz),iJ (nAt a b) w.aA.aI4=(j:Int)/\Ah a=(k:Int)/\s.ok/\r.ok/\M.aC.sz s<=65536/\M.aIz.sz r=M.aIz.sz w.aA.aI4[j].aIz/\(R.2=true->r.aJT=w.aJL[k].aI0/\r.aJP=0)/\(E6 w.aA (bD w.aA.aI4[j] s r)).2=true/\R.1={ w with aA:=(E6 w.aA (bD w.aA.aI4[j] s r)).1 }
