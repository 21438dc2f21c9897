/-
  Helper text. No conditions.
-/
import Derived.Test.YtbpbocchokbggaaGreatOpenedPd6
set_option linter.all false
namespace Go.Proofs.YtbpbocchokbggaaGreat.gen
open Go Go.Sh
open Go.IntKind (i64)
theorem Mn{b:List Int}{i h:Int}(c0:okC b i h):Dr b (svI 5) (wI (⟨b,i,h⟩:M.aQ)):=by
 unfold wI
 refine .bnd (F6 jI jI c0) λi0 v0 s0 aa q0=>.bnd (aW aa) λi1 v1 r1 c1 q1=> ?_
 obtain⟨N,rfl⟩:=BW q1.1
 have hN:=q1.2.1 jF
 refine Ca (L:=λn v (s:(M.aHO)×Int×Int)=>mH (⟨b,i,h⟩:M.aQ) n v s.1.aC.Name s.1.aC.aHg s.2.1 s.2.2 s.1.aC.aHF s.1.aO s.1.aHd) (I:=λk s=>k<=100000/\okC b s.2.1 s.2.2/\k<=5/\svI (5-k) s.1) (Q:=Dr b (svI 5)) (λn k s J ih=> ?_) (λn s J=> ?_) fuel N ((⟨s0,([]:List M.aO),([]:List M.bB)⟩:M.aHO),i1,v1) (nJ jF) ⟨jF,c1,⟨jF,q0.1,q0.2.1,⟨jH,jH⟩,jH,jH⟩⟩
 ·obtain⟨x,ci,ch⟩:=s
  obtain⟨U,C,j⟩:=J
  dsimp only at C j
  simp only[mH]
  rw[if_pos (Ts k),KS U]
  obtain⟨j,k3⟩:=j
  refine .bnd (aW C) λi3 v3 r3 c3 q3=> ?_
  dsimp only
  rw[show(⟨(⟨x.aC.Name,x.aC.aHF,x.aC.aHg⟩:M.aC),x.aO,x.aHd⟩:M.aHO)=x from rfl]
  refine .Ha (K8 k3.2.2.1) λv hv=>.bnd (zW c3) λi4 v4 r4 c4 q4=>.bnd (Ba c4) λi5 v5 r5 c5 q5=>.bnd (aW c5) λi6 v6 r6 c6 q6=>.Ha (recv k3 jF (GZ (bJ _) (bJ _) q4.any (qh q5 jF) (bgI (Ws q6)))) λy hy=> ?_
  exact ih (y.1,i6,v6) ⟨jF,c6,jF,hy.mono jF⟩
 ·obtain⟨x,ci,ch⟩:=s;obtain⟨U,C,j⟩:=J;dsimp only at C j;simp only[mH];rw[if_neg KC];exact .ret C (j.2.mono jF)
def rpI(r:M.aE):Prop:=r.aHa.ok/\M.aC.sz r.aHa<=10000/\inI r.aHw/\obI r.aHY.aJ/\inI r.aHY.aHr/\inI r.aHY.aHe
theorem rpI.ok{r:M.aE}(h:rpI r):r.ok:=⟨h.1,h.2.2.1,h.2.2.2.1.ok,h.2.2.2.2.1,h.2.2.2.2.2⟩
theorem rpI.sz{r:M.aE}(h:rpI r):M.aE.sz r<=11000:=by have h1:=h.2.1;have h2:=h.2.2.2.1.sz;simp only[M.aE.sz,M.aHY.sz];omega
theorem Oz:rpI (⟨(⟨(⟨#[]⟩:ByteArray),([]:List M.aHV),0⟩:M.aC),0,(⟨(⟨0,0,([]:List M.bB)⟩:M.aJ),0,0⟩:M.aHY)⟩:M.aE):=⟨⟨s16 jI,⟨by simp[maxLen],jH⟩,xV⟩,jI,xV,P4 xV xV,xV,xV⟩
theorem ZV{n:Nat}{s:M.aHO}{d:Int}(h:svI n s)(hn:n<=900)(I:inI d):∃x,yK s d=some x/\rpI x.1:=by have U:=sH h.2.1;have hc:=h.2.2.2.1;obtain⟨o,C,J,_⟩:=XD I;have j:rpI (⟨s.aC,(List.length s.aHd:Int),(⟨o.1,0,0⟩:M.aHY)⟩:M.aE):=⟨h.1,U,bgI jK,J,xV,xV⟩;unfold yK;rw[C,qA,oN _ jF,qA];cases o.2;(exact⟨_,rfl,Oz⟩);rw[if_neg jH,Cc (h.ok jF),qA];cases F9 s;(exact⟨_,rfl,Oz⟩);rw[if_neg jH,BJ j.ok,qA];cases CX (⟨s.aC,(List.length s.aHd:Int),(⟨o.1,0,0⟩:M.aHY)⟩:M.aE);(exact⟨_,rfl,Oz⟩);·exact⟨_,rfl,j⟩
theorem N9{r:M.aE}{k:M.Key}{f:ByteArray}{n:Int}(h:rpI r)(hk:Of k)(j:f.size<=16)(C:inI n):∃x,mW r k f n=some x/\rpI x.1:=by refine⟨_,JQ h.ok (by have:=h.sz;omega) hk.1 (s16 j) C,?_⟩;unfold nWL;split;(exact⟨h.1,h.2.1,h.2.2.1,Uw h.2.2.2.1 hk j C,h.2.2.2.2.1,h.2.2.2.2.2⟩);·exact h
theorem Y9{l:List M.bB}:∀{s:M.aC},s.ok->iJ s=true->(∀w∈l,M.bB.ok w)->(Ec s l).ok/\iJ (Ec s l)=true:=by
 induction l with
 |nil=>intro s C j _;exact⟨C,j⟩
 |cons w l U=>
  intro s C j I
  have hz:=sH j
  exact U (s:=(Ni s w).1) (K5 C (I w jH) jF).1 (UF j) λy J=>I y (by simp[J])
theorem Yh{n:Nat}{r:M.aE}{s:M.aHO}(h:rpI r)(j:svI n s)(hn:n<=900):∃x,xK r s=some x/\rpI x.1:=by
 have hc:=j.2.2.2.1
 unfold xK
 rw[Eo _ (by have:=h.sz;omega),qA,BJ h.ok,qA]
 cases hR:CX r
 ·exact⟨_,rfl,h⟩
 rw[if_neg jH,Cc (j.ok jF),qA]
 cases F9 s
 ·exact⟨_,rfl,h⟩
 rw[if_neg jH]
 by_cases hgt:r.aHw>(s.aHd.length:Int)
 ·rw[if_pos (by simpa using hgt)];exact⟨_,rfl,h⟩
 rw[if_neg (by simpa using hgt)]
 unfold CX inR at hR
 simp only[qM,qL]at hR
 obtain⟨k,U⟩:=BW hR.2.2.1.1
 rw[U]at hgt⊢
 have hbs:=sH hR.1
 have C:∀w∈List.drop k s.aHd,M.bB.ok w:=λw hw=>(j.2.2.2.2 w (qv hw)).1
 obtain⟨I,J⟩:=Y9 h.1 hR.1 C
 obtain⟨v,ev,hv⟩:=K8 (s:=s) (d:=r.aHY.aJ.aHI) j.2.2.1
 obtain⟨y,ey,y1,_⟩:=UN (q:=v) h.2.2.2.1
 rw[Ho jF,qA,qH,FW h.1 (ml (by rw[qW];omega)) C jF,qA,ev,qA,ey,qA]
 exact⟨_,rfl,I,sH J,bgI jK,y1,h.2.2.2.2.1,h.2.2.2.2.2⟩
theorem ZW{a c:Int}(j:inI a)(hc:inI c):∃r,iC a c=some r/\inI r:=by unfold iC;split;(exact⟨_,rfl,hc⟩);·exact⟨_,rfl,j⟩
theorem aBT{c:Int}:∃r,iC 60 c=some r/\r<=60/\(inI c->inI r):=by unfold iC;split;(rename_i h;exact⟨_,rfl,by have:=of_decide_eq_true h;omega,λh=>h⟩);·exact⟨_,rfl,jF,λ_=>bgI jL⟩
theorem YA{t:Int}(I:t<=60):∃r,iW t=some r:=by
 have key:∀(n k:Nat) (v:Int),100-k<n->k<=99->∃r,rC t n v (k:Int)=some r:=by
  intro n
  induction n with
  |zero=>intro k v h _;omega
  |succ n j=>
   intro k v C hk
   simp only[rC]
   split
   ·rename_i h;have:=of_decide_eq_true h;split;(rw[bD jF];exact j (k+1) _ jF jF);·exact⟨_,rfl⟩
   ·exact⟨_,rfl⟩
 exact key fuel 0 1 (nJ jF) jF
def Op'{α:Type}(P:α->Prop)(o:Option α):Prop:=∃r,o=some r/\P r
theorem Op'.bnd{α β:Type}{P:β->Prop}{Q:α->Prop}{o:Option α}{f:α->Option β}(C:∃r,o=some r/\Q r)(j:∀r,Q r->Op' P (f r)):Op' P (o.bind f):=by obtain⟨r,rfl,I⟩:=C;exact j r I
def syI(n:Nat)(x:M.aHY×M.aHO×Int):Prop:=obI x.1.aJ/\inI x.1.aHr/\inI x.1.aHe/\svI n x.2.1
theorem Zh{n:Nat}{y:M.aHY}{s:M.aHO}{now fate:Int}(U:obI y.aJ)(ht:inI y.aHr)(hw:inI y.aHe)(J:svI n s)(hn:n<=800):Op' (syI (n+2)) (AQ y s now fate):=by
 have hs1:=J.mono (Nat.le_succ n)
 have hs2:=J.mono (show n<=n+2 by omega)
 have hz:=U.sz
 have j:∀{q:Int},∃x,cW y.aJ q=some x/\obI x.1:=λ{q}=>by obtain⟨x,e,h,_⟩:=UN (q:=q) U;exact⟨x,e,h⟩
 have fail:∀{x:M.aHO} {f:Int->Option (M.aHY×M.aHO×Int)},svI (n+2) x->(f=λae=>(iC 60 (i64.wrap (ae+1))).bind λaa=>(iW aa).bind λaf=>some ((⟨y.aJ,aa,i64.wrap (now+af)⟩:M.aHY),x,2))->Op' (syI (n+2)) ((iC 59 y.aHr).bind f):=by
  intro x f hx hf
  subst hf
  refine .bnd (ZW (bgI jL) ht) λt1 h1=>.bnd aBT λt2 h2=> ?_
  obtain⟨r,er⟩:=YA h2.1
  rw[er,qA]
  exact⟨_,rfl,U,h2.2 (bJ _),bJ _,hx⟩
 unfold AQ xO Bc
 rw[CU _ jF,qA,qA,Uc J jF,sE U.ok]
 have same:syI (n+2) (y,s,0):=⟨U,ht,hw,hs2⟩
 cases hW:y.aJ.aHW with
 |nil=>exact⟨_,rfl,same⟩
 |cons w ws=>
  have I:wsm w:=U.2.2.2 w (by rw[hW];simp)
  rw[if_neg jG,show idx (w::ws) 0=some w from rfl]
  simp only[qA]
  rw[if_neg jH]
  cases uC y.aJ
  ·exact⟨_,rfl,same⟩
  rw[if_neg jH]
  split
  ·exact⟨_,rfl,same⟩
  rw[cK,qA]
  split
  ·exact⟨_,rfl,same⟩
  have good:∀{x:M.aHY×M.aHO×Int},obI x.1.aJ->inI x.1.aHr->inI x.1.aHe->svI (n+2) x.2.1->Op' (syI (n+2)) (some x):=λa1 a2 a3 a4=>⟨_,rfl,a1,a2,a3,a4⟩
  have two:∀{a:M.aHO} {c:Int},svI (n+1) a->svI (n+2) a:=λh=>h.mono jF
  split
  ·refine .bnd (recv J jF I) λx1 h1=> ?_
   split
   ·refine .bnd (recv h1 jF I) λx2 h2=> ?_
    split
    ·exact .bnd j λq C=>good C xV xV h2
    split
    ·exact .bnd j λq C=>good C xV xV h2
    ·exact fail h2 rfl
   ·split;(exact .bnd j λq C=>good C xV xV (h1.mono jF));split;(exact .bnd j λq C=>good C xV xV (h1.mono jF));·exact fail (h1.mono jF) rfl
  split
  ·refine .bnd (recv J jF I) λx1 h1=> ?_
   split
   ·refine .bnd (recv h1 jF I) λx2 h2=> ?_
    split
    ·exact .bnd j λq C=>good C xV xV h2
    split
    ·exact .bnd j λq C=>good C xV xV h2
    ·exact fail h2 rfl
   ·exact fail (h1.mono jF) rfl
  split
  ·refine .bnd (recv J jF I) λx1 h1=>.bnd (recv h1 jF I) λx2 h2=> ?_
   split
   ·exact .bnd j λq C=>good C xV xV h2
   split
   ·exact .bnd j λq C=>good C xV xV h2
   ·exact fail h2 rfl
  ·exact fail hs2 rfl
def prI(n:Nat)(x:M.aE×M.aHO):Prop:=rpI x.1/\svI n x.2
theorem VA{b:List Int}{i h:Int}(c0:okC b i h):Dr b (prI 20) (BI (⟨b,i,h⟩:M.aQ)):=by
 unfold BI
 refine .bnd (Mn c0) λi0 v0 s0 aa q0=>.Ha (ZV q0 jF (bgI jL)) λr0 h0=>.bnd (aW aa) λi1 v1 r1 c1 q1=> ?_
 obtain⟨N,rfl⟩:=BW q1.1
 have hN:=q1.2.1 jF
 refine Ca (L:=λn v (s:(M.aE×M.aHO)×Int×Int)=>fL (⟨b,i,h⟩:M.aQ) n v s.1.1.aHa.Name s.1.1.aHa.aHg s.1.1.aHw s.1.1.aHY.aJ.aHI s.1.1.aHY.aJ.aHj s.1.1.aHY.aHr s.1.1.aHY.aHe s.2.1 s.2.2 s.1.2.aC.Name s.1.2.aC.aHg s.1.1.aHa.aHF s.1.1.aHY.aJ.aHW s.1.2.aC.aHF s.1.2.aO s.1.2.aHd) (I:=λk s=>k<=100000/\okC b s.2.1 s.2.2/\k<=5/\prI (15-2*k) s.1) (Q:=Dr b (prI 20)) (λn k s hi ih=> ?_) (λn s hi=> ?_) fuel N ((r0.1,s0),i1,v1) (nJ jF) ⟨jF,c1,⟨jF,h0,q0.mono jF⟩⟩
 ·obtain⟨x,ci,ch⟩:=s
  obtain⟨k0,k1,U⟩:=hi
  dsimp only at k1 U
  simp only[fL]
  rw[if_pos (Ts k),KS k0]
  obtain⟨U,C,k4⟩:=U
  rw[show(⟨(⟨x.1.aHa.Name,x.1.aHa.aHF,x.1.aHa.aHg⟩:M.aC),x.1.aHw,(⟨(⟨x.1.aHY.aJ.aHI,x.1.aHY.aJ.aHj,x.1.aHY.aJ.aHW⟩:M.aJ),x.1.aHY.aHr,x.1.aHY.aHe⟩:M.aHY)⟩:M.aE)=x.1 from rfl,show(⟨(⟨x.2.aC.Name,x.2.aC.aHF,x.2.aC.aHg⟩:M.aC),x.2.aO,x.2.aHd⟩:M.aHO)=x.2 from rfl]
  refine .bnd (aW k1) λi3 v3 r3 c3 q3=> ?_
  dsimp only
  split
  ·refine .bnd (zW c3) λi4 v4 r4 J q4=>.bnd (Ba J) λi5 v5 r5 c5 q5=>.bnd (aW c5) λi6 v6 r6 c6 q6=>.Ha (N9 C q4.any (qh q5 jF) (bgI (Ws q6))) λy j=> ?_
   exact ih ((y.1,x.2),i6,v6) ⟨jF,c6,jF,j,k4.mono jF⟩
  split
  ·refine .bnd (zW c3) λi4 v4 r4 J q4=>.bnd (Ba J) λi5 v5 r5 c5 q5=>.bnd (aW c5) λi6 v6 r6 c6 q6=>.Ha (N9 C q4.any (qh q5 jF) (bgI (Ws q6))) λy j=> ?_
   exact ih ((y.1,x.2),i6,v6) ⟨jF,c6,jF,j,k4.mono jF⟩
  split
  ·refine .bnd (aW c3) λi4 v4 r4 J q4=>.Ha (Zh (y:=x.1.aHY) C.2.2.2.1 C.2.2.2.2.1 C.2.2.2.2.2 k4 jF) λy j=> ?_
   exact ih (((⟨x.1.aHa,x.1.aHw,y.1⟩:M.aE),y.2.1),i4,v4) ⟨jF,J,jF,⟨C.1,C.2.1,C.2.2.1,j.1,j.2.1,j.2.2.1⟩,j.2.2.2.mono jF⟩
  split
  ·refine .bnd (aW c3) λi4 v4 r4 J q4=>.Ha (K8 k4.2.2.1) λv hv=>.bnd (zW J) λi5 v5 r5 c5 q5=>.bnd (Ba c5) λi6 v6 r6 c6 q6=>.bnd (aW c6) λi7 v7 r7 c7 q7=>.Ha (recv k4 jF (GZ (bJ _) (bJ _) q5.any (qh q6 jF) (bgI (Ws q7)))) λy j=> ?_
   exact ih ((x.1,y.1),i7,v7) ⟨jF,c7,jF,C,j.mono jF⟩
  ·refine .Ha (Yh C k4 jF) λy j=> ?_
   exact ih ((y.1,x.2),i3,v3) ⟨jF,c3,jF,j,k4.mono jF⟩
 ·obtain⟨x,ci,ch⟩:=s;obtain⟨k0,k1,U⟩:=hi;dsimp only at k1 U;simp only[fL];rw[if_neg KC];exact .ret k1 ⟨U.2.1,U.2.2.mono jF⟩
def V9(r:M.aE):Prop:=r.ok/\M.aE.sz r<=25000
theorem rpI.all{r:M.aE}(h:rpI r):V9 r:=⟨h.ok,by have:=h.sz;omega⟩
theorem V7{b:List Int}{i h:Int}(c0:okC b i h):Dr b V9 (Ch (⟨b,i,h⟩:M.aQ)):=by
 unfold Ch
 refine .bnd (VA c0) λi1 v1 r1 c1 q1=>.bnd (aW c1) λi2 v2 r2 J q2=> ?_
 dsimp only
 have j:=q1.1
 have hz:=j.2.2.2.1.sz
 have hz1:=j.2.1
 split
 ·refine .bnd (U0 J) λi3 v3 U I C=>.ret I ⟨⟨C.1,j.2.2.1,j.ok.aHY⟩,?_⟩
  have:=C.2
  simp only[M.aE.sz,M.aHY.sz]
  omega
 split
 ·refine .bnd (uE (λx=> -1000000000000000<=x/\x<=1000000000000000) jI jI J) λi3 v3 U I C=>.ret I ⟨⟨j.1,bgI C,j.ok.aHY⟩,?_⟩
  simp only[M.aE.sz,M.aHY.sz]
  omega
 split
 ·refine .bnd (WB J) λi3 v3 U I C=>.ret I ⟨⟨j.1,j.2.2.1,⟨C.ok,j.2.2.2.2.1,j.2.2.2.2.2⟩⟩,?_⟩
  have:=C.sz
  simp only[M.aE.sz,M.aHY.sz]
  omega
 ·exact .ret J j.all
def nbI(x:M.aHD):Prop:=x.aHL.size<=16/\x.Top.size<=16/\(M.aG9.ok x.aG9/\x.aG9.aHL.size<=16)/\Dn x.aHC/\(x.bP.ok/\M.bP.sz x.bP<=1000)/\rpI x.aE/\inI x.aHk
theorem NO:Tw (⟨(⟨#[110,111,116,101,115]⟩:ByteArray),([]:List M.aHV),0⟩:M.aC):=XO jI jI
theorem aAN{a t:ByteArray}{d:Int}(j:a.size<=16)(I:t.size<=16)(C:inI d):∃x,tB a t d=some x/\nbI x.1:=by refine⟨_,FD (s16 j) (s16 I) C,?_⟩;have J:nbI sQ:=⟨jI,jI,⟨⟨s16 jI,xV,xV,xV⟩,jI⟩,Vi,⟨(Lh).bP,jI⟩,Oz,xV⟩;unfold CN;split;(split;(have ok:=K2 (s16 j) (s16 I) C;exact⟨j,I,⟨ok.aG9,j⟩,Vi,⟨ok.bP,by show M.bP.sz (DZ (⟨#[]⟩:ByteArray) (⟨#[]⟩:ByteArray) 0).bP<=1000;decide⟩,⟨NO.1,sH NO.2.1,xV,P4 C RE,xV,xV⟩,xV⟩);·exact J);·exact J
def bkI(x:M.aHD):Prop:=x.aHL.size<=16/\x.Top.size<=16/\(M.aG9.ok x.aG9/\x.aG9.aHL.size<=16)/\OK x.aHC/\Re x.bP/\V9 x.aE/\inI x.aHk
theorem bkI.ok{x:M.aHD}(h:bkI x):x.ok:=⟨s16 h.1,s16 h.2.1,h.2.2.1.1,h.2.2.2.1.1,h.2.2.2.2.1.1,h.2.2.2.2.2.1.1,h.2.2.2.2.2.2⟩
theorem bkI.sz{x:M.aHD}(h:bkI x):M.aHD.sz x<=180000:=by obtain⟨h1,h2,⟨_,h3⟩,⟨_,h4⟩,⟨_,h5⟩,⟨_,h6⟩,_⟩:=h;simp only[M.aHD.sz,M.aG9.sz];omega
def Rz(k:M.bP):Prop:=k.ok/\M.bP.sz k<=20000
def bkS(x:M.aHD):Prop:=x.aHL.size<=16/\x.Top.size<=16/\(M.aG9.ok x.aG9/\x.aG9.aHL.size<=16)/\OK x.aHC/\Rz x.bP/\V9 x.aE/\inI x.aHk
theorem Rz.all{k:M.bP}(h:Rz k):Re k:=⟨h.1,by have:=h.2;omega⟩
theorem bkS.all{x:M.aHD}(h:bkS x):bkI x:=⟨h.1,h.2.1,h.2.2.1,h.2.2.2.1,h.2.2.2.2.1.all,h.2.2.2.2.2⟩
theorem aBm{b:List Int}{i h:Int}{X:M.aHD×Bool}{kd:M.bP}{N:Nat}{i1 v1:Int}(hX:nbI X.1)(hk:Rz kd)(hN:N<=10)(c1:okC b i1 v1):Dr b bkS (gD (⟨b,i,h⟩:M.aQ) X kd.aHa.Name kd.aHa.aHA kd.aHs kd.aHa.aHP kd.aHa.aHX kd.Log fuel (N:Int) X.1.aE.aHa.Name X.1.aE.aHa.aHg X.1.aE.aHw X.1.aE.aHY.aJ.aHI X.1.aE.aHY.aJ.aHj X.1.aE.aHY.aHr X.1.aE.aHY.aHe i1 v1 X.1.aE.aHa.aHF X.1.aE.aHY.aJ.aHW):=by
 obtain⟨h1,h2,h3,h4,h5,h6,h7⟩:=hX
 refine Ca (L:=λn v (s:(M.aE)×Int×Int)=>gD (⟨b,i,h⟩:M.aQ) X kd.aHa.Name kd.aHa.aHA kd.aHs kd.aHa.aHP kd.aHa.aHX kd.Log n v s.1.aHa.Name s.1.aHa.aHg s.1.aHw s.1.aHY.aJ.aHI s.1.aHY.aJ.aHj s.1.aHY.aHr s.1.aHY.aHe s.2.1 s.2.2 s.1.aHa.aHF s.1.aHY.aJ.aHW) (I:=λk s=>k<=100000/\okC b s.2.1 s.2.2/\rpI s.1) (Q:=Dr b bkS) (λn k s hi ih=> ?_) (λn s hi=> ?_) fuel N (X.1.aE,i1,v1) (nJ jF) ⟨jF,c1,h6⟩
 ·obtain⟨x,ci,ch⟩:=s
  obtain⟨k0,U,j⟩:=hi
  dsimp only at U j
  simp only[gD]
  rw[if_pos (Ts k),KS k0]
  refine .bnd (zW U) λi3 v3 r3 c3 q3=>.bnd (Ba c3) λi4 v4 r4 c4 q4=>.bnd (aW c4) λi5 v5 r5 C q5=>.Ha (N9 (r:=x) j q3.any (qh q4 jF) (bgI (Ws q5))) λy hy=> ?_
  exact ih (y.1,i5,v5) ⟨jF,C,hy⟩
 ·obtain⟨x,ci,ch⟩:=s
  obtain⟨k0,U,j⟩:=hi
  dsimp only at U j
  simp only[gD]
  rw[if_neg KC]
  have J:=hk
  have hl:∀{r:Int},(0<=r/\(0<(50:Int)->r<50)/\r<=16777215)->inI r:=λq=>bgI ⟨jF,jF⟩
  refine .bnd (Ay U) λi3 v3 r3 c3 q3=> ?_
  dsimp only
  split
  ·refine .bnd (aW c3) λi4 v4 r4 c4 q4=>.Ha (N2 h4 (bJ _)) λy hy=>.bnd (aW c4) λi5 v5 r5 C q5=>.bnd (Ay C) λi6 v6 r6 c6 q6=>.ret c6 ⟨h1,h2,⟨⟨h3.1.aHL,h3.1.aHf,h3.1.aHm,bJ _⟩,h3.2⟩,hy.all,J,j.all,hl q5⟩
  ·exact .bnd (aW c3) λi5 v5 r5 C q5=>.bnd (Ay C) λi6 v6 r6 c6 q6=>.ret c6 ⟨h1,h2,h3,h4.all,J,j.all,hl q5⟩
theorem aBY{b:List Int}{i h:Int}{X:M.aHD×Bool}{N:Nat}{i1 v1:Int}(hX:nbI X.1)(hN:N<=4)(c1:okC b i1 v1):Dr b bkS (gG (⟨b,i,h⟩:M.aQ) X fuel (N:Int) X.1.bP.aHa.Name X.1.bP.aHa.aHA X.1.bP.aHs i1 v1 X.1.bP.aHa.aHP X.1.bP.aHa.aHX X.1.bP.Log):=by
 have h5:=hX.2.2.2.2.1
 refine Ca (L:=λn v (s:(M.bP)×Int×Int)=>gG (⟨b,i,h⟩:M.aQ) X n v s.1.aHa.Name s.1.aHa.aHA s.1.aHs s.2.1 s.2.2 s.1.aHa.aHP s.1.aHa.aHX s.1.Log) (I:=λk s=>k<=100000/\okC b s.2.1 s.2.2/\s.1.ok/\M.bP.sz s.1+4000*k<=20000) (Q:=Dr b bkS) (λn k s hi ih=> ?_) (λn s hi=> ?_) fuel N (X.1.bP,i1,v1) (nJ jF) ⟨jF,c1,⟨h5.1,by have:=h5.2;dsimp only;omega⟩⟩
 ·obtain⟨x,ci,ch⟩:=s
  obtain⟨k0,C,j⟩:=hi
  dsimp only at C j
  simp only[gG]
  rw[if_pos (Ts k),KS k0]
  refine .bnd (zW C) λi3 v3 r3 U J=>.bnd (DG U) λi4 v4 r4 c4 q4=>.Ha (P5 (k:=x) (n:=M.bP.sz x) j.1 (qg _) (by have:=j.2;omega) jH (by simp only[qq,qO,or_false];rintro o rfl;exact⟨RE,s16 (s:=(⟨#[110,111,116,101,115]⟩:ByteArray)) jI,J.any.1,q4.1,s16 (s:=(⟨#[]⟩:ByteArray)) jI⟩)) λy hy=> ?_
  exact ih (y.1,i4,v4) ⟨jF,c4,hy.1,by have:=hy.2;have:=j.2;dsimp only;omega⟩
 ·obtain⟨x,ci,ch⟩:=s
  obtain⟨k0,C,j⟩:=hi
  dsimp only at C j
  simp only[gG]
  rw[if_neg KC]
  refine .bnd (aW C) λi3 v3 r3 U J=> ?_
  obtain⟨M,rfl⟩:=BW J.1
  have hM:=J.2.1 jF
  exact aBm hX (kd:=x) ⟨j.1,by have:=j.2;omega⟩ jF U
theorem Lm{b:List Int}{i h:Int}(J:okC b i h):Dr b bkS (wN (⟨b,i,h⟩:M.aQ)):=by
 unfold wN
 refine .bnd (H4 J) λi1 v1 r1 U C=>.Ha (aAL U C) λy j=>.bnd (aW j.2) λi4 v4 r4 c4 q4=>.Ha (aAN (qh C jF) (qh j.1 jF) (bJ _)) λx hx=>.bnd (aW c4) λi5 v5 r5 c5 I=> ?_
 obtain⟨N,rfl⟩:=BW I.1
 have hN:=I.2.1 jF
 exact aBY hx jF c5
theorem W2{b:List Int}{i h:Int}(c0:okC b i h):Dr b bkI (Cp (⟨b,i,h⟩:M.aQ)):=by
 unfold Cp
 refine .bnd (Lm c0) λi1 v1 r1 c1 q1=>.bnd (aW c1) λi2 v2 r2 J q2=> ?_
 have q0:=q1.all
 obtain⟨h1,h2,h3,h4,h5,h6,h7⟩:=q1
 have C:=h5.all
 dsimp only
 split
 ·exact .bnd (BT (λs=>s.size<=16) jI jI J) λi3 v3 r3 j I=>.ret j ⟨I,h2,h3,h4,C,h6,h7⟩
 split
 ·exact .bnd (Wh J) λi3 v3 r3 j I=>.ret j ⟨h1,h2,h3,I,C,h6,h7⟩
 split
 ·exact .bnd (Xr J) λi3 v3 r3 j I=>.ret j ⟨h1,h2,h3,h4,I,h6,h7⟩
 split
 ·exact .bnd (V7 J) λi3 v3 r3 j I=>.ret j ⟨h1,h2,h3,h4,C,I,h7⟩
 split
 ·exact .bnd (uE (λx=> -1000000000000000<=x/\x<=1000000000000000) jI jI J) λi3 v3 r3 j I=>.ret j ⟨h1,h2,h3,h4,C,h6,bgI I⟩
 split
 ·have hz:=h5.2
  simp only[M.bP.sz]at hz
  have key:∀(n:Nat) (l:List Int),100000<n+l.length->okB l->l.length<=20000->Dr b bkI (pE (i1,v1,r1) (i2,v2,r2) n l):=by
   intro n
   induction n with
   |zero=>intro l h _ hz2;exact absurd h jF
   |succ n ih=>
    intro l hn hl hz2
    have e1:(l++[(0:Int)]).length=l.length+1:=by rw[qE];rfl
    simp only[pE]
    by_cases h6':(l.length:Int)<2600
    ·have h7':l.length<2600:=by omega
     rw[if_pos (decide_eq_true h6'),BF (by show l.length+1<=_;omega) jF,qA]
     refine ih (l++[0]) jF ⟨ml jF,λx U=> ?_⟩ jF
     rcases qP.1 U with U|U
     ·exact hl.2 x U
     ·rw[qQ.1 U];exact⟨Int.le_refl _,jI⟩
    ·rw[if_neg (by rw[decide_eq_false h6'];exact Bool.false_ne_true)];exact .ret J ⟨h1,h2,h3,h4,⟨⟨h5.1.aHa,hl,h5.1.aHs⟩,by show M.aHB.sz r1.bP.aHa+l.length<=80000;omega⟩,h6,h7⟩
  exact key fuel r1.bP.Log (qw (nJ (k:=100000) jF) (Nat.le_add_right _ _)) h5.1.Log jF
 ·exact .ret J q0
theorem jn{α β:Type}{o:Option α}{v:α}{f:α->Option β}{r:Option β}(h1:o=some v)(h2:f v=r):o.bind f=r:=by rw[h1];exact h2
theorem pJ{α:Type}{f:α->α->Bool}(j:∀x,f x x=true):∀l:List α,eqL f l l=true
 |[]=>rfl
 |x::l=>by simp only[eqL,j x,pJ j l,Bool.and_self]
theorem MZ(x:M.aHH):Gf x x=true:=by simp[Gf,pJ (f:=B7) (λx=>by simp[B7])]
theorem MX(x:M.aF):Ik x x=true:=pJ (λc=>by simp[Po,pJ (f:=I6) (λy=>by simp[I6,MZ])]) _
theorem O3(x:M.aD):NI x x=true:=pJ (λy=>by simp[K9]) _
theorem HL(x:M.aC):Ii x x=true:=by simp[Ii,aAf,pJ (f:=Ti) (λy=>by simp[Ti,aAf,O3])]
theorem Ms(x:M.aHB):FZ x x=true:=by simp[FZ,pJ (f:=Ii) HL,pJ (f:=DW) (λy=>by simp[DW])]
theorem SZ(x:M.bP):UM x x=true:=by simp[UM,Ms,pJ (f:=B7) (λx=>by simp[B7])]
theorem PB(x:M.aJ):L0 x x=true:=by simp[L0,pJ (f:=D9) (λy=>by simp[D9])]
theorem NG(x:M.aE):IG x x=true:=by simp[IG,WW,HL,PB]
theorem Px(x:M.aHD):JP x x=true:=by simp[JP,aBh,MX,SZ,NG]
theorem FF(x:List M.Instr)(j:x.length<=1073741824):wK x=some x:=by unfold wK;rw[FG j jF,qA]
theorem Mt(x:M.aHJ)(j:M.aHJ.sz x<=1073741824):Bx x=some x:=by simp only[M.aHJ.sz]at j;unfold Bx;rw[FF _ jF,qA,FG jF jF,qA]
theorem G6(x:M.bC)(j:M.bC.sz x<=1073741824):nN x=some x:=by simp only[M.bC.sz]at j;unfold nN;rw[FG jF jF,qA,Mt _ jF,qA]
theorem G9(x:M.aM)(j:M.aM.sz x<=1073741824):xT x=some x:=by simp only[M.aM.sz]at j;unfold xT;rw[FG jF jF,qA]
theorem MO(x:M.aHN)(j:M.aHN.sz x<=1073741824):As x=some x:=by simp only[M.aHN.sz]at j;unfold As;rw[FG jF jF,qA]
theorem ME(x:M.aHL)(j:M.aHL.sz x<=1073741824):BA x=some x:=by simp only[M.aHL.sz]at j;unfold BA;rw[FG jF jF,qA]
theorem MA(x:M.aHO)(j:M.aHO.sz x<=1073741824):gQ x=some x:=by simp only[M.aHO.sz]at j;unfold gQ;rw[oN _ jF,qA,FG jF jF,qA,FG jF jF,qA]
theorem H8(x:M.aHJ)(j:M.aHJ.sz x<=1073741824):xC x=some x:=by simp only[M.aHJ.sz]at j;unfold xC;rw[FG jF jF,qA,FG jF jF,qA]
theorem DT(x:M.bC)(j:M.bC.sz x<=1073741824):iR x=some x:=by simp only[M.bC.sz]at j;unfold iR;rw[FG jF jF,qA,H8 _ jF,qA]
theorem Dl(x:M.aM)(j:M.aM.sz x<=1073741824):tC x=some x:=by simp only[M.aM.sz]at j;unfold tC;rw[FG jF jF,qA]
theorem D8(x:M.aHN)(j:M.aHN.sz x<=1073741824):sU x=some x:=by simp only[M.aHN.sz]at j;unfold sU;rw[FG jF jF,qA]
theorem L7(x:M.aHL)(j:M.aHL.sz x<=1073741824):AU x=some x:=by simp only[M.aHL.sz]at j;unfold AU;rw[FG jF jF,qA]
theorem J1(x:M.aHO)(j:M.aHO.sz x<=1073741824):yP x=some x:=by simp only[M.aHO.sz]at j;unfold yP;rw[Di _ jF,qA,FG jF jF,qA,FG jF jF,qA]
theorem aAq{α β:Type}(c:Bool)(x y:Option α)(f:α->Option β):(if c=true then x else y).bind f=if c=true then x.bind f else y.bind f:=by split<;>rfl
theorem aEH(n:Int):inR n 0 0=(n==0):=by unfold inR;rw[Bool.eq_iff_iff];simp only[qM,qL,beq_iff_eq];omega
theorem S5{k:Int}(h:inR k 1 9=true):k=1\/k=2\/k=3\/k=4\/k=5\/k=6\/k=7\/k=8\/k=9:=by unfold inR at h;simp only[qM,qL]at h;omega
theorem Nl{k r n m:Int}{t:ByteArray}(j:t.size<=maxLen):∃b,Ak (⟨k,r,n,t⟩:M.Instr) m=some b/\xM (⟨k,r,n,t⟩:M.Instr) m=some b:=by
 unfold Ak xM
 simp only[cK,bU,dB j,dJ j,qA,aEH]
 generalize inR r 0 3=a1
 generalize (r !=0)=a2
 generalize nY t=a3
 generalize (t.toList==(⟨#[]⟩:ByteArray).toList)=a4
 cases hk:inR k 1 9 with
 |false=>exact⟨false,by simp only[aAq,qA,qC,if_true,ite_self],by simp only[aAq,qA,qC,if_true,ite_self]⟩
 |true=>
  rcases S5 hk with rfl|rfl|rfl|rfl|rfl|rfl|rfl|rfl|rfl
  all_goals clear hk
  all_goals simp+decide only[qA,aAq,if_true,if_false,qB,qC,aEH,show inR 1 6 8=false from rfl,show inR 2 6 8=false from rfl,show inR 3 6 8=false from rfl,show inR 4 6 8=false from rfl,show inR 6 6 8=true from rfl,show inR 7 6 8=true from rfl,show inR 8 6 8=true from rfl,show inR 9 6 8=false from rfl]
  all_goals (try generalize inR n 0 1000=b1)
  all_goals (try generalize inR n 0 3=b2)
  all_goals (try generalize inR n 0 m=b3)
  all_goals (try generalize inR n 0 100=b4)
  all_goals (try generalize (n==0)=b5)
  all_goals (try clear a1)
  all_goals (try clear a2)
  all_goals (try clear a3)
  all_goals (try clear a4)
  all_goals (try clear b1)
  all_goals (try clear b2)
  all_goals (try clear b3)
  all_goals (try clear b4)
  all_goals (try clear b5)
  all_goals (try cases a1)
  all_goals (try cases a2)
  all_goals (try cases a3)
  all_goals (try cases a4)
  all_goals (try cases b1)
  all_goals (try cases b2)
  all_goals (try cases b3)
  all_goals (try cases b4)
  all_goals (try cases b5)
  all_goals first|exact⟨true,rfl,rfl⟩|exact⟨false,rfl,rfl⟩
def Qf(x:M.Instr)(m:Int):Bool:=(xM x m).getD false
theorem Mu{x:M.Instr}{m:Int}(j:x.ok):Ak x m=some (Qf x m):=by obtain⟨k,r,n,t⟩:=x;obtain⟨b,e1,e2⟩:=Nl (k:=k) (r:=r) (n:=n) (m:=m) j.aHi;unfold Qf;rw[e1,e2];rfl
theorem MM{x:M.Instr}{m:Int}(j:x.ok):xM x m=some (Qf x m):=by obtain⟨k,r,n,t⟩:=x;obtain⟨b,e1,e2⟩:=Nl (k:=k) (r:=r) (n:=n) (m:=m) j.aHi;unfold Qf;rw[e2];rfl
def IA(l:List M.Instr)(k:Nat):Bool:=(l[k]?).any λx=>Qf x (List.length l:Int)
def HG(l:List M.Instr):Bool:=(List.range l.length).all (IA l)&&decide ((List.length l:Int)<=16)
def BL(l:List M.Instr):Prop:=l.length<=maxLen/\∀x∈l,M.Instr.ok x
theorem Mc{l:List M.Instr}(j:BL l):AY l=some (HG l):=by have C:=le_max j.1;unfold AY HG;rw[oZ (L:=oD l) (g:=IA l) (F:=some false) (E:=some (decide ((List.length l:Int)<=16))) j.1 (λn k hk=> ?_) (λn=> ?_),bA];(simp only[oD];rw[if_pos (aY hk),aK hk,qA,bD jF,Mu (j.2 _ (qG hk)),qA];unfold IA;rw[qF hk,qf];simp only[fR]);·simp only[oD];rw[if_neg jO]
theorem Ld{l:List M.Instr}(j:BL l):AR l=some (HG l):=by have C:=le_max j.1;unfold AR HG;rw[oZ (L:=oJ l) (g:=IA l) (F:=some false) (E:=some (decide ((List.length l:Int)<=16))) j.1 (λn k hk=> ?_) (λn=> ?_),bA];(simp only[oJ];rw[if_pos (aY hk),aK hk,qA,bD jF,MM (j.2 _ (qG hk)),qA];unfold IA;rw[qF hk,qf];simp only[fR]);·simp only[oJ];rw[if_neg jO]
def NR(l:List M.Instr):M.aHJ:=if HG l=true then(⟨l,0,[0,0,0,0],0,false,false⟩:M.aHJ)else(⟨([]:List M.Instr),0,[0,0,0,0],0,true,false⟩:M.aHJ)
theorem Up:okI [0,0,0,0]:=⟨by unfold maxLen;simp,λx j=>by simp only[qq,qO,or_false,or_self]at j;subst j;exact xV⟩
theorem Wk{l:List M.Instr}(j:BL l):(NR l).ok:=by unfold NR;split;(exact⟨j,xV,Up,xV⟩);·exact⟨⟨jH,jH⟩,xV,Up,xV⟩
theorem Wq(l:List M.Instr):M.aHJ.sz (NR l)<=l.length+dG M.Instr.sz l+4:=by unfold NR;split;(simp only[M.aHJ.sz,qJ,qK];omega);·simp only[M.aHJ.sz,dG,qJ,qK];omega
theorem JF{l:List M.Instr}(j:BL l)(C:l.length<=1073741824):yW l=some (NR l):=by unfold yW NR;rw[Mc j,qA,FF l C];cases HG l<;>rfl
theorem Jc{l:List M.Instr}(j:BL l)(C:l.length<=1073741824):yI l=some (NR l):=by unfold yI NR;rw[Ld j,qA,FG C jF];cases HG l<;>rfl
def CK(i:Int)(a b:ByteArray)(v:Int)(l:List M.Instr):M.bC:=(⟨i,a,b,v,([]:List M.aT),NR l⟩:M.bC)
def Iy:M.bC:=(⟨0,(⟨#[]⟩:ByteArray),(⟨#[]⟩:ByteArray),0,([]:List M.aT),(⟨([]:List M.Instr),0,([]:List Int),0,false,false⟩:M.aHJ)⟩:M.bC)
def Cr(i:Int)(a b:ByteArray)(v:Int)(l:List M.Instr):M.bC×Bool:=if DA (CK i a b v l)=true then(CK i a b v l,true)else(Iy,false)
theorem JR{i v:Int}{a b:ByteArray}{l:List M.Instr}(C:inI i)(j:a.size<=maxLen)(hb:b.size<=maxLen)(J:inI v)(I:BL l):(CK i a b v l).ok:=⟨C,j,hb,J,⟨by simp[CK],by simp[CK]⟩,Wk I⟩
theorem TJ:Iy.ok:=⟨xV,sz0,sz0,xV,⟨by simp[Iy],by simp[Iy]⟩,⟨⟨by simp[Iy],by simp[Iy]⟩,xV,⟨by simp[Iy],by simp[Iy]⟩,xV⟩⟩
theorem PI{i v:Int}{a b:ByteArray}{l:List M.Instr}(C:inI i)(j:a.size<=maxLen)(hb:b.size<=maxLen)(J:inI v)(I:BL l):(Cr i a b v l).1.ok:=by unfold Cr;split;(exact JR C j hb J I);·exact TJ
theorem ON(i:Int)(a b:ByteArray)(v:Int)(l:List M.Instr):M.bC.sz (Cr i a b v l).1<=a.size+b.size+(l.length+dG M.Instr.sz l)+4/\(Cr i a b v l).1.aT.length=0:=by have h:=Wq l;unfold Cr;split;(refine⟨?_,rfl⟩;simp only[CK,M.bC.sz,dG,qK];omega);·refine⟨?_,rfl⟩;have j:(⟨#[]⟩:ByteArray).size=0:=rfl;simp only[Iy,M.bC.sz,M.aHJ.sz,dG,qK,j];omega
theorem Fo{i v:Int}{a b:ByteArray}{l:List M.Instr}(I:inI i)(C:a.size<=maxLen)(hb:b.size<=maxLen)(J:inI v)(j:BL l)(U:l.length<=1073741824):lO i a b v l=some (Cr i a b v l):=by unfold lO Cr;rw[JF j U,qA];show((uG (CK i a b v l)).bind _)=_;rw[Ds (JR I C hb J j),qA];cases DA (CK i a b v l)<;>rfl
theorem KN{i v:Int}{a b:ByteArray}{l:List M.Instr}(I:inI i)(C:a.size<=maxLen)(hb:b.size<=maxLen)(J:inI v)(j:BL l)(U:l.length<=1073741824):tJ i a b v l=some (Cr i a b v l):=by unfold tJ Cr;rw[Jc j U,qA];show((uF (CK i a b v l)).bind _)=_;rw[Dx (JR I C hb J j),qA];cases DA (CK i a b v l)<;>rfl
def MJ(r:M.aG9)(s:M.aHL)(o:Bool):Int:=if(r.aHp !=0)=true then r.aHp else if o=true then s.aHA else 0
theorem Ji(r:M.aG9)(s:M.aHL)(o:Bool):pV r s o=some (MJ r s o):=by unfold pV MJ;cases (r.aHp !=0)<;>cases o<;>rfl
theorem JT(r:M.aG9)(s:M.aHL)(o:Bool):rN r s o=some (MJ r s o):=by unfold rN MJ;cases (r.aHp !=0)<;>cases o<;>rfl
theorem Yx{r:M.aG9}{s:M.aHL}{o:Bool}(j:r.ok)(C:s.ok):inI (MJ r s o):=by unfold MJ;split;(exact j.aHp);·split;(exact C.aHA);·exact xV
theorem Xs{p:M.bC}(h:DA p=true):(p.aHA==0)=false:=by unfold DA inR at h;simp only[qM,qL]at h;have:=h.2.2.2.2.1.1;rw[beq_eq_false_iff_ne];omega
def Ew(p:M.bC)(f:ByteArray)(v:Int):M.bC:=(⟨p.Id,p.aHL,p.Top,p.aHA,p.aT++[(⟨f,v⟩:M.aT)],p.aHJ⟩:M.bC)
def GA(p:M.bC)(f:ByteArray)(x:M.aHH):M.bC×Bool:=if(x.aHx !=200)=true then(p,false)else if(x.aHA !=p.aHA)=true then(p,false)else if DA p=true then if DA (Ew p f x.aHA)=true then(Ew p f x.aHA,true)else(p,false)else(p,false)
theorem Ls{p:M.bC}{f:ByteArray}{v:Int}(j:p.ok)(hl:p.aT.length<=4194304)(J:f.size<=maxLen)(U:inI v):(Ew p f v).ok:=
 ⟨j.Id,j.aHL,j.Top,j.aHA,⟨by show(p.aT++_).length<=maxLen;unfold maxLen;simp;omega,λy I=>by have C:y∈p.aT++[(⟨f,v⟩:M.aT)]:=I;simp only[qP,qq,qO,or_false]at C;rcases C with I|rfl;(exact j.aT.2 y I);·exact⟨J,U⟩⟩,j.aHJ⟩
theorem Sa{p:M.bC}{f:ByteArray}{x:M.aHH}(j:p.ok)(I:p.aT.length<=4194304)(C:f.size<=maxLen)(J:inI x.aHA):(GA p f x).1.ok:=by unfold GA;split;(exact j);·split;(exact j);·split;(split;(exact Ls j I C J);·exact j);·exact j
theorem RS(p:M.bC)(f:ByteArray)(x:M.aHH):M.bC.sz (GA p f x).1<=M.bC.sz p+f.size+1:=by
 have h:M.bC.sz (Ew p f x.aHA)=M.bC.sz p+f.size+1:=by simp only[Ew,M.bC.sz,qE,qJ,qK,zT,dG,M.aT.sz];omega
 unfold GA
 split
 ·show M.bC.sz p<=_;omega
 ·split;(show M.bC.sz p<=_;omega);·split;(split;(show M.bC.sz (Ew p f x.aHA)<=_;omega);·show M.bC.sz p<=_;omega);·show M.bC.sz p<=_;omega
theorem Gz{p:M.bC}{f:ByteArray}{x:M.aHH}(j:p.ok)(I:p.aT.length<=4194304)(U:M.bC.sz p<=1073741824)(C:f.size<=maxLen)(J:inI x.aHA):lG p f x=some (GA p f x):=by have e:=Ds (Ls j I C J);unfold Ew at e;unfold lG GA;rw[G6 p U,qA,dY jV,qA,Ds j,qA,e,qA];unfold Ew;cases (x.aHx !=200);(cases (x.aHA !=p.aHA);(cases DA p;(simp);·cases DA (⟨p.Id,p.aHL,p.Top,p.aHA,p.aT++[(⟨f,x.aHA⟩:M.aT)],p.aHJ⟩:M.bC)<;>simp);·simp);·simp
theorem Mb{p:M.bC}{f:ByteArray}{x:M.aHH}(j:p.ok)(I:p.aT.length<=4194304)(U:M.bC.sz p<=1073741824)(C:f.size<=maxLen)(J:inI x.aHA):vJ p f x=some (GA p f x):=by have e:=Dx (Ls j I C J);unfold Ew at e;unfold vJ GA;rw[DT p U,qA,dY jV,qA,Dx j,qA,e,qA];unfold Ew;cases (x.aHx !=200);(cases (x.aHA !=p.aHA);(cases DA p;(simp);·cases DA (⟨p.Id,p.aHL,p.Top,p.aHA,p.aT++[(⟨f,x.aHA⟩:M.aT)],p.aHJ⟩:M.bC)<;>simp);·simp);·simp
def DF(x:M.Instr):Prop:=M.Instr.ok x/\x.aHi.size<=8
theorem Ej{k r n:Int}{s:ByteArray}(h1: -1000000000000<=k/\k<=1000000000000)(h2:0<=r/\r<=1000000000000)(h3:0<=n/\n<=1000000000000)(j:s.size<=8):DF (⟨k,r,n,s⟩:M.Instr):=⟨⟨K3 (by show -1000000000000000<=k;omega) (by show k<=_;omega),K3 (by show -1000000000000000<=r;omega) (by show r<=_;omega),K3 (by show -1000000000000000<=n;omega) (by show n<=_;omega),E7 j⟩,j⟩
theorem SM{b:List Int}{i h n:Int}(hn:0<=n/\n<=1000)(hc:okC b i h):Dr b DF (AW (⟨b,i,h⟩:M.aQ) n):=by
 have e0:(⟨#[]⟩:ByteArray).size<=8:=by decide
 unfold AW
 refine .bnd (aW hc) λi1 v1 r1 c1 q1=>.bnd (aW c1) λi2 v2 r2 c2 q2=> ?_
 dsimp only
 have hr1:=q1.2.1 jF
 have hr2:=q2.2.1 jF
 rw[wrap_small (n:=1+r1) jF jF,wrap_small (n:=n+1) jF jF]
 have U: -1000000000000<=1+r1/\1+r1<=1000000000000:=by omega
 have a2:0<=r2/\r2<=1000000000000:=by omega
 have a0:(0:Int)<=0/\(0:Int)<=1000000000000:=by omega
 have below:∀{m:Int} {f:Int×Int×Int->Option (Int×Int×M.Instr)},(∀i3 J I,okC b i3 J->(0<=I/\I<=1000000000000)->Dr b DF (f (i3,J,I)))->Dr b DF ((aG (⟨b,i2,v2⟩:M.aQ) m).bind f):=λhf=>.bnd (aW c2) λi3 J I j C=>hf i3 J I j ⟨C.1,jF⟩
 split
 ·exact below λi3 J I j C=>.ret j (Ej U a2 C e0)
 split
 ·exact below λi3 J I j C=>.ret j (Ej U a2 C e0)
 split
 ·exact below λi3 J I j C=>.ret j (Ej U a2 C e0)
 split
 ·exact below λi3 J I j C=>.ret j (Ej U a0 C e0)
 split
 ·exact .bnd (BT (λs=>s.size<=8) jI jI c2) λi3 J I j C=>.ret j (Ej U a2 a0 C)
 split
 ·exact below λi3 J I j C=>.bnd (Ba j) λi4 v4 r4 c4 q4=>.ret c4 (Ej U a2 C q4)
 split
 ·exact below λi3 J I j C=>.bnd (Ba j) λi4 v4 r4 c4 q4=>.ret c4 (Ej U a2 C q4)
 split
 ·exact below λi3 J I j C=>.bnd (Ba j) λi4 v4 r4 c4 q4=>.ret c4 (Ej U a2 C q4)
 split
 ·exact .ret c2 (Ej U a0 a0 e0)
 ·exact .ret c2 (Ej U a2 a0 e0)
def AD(l:List M.Instr):Prop:=l.length<=8/\∀x∈l,DF x
theorem ET{b:List Int}{i h:Int}(hc:okC b i h):Dr b AD (lP (⟨b,i,h⟩:M.aQ)):=by
 unfold lP
 refine .bnd (aW hc) λi1 v1 r1 c1 q1=> ?_
 obtain⟨N,rfl⟩:=BW q1.1
 have hN:=q1.2.1 jF
 refine Yn (N:=N) (L:=λn v (s:List M.Instr×Int×Int)=>lV (⟨b,i,h⟩:M.aQ) (i1,v1,(N:Int)) n v s.1 s.2.1 s.2.2) (I:=λk s=>okC b s.2.1 s.2.2/\s.1.length=k/\∀x∈s.1,DF x) (Q:=Dr b AD) (λn k s hk hi ih=> ?_) (λn s hi=> ?_) fuel 0 (([]:List M.Instr),i1,v1) (nJ jF) jF ⟨c1,rfl,jH⟩
 ·obtain⟨l,ci,ch⟩:=s
  obtain⟨C,U,J⟩:=hi
  simp only at C U J
  simp only[lV]
  rw[if_pos (aY hk)]
  refine .bnd (SM ⟨jF,jF⟩ C) λi3 v3 r3 c3 q3=> ?_
  rw[dY jV,qA,bD jF]
  refine ih (l++[r3],i3,v3) ⟨c3,by simp[U],λx j=> ?_⟩
  rcases qP.1 j with j|j
  ·exact J x j
  ·rw[qQ.1 j];exact q3
 ·obtain⟨l,ci,ch⟩:=s;obtain⟨C,U,J⟩:=hi;simp only at C U J;simp only[lV];rw[if_neg jO];exact .ret C ⟨jF,J⟩
theorem L9{l:List M.Instr}(h:AD l):BL l:=⟨qh h.1 jN,λx j=>(h.2 x j).1⟩
theorem PA{l:List M.Instr}(h:AD l):l.length+dG M.Instr.sz l<=72:=by
 have h1:=Lw (c:=M.Instr.sz) (A:=8) (xs:=l) λx j=>(h.2 x j).2
 have h2:=h.1
 omega
def HV(p:M.bC):Prop:=M.bC.ok p/\p.aT.length<=3/\M.bC.sz p<=1000
theorem UD{b:List Int}{i h:Int}(hc:okC b i h):Dr b HV (BB (⟨b,i,h⟩:M.aQ)):=by
 have fin:∀{L:Nat->Int->Int->ByteArray->ByteArray->Int->Int->Int->Bool->Bool->Int->Int->List M.aT->List M.Instr->List Int->Option (Int×Int×M.bC)} {n:Int} {i1 h1:Int} {p:M.bC},(∀m v a0 a1 a2 a3 a6 a8 a9 ae ci U r0 r1 r2,L (m+1) v a0 a1 a2 a3 a6 a8 a9 ae ci U r0 r1 r2=if(decide (v>0))=true then(xQ (⟨b,ci,U⟩:M.aQ)).bind λaf=>(lG (⟨a0,a1,a2,a3,r0,(⟨r1,a6,r2,a8,a9,ae⟩:M.aHJ)⟩:M.bC) af.2.2 (⟨0,200,a3,([]:List Int),false⟩:M.aHH)).bind λC=>L m (i64.wrap (v-1)) C.1.Id C.1.aHL C.1.Top C.1.aHA C.1.aHJ.Pc C.1.aHJ.aHy C.1.aHJ.aH5 C.1.aHJ.aH6 af.1 af.2.1 C.1.aT C.1.aHJ.aHt C.1.aHJ.aH1 else some (ci,U,(⟨a0,a1,a2,a3,r0,(⟨r1,a6,r2,a8,a9,ae⟩:M.aHJ)⟩:M.bC)))->
   (0<=n/\n<3)->okC b i1 h1->M.bC.ok p->p.aT.length=0->M.bC.sz p<=200->Dr b HV (L fuel n p.Id p.aHL p.Top p.aHA p.aHJ.Pc p.aHJ.aHy p.aHJ.aH5 p.aHJ.aH6 i1 h1 p.aT p.aHJ.aHt p.aHJ.aH1):=by
  intro L n i1 h1 p hL hn hc hp hl hz
  obtain⟨N,rfl⟩:=BW hn.1
  refine Ca (L:=λm v (s:M.bC×Int×Int)=>L m v s.1.Id s.1.aHL s.1.Top s.1.aHA s.1.aHJ.Pc s.1.aHJ.aHy s.1.aHJ.aH5 s.1.aHJ.aH6 s.2.1 s.2.2 s.1.aT s.1.aHJ.aHt s.1.aHJ.aH1) (I:=λk s=>okC b s.2.1 s.2.2/\M.bC.ok s.1/\s.1.aT.length+k<=3/\M.bC.sz s.1+20*k<=300) (Q:=Dr b HV) (λm k s hi ih=> ?_) (λm s hi=> ?_) fuel N (p,i1,h1) (nJ jF) ⟨hc,hp,by show p.aT.length+N<=3;omega,by show M.bC.sz p+20*N<=300;omega⟩
  ·obtain⟨p,ci,U⟩:=s
   obtain⟨k1,J,k3,k4⟩:=hi
   simp only at k1 J k3 k4
   simp only[hL]
   rw[if_pos (by first|(simp;done)|(simp;omega))]
   refine .bnd (PT k1) λi3 v3 r3 c3 q3=> ?_
   have hv:inI (⟨0,200,p.aHA,([]:List Int),false⟩:M.aHH).aHA:=J.aHA
   show Dr b HV ((lG p r3 _).bind _)
   rw[Gz J jF jF (E7 q3) hv,qA,show i64.wrap (((k+1:Nat):Int)-1)=(k:Int)from by rw[wrap_small jF jF];omega]
   have z:=RS p r3 (⟨0,200,p.aHA,([]:List Int),false⟩:M.aHH)
   refine ih ((GA p r3 (⟨0,200,p.aHA,([]:List Int),false⟩:M.aHH)).1,i3,v3) ⟨c3,Sa J jF (E7 q3) hv,?_,jK⟩
   have:(GA p r3 (⟨0,200,p.aHA,([]:List Int),false⟩:M.aHH)).1.aT.length<=p.aT.length+1:=by unfold GA;split;(show p.aT.length<=_;omega);·split;(show p.aT.length<=_;omega);·split;(split;(simp[Ew]);·show p.aT.length<=_;omega);·show p.aT.length<=_;omega
   dsimp only
   omega
  ·obtain⟨p,ci,U⟩:=s;obtain⟨k1,J,k3,k4⟩:=hi;simp only at k1 J k3 k4;simp only[hL];rw[if_neg jH];exact .ret k1 ⟨J,by show p.aT.length<=3;omega,by show M.bC.sz p<=_;omega⟩
 have page:∀{j v:Int} {s t:ByteArray} {l:List M.Instr},(0<=j/\j<=1000)->(0<=v/\v<=1000)->s.size<=8->t.size<=8->AD l->∃r,lO (i64.wrap (1+j)) s t (i64.wrap (1+v)) l=some r/\(M.bC.ok r.1/\r.1.aT.length=0/\M.bC.sz r.1<=200):=by intro j v s t l hj hv hs ht hl;have h1:=PA hl;refine⟨_,Fo (bJ _) (E7 hs) (E7 ht) (bJ _) (L9 hl) jF,PI (bJ _) (E7 hs) (E7 ht) (bJ _) (L9 hl),?_⟩;have h2:=ON (i64.wrap (1+j)) s t (i64.wrap (1+v)) l;exact⟨h2.2,jF⟩
 unfold BB
 refine .bnd (H4 hc) λi1 v1 r1 c1 q1=>.Ha (aAL c1 q1) λy hy=>.bnd (aW hy.2) λi4 v4 r4 c4 q4=>.bnd (aW c4) λi5 v5 r5 c5 q5=>.bnd (ET c5) λi6 v6 r6 c6 q6=> ?_
 have z4:=q4.2.1 jF
 have z5:=q5.2.1 jF
 refine .Ha (page ⟨q4.1,jK⟩ ⟨q5.1,jK⟩ q1 hy.1 q6) λr hr=>.bnd (aW c6) λi7 v7 r7 c7 q7=> ?_
 have z7:=q7.2.1 jF
 exact fin (L:=rD (⟨b,i,h⟩:M.aQ)) (λ_ _ _ _ _ _ _ _ _ _ _ _ _ _ _=>by simp only[rD]) ⟨q7.1,z7⟩ c7 hr.1 hr.2.1 hr.2.2
def stN(n:Nat)(s:M.aA):Prop:=s.aHE.length<=n/\∀b∈s.aHE,bkI b
theorem stN.ok{n:Nat}{s:M.aA}(h:stN n s)(j:n<=1000):s.ok:=⟨⟨ml (by have:=h.1;omega),λb hb=>(h.2 b hb).ok⟩⟩
theorem stN.sz{n:Nat}{s:M.aA}(h:stN n s)(j:n<=5):M.aA.sz s<=900005:=by
 have h1:=dR (w:=M.aHD.sz) (b:=180000) (xs:=s.aHE) λb hb=>(h.2 b hb).sz
 have h2:=h.1
 simp only[M.aA.sz]
 omega
theorem stN.mono{n m:Nat}{s:M.aA}(h:stN n s)(j:n<=m):stN m s:=⟨by have:=h.1;omega,h.2⟩
theorem aAH{n:Nat}{s:M.aA}{b:M.aHD}(h:stN n s)(J:n<=4)(hb:bkI b):∃x,iS s b=some x/\stN (n+1) x.1:=by have U:=h.sz jF;have C:=hb.sz;refine⟨_,KI (h.ok jF) hb.ok jF jF,?_⟩;have I:=HY s b;have h1:=h.1;unfold JI Kr;split;(split;(refine⟨jK,λx j=> ?_⟩;rcases IV j with rfl|j;(exact hb);·exact h.2 x j);·exact h.mono (Nat.le_succ n));·exact h.mono (Nat.le_succ n)
theorem Pd{b:List Int}{i h:Int}(c0:okC b i h):Dr b (stN 4) (uT (⟨b,i,h⟩:M.aQ)):=by
 unfold uT
 refine .bnd (aW c0) λi1 v1 r1 c1 q1=> ?_
 obtain⟨N,rfl⟩:=BW q1.1
 have hN:=q1.2.1 jF
 refine Ca (L:=λn v (s:(M.aA)×Int×Int)=>kN (⟨b,i,h⟩:M.aQ) n v s.2.1 s.2.2 s.1.aHE) (I:=λk s=>k<=100000/\okC b s.2.1 s.2.2/\k<=3/\stN (3-k) s.1) (Q:=Dr b (stN 4)) (λn k s hi ih=> ?_) (λn s hi=> ?_) fuel N ((⟨([]:List M.aHD)⟩:M.aA),i1,v1) (nJ jF) ⟨jF,c1,⟨jF,jH,jH⟩⟩
 ·obtain⟨x,ci,ch⟩:=s
  obtain⟨k0,J,j⟩:=hi
  dsimp only at J j
  simp only[kN]
  rw[if_pos (Ts k),KS k0]
  refine .bnd (Lm J) λi3 v3 r3 U q3=>.Ha (aAH (s:=x) j.2 jF q3.all) λy C=> ?_
  have:=j.1
  exact ih (y.1,i3,v3) ⟨jF,U,jF,C.mono jF⟩
 ·obtain⟨x,ci,ch⟩:=s
  obtain⟨k0,J,j⟩:=hi
  dsimp only at J j
  simp only[kN]
  rw[if_neg KC]
  refine .bnd (Ay J) λi3 v3 r3 U q3=> ?_
  have hl:=j.2.1
  dsimp only
  split
  ·refine .bnd (W2 U) λi4 v4 r4 c4 q4=> ?_
   dsimp only
   rw[BF jV jF,qA]
   refine .ret c4 ⟨jR,λy C=> ?_⟩
   rcases qP.1 C with C|C
   ·exact j.2.2 y C
   ·rw[qQ.1 C];exact q4
  ·exact .ret U (j.2.mono jF)
theorem Tj{b:List Int}{i h:Int}(c0:okC b i h):Dr b wsm (AH (⟨b,i,h⟩:M.aQ)):=by
 unfold AH
 refine .bnd (aW c0) λi1 v1 r1 c1 q1=>.bnd (aW c1) λi2 v2 r2 c2 q2=>.bnd (zW c2) λi3 v3 r3 c3 q3=>.bnd (Ba c3) λi4 v4 r4 c4 q4=>.bnd (aW c4) λi5 v5 r5 c5 q5=>.bnd (aW c5) λi6 v6 r6 I q6=> ?_
 have J:r4.size<=16:=qh q4 jF
 have U:inI r5:=bgI (Ws q5)
 have hk:=q3.any
 dsimp only
 split
 ·exact .bnd (uE (λx=> -1000000000000000<=x/\x<=1000000000000000) jI jI I) λi7 v7 r7 j C=>.ret j (GZ (bgI C) (bJ _) hk J U)
 split
 ·exact .bnd (uE (λx=> -1000000000000000<=x/\x<=1000000000000000) jI jI I) λi7 v7 r7 j C=>.ret j (GZ (bJ _) (bgI C) hk J U)
 split
 ·exact .bnd (Qw I) λi7 v7 r7 j C=>.ret j (GZ (bJ _) (bJ _) C J U)
 split
 ·exact .ret I (GZ (bJ _) (bJ _) hk jI U)
 split
 ·exact .bnd (uE (λx=> -1000000000000000<=x/\x<=1000000000000000) jI jI I) λi7 v7 r7 j C=>.ret j (GZ (bJ _) (bJ _) hk J (bgI C))
 ·exact .ret I (GZ (bJ _) (bJ _) hk J U)
def TH(s:M.aHO):Prop:=M.aHO.ok s/\M.aHO.sz s<=30000
theorem Zv{s:M.aC}{a:List M.aO}{c:List M.bB}(I:Nv s)(C:a.length<=100/\∀x∈a,M.aO.ok x)(hc:c.length<=100/\∀x∈c,wsm x):TH (⟨s,a,c⟩:M.aHO):=by
 have h1:=I.2
 have h2:=C.1
 have h3:=hc.1
 have h4:=dR (w:=M.bB.sz) (b:=32) (xs:=c) λw j=>(hc.2 w j).2
 refine⟨⟨I.1,⟨ml jK,C.2⟩,⟨ml jK,λw j=>(hc.2 w j).1⟩⟩,?_⟩
 simp only[M.aHO.sz]
 omega
