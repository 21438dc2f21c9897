/-
  Helper text. No conditions.
-/
import Derived.Test.YtbpbocchokbggaaGreatUpdatesPd6
set_option linter.all false
namespace Go.Proofs.YtbpbocchokbggaaGreat.gen
open Go Go.Sh
theorem XN{o:M.aK}{k:M.Key}{f:ByteArray}{n:Int}(h:vM o=true)(J:o.aJd<=1000)(hl:o.aJM.length<20)(I:EY (⟨o.aJA,o.aJd,k,f,n⟩:M.bC)=true):vM (IZ o k f n)=true:=by
 unfold vM inR at h
 simp only[qM,qL,qR,qS]at h
 obtain⟨h1,⟨h2,h3⟩,⟨h4,h5⟩,h6⟩:=h
 have C:IntKind.i64.wrap (o.aJd+1)=o.aJd+1:=wrap_small jB jB
 unfold vM inR IZ
 simp only[qM,qL,qR,qS,qE,qJ,qK,C]
 refine⟨λj U=> ?_,⟨h2,h3⟩,⟨jB,jB⟩,jB⟩
 unfold EP
 simp only[qE,qJ,qK]
 rcases Nat.lt_or_ge j o.aJM.length with hlt|hge
 ·have:=h1 j hlt;unfold EP at this;rw[qF hlt,qd]at this;rw[qw hlt,qF hlt,qd,show(o.aJd+1-((o.aJM.length+(0+1):Nat):Int))=o.aJd-(o.aJM.length:Int)by omega];exact this
 ·have:j=o.aJM.length:=by omega
  subst this
  rw[qx (qe _),Nat.sub_self]
  simp only[List.getElem?_cons_zero,qd]
  rw[I,show(o.aJd+1-((o.aJM.length+(0+1):Nat):Int))=o.aJd-(o.aJM.length:Int)by omega,wrap_small (n:=o.aJd-(o.aJM.length:Int)) jB jB,show o.aJd-(o.aJM.length:Int)+(o.aJM.length:Int)=o.aJd by omega,wrap_small jB jB]
  simp
theorem R0.n{k:M.Key}(h:R0 k):DX k=true:=by
 obtain⟨a,n,s⟩:=k
 obtain⟨h1,h2,h3,h4⟩:=h
 dsimp only at h1 h2 h3 h4
 subst h4 h1
 unfold DX inR
 have e:Nq (⟨#[]⟩:ByteArray)=true:=by decide
 simp[e]
 omega
theorem XS{b:List Int}{i h:Int}(c0:okC b i h):Dr b obI (Cu (⟨b,i,h⟩:M.aM)):=by
 unfold Cu
 refine .bnd (aT c0) λi1 v1 r1 c1 q1=>.bnd (RE (bK _) c1) λi2 v2 o c2 q2=>.bnd (aT c2) λi3 v3 r3 U q3=> ?_
 dsimp only
 obtain⟨j,hN,q2len⟩:=q2
 have hlen:=j.2.2.1
 split
 ·exact .bnd (uL (λx=> -1000000000000000<=x/\x<=1000000000000000) jE jE U) λi4 v4 C J I=>.ret J ⟨bgI I,j.2.1,j.2.2⟩
 split
 ·exact .bnd (uL (λx=> -1000000000000000<=x/\x<=1000000000000000) jE jE U) λi4 v4 C J I=>.ret J ⟨j.1,bgI I,j.2.2⟩
 split
 ·refine .bnd (Rs U) λi4 v4 C J I=>.bnd (uL (λx=> -1000000000000000<=x/\x<=1000000000000000) jE jE J) λi5 v5 r5 c5 q5=> ?_
  dsimp only
  rw[B7 jS jB,qA]
  refine .ret c5 ⟨j.1,j.2.1,jN,λw hw=> ?_⟩
  rcases qP.1 hw with hw|hw
  ·exact j.2.2.2 w hw
  ·rw[qQ.1 hw];exact HO j.1 j.2.1 I jE (bgI q5)
 split
 ·have key:∀(n:Nat) (o:M.aK) (ci ch:Int),20-o.aJM.length<n->obI o->o.aJd<=10+o.aJM.length->okC b ci ch->Dr b obI (xK (⟨b,i,h⟩:M.aM) n o.aJA o.aJd ci ch o.aJM):=by
   intro n
   induction n with
   |zero=>intro o ci ch h _ _ _;omega
   |succ n ih=>
    intro o ci ch hn j hN k1
    simp only[xK]
    rcases Nat.lt_or_ge o.aJM.length 20 with h6|h6
    ·rw[if_pos jC,show(⟨o.aJA,o.aJd,o.aJM⟩:M.aK)=o from rfl,sL j.ok,qA]
     cases hob:vM o with
     |false=>rw[if_neg jD];exact .ret k1 j
     |true=>
      rw[if_pos rfl]
      refine .bnd (At k1) λi4 v4 C J I=> ?_
      dsimp only
      have hf:(⟨#[97]⟩:ByteArray).size<=16:=by decide
      rw[SY j I.any hf TV,qA]
      have h7:=hob
      unfold vM inR at h7
      simp only[qM,qL]at h7
      have hq:EY (⟨o.aJA,o.aJd,C,(⟨#[97]⟩:ByteArray),1⟩:M.bC)=true:=by
       have e:oJ (⟨#[97]⟩:ByteArray)=true:=by decide
       unfold EY inR
       simp[I.n,e]
       omega
      have hb:=XN hob jB h6 hq
      have en:Ra o C (⟨#[97]⟩:ByteArray) 1=(IZ o C (⟨#[97]⟩:ByteArray) 1,true):=by unfold Ra;rw[if_pos hob,if_pos hb]
      have hob2:=VA (k:=C) (f:=(⟨#[97]⟩:ByteArray)) (n:=1) j I.any hf TV
      rw[en]at hob2⊢
      have e3:(IZ o C (⟨#[97]⟩:ByteArray) 1).aJM.length=o.aJM.length+1:=by simp[IZ]
      have e4:(IZ o C (⟨#[97]⟩:ByteArray) 1).aJd=o.aJd+1:=wrap_small jB jB
      exact ih (IZ o C (⟨#[97]⟩:ByteArray) 1) i4 v4 jB hob2 jB J
    ·rw[if_neg jC];exact .ret k1 j
  exact key fuel o i3 v3 (mI jB) j jB U
 ·exact .ret U j
def svI(n:Nat)(s:M.aJC):Prop:=s.aD.ok/\iR s.aD=true/\(s.aP.length<=60/\∀a∈s.aP,M.aP.ok a)/\s.aJU.length<=n/\∀w∈s.aJU,wsm w
theorem svI.ok{n:Nat}{s:M.aJC}(h:svI n s)(C:n<=1000):M.aJC.ok s:=⟨h.1,⟨ml (by have:=h.2.2.1.1;omega),h.2.2.1.2⟩,⟨ml (by have:=h.2.2.2.1;omega),λw j=>(h.2.2.2.2 w j).1⟩⟩
theorem svI.mono{n m:Nat}{s:M.aJC}(h:svI n s)(j:n<=m):svI m s:=⟨h.1,h.2.1,h.2.2.1,by have:=h.2.2.2.1;omega,h.2.2.2.2⟩
theorem Vg{n:Nat}{s:M.aJC}(h:svI n s)(j:n<=1000):gW s=some s:=by have h1:=sN h.2.1;have h2:=h.2.2.1.1;have h3:=h.2.2.2.1;unfold gW;rw[oV _ jB,qA,Gv jB jB,qA,Gv jB jB,qA]
theorem LW{s:M.aJC}{d:Int}(h:s.aP.length<=60/\∀a∈s.aP,M.aP.ok a):∃v,yL s d=some v/\inI v:=by
 have C:=h.1
 have key:∀(n k:Nat),s.aP.length-k<n->k<=s.aP.length->∃v,vA s d n (k:Int)=some v/\inI v:=by
  intro n
  induction n with
  |zero=>intro k h _;omega
  |succ n j=>
   intro k I hk
   simp only[vA]
   rcases Nat.lt_or_ge k s.aP.length with h6|h6
   ·rw[if_pos (aW h6),aJ h6,qA,bF jB];split;(exact⟨_,rfl,(h.2 _ (qG h6)).Seq⟩);·exact j (k+1) jB jB
   ·rw[if_neg jC];exact⟨_,rfl,yR⟩
 exact key fuel 0 (mI jB) jB
theorem Z6{l:List M.aP}{d q:Int}(h:l.length<=60/\∀a∈l,M.aP.ok a)(I:inI d)(C:inI q):∃r,BS l d q=some r/\∀a∈r,M.aP.ok a:=by
 have hl:=h.1
 have ins:∀(k:Nat),k<=l.length->∀a∈(List.take k l++[(⟨d,q⟩:M.aP)])++List.drop k l,M.aP.ok a:=by intro k hk a j;simp only[qP,qQ]at j;rcases j with(j|rfl)|j;(exact h.2 a (qi j));(exact⟨I,C⟩);·exact h.2 a (qt j)
 have fin:∀(k:Nat),k<=l.length->∃r,((Bz l (k:Int)).bind λU=>(app 16 ([]:List M.aP) (List.take (k:Int).toNat l)).bind λae=>(app 16 (List.take (k:Int).toNat l) ([(⟨d,q⟩:M.aP)])).bind λaf=>(Dg l (k:Int)).bind λah=>(app 16 ((List.take (k:Int).toNat l)++[(⟨d,q⟩:M.aP)]) (List.drop (k:Int).toNat l)).bind λai=>some (((List.take (k:Int).toNat l)++[(⟨d,q⟩:M.aP)])++(List.drop (k:Int).toNat l)))=some r/\∀a∈r,M.aP.ok a:=by intro k hk;rw[Da hk,qA,qH,Gv (by rw[qU];omega) jB,qA,B7 jU jB,qA,JQ hk,qA,B7 jO jB,qA];exact⟨_,rfl,ins k hk⟩
 have key:∀(n k:Nat),l.length-k<n->k<=l.length->∃r,vE l d q n (k:Int)=some r/\∀a∈r,M.aP.ok a:=by
  intro n
  induction n with
  |zero=>intro k h _;omega
  |succ n J=>
   intro k hn hk
   simp only[vE]
   rcases Nat.lt_or_ge k l.length with h6|h6
   ·rw[if_pos (aW h6),aJ h6,qA,bF jB];split;(exact J (k+1) jB jB);split;(refine⟨_,rfl,λa j=> ?_⟩;rcases jA j with j|rfl;(exact h.2 a j);·exact⟨(h.2 _ (qG h6)).aJA,C⟩);·exact fin k hk
   ·rw[if_neg jC];exact fin k hk
 unfold BS
 rw[Gv jB jB,qA]
 exact key fuel 0 (mI jB) jB
theorem VN{s:M.aD}{w:M.bC}(j:iR s=true):iR (N3 s w).1=true:=by
 cases h2:(N3 s w).2 with
 |false=>rw[M1 h2];exact j
 |true=>
  unfold N3 at h2⊢
  by_cases h1:(KD (mE s w.Key) w.Field w.N).2=true
  ·rw[if_pos h1]at h2⊢;exact E7 (G4 h1) h2
  ·rw[if_neg h1]at h2;cases h2
theorem recv{n:Nat}{s:M.aJC}{w:M.bC}(h:svI n s)(hn:n<=900)(j:wsm w):∃x,dD s w=some x/\svI (n+1) x.1:=by
 have I:=h.mono (Nat.le_succ n)
 have hz:=sN h.2.1
 have hc:=h.2.2.2.1
 unfold dD
 rw[Vg h jB,qA,CC (h.ok jB),qA]
 cases GR s
 ·exact⟨_,rfl,I⟩
 rw[if_neg jD,BK j.1,qA]
 cases EY w
 ·exact⟨_,rfl,I⟩
 rw[if_neg jD]
 obtain⟨r,er,U⟩:=Z6 h.2.2.1 j.1.aJA j.1.Seq
 obtain⟨v,ev,hv⟩:=LW (s:=s) (d:=w.aJA) h.2.2.1
 rw[er,qA,ev,qA]
 by_cases aa:(r.length:Int)>60
 ·rw[if_pos (by simpa using aa)];exact⟨_,rfl,I⟩
 rw[if_neg (by simpa using aa)]
 split
 ·exact⟨_,rfl,I⟩
 split
 ·exact⟨_,rfl,I⟩
 have C:∀y∈s.aJU++[w],wsm y:=λy J=>by rcases qP.1 J with J|J;(exact h.2.2.2.2 y J);·rw[qQ.1 J];exact j
 have hlen:(s.aJU++[w]).length<=n+1:=by simp only[qE,qJ,qK];omega
 rw[Cj h.1 j.1 jB,qA,B7 jS jB,qA]
 split
 ·exact⟨_,rfl,(LR h.1 j.1 jB).1,VN h.2.1,⟨jG,U⟩,hlen,C⟩
 ·exact⟨_,rfl,h.1,h.2.1,⟨jG,U⟩,hlen,C⟩
theorem Nc{b:List Int}{i h:Int}(c0:okC b i h):Dr b (svI 5) (xB (⟨b,i,h⟩:M.aM)):=by
 unfold xB
 refine .bnd (GP jE jE c0) λi0 v0 s0 aa q0=>.bnd (aT aa) λi1 v1 r1 c1 q1=> ?_
 obtain⟨N,rfl⟩:=BE q1.1
 have hN:=q1.2.1 jB
 refine CA (L:=λn v (s:(M.aJC)×Int×Int)=>mX (⟨b,i,h⟩:M.aM) n v s.1.aD.Name s.1.aD.aJa s.2.1 s.2.2 s.1.aD.aI6 s.1.aP s.1.aJU) (I:=λk s=>k<=100000/\okC b s.2.1 s.2.2/\k<=5/\svI (5-k) s.1) (Q:=Dr b (svI 5)) (λn k s J ih=> ?_) (λn s J=> ?_) fuel N ((⟨s0,([]:List M.aP),([]:List M.bC)⟩:M.aJC),i1,v1) (mI jB) ⟨jB,c1,⟨jB,q0.1,q0.2.1,⟨jD,jD⟩,jD,jD⟩⟩
 ·obtain⟨x,ci,ch⟩:=s
  obtain⟨U,C,j⟩:=J
  dsimp only at C j
  simp only[mX]
  rw[if_pos (UF k),Lv U]
  obtain⟨j,k3⟩:=j
  refine .bnd (aT C) λi3 v3 r3 c3 q3=> ?_
  dsimp only
  rw[show(⟨(⟨x.aD.Name,x.aD.aI6,x.aD.aJa⟩:M.aD),x.aP,x.aJU⟩:M.aJC)=x from rfl]
  refine .Gl (LW k3.2.2.1) λv hv=>.bnd (At c3) λi4 v4 r4 c4 q4=>.bnd (Bv c4) λi5 v5 r5 c5 q5=>.bnd (aT c5) λi6 v6 r6 c6 q6=>.Gl (recv k3 jB (HO (bK _) (bK _) q4.any (qf q5 jB) (bgI (XJ q6)))) λy hy=> ?_
  exact ih (y.1,i6,v6) ⟨jB,c6,jB,hy.mono jB⟩
 ·obtain⟨x,ci,ch⟩:=s;obtain⟨U,C,j⟩:=J;dsimp only at C j;simp only[mX];rw[if_neg Ll];exact .ret C (j.2.mono jB)
def rpI(r:M.aG):Prop:=r.aJQ.ok/\M.aD.sz r.aJQ<=10000/\inI r.aJm/\obI r.aJR.aK/\inI r.aJR.aJh/\inI r.aJR.aJY
theorem rpI.ok{r:M.aG}(h:rpI r):r.ok:=⟨h.1,h.2.2.1,h.2.2.2.1.ok,h.2.2.2.2.1,h.2.2.2.2.2⟩
theorem rpI.sz{r:M.aG}(h:rpI r):M.aG.sz r<=11000:=by have h1:=h.2.1;have h2:=h.2.2.2.1.sz;simp only[M.aG.sz,M.aJR.sz];omega
theorem Pt:rpI (⟨(⟨(⟨#[]⟩:ByteArray),([]:List M.aJN),0⟩:M.aD),0,(⟨(⟨0,0,([]:List M.bC)⟩:M.aK),0,0⟩:M.aJR)⟩:M.aG):=⟨⟨s16 jE,⟨by simp[maxLen],jD⟩,yR⟩,jE,yR,QT yR yR,yR,yR⟩
theorem aBS{n:Nat}{s:M.aJC}{d:Int}(h:svI n s)(hn:n<=900)(I:inI d):∃x,zH s d=some x/\rpI x.1:=by have U:=sN h.2.1;have hc:=h.2.2.2.1;obtain⟨o,C,J,_⟩:=Y3 I;have j:rpI (⟨s.aD,(List.length s.aJU:Int),(⟨o.1,0,0⟩:M.aJR)⟩:M.aG):=⟨h.1,U,bgI jG,J,yR,yR⟩;unfold zH;rw[C,qA,oV _ jB,qA];cases o.2;(exact⟨_,rfl,Pt⟩);rw[if_neg jD,CC (h.ok jB),qA];cases GR s;(exact⟨_,rfl,Pt⟩);rw[if_neg jD,Cc j.ok,qA];cases Dm (⟨s.aD,(List.length s.aJU:Int),(⟨o.1,0,0⟩:M.aJR)⟩:M.aG);(exact⟨_,rfl,Pt⟩);·exact⟨_,rfl,j⟩
theorem O2{r:M.aG}{k:M.Key}{f:ByteArray}{n:Int}(h:rpI r)(hk:Pb k)(j:f.size<=16)(C:inI n):∃x,nK r k f n=some x/\rpI x.1:=by refine⟨_,Kz h.ok (by have:=h.sz;omega) hk.1 (s16 j) C,?_⟩;unfold nWL;split;(exact⟨h.1,h.2.1,h.2.2.1,VA h.2.2.2.1 hk j C,h.2.2.2.2.1,h.2.2.2.2.2⟩);·exact h
theorem aAd{l:List M.bC}:∀{s:M.aD},s.ok->iR s=true->(∀w∈l,M.bC.ok w)->(EL s l).ok/\iR (EL s l)=true:=by
 induction l with
 |nil=>intro s C j _;exact⟨C,j⟩
 |cons w l U=>
  intro s C j I
  have hz:=sN j
  exact U (s:=(N3 s w).1) (LR C (I w jD) jB).1 (VN j) λy J=>I y (by simp[J])
theorem ZC{n:Nat}{r:M.aG}{s:M.aJC}(h:rpI r)(j:svI n s)(hn:n<=900):∃x,yG r s=some x/\rpI x.1:=by
 have hc:=j.2.2.2.1
 unfold yG
 rw[E4 _ (by have:=h.sz;omega),qA,Cc h.ok,qA]
 cases hR:Dm r
 ·exact⟨_,rfl,h⟩
 rw[if_neg jD,CC (j.ok jB),qA]
 cases GR s
 ·exact⟨_,rfl,h⟩
 rw[if_neg jD]
 by_cases hgt:r.aJm>(s.aJU.length:Int)
 ·rw[if_pos (by simpa using hgt)];exact⟨_,rfl,h⟩
 rw[if_neg (by simpa using hgt)]
 unfold Dm inR at hR
 simp only[qM,qL]at hR
 obtain⟨k,U⟩:=BE hR.2.2.1.1
 rw[U]at hgt⊢
 have hbs:=sN hR.1
 have C:∀w∈List.drop k s.aJU,M.bC.ok w:=λw hw=>(j.2.2.2.2 w (qt hw)).1
 obtain⟨I,J⟩:=aAd h.1 hR.1 C
 obtain⟨v,ev,hv⟩:=LW (s:=s) (d:=r.aJR.aK.aJA) j.2.2.1
 obtain⟨y,ey,y1,_⟩:=VW (q:=v) h.2.2.2.1
 rw[JQ jB,qA,qH,GK h.1 (ml (by rw[qV];omega)) C jB,qA,ev,qA,ey,qA]
 exact⟨_,rfl,I,sN J,bgI jG,y1,h.2.2.2.2.1,h.2.2.2.2.2⟩
theorem aBU{a c:Int}(j:inI a)(hc:inI c):∃r,iK a c=some r/\inI r:=by unfold iK;split;(exact⟨_,rfl,hc⟩);·exact⟨_,rfl,j⟩
theorem aC5{c:Int}:∃r,iK 60 c=some r/\r<=60/\(inI c->inI r):=by unfold iK;split;(rename_i h;exact⟨_,rfl,by have:=of_decide_eq_true h;omega,λh=>h⟩);·exact⟨_,rfl,jB,λ_=>bgI jH⟩
theorem Z1{t:Int}(I:t<=60):∃r,jZ t=some r:=by
 have key:∀(n k:Nat) (v:Int),100-k<n->k<=99->∃r,rK t n v (k:Int)=some r:=by
  intro n
  induction n with
  |zero=>intro k v h _;omega
  |succ n j=>
   intro k v C hk
   simp only[rK]
   split
   ·rename_i h;have:=of_decide_eq_true h;split;(rw[bF jB];exact j (k+1) _ jB jB);·exact⟨_,rfl⟩
   ·exact⟨_,rfl⟩
 exact key fuel 0 1 (mI jB) jB
def Op'{α:Type}(P:α->Prop)(o:Option α):Prop:=∃r,o=some r/\P r
theorem Op'.bnd{α β:Type}{P:β->Prop}{Q:α->Prop}{o:Option α}{f:α->Option β}(C:∃r,o=some r/\Q r)(j:∀r,Q r->Op' P (f r)):Op' P (o.bind f):=by obtain⟨r,rfl,I⟩:=C;exact j r I
def syI(n:Nat)(x:M.aJR×M.aJC×Int):Prop:=obI x.1.aK/\inI x.1.aJh/\inI x.1.aJY/\svI n x.2.1
theorem aAl{n:Nat}{y:M.aJR}{s:M.aJC}{now fate:Int}(U:obI y.aK)(ht:inI y.aJh)(hw:inI y.aJY)(J:svI n s)(hn:n<=800):Op' (syI (n+2)) (Be y s now fate):=by
 have hs1:=J.mono (Nat.le_succ n)
 have hs2:=J.mono (show n<=n+2 by omega)
 have hz:=U.sz
 have j:∀{q:Int},∃x,dE y.aK q=some x/\obI x.1:=λ{q}=>by obtain⟨x,e,h,_⟩:=VW (q:=q) U;exact⟨x,e,h⟩
 have fail:∀{x:M.aJC} {f:Int->Option (M.aJR×M.aJC×Int)},svI (n+2) x->(f=λae=>(iK 60 (IntKind.i64.wrap (ae+1))).bind λaa=>(jZ aa).bind λaf=>some ((⟨y.aK,aa,IntKind.i64.wrap (now+af)⟩:M.aJR),x,2))->Op' (syI (n+2)) ((iK 59 y.aJh).bind f):=by
  intro x f hx hf
  subst hf
  refine .bnd (aBU (bgI jH) ht) λt1 h1=>.bnd aC5 λt2 h2=> ?_
  obtain⟨r,er⟩:=Z1 h2.1
  rw[er,qA]
  exact⟨_,rfl,U,h2.2 (bK _),bK _,hx⟩
 unfold Be yK Bx
 rw[Dk _ jB,qA,qA,Vg J jB,sL U.ok]
 have same:syI (n+2) (y,s,0):=⟨U,ht,hw,hs2⟩
 cases hW:y.aK.aJM with
 |nil=>exact⟨_,rfl,same⟩
 |cons w ws=>
  have I:wsm w:=U.2.2.2 w (by rw[hW];simp)
  rw[if_neg jC,show idx (w::ws) 0=some w from rfl]
  simp only[qA]
  rw[if_neg jD]
  cases vM y.aK
  ·exact⟨_,rfl,same⟩
  rw[if_neg jD]
  split
  ·exact⟨_,rfl,same⟩
  rw[cH,qA]
  split
  ·exact⟨_,rfl,same⟩
  have good:∀{x:M.aJR×M.aJC×Int},obI x.1.aK->inI x.1.aJh->inI x.1.aJY->svI (n+2) x.2.1->Op' (syI (n+2)) (some x):=λa1 a2 a3 a4=>⟨_,rfl,a1,a2,a3,a4⟩
  have two:∀{a:M.aJC} {c:Int},svI (n+1) a->svI (n+2) a:=λh=>h.mono jB
  split
  ·refine .bnd (recv J jB I) λx1 h1=> ?_
   split
   ·refine .bnd (recv h1 jB I) λx2 h2=> ?_
    split
    ·exact .bnd j λq C=>good C yR yR h2
    split
    ·exact .bnd j λq C=>good C yR yR h2
    ·exact fail h2 rfl
   ·split;(exact .bnd j λq C=>good C yR yR (h1.mono jB));split;(exact .bnd j λq C=>good C yR yR (h1.mono jB));·exact fail (h1.mono jB) rfl
  split
  ·refine .bnd (recv J jB I) λx1 h1=> ?_
   split
   ·refine .bnd (recv h1 jB I) λx2 h2=> ?_
    split
    ·exact .bnd j λq C=>good C yR yR h2
    split
    ·exact .bnd j λq C=>good C yR yR h2
    ·exact fail h2 rfl
   ·exact fail (h1.mono jB) rfl
  split
  ·refine .bnd (recv J jB I) λx1 h1=>.bnd (recv h1 jB I) λx2 h2=> ?_
   split
   ·exact .bnd j λq C=>good C yR yR h2
   split
   ·exact .bnd j λq C=>good C yR yR h2
   ·exact fail h2 rfl
  ·exact fail hs2 rfl
def prI(n:Nat)(x:M.aG×M.aJC):Prop:=rpI x.1/\svI n x.2
theorem WQ{b:List Int}{i h:Int}(c0:okC b i h):Dr b (prI 20) (Cb (⟨b,i,h⟩:M.aM)):=by
 unfold Cb
 refine .bnd (Nc c0) λi0 v0 s0 aa q0=>.Gl (aBS q0 jB (bgI jH)) λr0 h0=>.bnd (aT aa) λi1 v1 r1 c1 q1=> ?_
 obtain⟨N,rfl⟩:=BE q1.1
 have hN:=q1.2.1 jB
 refine CA (L:=λn v (s:(M.aG×M.aJC)×Int×Int)=>fM (⟨b,i,h⟩:M.aM) n v s.1.1.aJQ.Name s.1.1.aJQ.aJa s.1.1.aJm s.1.1.aJR.aK.aJA s.1.1.aJR.aK.aJd s.1.1.aJR.aJh s.1.1.aJR.aJY s.2.1 s.2.2 s.1.2.aD.Name s.1.2.aD.aJa s.1.1.aJQ.aI6 s.1.1.aJR.aK.aJM s.1.2.aD.aI6 s.1.2.aP s.1.2.aJU) (I:=λk s=>k<=100000/\okC b s.2.1 s.2.2/\k<=5/\prI (15-2*k) s.1) (Q:=Dr b (prI 20)) (λn k s hi ih=> ?_) (λn s hi=> ?_) fuel N ((r0.1,s0),i1,v1) (mI jB) ⟨jB,c1,⟨jB,h0,q0.mono jB⟩⟩
 ·obtain⟨x,ci,ch⟩:=s
  obtain⟨k0,k1,U⟩:=hi
  dsimp only at k1 U
  simp only[fM]
  rw[if_pos (UF k),Lv k0]
  obtain⟨U,C,k4⟩:=U
  rw[show(⟨(⟨x.1.aJQ.Name,x.1.aJQ.aI6,x.1.aJQ.aJa⟩:M.aD),x.1.aJm,(⟨(⟨x.1.aJR.aK.aJA,x.1.aJR.aK.aJd,x.1.aJR.aK.aJM⟩:M.aK),x.1.aJR.aJh,x.1.aJR.aJY⟩:M.aJR)⟩:M.aG)=x.1 from rfl,show(⟨(⟨x.2.aD.Name,x.2.aD.aI6,x.2.aD.aJa⟩:M.aD),x.2.aP,x.2.aJU⟩:M.aJC)=x.2 from rfl]
  refine .bnd (aT k1) λi3 v3 r3 c3 q3=> ?_
  dsimp only
  split
  ·refine .bnd (At c3) λi4 v4 r4 J q4=>.bnd (Bv J) λi5 v5 r5 c5 q5=>.bnd (aT c5) λi6 v6 r6 c6 q6=>.Gl (O2 C q4.any (qf q5 jB) (bgI (XJ q6))) λy j=> ?_
   exact ih ((y.1,x.2),i6,v6) ⟨jB,c6,jB,j,k4.mono jB⟩
  split
  ·refine .bnd (At c3) λi4 v4 r4 J q4=>.bnd (Bv J) λi5 v5 r5 c5 q5=>.bnd (aT c5) λi6 v6 r6 c6 q6=>.Gl (O2 C q4.any (qf q5 jB) (bgI (XJ q6))) λy j=> ?_
   exact ih ((y.1,x.2),i6,v6) ⟨jB,c6,jB,j,k4.mono jB⟩
  split
  ·refine .bnd (aT c3) λi4 v4 r4 J q4=>.Gl (aAl (y:=x.1.aJR) C.2.2.2.1 C.2.2.2.2.1 C.2.2.2.2.2 k4 jB) λy j=> ?_
   exact ih (((⟨x.1.aJQ,x.1.aJm,y.1⟩:M.aG),y.2.1),i4,v4) ⟨jB,J,jB,⟨C.1,C.2.1,C.2.2.1,j.1,j.2.1,j.2.2.1⟩,j.2.2.2.mono jB⟩
  split
  ·refine .bnd (aT c3) λi4 v4 r4 J q4=>.Gl (LW k4.2.2.1) λv hv=>.bnd (At J) λi5 v5 r5 c5 q5=>.bnd (Bv c5) λi6 v6 r6 c6 q6=>.bnd (aT c6) λi7 v7 r7 c7 q7=>.Gl (recv k4 jB (HO (bK _) (bK _) q5.any (qf q6 jB) (bgI (XJ q7)))) λy j=> ?_
   exact ih ((x.1,y.1),i7,v7) ⟨jB,c7,jB,C,j.mono jB⟩
  ·refine .Gl (ZC C k4 jB) λy j=> ?_
   exact ih ((y.1,x.2),i3,v3) ⟨jB,c3,jB,j,k4.mono jB⟩
 ·obtain⟨x,ci,ch⟩:=s;obtain⟨k0,k1,U⟩:=hi;dsimp only at k1 U;simp only[fM];rw[if_neg Ll];exact .ret k1 ⟨U.2.1,U.2.2.mono jB⟩
def Xs(r:M.aG):Prop:=r.ok/\M.aG.sz r<=25000
theorem rpI.all{r:M.aG}(h:rpI r):Xs r:=⟨h.ok,by have:=h.sz;omega⟩
theorem Xq{b:List Int}{i h:Int}(c0:okC b i h):Dr b Xs (CI (⟨b,i,h⟩:M.aM)):=by
 unfold CI
 refine .bnd (WQ c0) λi1 v1 r1 c1 q1=>.bnd (aT c1) λi2 v2 r2 J q2=> ?_
 dsimp only
 have j:=q1.1
 have hz:=j.2.2.2.1.sz
 have hz1:=j.2.1
 split
 ·refine .bnd (V8 J) λi3 v3 U I C=>.ret I ⟨⟨C.1,j.2.2.1,j.ok.aJR⟩,?_⟩
  have:=C.2
  simp only[M.aG.sz,M.aJR.sz]
  omega
 split
 ·refine .bnd (uL (λx=> -1000000000000000<=x/\x<=1000000000000000) jE jE J) λi3 v3 U I C=>.ret I ⟨⟨j.1,bgI C,j.ok.aJR⟩,?_⟩
  simp only[M.aG.sz,M.aJR.sz]
  omega
 split
 ·refine .bnd (XS J) λi3 v3 U I C=>.ret I ⟨⟨j.1,j.2.2.1,⟨C.ok,j.2.2.2.2.1,j.2.2.2.2.2⟩⟩,?_⟩
  have:=C.sz
  simp only[M.aG.sz,M.aJR.sz]
  omega
 ·exact .ret J j.all
def nbI(x:M.aI3):Prop:=x.aI7.size<=16/\x.Top.size<=16/\(M.aIz.ok x.aIz/\x.aIz.aI7.size<=16)/\DS x.aI1/\(x.bR.ok/\M.bR.sz x.bR<=1000)/\rpI x.aG/\inI x.aJc
theorem OH:UJ (⟨(⟨#[110,111,116,101,115]⟩:ByteArray),([]:List M.aJN),0⟩:M.aD):=Zg jE jE
theorem aBx{a t:ByteArray}{d:Int}(j:a.size<=16)(I:t.size<=16)(C:inI d):∃x,tG a t d=some x/\nbI x.1:=by refine⟨_,Gr (s16 j) (s16 I) C,?_⟩;have J:nbI uQ:=⟨jE,jE,⟨⟨s16 jE,yR,yR,yR⟩,jE⟩,Wq,⟨(L6).bR,jE⟩,Pt,yR⟩;unfold DO;split;(split;(have ok:=OI (s16 j) (s16 I) C;exact⟨j,I,⟨ok.aIz,j⟩,Wq,⟨ok.bR,by show M.bR.sz (Ft (⟨#[]⟩:ByteArray) (⟨#[]⟩:ByteArray) 0).bR<=1000;decide⟩,⟨OH.1,sN OH.2.1,yR,QT C TV,yR,yR⟩,yR⟩);·exact J);·exact J
def bkI(x:M.aI3):Prop:=x.aI7.size<=16/\x.Top.size<=16/\(M.aIz.ok x.aIz/\x.aIz.aI7.size<=16)/\PF x.aI1/\Sj x.bR/\Xs x.aG/\inI x.aJc
theorem bkI.ok{x:M.aI3}(h:bkI x):x.ok:=⟨s16 h.1,s16 h.2.1,h.2.2.1.1,h.2.2.2.1.1,h.2.2.2.2.1.1,h.2.2.2.2.2.1.1,h.2.2.2.2.2.2⟩
theorem bkI.sz{x:M.aI3}(h:bkI x):M.aI3.sz x<=180000:=by obtain⟨h1,h2,⟨_,h3⟩,⟨_,h4⟩,⟨_,h5⟩,⟨_,h6⟩,_⟩:=h;simp only[M.aI3.sz,M.aIz.sz];omega
def SL(k:M.bR):Prop:=k.ok/\M.bR.sz k<=20000
def bkS(x:M.aI3):Prop:=x.aI7.size<=16/\x.Top.size<=16/\(M.aIz.ok x.aIz/\x.aIz.aI7.size<=16)/\PF x.aI1/\SL x.bR/\Xs x.aG/\inI x.aJc
theorem SL.all{k:M.bR}(h:SL k):Sj k:=⟨h.1,by have:=h.2;omega⟩
theorem bkS.all{x:M.aI3}(h:bkS x):bkI x:=⟨h.1,h.2.1,h.2.2.1,h.2.2.2.1,h.2.2.2.2.1.all,h.2.2.2.2.2⟩
theorem aDQ{b:List Int}{i h:Int}{X:M.aI3×Bool}{kd:M.bR}{N:Nat}{i1 v1:Int}(hX:nbI X.1)(hk:SL kd)(hN:N<=10)(c1:okC b i1 v1):Dr b bkS (gF (⟨b,i,h⟩:M.aM) X kd.aJQ.Name kd.aJQ.aI0 kd.aJi kd.aJQ.aJF kd.aJQ.aJO kd.Log fuel (N:Int) X.1.aG.aJQ.Name X.1.aG.aJQ.aJa X.1.aG.aJm X.1.aG.aJR.aK.aJA X.1.aG.aJR.aK.aJd X.1.aG.aJR.aJh X.1.aG.aJR.aJY i1 v1 X.1.aG.aJQ.aI6 X.1.aG.aJR.aK.aJM):=by
 obtain⟨h1,h2,h3,h4,h5,h6,h7⟩:=hX
 refine CA (L:=λn v (s:(M.aG)×Int×Int)=>gF (⟨b,i,h⟩:M.aM) X kd.aJQ.Name kd.aJQ.aI0 kd.aJi kd.aJQ.aJF kd.aJQ.aJO kd.Log n v s.1.aJQ.Name s.1.aJQ.aJa s.1.aJm s.1.aJR.aK.aJA s.1.aJR.aK.aJd s.1.aJR.aJh s.1.aJR.aJY s.2.1 s.2.2 s.1.aJQ.aI6 s.1.aJR.aK.aJM) (I:=λk s=>k<=100000/\okC b s.2.1 s.2.2/\rpI s.1) (Q:=Dr b bkS) (λn k s hi ih=> ?_) (λn s hi=> ?_) fuel N (X.1.aG,i1,v1) (mI jB) ⟨jB,c1,h6⟩
 ·obtain⟨x,ci,ch⟩:=s
  obtain⟨k0,U,j⟩:=hi
  dsimp only at U j
  simp only[gF]
  rw[if_pos (UF k),Lv k0]
  refine .bnd (At U) λi3 v3 r3 c3 q3=>.bnd (Bv c3) λi4 v4 r4 c4 q4=>.bnd (aT c4) λi5 v5 r5 C q5=>.Gl (O2 (r:=x) j q3.any (qf q4 jB) (bgI (XJ q5))) λy hy=> ?_
  exact ih (y.1,i5,v5) ⟨jB,C,hy⟩
 ·obtain⟨x,ci,ch⟩:=s
  obtain⟨k0,U,j⟩:=hi
  dsimp only at U j
  simp only[gF]
  rw[if_neg Ll]
  have J:=hk
  have hl:∀{r:Int},(0<=r/\(0<(50:Int)->r<50)/\r<=16777215)->inI r:=λq=>bgI ⟨jB,jB⟩
  refine .bnd (Ab U) λi3 v3 r3 c3 q3=> ?_
  dsimp only
  split
  ·refine .bnd (aT c3) λi4 v4 r4 c4 q4=>.Gl (OV h4 (bK _)) λy hy=>.bnd (aT c4) λi5 v5 r5 C q5=>.bnd (Ab C) λi6 v6 r6 c6 q6=>.ret c6 ⟨h1,h2,⟨⟨h3.1.aI7,h3.1.aJP,h3.1.aJT,bK _⟩,h3.2⟩,hy.all,J,j.all,hl q5⟩
  ·exact .bnd (aT c3) λi5 v5 r5 C q5=>.bnd (Ab C) λi6 v6 r6 c6 q6=>.ret c6 ⟨h1,h2,h3,h4.all,J,j.all,hl q5⟩
theorem aDA{b:List Int}{i h:Int}{X:M.aI3×Bool}{N:Nat}{i1 v1:Int}(hX:nbI X.1)(hN:N<=4)(c1:okC b i1 v1):Dr b bkS (gJ (⟨b,i,h⟩:M.aM) X fuel (N:Int) X.1.bR.aJQ.Name X.1.bR.aJQ.aI0 X.1.bR.aJi i1 v1 X.1.bR.aJQ.aJF X.1.bR.aJQ.aJO X.1.bR.Log):=by
 have h5:=hX.2.2.2.2.1
 refine CA (L:=λn v (s:(M.bR)×Int×Int)=>gJ (⟨b,i,h⟩:M.aM) X n v s.1.aJQ.Name s.1.aJQ.aI0 s.1.aJi s.2.1 s.2.2 s.1.aJQ.aJF s.1.aJQ.aJO s.1.Log) (I:=λk s=>k<=100000/\okC b s.2.1 s.2.2/\s.1.ok/\M.bR.sz s.1+4000*k<=20000) (Q:=Dr b bkS) (λn k s hi ih=> ?_) (λn s hi=> ?_) fuel N (X.1.bR,i1,v1) (mI jB) ⟨jB,c1,⟨h5.1,by have:=h5.2;dsimp only;omega⟩⟩
 ·obtain⟨x,ci,ch⟩:=s
  obtain⟨k0,C,j⟩:=hi
  dsimp only at C j
  simp only[gJ]
  rw[if_pos (UF k),Lv k0]
  refine .bnd (At C) λi3 v3 r3 U J=>.bnd (Ef U) λi4 v4 r4 c4 q4=>.Gl (QV (k:=x) (n:=M.bR.sz x) j.1 (qe _) (by have:=j.2;omega) jD (by simp only[qo,qO,or_false];rintro o rfl;exact⟨TV,s16 (s:=(⟨#[110,111,116,101,115]⟩:ByteArray)) jE,J.any.1,q4.1,s16 (s:=(⟨#[]⟩:ByteArray)) jE⟩)) λy hy=> ?_
  exact ih (y.1,i4,v4) ⟨jB,c4,hy.1,by have:=hy.2;have:=j.2;dsimp only;omega⟩
 ·obtain⟨x,ci,ch⟩:=s
  obtain⟨k0,C,j⟩:=hi
  dsimp only at C j
  simp only[gJ]
  rw[if_neg Ll]
  refine .bnd (aT C) λi3 v3 r3 U J=> ?_
  obtain⟨M,rfl⟩:=BE J.1
  have hM:=J.2.1 jB
  exact aDQ hX (kd:=x) ⟨j.1,by have:=j.2;omega⟩ jB U
theorem Mb{b:List Int}{i h:Int}(J:okC b i h):Dr b bkS (xJ (⟨b,i,h⟩:M.aM)):=by
 unfold xJ
 refine .bnd (IX J) λi1 v1 r1 U C=>.Gl (aBv U C) λy j=>.bnd (aT j.2) λi4 v4 r4 c4 q4=>.Gl (aBx (qf C jB) (qf j.1 jB) (bK _)) λx hx=>.bnd (aT c4) λi5 v5 r5 c5 I=> ?_
 obtain⟨N,rfl⟩:=BE I.1
 have hN:=I.2.1 jB
 exact aDA hx jB c5
theorem Yk{b:List Int}{i h:Int}(c0:okC b i h):Dr b bkI (CT (⟨b,i,h⟩:M.aM)):=by
 unfold CT
 refine .bnd (Mb c0) λi1 v1 r1 c1 q1=>.bnd (aT c1) λi2 v2 r2 J q2=> ?_
 have q0:=q1.all
 obtain⟨h1,h2,h3,h4,h5,h6,h7⟩:=q1
 have C:=h5.all
 dsimp only
 split
 ·exact .bnd (Di (λs=>s.size<=16) jE jE J) λi3 v3 r3 j I=>.ret j ⟨I,h2,h3,h4,C,h6,h7⟩
 split
 ·exact .bnd (XB J) λi3 v3 r3 j I=>.ret j ⟨h1,h2,h3,I,C,h6,h7⟩
 split
 ·exact .bnd (YM J) λi3 v3 r3 j I=>.ret j ⟨h1,h2,h3,h4,I,h6,h7⟩
 split
 ·exact .bnd (Xq J) λi3 v3 r3 j I=>.ret j ⟨h1,h2,h3,h4,C,I,h7⟩
 split
 ·exact .bnd (uL (λx=> -1000000000000000<=x/\x<=1000000000000000) jE jE J) λi3 v3 r3 j I=>.ret j ⟨h1,h2,h3,h4,C,h6,bgI I⟩
 split
 ·have hz:=h5.2
  simp only[M.bR.sz]at hz
  have key:∀(n:Nat) (l:List Int),100000<n+l.length->okB l->l.length<=20000->Dr b bkI (pM (i1,v1,r1) (i2,v2,r2) n l):=by
   intro n
   induction n with
   |zero=>intro l h _ hz2;exact absurd h jB
   |succ n ih=>
    intro l hn hl hz2
    have e1:(l++[(0:Int)]).length=l.length+1:=by rw[qE];rfl
    simp only[pM]
    by_cases h6':(l.length:Int)<2600
    ·have h7':l.length<2600:=by omega
     rw[if_pos (decide_eq_true h6'),B7 (by show l.length+1<=_;omega) jB,qA]
     refine ih (l++[0]) jB ⟨ml jB,λx U=> ?_⟩ jB
     rcases qP.1 U with U|U
     ·exact hl.2 x U
     ·rw[qQ.1 U];exact⟨Int.le_refl _,jE⟩
    ·rw[if_neg (by rw[decide_eq_false h6'];exact Bool.false_ne_true)];exact .ret J ⟨h1,h2,h3,h4,⟨⟨h5.1.aJQ,hl,h5.1.aJi⟩,by show M.aI2.sz r1.bR.aJQ+l.length<=80000;omega⟩,h6,h7⟩
  exact key fuel r1.bR.Log (qu (mI (k:=100000) jB) (Nat.le_add_right _ _)) h5.1.Log jB
 ·exact .ret J q0
theorem jn{α β:Type}{o:Option α}{v:α}{f:α->Option β}{r:Option β}(h1:o=some v)(h2:f v=r):o.bind f=r:=by rw[h1];exact h2
theorem pO{α:Type}{f:α->α->Bool}(j:∀x,f x x=true):∀l:List α,eqL f l l=true
 |[]=>rfl
 |x::l=>by simp only[eqL,j x,pO j l,Bool.and_self]
theorem NK(x:M.aI8):GZ x x=true:=by simp[GZ,pO (f:=Cx) (λx=>by simp[Cx])]
theorem NJ(x:M.aC):Jf x x=true:=pO (λc=>by simp[Qe,pO (f:=JP) (λy=>by simp[JP,NK])]) _
theorem PZ(x:M.aE):OB x x=true:=pO (λy=>by simp[LX]) _
theorem Iz(x:M.aD):Jd x x=true:=by simp[Jd,aCF,pO (f:=Uu) (λy=>by simp[Uu,aCF,PZ])]
theorem Nh(x:M.aI2):GM x x=true:=by simp[GM,pO (f:=Jd) Iz,pO (f:=Ew) (λy=>by simp[Ew])]
theorem T9(x:M.bR):VV x x=true:=by simp[VV,Nh,pO (f:=Cx) (λx=>by simp[Cx])]
theorem Qr(x:M.aK):MK x x=true:=by simp[MK,pO (f:=EI) (λy=>by simp[EI])]
theorem Ox(x:M.aG):Jx x x=true:=by simp[Jx,Yi,Iz,Qr]
theorem Qo(x:M.aI3):Ky x x=true:=by simp[Ky,aDL,NJ,T9,Ox]
theorem Gt(x:List M.Instr)(j:x.length<=1073741824):xE x=some x:=by unfold xE;rw[Gv j jB,qA]
theorem Ni(x:M.aJH)(j:M.aJH.sz x<=1073741824):BW x=some x:=by simp only[M.aJH.sz]at j;unfold BW;rw[Gt _ jB,qA,Gv jB jB,qA]
theorem E0(x:M.bG)(j:M.bG.sz x<=1073741824):lQ x=some x:=by simp only[M.bG.sz]at j;unfold lQ;rw[Gv jB jB,qA,Ni _ jB,qA]
theorem HU(x:M.aQ)(j:M.aQ.sz x<=1073741824):yP x=some x:=by simp only[M.aQ.sz]at j;unfold yP;rw[Gv jB jB,qA]
theorem Ny(x:M.aJD)(j:M.aJD.sz x<=1073741824):AN x=some x:=by simp only[M.aJD.sz]at j;unfold AN;rw[Gv jB jB,qA]
theorem HQ(x:M.aI7)(j:M.aI7.sz x<=1073741824):uS x=some x:=by simp only[M.aI7.sz]at j;unfold uS;rw[Gv jB jB,qA]
theorem Nn(x:M.aJC)(j:M.aJC.sz x<=1073741824):gW x=some x:=by simp only[M.aJC.sz]at j;unfold gW;rw[oV _ jB,qA,Gv jB jB,qA,Gv jB jB,qA]
theorem I0(x:M.aJH)(j:M.aJH.sz x<=1073741824):xZ x=some x:=by simp only[M.aJH.sz]at j;unfold xZ;rw[Gv jB jB,qA,Gv jB jB,qA]
theorem G7(x:M.bG)(j:M.bG.sz x<=1073741824):zZ x=some x:=by simp only[M.bG.sz]at j;unfold zZ;rw[Gv jB jB,qA,I0 _ jB,qA]
theorem Lw(x:M.aQ)(j:M.aQ.sz x<=1073741824):Ao x=some x:=by simp only[M.aQ.sz]at j;unfold Ao;rw[Gv jB jB,qA]
theorem Jq(x:M.aJD)(j:M.aJD.sz x<=1073741824):yB x=some x:=by simp only[M.aJD.sz]at j;unfold yB;rw[Gv jB jB,qA]
theorem G9(x:M.aI7)(j:M.aI7.sz x<=1073741824):sE x=some x:=by simp only[M.aI7.sz]at j;unfold sE;rw[Gv jB jB,qA]
theorem KH(x:M.aJC)(j:M.aJC.sz x<=1073741824):zL x=some x:=by simp only[M.aJC.sz]at j;unfold zL;rw[DK _ jB,qA,Gv jB jB,qA,Gv jB jB,qA]
theorem aIe(n:Int):inR n 0 0=(n==0):=by unfold inR;rw[Bool.eq_iff_iff];simp only[qM,qL,beq_iff_eq];omega
theorem Ug{k:Int}(h:inR k 1 9=true):k=1\/k=2\/k=3\/k=4\/k=5\/k=6\/k=7\/k=8\/k=9:=by unfold inR at h;simp only[qM,qL]at h;omega
theorem aDx{α β:Type}(c:Bool)(x y:Option α)(f:α->Option β):(if c=true then x else y).bind f=if c=true then x.bind f else y.bind f:=by split<;>rfl
theorem Ue{k r n m:Int}{t:ByteArray}(j:t.size<=maxLen):∃b,yH (⟨k,r,n,t⟩:M.Instr) m=some b:=by
 unfold yH
 simp only[cH,dM j,qA,aIe]
 generalize inR r 0 3=a1
 generalize (r !=0)=a2
 generalize oJ t=a3
 generalize (t.toList==(⟨#[]⟩:ByteArray).toList)=a4
 generalize inR n 0 1000=a5
 generalize inR n 0 3=a6
 generalize inR n 0 m=a7
 generalize inR n 0 100=a8
 generalize (n==0)=a9
 cases hk:inR k 1 9 with
 |false=>exact⟨false,by simp only[aDx,qA,qC,if_true,ite_self]⟩
 |true=>
  rcases Ug hk with rfl|rfl|rfl|rfl|rfl|rfl|rfl|rfl|rfl
  all_goals clear hk
  all_goals simp+decide only[qA,aDx,if_true,if_false,qB,qC,show inR 1 6 8=false from rfl,show inR 2 6 8=false from rfl,show inR 3 6 8=false from rfl,show inR 4 6 8=false from rfl,show inR 6 6 8=true from rfl,show inR 7 6 8=true from rfl,show inR 8 6 8=true from rfl,show inR 9 6 8=false from rfl]
  all_goals (try generalize inR n 0 1000=b1)
  all_goals (try generalize inR n 0 3=b2)
  all_goals (try generalize inR n 0 m=b3)
  all_goals (try generalize inR n 0 100=b4)
  all_goals (try generalize inR n 0 0=b5)
  all_goals (try generalize (n==0)=b6)
  all_goals (try cases b1)
  all_goals (try cases b2)
  all_goals (try cases b3)
  all_goals (try cases b4)
  all_goals (try cases b5)
  all_goals (try cases b6)
  all_goals (try clear a1)
  all_goals (try clear a2)
  all_goals (try clear a3)
  all_goals (try clear a4)
  all_goals (try clear a5)
  all_goals (try clear a6)
  all_goals (try clear a7)
  all_goals (try clear a8)
  all_goals (try clear a9)
  all_goals (try cases a1)
  all_goals (try cases a2)
  all_goals (try cases a3)
  all_goals (try cases a4)
  all_goals (try cases a5)
  all_goals (try cases a6)
  all_goals (try cases a7)
  all_goals (try cases a8)
  all_goals (try cases a9)
  all_goals first|exact⟨true,rfl⟩|exact⟨false,rfl⟩
def Xc(x:M.Instr)(m:Int):Bool:=(yH x m).getD false
theorem Nj{x:M.Instr}{m:Int}(j:x.ok):yH x m=some (Xc x m):=by obtain⟨k,r,n,t⟩:=x;obtain⟨b,e1⟩:=Ue (k:=k) (r:=r) (n:=n) (m:=m) j.aJb;unfold Xc;rw[e1];rfl
def O7(l:List M.Instr)(k:Nat):Bool:=(l[k]?).any λx=>Xc x (List.length l:Int)
def O8(l:List M.Instr):Bool:=(List.range l.length).all (O7 l)&&decide ((List.length l:Int)<=16)
def D1(l:List M.Instr):Prop:=l.length<=maxLen/\∀x∈l,M.Instr.ok x
theorem MV{l:List M.Instr}(j:D1 l):Bm l=some (O8 l):=by have C:=le_max j.1;unfold Bm O8;rw[pR (L:=oN l) (g:=O7 l) (F:=some false) (E:=some (decide ((List.length l:Int)<=16))) j.1 (λn k hk=> ?_) (λn=> ?_),bA];(simp only[oN];rw[if_pos (aW hk),aJ hk,qA,bF jB,Nj (j.2 _ (qG hk)),qA];unfold O7;rw[qF hk,qd];simp only[gM]);·simp only[oN];rw[if_neg jK]
def Rw(l:List M.Instr):M.aJH:=if O8 l=true then(⟨l,0,[0,0,0,0],0,false,false⟩:M.aJH)else(⟨([]:List M.Instr),0,[0,0,0,0],0,true,false⟩:M.aJH)
theorem Vs:okI [0,0,0,0]:=⟨by unfold maxLen;simp,λx j=>by simp only[qo,qO,or_false,or_self]at j;subst j;exact yR⟩
theorem XD{l:List M.Instr}(j:D1 l):(Rw l).ok:=by unfold Rw;split;(exact⟨j,yR,Vs,yR⟩);·exact⟨⟨jD,jD⟩,yR,Vs,yR⟩
theorem XH(l:List M.Instr):M.aJH.sz (Rw l)<=l.length+dH M.Instr.sz l+4:=by unfold Rw;split;(simp only[M.aJH.sz,qJ,qK];omega);·simp only[M.aJH.sz,dH,qJ,qK];omega
theorem Kp{l:List M.Instr}(j:D1 l)(C:l.length<=1073741824):zR l=some (Rw l):=by unfold zR Rw;rw[MV j,qA,Gt l C];cases O8 l<;>rfl
def Et(i:Int)(a b:ByteArray)(v:Int)(l:List M.Instr):M.bG:=(⟨i,a,b,v,([]:List M.aV),Rw l⟩:M.bG)
def Jr:M.bG:=(⟨0,(⟨#[]⟩:ByteArray),(⟨#[]⟩:ByteArray),0,([]:List M.aV),(⟨([]:List M.Instr),0,([]:List Int),0,false,false⟩:M.aJH)⟩:M.bG)
def DD(i:Int)(a b:ByteArray)(v:Int)(l:List M.Instr):M.bG×Bool:=if Fy (Et i a b v l)=true then(Et i a b v l,true)else(Jr,false)
theorem Og{i v:Int}{a b:ByteArray}{l:List M.Instr}(C:inI i)(j:a.size<=maxLen)(hb:b.size<=maxLen)(J:inI v)(I:D1 l):(Et i a b v l).ok:=⟨C,j,hb,J,⟨by simp[Et],by simp[Et]⟩,XD I⟩
theorem UT:Jr.ok:=⟨yR,sz0,sz0,yR,⟨by simp[Jr],by simp[Jr]⟩,⟨⟨by simp[Jr],by simp[Jr]⟩,yR,⟨by simp[Jr],by simp[Jr]⟩,yR⟩⟩
theorem Qz{i v:Int}{a b:ByteArray}{l:List M.Instr}(C:inI i)(j:a.size<=maxLen)(hb:b.size<=maxLen)(J:inI v)(I:D1 l):(DD i a b v l).1.ok:=by unfold DD;split;(exact Og C j hb J I);·exact UT
theorem PJ(i:Int)(a b:ByteArray)(v:Int)(l:List M.Instr):M.bG.sz (DD i a b v l).1<=a.size+b.size+(l.length+dH M.Instr.sz l)+4/\(DD i a b v l).1.aV.length=0:=by have h:=XH l;unfold DD;split;(refine⟨?_,rfl⟩;simp only[Et,M.bG.sz,dH,qK];omega);·refine⟨?_,rfl⟩;have j:(⟨#[]⟩:ByteArray).size=0:=rfl;simp only[Jr,M.bG.sz,M.aJH.sz,dH,qK,j];omega
theorem Gd{i v:Int}{a b:ByteArray}{l:List M.Instr}(I:inI i)(C:a.size<=maxLen)(hb:b.size<=maxLen)(J:inI v)(j:D1 l)(U:l.length<=1073741824):mA i a b v l=some (DD i a b v l):=by unfold mA DD;rw[Kp j U,qA];show((uN (Et i a b v l)).bind _)=_;rw[DY (Og I C hb J j),qA];cases Fy (Et i a b v l)<;>rfl
def GD(p:M.bG)(f:ByteArray)(v:Int):M.bG:=(⟨p.Id,p.aI7,p.Top,p.aI0,p.aV++[(⟨f,v⟩:M.aV)],p.aJH⟩:M.bG)
def IF(p:M.bG)(f:ByteArray)(x:M.aI8):M.bG×Bool:=if(x.aJn !=200)=true then(p,false)else if(x.aI0 !=p.aI0)=true then(p,false)else if Fy p=true then if Fy (GD p f x.aI0)=true then(GD p f x.aI0,true)else(p,false)else(p,false)
theorem PX{p:M.bG}{f:ByteArray}{v:Int}(j:p.ok)(hl:p.aV.length<=4194304)(J:f.size<=maxLen)(U:inI v):(GD p f v).ok:=
 ⟨j.Id,j.aI7,j.Top,j.aI0,⟨by show(p.aV++_).length<=maxLen;unfold maxLen;simp;omega,λy I=>by have C:y∈p.aV++[(⟨f,v⟩:M.aV)]:=I;simp only[qP,qo,qO,or_false]at C;rcases C with I|rfl;(exact j.aV.2 y I);·exact⟨J,U⟩⟩,j.aJH⟩
theorem Ti{p:M.bG}{f:ByteArray}{x:M.aI8}(j:p.ok)(I:p.aV.length<=4194304)(C:f.size<=maxLen)(J:inI x.aI0):(IF p f x).1.ok:=by unfold IF;split;(exact j);·split;(exact j);·split;(split;(exact PX j I C J);·exact j);·exact j
theorem S4(p:M.bG)(f:ByteArray)(x:M.aI8):M.bG.sz (IF p f x).1<=M.bG.sz p+f.size+1:=by
 have h:M.bG.sz (GD p f x.aI0)=M.bG.sz p+f.size+1:=by simp only[GD,M.bG.sz,qE,qJ,qK,xM,dH,M.aV.sz];omega
 unfold IF
 split
 ·show M.bG.sz p<=_;omega
 ·split;(show M.bG.sz p<=_;omega);·split;(split;(show M.bG.sz (GD p f x.aI0)<=_;omega);·show M.bG.sz p<=_;omega);·show M.bG.sz p<=_;omega
theorem Hi{p:M.bG}{f:ByteArray}{x:M.aI8}(j:p.ok)(I:p.aV.length<=4194304)(U:M.bG.sz p<=1073741824)(C:f.size<=maxLen)(J:inI x.aI0):lS p f x=some (IF p f x):=by have e:=DY (PX j I C J);unfold GD at e;unfold lS IF;rw[E0 p U,qA,dS jS,qA,DY j,qA,e,qA];unfold GD;cases (x.aJn !=200);(cases (x.aI0 !=p.aI0);(cases Fy p;(simp);·cases Fy (⟨p.Id,p.aI7,p.Top,p.aI0,p.aV++[(⟨f,x.aI0⟩:M.aV)],p.aJH⟩:M.bG)<;>simp);·simp);·simp
def Ee(x:M.Instr):Prop:=M.Instr.ok x/\x.aJb.size<=8
theorem EV{k r n:Int}{s:ByteArray}(h1: -1000000000000<=k/\k<=1000000000000)(h2:0<=r/\r<=1000000000000)(h3:0<=n/\n<=1000000000000)(j:s.size<=8):Ee (⟨k,r,n,s⟩:M.Instr):=⟨⟨LL (by show -1000000000000000<=k;omega) (by show k<=_;omega),LL (by show -1000000000000000<=r;omega) (by show r<=_;omega),LL (by show -1000000000000000<=n;omega) (by show n<=_;omega),FZ j⟩,j⟩
theorem TW{b:List Int}{i h n:Int}(hn:0<=n/\n<=1000)(hc:okC b i h):Dr b Ee (Bl (⟨b,i,h⟩:M.aM) n):=by
 have e0:(⟨#[]⟩:ByteArray).size<=8:=by decide
 unfold Bl
 refine .bnd (aT hc) λi1 v1 r1 c1 q1=>.bnd (aT c1) λi2 v2 r2 c2 q2=> ?_
 dsimp only
 have hr1:=q1.2.1 jB
 have hr2:=q2.2.1 jB
 rw[wrap_small (n:=1+r1) jB jB,wrap_small (n:=n+1) jB jB]
 have U: -1000000000000<=1+r1/\1+r1<=1000000000000:=by omega
 have a2:0<=r2/\r2<=1000000000000:=by omega
 have a0:(0:Int)<=0/\(0:Int)<=1000000000000:=by omega
 have below:∀{m:Int} {f:Int×Int×Int->Option (Int×Int×M.Instr)},(∀i3 J I,okC b i3 J->(0<=I/\I<=1000000000000)->Dr b Ee (f (i3,J,I)))->Dr b Ee ((aF (⟨b,i2,v2⟩:M.aM) m).bind f):=λhf=>.bnd (aT c2) λi3 J I j C=>hf i3 J I j ⟨C.1,jB⟩
 split
 ·exact below λi3 J I j C=>.ret j (EV U a2 C e0)
 split
 ·exact below λi3 J I j C=>.ret j (EV U a2 C e0)
 split
 ·exact below λi3 J I j C=>.ret j (EV U a2 C e0)
 split
 ·exact below λi3 J I j C=>.ret j (EV U a0 C e0)
 split
 ·exact .bnd (Di (λs=>s.size<=8) jE jE c2) λi3 J I j C=>.ret j (EV U a2 a0 C)
 split
 ·exact below λi3 J I j C=>.bnd (Bv j) λi4 v4 r4 c4 q4=>.ret c4 (EV U a2 C q4)
 split
 ·exact below λi3 J I j C=>.bnd (Bv j) λi4 v4 r4 c4 q4=>.ret c4 (EV U a2 C q4)
 split
 ·exact below λi3 J I j C=>.bnd (Bv j) λi4 v4 r4 c4 q4=>.ret c4 (EV U a2 C q4)
 split
 ·exact .ret c2 (EV U a0 a0 e0)
 ·exact .ret c2 (EV U a2 a0 e0)
def C6(l:List M.Instr):Prop:=l.length<=8/\∀x∈l,Ee x
theorem FE{b:List Int}{i h:Int}(hc:okC b i h):Dr b C6 (jY (⟨b,i,h⟩:M.aM)):=by
 unfold jY
 refine .bnd (aT hc) λi1 v1 r1 c1 q1=> ?_
 obtain⟨N,rfl⟩:=BE q1.1
 have hN:=q1.2.1 jB
 refine ZL (N:=N) (L:=λn v (s:List M.Instr×Int×Int)=>mJ (⟨b,i,h⟩:M.aM) (i1,v1,(N:Int)) n v s.1 s.2.1 s.2.2) (I:=λk s=>okC b s.2.1 s.2.2/\s.1.length=k/\∀x∈s.1,Ee x) (Q:=Dr b C6) (λn k s hk hi ih=> ?_) (λn s hi=> ?_) fuel 0 (([]:List M.Instr),i1,v1) (mI jB) jB ⟨c1,rfl,jD⟩
 ·obtain⟨l,ci,ch⟩:=s
  obtain⟨C,U,J⟩:=hi
  simp only at C U J
  simp only[mJ]
  rw[if_pos (aW hk)]
  refine .bnd (TW ⟨jB,jB⟩ C) λi3 v3 r3 c3 q3=> ?_
  rw[dS jS,qA,bF jB]
  refine ih (l++[r3],i3,v3) ⟨c3,by simp[U],λx j=> ?_⟩
  rcases qP.1 j with j|j
  ·exact J x j
  ·rw[qQ.1 j];exact q3
 ·obtain⟨l,ci,ch⟩:=s;obtain⟨C,U,J⟩:=hi;simp only at C U J;simp only[mJ];rw[if_neg jK];exact .ret C ⟨jB,J⟩
theorem MU{l:List M.Instr}(h:C6 l):D1 l:=⟨qf h.1 jJ,λx j=>(h.2 x j).1⟩
theorem Qq{l:List M.Instr}(h:C6 l):l.length+dH M.Instr.sz l<=72:=by
 have h1:=Ml (c:=M.Instr.sz) (A:=8) (xs:=l) λx j=>(h.2 x j).2
 have h2:=h.1
 omega
def IJ(p:M.bG):Prop:=M.bG.ok p/\p.aV.length<=3/\M.bG.sz p<=1000
