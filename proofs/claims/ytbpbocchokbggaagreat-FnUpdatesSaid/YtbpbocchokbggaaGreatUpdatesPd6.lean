/-
  Helper text. No conditions.
-/
import Derived.Test.YtbpbocchokbggaaGreatUpdatesPd5
set_option linter.all false
namespace Go.Proofs.YtbpbocchokbggaaGreat.gen
open Go Go.Sh
open Go.IntKind (i64)
theorem Di{b:List Int}{i h:Int}{l:List ByteArray}(P:ByteArray->Prop)(J:0<l.length)(I:∀x∈l,P x)(hc:okC b i h):Dr b P (fZ (⟨b,i,h⟩:M.aM) l):=by
 unfold fZ
 refine .bnd (aT hc) λi1 v1 U C j=> ?_
 dsimp only
 obtain⟨k,rfl⟩:=Int.eq_ofNat_of_zero_le j.1
 have:=j.2.1 jB
 have hk:k<l.length:=by omega
 rw[aJ hk,qA]
 exact .ret C (I _ (qG hk))
theorem Tt{b:List Int}:∀(n k:Nat) (v:Int),b.length-k<n->k<=b.length->b.length<=1048576->inI v->∃h,oU b n v (k:Int)=some (⟨b,0,h⟩:M.aM)/\inI h
 |0,_,_,h,_,_,_=>by omega
 |n+1,k,v,h,hk,C,j=>by simp only[oU];by_cases h1:k<b.length;(rw[if_pos (aW h1)];by_cases h2:(k:Int)<4000;(rw[if_pos (by simpa using h2),aJ h1,qA,bF jB];exact Tt n (k+1) _ jB jB C (bK _));·rw[if_neg (by simpa using h2)];exact⟨v,rfl,j⟩);·rw[if_neg jC];exact⟨v,rfl,j⟩
theorem aAq{b:List Int}(j:b.length<=1048576)(hb:∀x∈b,0<=x/\x<=255):∃h,Dw b=some (⟨b,0,h⟩:M.aM)/\okC b 0 h:=by unfold Dw;obtain⟨h,e1,e2⟩:=Tt (b:=b) fuel 0 (i64.wrap (193017+(List.length b:Int))) (mI jB) jB j (bK _);exact⟨h,e1,j,hb,jB,jB,e2⟩
theorem BE{r:Int}(h:0<=r):∃k:Nat,r=(k:Int):=⟨r.toNat,jB⟩
theorem LL{n:Int}(h1: -1000000000000000<=n)(h2:n<=1000000000000000):inI n:=by unfold inI;omega
theorem FZ{s:ByteArray}(h:s.size<=8):s.size<=maxLen:=by unfold maxLen;omega
theorem wrap_small{n:Int}(h1: -1000000000000000<=n)(h2:n<=1000000000000000):i64.wrap n=n:=bN jB jB
theorem IX{b:List Int}{i h:Int}(hc:okC b i h):Dr b (λs=>s.size<=8) (nY (⟨b,i,h⟩:M.aM)):=by unfold nY;exact .bnd (Di (λs=>s.size<=8) jE jE hc) λi1 J I j C=>.ret j C
theorem QK{b:List Int}{i h:Int}(hc:okC b i h):Dr b (λs=>s.size<=8) (yM (⟨b,i,h⟩:M.aM)):=by unfold yM;exact .bnd (Di (λs=>s.size<=8) jE jE hc) λi1 J I j C=>.ret j C
theorem Bv{b:List Int}{i h:Int}(hc:okC b i h):Dr b (λs=>s.size<=8) (dN (⟨b,i,h⟩:M.aM)):=by unfold dN;exact .bnd (Di (λs=>s.size<=8) jE jE hc) λi1 J I j C=>.ret j C
theorem vC{a:ByteArray}:gZ a=some (Ah a):=by unfold gZ;rw[show vW=some sO from rfl,qA];rw[findAll (L:=kZ a sO) (f:=λx:ByteArray=>x.toList==a.toList) (A:=λi=>some (i:Int)) (E:=some (-1)) NV (λm k hk=> ?_) (λm=> ?_),uH];(rfl);(have j:k<3:=hk;simp only[kZ];rw[if_pos (aW hk),aJ hk,qA,bF jB]);·simp only[kZ];rw[if_neg jK]
def UL(d:Int):M.World:=if 1<=d/\d<=1000000 then(⟨0,true,d,(⟨([]:List M.aI3)⟩:M.aA),([]:List M.bG),1,(⟨([]:List M.mV)⟩:M.aQ),(⟨([]:List M.AP)⟩:M.aJD),
   sO.map (λx=>(⟨x,1,[(⟨#[99,111,100,101]⟩:ByteArray),(⟨#[100,97,116,97]⟩:ByteArray),(⟨#[105,110,100,101,120]⟩:ByteArray),(⟨#[115,116,121,108,101]⟩:ByteArray)],x.toList==(⟨#[110,101,119,115]⟩:ByteArray).toList⟩:M.aI7)),
   sO.map (λ_=>(⟨(⟨(⟨#[110,111,116,101,115]⟩:ByteArray),([]:List M.aJN),0⟩:M.aD),([]:List M.aP),([]:List M.bC)⟩:M.aJC))⟩:M.World)
  else(⟨0,false,0,(⟨([]:List M.aI3)⟩:M.aA),([]:List M.bG),0,(⟨([]:List M.mV)⟩:M.aQ),(⟨([]:List M.AP)⟩:M.aJD),([]:List M.aI7),([]:List M.aJC)⟩:M.World)
theorem aDB:∃n,fuel=n+4:=⟨fuel-4,jI⟩
theorem MN{d:Int}:A6 d=some (UL d):=by unfold A6 UL aY;by_cases h:1<=d/\d<=1000000;(rw[if_pos h,if_pos (by simpa using h.1),qA,if_neg (by simpa using h.2)];obtain⟨n,j⟩:=aDB;rw[j];rfl);·rw[if_neg h];by_cases h1:1<=d;(rw[if_pos (by simpa using h1),qA,if_pos jC]);·rw[if_neg (by simpa using h1),qA,if_pos jD]
theorem WS{l:List M.bG}{f:Int}(j:l.length<=maxLen):B5 l f=some (iJ (λp:M.bG=>p.Id==f) l):=by have C:=le_max j;unfold B5;rw[findAll (L:=pY l f) (f:=λp:M.bG=>p.Id==f) (A:=λi=>some (i:Int)) (E:=some (-1)) j (λm k hk=> ?_) (λm=> ?_),uH];(simp only[pY];rw[if_pos (aW hk),aJ hk,qA,bF jB]);·simp only[pY];rw[if_neg jK]
def Ry(w:M.World)(f:Int):Int:=iJ (λp:M.bG=>p.Id==f) w.aJI
theorem K4{w:M.World}{f:Int}(j:w.ok):Av w f=some (Ry w f):=by unfold Av;rw[WS j.aJI.1,qA];rfl
theorem aBv{b:List Int}{i1 U:Int}{J:ByteArray}(c1:okC b i1 U)(q1:J.size<=8):∃r:ByteArray×Int×Int,((cC (⟨b,i1,U⟩:M.aM) 3).bind λj=>if j.2.2=true then(nY (⟨b,j.1,j.2.1⟩:M.aM)).bind λC=>some (C.2.2,C.1,C.2.1)else some (J,j.1,j.2.1))=some r/\(r.1.size<=8/\okC b r.2.1 r.2.2):=by obtain⟨i2,v2,r2,e2,I,q2⟩:=Ab (n:=3) c1;rw[e2,qA];dsimp only;split;(obtain⟨i3,v3,r3,e3,c3,q3⟩:=IX I;rw[e3,qA];exact⟨_,rfl,q3,c3⟩);·exact⟨_,rfl,q1,I⟩
theorem UF(k:Nat):(decide (((k+1:Nat):Int)>0))=true:=decide_eq_true jB
theorem Ll:¬(decide ((0:Int)>0))=true:=by simp
theorem Lv{k:Nat}(h:k+1<=100000):i64.wrap (((k+1:Nat):Int)-1)=(k:Int):=by rw[wrap_small jB jB];omega
theorem bgI{x:Int}(h: -1000000000000000<=x/\x<=1000000000000000):inI x:=LL h.1 h.2
theorem XJ{r n:Int}(q:0<=r/\(0<n->r<n)/\r<=16777215): -1000000000000000<=r/\r<=1000000000000000:=⟨jB,jB⟩
theorem aFR{x:Int}(q: -1000000000000<=x/\x<=1000000000000/\(x<=256\/x=1000000000000)): -1000000000000000<=x/\x<=1000000000000000:=⟨jB,jB⟩
theorem aIP{r n:Int}(q:0<=r/\(0<n->r<n)/\r<=16777215)(j:0<n)(h:n<=1000):0<=r/\r<=1000:=⟨q.1,by have:=q.2.1 j;omega⟩
theorem s16{s:ByteArray}(h:s.size<=16):s.size<=maxLen:=by unfold maxLen;omega
theorem ml{n:Nat}(h:n<=1000000):n<=maxLen:=by unfold maxLen;omega
theorem B7{α:Type}{b:Nat}{xs ys:List α}(h:xs.length+ys.length<=1000000)(hb:b<=1000):app b xs ys=some (xs++ys):=dS (qf (Nat.mul_le_mul h hb) jB)
def Pb(k:M.Key):Prop:=M.Key.ok k/\k.aJb.size<=16
theorem mkKey{a n:Int}{s:ByteArray}(h1: -1000000000000000<=a/\a<=1000000000000000)(h2: -1000000000000000<=n/\n<=1000000000000000)(h3:s.size<=16):Pb (⟨a,n,s⟩:M.Key):=⟨⟨bgI h1,bgI h2,s16 h3⟩,h3⟩
def R0(k:M.Key):Prop:=k.aJS=1/\0<=k.N/\k.N<=5/\k.aJb=(⟨#[]⟩:ByteArray)
theorem R0.any{k:M.Key}(h:R0 k):Pb k:=by obtain⟨a,n,s⟩:=k;obtain⟨h1,h2,h3,h4⟩:=h;dsimp only at h1 h2 h3 h4;subst h4;exact mkKey jB jB jE
def OT(k:M.Key):Prop:=Pb k/\(k.aJS=1->k.N<=256\/k.N=1000000000000)
theorem R0.auto{k:M.Key}(h:R0 k):OT k:=⟨h.any,λ_=>.inl (by have:=h.2.2.1;omega)⟩
theorem At{b:List Int}{i h:Int}(C:okC b i h):Dr b R0 (dZ (⟨b,i,h⟩:M.aM)):=by
 unfold dZ
 refine .bnd (aT C) λi1 U J I j=> ?_
 have:=j.2.1 jB
 exact .ret I ⟨rfl,j.1,by show J<=5;omega,rfl⟩
theorem On{b:List Int}{i h:Int}(C:okC b i h):Dr b (λx=> -1000000000000<=x/\x<=1000000000000/\(x<=256\/x=1000000000000)) (zA (⟨b,i,h⟩:M.aM)):=by
 unfold zA
 refine .bnd (aT C) λi1 v1 r1 I j=> ?_
 have:=j.2.1 jB
 have:=j.1
 exact .bnd (uL (λx=> -1000000000000<=x/\x<=1000000000000/\(x<=256\/x=1000000000000)) jD (λx U=>by simp only[qo,qO,or_false]at U;omega) I) λi2 v2 r2 J q2=>.ret J q2
theorem WR{b:List Int}{i h:Int}(U:okC b i h):Dr b OT (Cp (⟨b,i,h⟩:M.aM)):=by
 unfold Cp
 refine .bnd (Di (λs=>s.size<=16) jE jE U) λi1 v1 r1 c1 J=>.bnd (aT c1) λi2 v2 r2 C q2=> ?_
 dsimp only
 split
 ·exact .ret C ⟨mkKey jB jB J,λh=>by have h':(2:Int)=1:=h;omega⟩
 split
 ·exact .bnd (On C) λi3 v3 r3 I j=>.ret I ⟨mkKey jB (aFR j) J,λh=>by have h':(3:Int)=1:=h;omega⟩
 ·exact .bnd (On C) λi3 v3 r3 I j=>.ret I ⟨mkKey jB (aFR j) jE,λ_=>j.2.2⟩
theorem Rs{b:List Int}{i h:Int}(c0:okC b i h):Dr b Pb (A0 (⟨b,i,h⟩:M.aM)):=by
 unfold A0
 refine .bnd (WR c0) λi1 v1 r1 c1 q1=>.bnd (aT c1) λi2 v2 r2 I q2=> ?_
 dsimp only
 have hk:=q1.1
 split
 ·exact .bnd (aT I) λi3 U J C j=>.ret C ⟨⟨bgI (XJ j),hk.1.N,hk.1.aJb⟩,hk.2⟩
 split
 ·exact .bnd (uL (λx=> -1000000000000000<=x/\x<=1000000000000000) jE jE I) λi3 U J C j=>.ret C ⟨⟨hk.1.aJS,bgI j,hk.1.aJb⟩,hk.2⟩
 split
 ·exact .bnd (Di (λs=>s.size<=16) jE jE I) λi3 U J C j=>.ret C ⟨⟨hk.1.aJS,hk.1.N,s16 j⟩,j⟩
 ·exact .ret I hk
def Mg(r:M.aE):Prop:=r.ok/\cJ r=true
theorem WN{r:M.aE}{a:ByteArray}{n:Int}(h:Mg r)(j:a.size<=16)(C: -1000000000000000<=n/\n<=1000000000000000):∃x,jW r a n=some x/\Mg x.1:=by
 have J:=HV h.2
 have I:r.aI9.length<=1073741824:=by simp only[M.aE.sz]at J;omega
 exact⟨_,CB h.1 jB (s16 j) (bgI C),OD h.1 I (s16 j) (bgI C),SN h.2 _ _⟩
theorem aA9:Mg (⟨([]:List M.Field)⟩:M.aE):=⟨I7,F7⟩
theorem Ef{b:List Int}{i h:Int}(c0:okC b i h):Dr b Mg (lO (⟨b,i,h⟩:M.aM)):=by
 unfold lO
 refine .bnd (aT c0) λi1 v1 r1 c1 U=> ?_
 have hN:=U.2.2
 obtain⟨N,rfl⟩:=BE U.1
 have hN:=U.2.1 jB
 refine CA (L:=λn v (s:(M.aE)×Int×Int)=>oO (⟨b,i,h⟩:M.aM) n v s.2.1 s.2.2 s.1.aI9) (I:=λk s=>k<=100000/\okC b s.2.1 s.2.2/\Mg s.1) (Q:=Dr b Mg) (λn k s J ih=> ?_) (λn s J=> ?_) fuel N ((⟨([]:List M.Field)⟩:M.aE),i1,v1) (mI jB) ⟨jB,c1,aA9⟩
 ·obtain⟨x,ci,ch⟩:=s
  obtain⟨k0,j,C⟩:=J
  dsimp only at j C
  simp only[oO]
  rw[if_pos (UF k),Lv k0]
  refine .bnd (Bv j) λi3 v3 r3 c3 q3=>.bnd (aT c3) λi4 v4 r4 c4 q4=>.Gl (WN C (qf q3 jB) (XJ q4)) λy hy=> ?_
  exact ih (y.1,i4,v4) ⟨jB,c4,hy⟩
 ·obtain⟨x,ci,ch⟩:=s;obtain⟨k0,j,C⟩:=J;dsimp only at j C;simp only[oO];rw[if_neg Ll];exact .ret j C
theorem aAa{r:M.aE}{a:ByteArray}{n:Int}(h:Mg r)(C:a.size<=16)(I: -1000000000000000<=n/\n<=1000000000000000):M.aE.ok (⟨r.aI9++[(⟨a,n⟩:M.Field)]⟩:M.aE)/\M.aE.sz (⟨r.aI9++[(⟨a,n⟩:M.Field)]⟩:M.aE)<=200:=by have J:=HV h.2;simp only[M.aE.sz]at J⊢;refine⟨⟨ml jN,λy j=> ?_⟩,?_⟩;(rcases qP.1 j with j|j;(exact h.1.aI9.2 y j);·rw[qQ.1 j];exact⟨s16 C,bgI I⟩);·rw[xM];simp only[dH,M.Field.sz,qE,qJ,qK];omega
def SQ(r:M.aE):Prop:=r.ok/\M.aE.sz r<=200
theorem Mg.any{r:M.aE}(h:Mg r):SQ r:=⟨h.1,by have:=HV h.2;omega⟩
theorem aAH{b:List Int}{i h:Int}(U:okC b i h):Dr b SQ (DA (⟨b,i,h⟩:M.aM)):=by
 unfold DA
 refine .bnd (Ef U) λi1 v1 J c1 j=>.bnd (aT c1) λi2 v2 r2 C q2=> ?_
 dsimp only
 have hz:=HV j.2
 have hl:J.aI9.length<=100:=by simp only[M.aE.sz]at hz;omega
 split
 ·refine .bnd (Di (λs=>s.size<=16) jE jE C) λi3 v3 r3 c3 q3=>.bnd (uL (λx=> -1000000000000000<=x/\x<=1000000000000000) jE jE c3) λi4 v4 r4 c4 q4=> ?_
  dsimp only
  rw[B7 jS jB,qA]
  exact .ret c4 (aAa j q3 q4)
 split
 ·have key:∀(n k:Nat) (r:M.aE),6-k<n->k<=6->Mg r->Dr b SQ (vN (i2,v2,r2) n (k:Int) r.aI9):=by
   intro n
   induction n with
   |zero=>intro k r h _ _;omega
   |succ n ih=>
    intro k r h hk I
    simp only[vN]
    rcases Nat.lt_or_ge k 6 with h6|h6
    ·have e:∃s,idx ([(⟨#[100]⟩:ByteArray),(⟨#[101]⟩:ByteArray),(⟨#[102]⟩:ByteArray),(⟨#[103]⟩:ByteArray),(⟨#[104]⟩:ByteArray),(⟨#[105]⟩:ByteArray)]) (k:Int)=some s/\s.size<=16:=by
      have:k=0\/k=1\/k=2\/k=3\/k=4\/k=5:=by omega
      rcases this with rfl|rfl|rfl|rfl|rfl|rfl<;>exact⟨_,rfl,jE⟩
     rw[if_pos (aW h6)]
     refine .Gl e λs hs=>.Gl (WN I hs jB) λy hy=> ?_
     rw[bF jB]
     exact ih (k+1) y.1 jB jB hy
    ·have:k=6:=by omega
     subst this
     rw[if_neg jD]
     exact .ret C I.any
  exact key fuel 0 J (mI jB) jB j
 ·exact .ret C j.any
def ZB(s:M.aD):Prop:=s.aJa<=256/\∀x∈s.aI6,x.Key.aJS=1->x.Key.N<=s.aJa\/x.Key.N=1000000000000
def UJ(s:M.aD):Prop:=s.ok/\iR s=true/\ZB s
theorem Yy{s:M.aD}{k:M.Key}{r:M.aE}(C:ZB s)(hk:OT k):ZB (DN s k r).1:=by
 have U:s.aJa<=JB s k/\JB s k<=256/\(k.aJS=1->k.N<=JB s k\/k.N=1000000000000):=by obtain⟨a1,a2⟩:=C;have J:=hk.2;unfold JB;by_cases hc:((k.aJS==1)&&(decide (k.N>s.aJa)&&decide (k.N<=1000000)))=true;(rw[if_pos hc];simp only[qM,qL,beq_iff_eq]at hc;have:=J hc.1;exact⟨jB,jB,λ_=>.inl jB⟩);·rw[if_neg hc];refine⟨jB,a1,λh1=> ?_⟩;have:=J h1;simp only[qM,qL,beq_iff_eq,not_and]at hc;by_cases h2:k.N>s.aJa;(have:=hc h1 h2;omega);·omega
 unfold DN
 split
 ·split;(split;(split;(refine⟨U.2.1,λx I h1=> ?_⟩;have j:x∈s.aI6.take (Ez s.aI6 k)++([(⟨k,r⟩:M.aJN)]++s.aI6.drop (Ez s.aI6 k)):=I;simp only[qP,qQ]at j;show x.Key.N<=JB s k\/_;rcases j with j|rfl|j;(have:=C.2 x (qi j) h1;omega);(exact U.2.2 h1);·have:=C.2 x (qt j) h1;omega);·exact C);·unfold RI;refine⟨C.1,?_⟩;dsimp only;split;(rename_i y hy;intro x I h1;rcases jA I with I|rfl;(exact C.2 x I h1);·exact C.2 y (qz hy) h1);·exact C.2);·exact C
 ·exact C
theorem WX{s:M.aD}{k:M.Key}{r:M.aE}(C:UJ s)(hk:OT k)(j:Mg r):∃x,eK s k r=some x/\UJ x.1:=by
 have J:=sN C.2.1
 have I:s.aI6.length<=1073741824:=by simp only[M.aD.sz]at J;omega
 refine⟨_,AG C.1 hk.1.1 j.1 j.2 jB (qf (HV j.2) jB),OO C.1 I hk.1.1 j.1,?_,Yy C.2.2 hk⟩
 cases h2:(DN s k r).2 with
 |true=>exact E7 j.2 h2
 |false=>rw[KF h2];exact C.2.1
theorem Zg{a:ByteArray}(C:oJ a=true)(j:a.size<=16):UJ (⟨a,([]:List M.aJN),0⟩:M.aD):=⟨⟨s16 j,⟨by simp[maxLen],jD⟩,yR⟩,by unfold iR;simp[C,inR],by show(0:Int)<=256;omega,jD⟩
theorem GP{b:List Int}{i h:Int}{a:ByteArray}(hn:oJ a=true)(ha:a.size<=16)(c0:okC b i h):Dr b UJ (rY (⟨b,i,h⟩:M.aM) a):=by
 unfold rY
 refine .bnd (uL (λx=>0<=x/\x<=6) jE jE c0) λi1 v1 r1 c1 q1=> ?_
 obtain⟨N,rfl⟩:=BE q1.1
 have hN:=q1.2
 refine CA (L:=λn v (s:(M.aD)×Int×Int)=>rF (⟨b,i,h⟩:M.aM) n v s.1.Name s.1.aJa s.2.1 s.2.2 s.1.aI6) (I:=λk s=>k<=100000/\okC b s.2.1 s.2.2/\UJ s.1) (Q:=Dr b UJ) (λn k s hi ih=> ?_) (λn s hi=> ?_) fuel N ((⟨a,([]:List M.aJN),0⟩:M.aD),i1,v1) (mI jB) ⟨jB,c1,Zg hn ha⟩
 ·obtain⟨x,ci,ch⟩:=s
  obtain⟨k0,C,j⟩:=hi
  dsimp only at C j
  simp only[rF]
  rw[if_pos (UF k),Lv k0]
  refine .bnd (At C) λi3 v3 r3 J q3=>.bnd (Ef J) λi4 v4 r4 U q4=>.Gl (WX j q3.auto q4) λy hy=> ?_
  exact ih (y.1,i4,v4) ⟨jB,U,hy⟩
 ·obtain⟨x,ci,ch⟩:=s
  obtain⟨k0,C,j⟩:=hi
  dsimp only at C j
  simp only[rF]
  rw[if_neg Ll]
  refine .bnd (Ab C) λi3 v3 r3 J q3=> ?_
  dsimp only
  split
  ·exact .bnd (WR J) λi4 v4 r4 U q4=>.bnd (Ef U) λi5 v5 r5 c5 q5=>.Gl (WX j q4 q5) λy hy=>.ret c5 hy
  ·exact .ret J j
def Oj(s:M.aD):Prop:=s.ok/\M.aD.sz s<=20000
theorem UJ.any{s:M.aD}(h:UJ s):Oj s:=⟨h.1,by have:=sN h.2.1;omega⟩
def Yr(s:M.aD):Prop:=s.aJa<=256+s.aI6.length/\∀x∈s.aI6,x.Key.aJS=1->x.Key.N<=s.aJa\/x.Key.N=1000000000000
theorem Ve{s:M.aD}(h1:s.ok)(h2:iR s=true)(h3:Yr s)(hl:s.aI6.length<16):∃x,AY s (⟨([]:List M.Field)⟩:M.aE)=some x/\x.1.ok/\iR x.1=true/\Yr x.1/\x.1.aI6.length=s.aI6.length+1:=by
 obtain⟨_,_,_,h0,_⟩:=Ac h2
 obtain⟨a1,J⟩:=h3
 have ew:i64.wrap (s.aJa+1)=s.aJa+1:=wrap_small jB jB
 have hz:=sN h2
 have hkey:DX (⟨1,s.aJa+1,(⟨#[]⟩:ByteArray)⟩:M.Key)=true:=by
  unfold DX inR
  have e:Nq (⟨#[]⟩:ByteArray)=true:=by decide
  simp[e]
  omega
 have hf:iJ (AW (⟨1,s.aJa+1,(⟨#[]⟩:ByteArray)⟩:M.Key)) s.aI6<0:=Classical.byContradiction λhn=>by obtain⟨j,ej,hj⟩:=dK hn;obtain⟨_,C⟩:=xI ej;unfold AW at C;simp only[qM,beq_iff_eq]at C;have:=J _ (qG hj) C.1;omega
 have hk:M.Key.ok (⟨1,s.aJa+1,(⟨#[]⟩:ByteArray)⟩:M.Key):=(mkKey jB jB jE).1
 have e:=HX h1 hk I7 F7 jB (by simp[M.aE.sz,dH])
 have U:DN s (⟨1,s.aJa+1,(⟨#[]⟩:ByteArray)⟩:M.Key) (⟨([]:List M.Field)⟩:M.aE)=(P2 s (⟨1,s.aJa+1,(⟨#[]⟩:ByteArray)⟩:M.Key) (⟨([]:List M.Field)⟩:M.aE),true):=by unfold DN;rw[if_pos h2,if_pos hkey,if_pos hf,if_pos hl]
 have hg:=E7 (s:=s) (k:=(⟨1,s.aJa+1,(⟨#[]⟩:ByteArray)⟩:M.Key)) F7 (by rw[U])
 rw[U]at hg
 have en:Rd s (⟨1,s.aJa+1,(⟨#[]⟩:ByteArray)⟩:M.Key) (⟨([]:List M.Field)⟩:M.aE)=(P2 s (⟨1,s.aJa+1,(⟨#[]⟩:ByteArray)⟩:M.Key) (⟨([]:List M.Field)⟩:M.aE),true):=by unfold Rd;rw[if_pos hf,U]
 have ea:JB s (⟨1,s.aJa+1,(⟨#[]⟩:ByteArray)⟩:M.Key)=s.aJa+1:=by unfold JB;rw[if_pos jC]
 have hp:=O1 s.aI6 (⟨1,s.aJa+1,(⟨#[]⟩:ByteArray)⟩:M.Key)
 rw[en]at e
 refine⟨(P2 s (⟨1,s.aJa+1,(⟨#[]⟩:ByteArray)⟩:M.Key) (⟨([]:List M.Field)⟩:M.aE),(⟨1,s.aJa+1,(⟨#[]⟩:ByteArray)⟩:M.Key),true),?_,?_,hg,?_,?_⟩
 ·unfold AY;rw[if_neg jC,ew,e,qA,if_neg jD]
 ·unfold P2;exact Wl _ h1 jB hk I7 (by rw[ea];exact bgI jH)
 ·unfold P2 Yr;dsimp only;rw[ea];refine⟨jO,λx I h1=> ?_⟩;simp only[qP,qQ]at I;rcases I with I|rfl|I;(have:=J x (qi I) h1;omega);(exact .inl (Int.le_refl _));·have:=J x (qt I) h1;omega
 ·unfold P2;simp only[qE,qU,qV,qJ,qK];omega
theorem aAK{s:M.aD}{k:M.Key}{r:M.aE}(C:UJ s)(hk:Pb k)(I:SQ r):Oj (⟨s.Name,s.aI6++[(⟨k,r⟩:M.aJN)],s.aJa⟩:M.aD):=by have J:=sN C.2.1;have h1:=hk.2;have h2:=I.2;refine⟨⟨C.1.Name,⟨?_,λy j=> ?_⟩,C.1.aJa⟩,?_⟩;(simp only[M.aD.sz]at J;exact ml jN);(rcases qP.1 j with j|j;(exact C.1.aI6.2 y j);·rw[qQ.1 j];exact⟨hk.1,I.1⟩);·simp only[M.aD.sz]at J⊢;rw[xM];simp only[dH,M.aJN.sz,M.Key.sz,qE,qJ,qK];omega
theorem V8{b:List Int}{i h:Int}(c0:okC b i h):Dr b Oj (Cn (⟨b,i,h⟩:M.aM)):=by
 unfold Cn
 refine .bnd (GP jE jE c0) λi1 v1 r1 c1 j=>.bnd (aT c1) λi2 v2 r2 J q2=> ?_
 dsimp only
 have hz:=sN j.2.1
 have hl:r1.aI6.length<=10000:=by simp only[M.aD.sz]at hz;omega
 split
 ·refine .bnd (Di (λs=>s.size<=16) jE jE J) λi3 v3 r3 U I=>.ret U ⟨⟨s16 I,j.1.aI6,j.1.aJa⟩,?_⟩
  have q3':r3.size<=16:=I
  simp only[M.aD.sz]at hz⊢
  omega
 split
 ·exact .bnd (uL (λx=> -1000000000000000<=x/\x<=1000000000000000) jE jE J) λi3 v3 r3 U I=>.ret U ⟨⟨j.1.Name,j.1.aI6,bgI I⟩,qf hz jB⟩
 split
 ·refine .bnd (Rs J) λi3 v3 r3 U I=>.bnd (aAH U) λi4 v4 r4 c4 q4=> ?_
  dsimp only
  rw[B7 jS jB,qA]
  exact .ret c4 (aAK j I q4)
 split
 ·have key:∀(n:Nat) (s:M.aD),16-s.aI6.length<n->s.ok->iR s=true->Yr s->Dr b Oj (zX (i2,v2,r2) n s.Name s.aJa s.aI6):=by
   intro n
   induction n with
   |zero=>intro s h _ _ _;omega
   |succ n ih=>
    intro s h hs C hj
    have hm:=sN C
    simp only[zX]
    rcases Nat.lt_or_ge s.aI6.length 16 with h6|h6
    ·rw[if_pos jC,show(⟨s.Name,s.aI6,s.aJa⟩:M.aD)=s from rfl,AS hs,qA,C,if_pos rfl]
     refine .Gl (Ve hs C hj h6) λy hy=> ?_
     have hy':=hy.2.2.2
     exact ih y.1 jB hy.1 hy.2.1 hy.2.2.1
    ·rw[if_neg jC];exact .ret J ⟨hs,by show M.aD.sz s<=_;omega⟩
  exact key fuel r1 (mI jB) j.1 j.2.1 ⟨by have:=j.2.2.1;omega,j.2.2.2⟩
 ·exact .ret J j.any
theorem QC{b:List Int}{i h n:Int}(hn:0<=n/\n<=1000)(c0:okC b i h):Dr b (λl=>okB l/\l.length<=1000) (AO (⟨b,i,h⟩:M.aM) n):=by
 unfold AO
 obtain⟨N,rfl⟩:=BE hn.1
 refine ZL (N:=N) (L:=λm v (s:List Int×Int×Int)=>rT (⟨b,i,h⟩:M.aM) (N:Int) m v s.1 s.2.1 s.2.2) (I:=λk s=>okC b s.2.1 s.2.2/\s.1.length=k/\∀x∈s.1,0<=x/\x<=255) (Q:=Dr b (λl=>okB l/\l.length<=1000)) (λm k s hk hi ih=> ?_) (λm s hi=> ?_) fuel 0 (([]:List Int),i,h) (mI jB) jB ⟨c0,rfl,jD⟩
 ·obtain⟨l,ci,ch⟩:=s
  obtain⟨C,U,J⟩:=hi
  dsimp only at C U J
  simp only[rT]
  rw[if_pos (aW hk)]
  refine .bnd (I9 C) λi3 v3 r3 c3 q3=> ?_
  dsimp only
  rw[B7 jS jB,qA,bF jB]
  refine ih (l++[_],i3,v3) ⟨c3,by simp[U],λx j=> ?_⟩
  rcases qP.1 j with j|j
  ·exact J x j
  ·rw[qQ.1 j,wrap_u8];omega
 ·obtain⟨l,ci,ch⟩:=s;obtain⟨C,U,J⟩:=hi;dsimp only at C U J;simp only[rT];rw[if_neg jK];exact .ret C ⟨⟨ml jB,J⟩,jB⟩
theorem YG{b l:List Int}{i h:Int}(C:okB l)(hz:l.length<=100000)(c0:okC b i h):Dr b (λr=>okB r/\r.length<=l.length+1) (CX (⟨b,i,h⟩:M.aM) l):=by
 unfold CX
 rw[Gv jB jB,qA]
 refine .bnd (aT c0) λi1 v1 r1 J q1=> ?_
 dsimp only
 split
 ·split
  ·rename_i hp
   refine .bnd (aT J) λi2 v2 r2 U I=>.bnd (aT U) λi3 v3 r3 c3 q3=> ?_
   have hp':(0:Int)<(l.length:Int):=by simpa using hp
   obtain⟨k,rfl⟩:=BE I.1
   have hk:=I.2.1 hp'
   dsimp only
   rw[aJ jB,qA]
   refine .ret c3 ⟨⟨by rw[qN];exact C.1,λx j=> ?_⟩,by rw[qN];omega⟩
   rcases jA j with j|rfl
   ·exact C.2 x j
   ·rw[wrap_u8];omega
  ·exact .ret J ⟨C,jB⟩
 split
 ·refine .bnd (aT J) λi2 v2 r2 U I=> ?_
  have hw:i64.wrap ((l.length:Int)+1)=(l.length:Int)+1:=wrap_small jB jB
  rw[hw]at I
  obtain⟨k,rfl⟩:=BE I.1
  have hk:=I.2.1 jB
  dsimp only
  rw[Da jB,qA,qH]
  exact .ret U ⟨⟨by have:=C.1;rw[qU];omega,λx j=>C.2 x (qi j)⟩,by rw[qU];omega⟩
 split
 ·refine .bnd (uL (λ_=>True) jE (λ_ _=>trivial) J) λi2 v2 r2 U I=> ?_
  dsimp only
  rw[B7 jS jB,qA]
  refine .ret U ⟨⟨ml jN,λx j=> ?_⟩,jD⟩
  rcases qP.1 j with j|j
  ·exact C.2 x j
  ·rw[qQ.1 j,wrap_u8];omega
 ·exact .ret J ⟨C,jB⟩
def Zn(x:M.aI8):Prop:=x.ok/\x.aJr.length<=1000
theorem Js{b:List Int}{i h:Int}(c0:okC b i h):Dr b Zn (sX (⟨b,i,h⟩:M.aM)):=by
 unfold sX
 refine .bnd (aT c0) λi1 v1 r1 c1 q1=>.bnd (aT c1) λi2 v2 r2 c2 q2=>.bnd (aT c2) λi3 v3 r3 c3 q3=>.bnd (QC (aIP q3 jB jB) c3) λi4 v4 r4 c4 j=>.bnd (Ab c4) λi5 v5 r5 c5 q5=>.bnd (aT c5) λi6 v6 r6 J q6=> ?_
 dsimp only
 split
 ·exact .bnd (uL (λx=> -1000000000000000<=x/\x<=1000000000000000) jE jE J) λi7 v7 r7 C I=>.ret C ⟨⟨bgI I,bgI jH,bK _,j.1⟩,j.2⟩
 split
 ·exact .bnd (uL (λx=> -1000000000000000<=x/\x<=1000000000000000) jE jE J) λi7 v7 r7 C I=>.ret C ⟨⟨bK _,bgI I,bK _,j.1⟩,j.2⟩
 split
 ·exact .bnd (uL (λx=>0<=x/\x<=1000) jE jE J) λi7 v7 r7 C I=>.bnd (QC I C) λi8 v8 r8 c8 U=>.ret c8 ⟨⟨bK _,bgI jH,bK _,U.1⟩,U.2⟩
 ·exact .ret J ⟨⟨bK _,bgI jH,bK _,j.1⟩,j.2⟩
def DS(s:M.aC):Prop:=s.ok/\M.aC.sz s<=65536
theorem OV{s:M.aC}{v:Int}(h:DS s)(j:inI v):∃x,mD s v=some x/\DS x.1:=by
 have I:=h.2
 refine⟨_,Gq h.1 j jB,Jn h.1 j jB,?_⟩
 cases h2:(CR s v).2 with
 |true=>exact Bn (Hr h2)
 |false=>
  have e:(CR s v).1=s:=by unfold CR at h2⊢;split at h2;(cases h2);·rename_i C;rw[if_neg C]
  rw[e];exact h.2
theorem Xo{s:M.aC}{v:Int}{a p:ByteArray}{x:M.aI8}(h:DS s)(J:a.size<=16)(U:p.size<=16)(I:Zn x):∃y,kY s v a p x=some y/\DS y.1:=by
 have hz:=h.2
 have hx2:=I.2
 refine⟨_,DW h.1 jB (s16 J) (s16 U) I.1 (by simp only[M.aI8.sz];omega),LS h.1 jB (s16 J) (s16 U) I.1,?_⟩
 cases h2:(HC s v a p x).2 with
 |true=>exact Bn (IL h2)
 |false=>
  have e:(HC s v a p x).1=s:=by unfold HC at h2⊢;split at h2;(rename_i j;rw[if_pos j]);·rename_i j;rw[if_neg j];split at h2;(cases h2);·rename_i C;rw[if_neg C]
  rw[e];exact h.2
theorem Wq:DS (⟨([]:List M.aI5)⟩:M.aC):=⟨⟨⟨by simp[maxLen],jD⟩⟩,by simp[M.aC.sz,dH]⟩
theorem W8{b:List Int}{i h:Int}{N:Nat}(hN:N<=10){i1 U:Int}(c1:okC b i1 U){s:M.aC}(hs:DS s):Dr b DS (pK (⟨b,i,h⟩:M.aM) fuel (N:Int) i1 U s.aI1):=by
 refine CA (L:=λn v (s:(M.aC)×Int×Int)=>pK (⟨b,i,h⟩:M.aM) n v s.2.1 s.2.2 s.1.aI1) (I:=λk s=>k<=100000/\okC b s.2.1 s.2.2/\DS s.1) (Q:=Dr b DS) (λn k s J ih=> ?_) (λn s J=> ?_) fuel N (s,i1,U) (mI jB) ⟨jB,c1,hs⟩
 ·obtain⟨x,ci,ch⟩:=s
  obtain⟨k0,j,C⟩:=J
  dsimp only at j C
  simp only[pK]
  rw[if_pos (UF k),Lv k0]
  refine .bnd (aT j) λi3 v3 r3 c3 q3=>.bnd (IX c3) λi4 v4 r4 c4 q4=>.bnd (QK c4) λi5 v5 r5 c5 q5=>.bnd (Js c5) λi6 v6 r6 c6 q6=>.Gl (Xo C (qf q4 jB) (qf q5 jB) q6) λy hy=> ?_
  exact ih (y.1,i6,v6) ⟨jB,c6,hy⟩
 ·obtain⟨x,ci,ch⟩:=s;obtain⟨k0,j,C⟩:=J;dsimp only at j C;simp only[pK];rw[if_neg Ll];exact .ret j C
theorem XP{b:List Int}{i h:Int}(c0:okC b i h):Dr b DS (Cy (⟨b,i,h⟩:M.aM)):=by
 unfold Cy
 refine .bnd (aT c0) λi1 v1 r1 c1 q1=> ?_
 obtain⟨N,rfl⟩:=BE q1.1
 have hN:=q1.2.1 jB
 refine CA (L:=λn v (s:(M.aC)×Int×Int)=>tJ (⟨b,i,h⟩:M.aM) n v s.2.1 s.2.2 s.1.aI1) (I:=λk s=>k<=100000/\okC b s.2.1 s.2.2/\DS s.1) (Q:=Dr b DS) (λn k s U ih=> ?_) (λn s U=> ?_) fuel N ((⟨([]:List M.aI5)⟩:M.aC),i1,v1) (mI jB) ⟨jB,c1,Wq⟩
 ·obtain⟨x,ci,ch⟩:=s
  obtain⟨k0,j,C⟩:=U
  dsimp only at j C
  simp only[tJ]
  rw[if_pos (UF k),Lv k0]
  refine .bnd (aT j) λi3 v3 r3 J q3=>.Gl (OV C (bK _)) λy hy=> ?_
  exact ih (y.1,i3,v3) ⟨jB,J,hy⟩
 ·obtain⟨x,ci,ch⟩:=s
  obtain⟨k0,j,C⟩:=U
  dsimp only at j C
  simp only[tJ]
  rw[if_neg Ll]
  refine .bnd (aT j) λi3 v3 r3 J q3=> ?_
  obtain⟨M,rfl⟩:=BE q3.1
  have hM:=q3.2.1 jB
  exact W8 jB J C
def PF(s:M.aC):Prop:=s.ok/\M.aC.sz s<=70000
theorem DS.all{s:M.aC}(h:DS s):PF s:=⟨h.1,by have:=h.2;omega⟩
theorem XB{b:List Int}{i h:Int}(c0:okC b i h):Dr b PF (CE (⟨b,i,h⟩:M.aM)):=by
 unfold CE
 refine .bnd (XP c0) λi1 v1 r1 c1 I=>.bnd (aT c1) λi2 v2 r2 U q2=> ?_
 have C:=I.2
 simp only[M.aC.sz]at C
 dsimp only
 split
 ·refine .bnd (uL (λx=> -1000000000000000<=x/\x<=1000000000000000) jE jE U) λi3 v3 r3 c3 q3=> ?_
  dsimp only
  rw[B7 jS jB,qA]
  refine .ret c3 ⟨⟨⟨ml jN,λy j=> ?_⟩⟩,?_⟩
  ·rcases qP.1 j with j|j;(exact I.1.aI1.2 y j);·rw[qQ.1 j];exact⟨bgI q3,⟨by simp[maxLen],jD⟩⟩
  ·simp only[M.aC.sz];rw[xM];simp only[dH,M.aI5.sz,qE,qJ,qK];omega
 split
 ·split
  ·rename_i hp
   cases hc:r1.aI1 with
   |nil=>rw[hc]at hp;simp at hp
   |cons J xs=>
    have hx0:J∈r1.aI1:=by rw[hc];simp
    have ho:=I.1.aI1.2 J hx0
    rw[hc]at C
    simp only[dH,M.aI5.sz,qJ]at C
    rw[show idx (J::xs) 0=some J from rfl,qA]
    refine .bnd (Di (λs=>s.size<=16) jE jE U) λi3 v3 r3 c3 q3=>.bnd (Js c3) λi4 v4 r4 c4 q4=> ?_
    dsimp only
    rw[B7 jS jB,qA]
    have aa:=q4.2
    have ae:r3.size<=16:=q3
    refine .ret c4 ⟨⟨⟨ml (by show(List.set _ _ _).length<=_;rw[qN,qJ];omega),λy j=> ?_⟩⟩,?_⟩
    ·rcases jA j with j|rfl;(exact I.1.aI1.2 y (by rw[hc];exact j));·refine⟨ho.aI0,ml jN,λz C=> ?_⟩;rcases qP.1 C with C|C;(exact ho.aJB.2 z C);·rw[qQ.1 C];exact⟨s16 (s:=(⟨#[98,97,110,107]⟩:ByteArray)) jE,s16 q3,q4.1⟩
    ·have e4:(⟨#[98,97,110,107]⟩:ByteArray).size=4:=rfl;show M.aC.sz (⟨(⟨J.aI0,J.aJB++[_]⟩:M.aI5)::xs⟩:M.aC)<=70000;simp only[M.aC.sz,dH,M.aI5.sz,xM,M.aJE.sz,M.aI8.sz,qE,qJ,qK,e4];omega
  ·exact .ret U I.all
 split
 ·have key:∀(n k:Nat) (s:M.aC),5-k<n->k<=5->DS s->Dr b PF (tL (i2,v2,r2) n (k:Int) s.aI1):=by
   intro n
   induction n with
   |zero=>intro k s h _ _;omega
   |succ n ih=>
    intro k s h hk hs
    simp only[tL]
    rcases Nat.lt_or_ge k 5 with h6|h6
    ·rw[if_pos jC]
     refine .Gl (OV hs (bgI jH)) λy j=> ?_
     rw[bF jB]
     exact ih (k+1) y.1 jB jB j
    ·rw[if_neg jC];exact .ret U hs.all
  exact key fuel 1 r1 (mI jB) jB I
 ·exact .ret U I.all
theorem Qt{d:M.aI2}{u:M.mK}(C:d.aJO.length<=100000):∃v,Dt d u=some v:=by
 have key:∀(n k:Nat),d.aJO.length-k<n->k<=d.aJO.length->∃v,pV d u n (k:Int)=some v:=by
  intro n
  induction n with
  |zero=>intro k h _;omega
  |succ n j=>
   intro k h hk
   simp only[pV]
   rcases Nat.lt_or_ge k d.aJO.length with h6|h6
   ·rw[if_pos (aW h6),aJ h6,qA,bF jB];have:=j (k+1) jB jB;split;(split;(exact⟨_,rfl⟩);·exact this);·exact this
   ·rw[if_neg jC];exact⟨_,rfl⟩
 exact key fuel 0 (mI jB) jB
theorem aCU{d:M.aI2}{a f:ByteArray}(j:d.ok)(hz:M.aI2.sz d<=100000)(I:a.size<=16)(J:f.size<=16):∃x,mZ d (⟨3,a,f⟩:M.mK)=some x/\(x.1.ok/\M.aI2.sz x.1<=M.aI2.sz d+40):=by
 have U:d.aJO.length<=100000:=by simp only[M.aI2.sz]at hz;omega
 obtain⟨x5,e5⟩:=Qt (u:=(⟨3,a,f⟩:M.mK)) U
 have ok':M.aI2.ok (⟨d.Name,d.aI0,d.aJF,d.aJO++[(⟨a,f⟩:M.aN)]⟩:M.aI2):=⟨j.Name,j.aI0,j.aJF,ml jN,λy C=>by rcases qP.1 C with C|C;(exact j.aJO.2 y C);·rw[qQ.1 C];exact⟨s16 I,s16 J⟩⟩
 have sz':M.aI2.sz (⟨d.Name,d.aI0,d.aJF,d.aJO++[(⟨a,f⟩:M.aN)]⟩:M.aI2)<=M.aI2.sz d+40:=by simp only[M.aI2.sz,xM,dH,M.aN.sz,qE,qJ,qK];omega
 unfold mZ
 rw[BB d jB,qA,DI j,qA,e5,qA]
 dsimp only
 generalize iJ (DC a) d.aJF=x3
 have k1:((3:Int)==1)=false:=rfl
 have k2:((3:Int)==2)=false:=rfl
 have k3:((3:Int)==3)=true:=rfl
 have k4:((3:Int)==4)=false:=rfl
 simp only[k1,k2,k3,k4,qD,if_false,if_true,qA]
 by_cases h:x3>=0
 ·by_cases h5:x5<0;(simp only[h,h5,decide_true,if_true,qA];rw[B7 jS jB,qA,uZ j jB,qA,uZ ok' jB,qA];cases nDb d;(exact⟨_,rfl,j,jG⟩);·cases nDb (⟨d.Name,d.aI0,d.aJF,d.aJO++[(⟨a,f⟩:M.aN)]⟩:M.aI2);(exact⟨_,rfl,j,jG⟩);·exact⟨_,rfl,ok',sz'⟩);·simp only[h,h5,decide_true,decide_false,qD,if_false,if_true,qA];exact⟨_,rfl,j,jG⟩
 ·simp only[h,decide_false,qD,if_false,qA];exact⟨_,rfl,j,jG⟩
def aBi(d:M.aI2):Prop:=d.ok/\M.aI2.sz d<=40000
theorem aH8{l:List M.aD}(C:l.length<=3)(h:∀s∈l,UJ s):M.aI2.ok (⟨(⟨#[97,112,112]⟩:ByteArray),1,l,([]:List M.aN)⟩:M.aI2)/\M.aI2.sz (⟨(⟨#[97,112,112]⟩:ByteArray),1,l,([]:List M.aN)⟩:M.aI2)<=39000:=by
 have h3:(⟨#[97,112,112]⟩:ByteArray).size=3:=rfl
 have:=eB (w:=M.aD.sz) (b:=10000) (xs:=l) λs j=>sN (h s j).2.1
 refine⟨⟨s16 (s:=(⟨#[97,112,112]⟩:ByteArray)) jE,TV,⟨ml jG,λs j=>(h s j).1⟩,⟨by simp[maxLen],jD⟩⟩,?_⟩
 simp only[M.aI2.sz,dH,qK,h3]
 omega
theorem aAo{α:Type}{b:Nat}{xs:List α}(h:xs.length<=1000000)(hb:b<=1000):aBy b xs=some xs:=by unfold aBy;rw[if_pos (qf (Nat.mul_le_mul h hb) jB)]
theorem XV{b:List Int}{i h:Int}(c0:okC b i h):Dr b aBi (CO (⟨b,i,h⟩:M.aM)):=by
 unfold CO
 refine .bnd (GP jE jE c0) λi1 v1 r1 c1 q1=>.bnd (GP jE jE c1) λi2 v2 r2 c2 q2=> ?_
 dsimp only
 rw[aAo jD jB,qA]
 have fin:∀{l:List M.aD} {i5 I:Int} {f:Int×Int×Bool->Option (Int×Int×M.aI2)},l.length<=3->(∀s∈l,UJ s)->okC b i5 I->f=(λj=>if j.2.2=true then(dN (⟨b,j.1,j.2.1⟩:M.aM)).bind λC=>(mZ (⟨(⟨#[97,112,112]⟩:ByteArray),1,l,([]:List M.aN)⟩:M.aI2) (⟨3,(⟨#[110,111,116,101,115]⟩:ByteArray),C.2.2⟩:M.mK)).bind λaf=>some (C.1,C.2.1,af.1)else some (j.1,j.2.1,(⟨(⟨#[97,112,112]⟩:ByteArray),1,l,([]:List M.aN)⟩:M.aI2)))->Dr b aBi ((cC (⟨b,i5,I⟩:M.aM) 3).bind f):=by
  intro l i5 I f hl hg c5 hf
  subst hf
  obtain⟨o1,o2⟩:=aH8 hl hg
  refine .bnd (Ab c5) λi6 v6 r6 U q6=> ?_
  dsimp only
  split
  ·refine .bnd (Bv U) λi7 v7 r7 c7 q7=>.Gl (aCU o1 jB jE (qf q7 jB)) λy hy=>.ret c7 ⟨hy.1,?_⟩
   have:=hy.2
   omega
  ·exact .ret U ⟨o1,jB⟩
 refine .bnd (Ab c2) λi3 v3 r3 J q3=> ?_
 dsimp only
 split
 ·refine .bnd (GP jE jE J) λi4 v4 r4 c4 q4=> ?_
  dsimp only
  rw[B7 jD jB,qA]
  exact fin (l:=[r4]++[r1,r2]) jD (by simp only[qP,qo,qO,or_false];rintro s (rfl|rfl|rfl)<;>assumption) c4 rfl
 ·exact fin (l:=[r1,r2]) jD (by simp only[qo,qO,or_false];rintro s (rfl|rfl)<;>assumption) J rfl
theorem aBO{b:List Int}{i h:Int}(c0:okC b i h):Dr b Ng (Em (⟨b,i,h⟩:M.aM)):=by
 unfold Em
 refine .bnd (aT c0) λi1 v1 r1 c1 q1=>.bnd (Di (λs=>s.size<=16) jE jE c1) λi2 v2 r2 c2 C=>.bnd (At c2) λi3 v3 r3 J q3=> ?_
 dsimp only
 have hk:=q3.any.1
 have U:(⟨#[]⟩:ByteArray).size<=maxLen:=s16 jE
 split
 ·exact .bnd (Ef J) λi4 v4 r4 j I=>.ret j ⟨bK _,s16 C,hk,I.1,U⟩
 split
 ·exact .bnd (Ef J) λi4 v4 r4 j I=>.ret j ⟨bK _,s16 C,hk,I.1,U⟩
 split
 ·exact .bnd (Bv J) λi4 v4 r4 j I=>.ret j ⟨bK _,s16 C,hk,I7,s16 (qf I jB)⟩
 split
 ·refine .bnd (Ab J) λi4 v4 r4 j I=> ?_
  dsimp only
  split
  ·exact .bnd (At j) λi5 v5 r5 c5 q5=>.ret c5 ⟨TV,s16 C,q5.any.1,I7,U⟩
  ·exact .ret j ⟨bK _,s16 C,Rx,I7,U⟩
 ·exact .ret J ⟨bK _,s16 C,hk,I7,U⟩
def aBY(l:List M.Op):Prop:=l.length<=10/\∀o∈l,Ng o
theorem ZN{b:List Int}{i h:Int}(c0:okC b i h):Dr b aBY (DF (⟨b,i,h⟩:M.aM) 3):=by
 unfold DF
 rw[show i64.wrap (3+1)=4 from by rw[wrap_small jB jB];rfl]
 refine .bnd (aT c0) λi1 v1 r1 c1 q1=> ?_
 obtain⟨N,rfl⟩:=BE q1.1
 have hN:=q1.2.1 jB
 refine CA (L:=λn v (s:(List M.Op)×Int×Int)=>wI (⟨b,i,h⟩:M.aM) n v s.1 s.2.1 s.2.2) (I:=λk s=>k<=100000/\okC b s.2.1 s.2.2/\s.1.length+k<=10/\∀o∈s.1,Ng o) (Q:=Dr b aBY) (λn k s U ih=> ?_) (λn s U=> ?_) fuel N (([]:List M.Op),i1,v1) (mI jB) ⟨jB,c1,⟨by simp only[qK];omega,jD⟩⟩
 ·obtain⟨x,ci,ch⟩:=s
  obtain⟨k0,J,j⟩:=U
  dsimp only at J j
  simp only[wI]
  rw[if_pos (UF k),Lv k0]
  refine .bnd (aBO J) λi3 v3 r3 c3 q3=> ?_
  dsimp only
  have aa:=j.1
  rw[B7 jS jB,qA]
  refine ih (x++[r3],i3,v3) ⟨jB,c3,jN,λo C=> ?_⟩
  rcases qP.1 C with C|C
  ·exact j.2 o C
  ·rw[qQ.1 C];exact q3
 ·obtain⟨x,ci,ch⟩:=s;obtain⟨k0,J,j⟩:=U;dsimp only at J j;simp only[wI];rw[if_neg Ll];exact .ret J ⟨by have:=j.1;omega,j.2⟩
theorem QV{k:M.bR}{l:List M.Op}{n:Nat}(h:k.ok)(J:M.bR.sz k<=n)(I:n<=200000)(j:l.length<=1000)(C:∀o∈l,Ng o):∃x,pU k l=some x/\(x.1.ok/\M.bR.sz x.1<=n+4000):=⟨_,Kq h jB j C,(NS h).1,by have:=(NS (l:=l) h).2.1;omega⟩
def U8(k:M.bR):Prop:=k.ok/\M.bR.sz k<=70000
theorem VE{b:List Int}{i h:Int}(c0:okC b i h):Dr b U8 (BT (⟨b,i,h⟩:M.aM)):=by
 unfold BT
 refine .bnd (XV c0) λi0 v0 d aa q0=>.bnd (aT aa) λi1 v1 r1 c1 q1=> ?_
 obtain⟨N,rfl⟩:=BE q1.1
 have hN:=q1.2.1 jB
 have hz:=q0.2
 refine CA (L:=λn v (s:(M.bR)×Int×Int)=>rV (⟨b,i,h⟩:M.aM) n v s.1.aJQ.Name s.1.aJQ.aI0 s.1.aJi s.2.1 s.2.2 s.1.aJQ.aJF s.1.aJQ.aJO s.1.Log) (I:=λk s=>k<=100000/\okC b s.2.1 s.2.2/\s.1.ok/\M.bR.sz s.1+4000*k<=60000) (Q:=Dr b U8) (λn k s J ih=> ?_) (λn s J=> ?_) fuel N ((⟨d,([]:List Int),0⟩:M.bR),i1,v1) (mI jB) ⟨jB,c1,⟨⟨q0.1,⟨by simp[maxLen],jD⟩,yR⟩,by show M.aI2.sz d+0+4000*N<=60000;omega⟩⟩
 ·obtain⟨x,ci,ch⟩:=s
  obtain⟨k0,C,j⟩:=J
  dsimp only at C j
  simp only[rV]
  rw[if_pos (UF k),Lv k0]
  refine .bnd (ZN C) λi3 v3 r3 c3 q3=>.Gl (QV (k:=x) (n:=M.bR.sz x) j.1 (qe _) (by have:=j.2;omega) (qf q3.1 jB) q3.2) λy U=> ?_
  exact ih (y.1,i3,v3) ⟨jB,c3,U.1,by have:=U.2;have:=j.2;dsimp only;omega⟩
 ·obtain⟨x,ci,ch⟩:=s;obtain⟨k0,C,j⟩:=J;dsimp only at C j;simp only[rV];rw[if_neg Ll];exact .ret C ⟨j.1,by have:=j.2;show M.bR.sz x<=70000;omega⟩
theorem aAp{l b:List Int}{i:Int}(C:okB l)(U:l.length<=100000)(hb:∀x∈b,0<=x/\x<=255):okB (XX l i b).1/\(XX l i b).1.length<=l.length+4000:=by unfold XX;split;(exact⟨C,jG⟩);split;(exact⟨C,jG⟩);·rename_i J;refine⟨⟨ml jG,λy I=> ?_⟩,jG⟩;have j:y∈Xf l i b:=I;unfold Xf at j;simp only[qP]at j;rcases j with h|h|h;(exact C.2 y h);(exact FN hb y h);·exact H6 _ y h
def Sj(k:M.bR):Prop:=k.ok/\M.bR.sz k<=80000
theorem YM{b:List Int}{i h:Int}(c0:okC b i h):Dr b Sj (CP (⟨b,i,h⟩:M.aM)):=by
 unfold CP
 refine .bnd (VE c0) λi1 v1 U c1 j=>.bnd (aT c1) λi2 v2 r2 C q2=> ?_
 dsimp only
 have I:=j.2
 have hl:U.Log.length<=70000:=by simp only[M.bR.sz]at I;omega
 split
 ·exact .ret C ⟨⟨j.1.aJQ,j.1.Log,bK _⟩,by simp only[M.bR.sz]at I⊢;omega⟩
 split
 ·refine .bnd (YG j.1.Log jB C) λi3 v3 r3 c3 J=>.ret c3 ⟨⟨j.1.aJQ,J.1,j.1.aJi⟩,?_⟩
  have:=J.2
  simp only[M.bR.sz]at I⊢
  omega
 split
 ·rw[Gi jB jE,qA];obtain⟨o1,o2⟩:=aAp (i:=U.aJi) (b:=[1,2]) j.1.Log jB jE;refine .ret C ⟨⟨j.1.aJQ,o1,bK _⟩,?_⟩;simp only[M.bR.sz]at I⊢;omega
 ·exact .ret C ⟨j.1,jB⟩
def wsm(w:M.bC):Prop:=w.ok/\M.bC.sz w<=32
theorem HO{d q n:Int}{k:M.Key}{f:ByteArray}(j:inI d)(J:inI q)(hk:Pb k)(C:f.size<=16)(I:inI n):wsm (⟨d,q,k,f,n⟩:M.bC):=⟨⟨j,J,hk.1,s16 C,I⟩,by have:=hk.2;simp only[M.bC.sz,M.Key.sz];omega⟩
def obI(o:M.aK):Prop:=inI o.aJA/\inI o.aJd/\o.aJM.length<=30/\∀w∈o.aJM,wsm w
theorem obI.ok{o:M.aK}(h:obI o):o.ok:=⟨h.1,h.2.1,ml (by have:=h.2.2.1;omega),λw j=>(h.2.2.2 w j).1⟩
theorem obI.sz{o:M.aK}(h:obI o):M.aK.sz o<=1000:=by
 have h1:=eB (w:=M.bC.sz) (b:=32) (xs:=o.aJM) λw j=>(h.2.2.2 w j).2
 have h2:=h.2.2.1
 simp only[M.aK.sz]
 omega
theorem RG{o:M.aK}(h:vM o=true):o.aJM.length<=20:=by unfold vM at h;simp only[qM,qL]at h;exact h.2.2.2
theorem VA{o:M.aK}{k:M.Key}{f:ByteArray}{n:Int}(h:obI o)(hk:Pb k)(I:f.size<=16)(J:inI n):obI (Ra o k f n).1:=by unfold Ra;split;(split;(rename_i h2;have:=RG h2;refine⟨h.1,bK _,by show(IZ o k f n).aJM.length<=30;omega,λw j=> ?_⟩;have C:w∈o.aJM++[(⟨o.aJA,o.aJd,k,f,n⟩:M.bC)]:=j;rcases qP.1 C with j|j;(exact h.2.2.2 w j);·rw[qQ.1 j];exact HO h.1 h.2.1 hk I J);·exact h);·exact h
theorem SY{o:M.aK}{k:M.Key}{f:ByteArray}{n:Int}(h:obI o)(hk:Pb k)(j:f.size<=16)(C:inI n):iW o k f n=some (Ra o k f n):=Eo h.ok (by have:=h.sz;omega) hk.1 (s16 j) C
theorem QT{d n:Int}(j:inI d)(C:inI n):obI (⟨d,n,([]:List M.bC)⟩:M.aK):=⟨j,C,jD,jD⟩
theorem Y3{d:Int}(j:inI d):∃x,pI d=some x/\obI x.1/\x.1.aJd<=1/\x.1.aJM.length<=0:=by unfold pI;rw[sL (QT j TV).ok,qA];cases vM (⟨d,1,([]:List M.bC)⟩:M.aK);(exact⟨_,rfl,QT yR yR,jE,jD⟩);·exact⟨_,rfl,QT j TV,by show(1:Int)<=1;omega,jD⟩
theorem VW{o:M.aK}{q:Int}(h:obI o):∃x,dE o q=some x/\obI x.1/\x.1.aJd=o.aJd/\inI x.2/\x.1.aJM.length<=o.aJM.length:=by
 have hlen:=h.2.2.1
 have fin:∀(k:Nat),k<=o.aJM.length->∃x,(Dg o.aJM (k:Int)).bind (λI=>(app 72 ([]:List M.bC) (List.drop (k:Int).toNat o.aJM)).bind λJ=>some ((⟨o.aJA,o.aJd,List.drop (k:Int).toNat o.aJM⟩:M.aK),(k:Int)))=some x/\obI x.1/\x.1.aJd=o.aJd/\inI x.2/\x.1.aJM.length<=o.aJM.length:=by intro k hk;rw[JQ hk,qA,qH,Gv (by rw[qV];omega) jB,qA];exact⟨_,rfl,⟨h.1,h.2.1,by show(List.drop k o.aJM).length<=30;rw[qV];omega,λw j=>h.2.2.2 w (qt j)⟩,rfl,bgI jG,by show(List.drop k o.aJM).length<=_;rw[qV];omega⟩
 have key:∀(n k:Nat),o.aJM.length-k<n->k<=o.aJM.length->∃x,pT o q o n (k:Int)=some x/\obI x.1/\x.1.aJd=o.aJd/\inI x.2/\x.1.aJM.length<=o.aJM.length:=by
  intro n
  induction n with
  |zero=>intro k h _;omega
  |succ n C=>
   intro k U hk
   simp only[pT]
   rcases Nat.lt_or_ge k o.aJM.length with h6|h6
   ·rw[if_pos (aW h6),aJ h6,qA,bF jB];split;(exact C (k+1) jB jB);·exact fin k hk
   ·rw[if_neg jC];exact fin k hk
 unfold dE
 rw[Dk o (by have:=h.sz;omega),qA,sL h.ok,qA]
 cases vM o
 ·rw[if_pos jD];exact⟨_,rfl,h,rfl,yR,qe _⟩
 ·rw[if_neg jD];exact key fuel 0 (mI jB) jB
theorem aAw(o:M.aK)(k:M.Key)(f:ByteArray)(n:Int):(Ra o k f n).1.aJM.length<=o.aJM.length+1:=by unfold Ra;split;(split;(simp[IZ]);·exact Nat.le_succ _);·exact Nat.le_succ _
theorem XG{o:M.aK}{k:M.Key}{f:ByteArray}{n:Int}(h:o.aJd<=1000):(Ra o k f n).1.aJd<=1+o.aJd\/(Ra o k f n).1.aJd=o.aJd:=by unfold Ra;split;(rename_i h1;split;(left;unfold vM inR at h1;simp only[qM,qL]at h1;show i64.wrap (o.aJd+1)<=_;rw[wrap_small jB jB];omega);·exact .inr rfl);·exact .inr rfl
theorem RE{b:List Int}{i h d:Int}(hd:inI d)(c0:okC b i h):Dr b (λo=>obI o/\o.aJd<=10/\o.aJM.length<=20) (AB (⟨b,i,h⟩:M.aM) d):=by
 unfold AB
 refine .Gl (Y3 hd) λo ho=>.bnd (uL (λx=>0<=x/\x<=6) jE jE c0) λi1 v1 r1 c1 q1=> ?_
 obtain⟨N,rfl⟩:=BE q1.1
 have hN:=q1.2
 refine CA (L:=λn v (s:(M.aK)×Int×Int)=>mP (⟨b,i,h⟩:M.aM) n v s.1.aJA s.1.aJd s.2.1 s.2.2 s.1.aJM) (I:=λk s=>k<=100000/\okC b s.2.1 s.2.2/\obI s.1/\s.1.aJd+k<=8/\s.1.aJM.length+k<=7) (Q:=Dr b (λo=>obI o/\o.aJd<=10/\o.aJM.length<=20)) (λn k s hi ih=> ?_) (λn s hi=> ?_) fuel N (o.1,i1,v1) (mI jB) ⟨jB,c1,⟨ho.1,by have:=ho.2.1;dsimp only;omega,by have:=ho.2.2;dsimp only;omega⟩⟩
 ·obtain⟨x,ci,ch⟩:=s
  obtain⟨k0,J,j⟩:=hi
  dsimp only at J j
  simp only[mP]
  rw[if_pos (UF k),Lv k0]
  refine .bnd (At J) λi3 v3 r3 U q3=>.bnd (Bv U) λi4 v4 C c4 q4=>.bnd (aT c4) λi5 v5 r5 c5 q5=> ?_
  dsimp only
  have hf:C.size<=16:=qf q4 jB
  have hn:inI r5:=bgI (XJ q5)
  rw[show(⟨x.aJA,x.aJd,x.aJM⟩:M.aK)=x from rfl,SY j.1 q3.any hf hn,qA]
  refine ih ((Ra x r3 C r5).1,i5,v5) ⟨jB,c5,VA j.1 q3.any hf hn,?_,?_⟩
  ·have h1:=j.2.1;dsimp only;rcases XG (o:=x) (k:=r3) (f:=C) (n:=r5) jB with h2|h2<;>omega
  ·have h1:=j.2.2;have h2:=aAw x r3 C r5;dsimp only;omega
 ·obtain⟨x,ci,ch⟩:=s
  obtain⟨k0,J,j⟩:=hi
  dsimp only at J j
  simp only[mP]
  rw[if_neg Ll]
  refine .bnd (Ab J) λi3 v3 r3 U q3=> ?_
  dsimp only
  have h1:=j.2.1
  have h2:=j.2.2
  split
  ·refine .bnd (aT U) λi4 v4 C c4 q4=> ?_
   dsimp only
   obtain⟨y,e,y1,y2,_,y3⟩:=VW (q:=C) j.1
   rw[show(⟨x.aJA,x.aJd,x.aJM⟩:M.aK)=x from rfl,e,qA]
   exact .ret c4 ⟨y1,jB,jB⟩
  ·exact .ret U ⟨j.1,jG,jG⟩
