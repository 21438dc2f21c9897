/-
  Helper text. No conditions.
-/
import Derived.Test.YtbpbocchokbggaaGreatOpenedPd7
set_option linter.all false
namespace Go.Proofs.YtbpbocchokbggaaGreat.gen
open Go Go.Sh
open Go.IntKind (i64)
theorem Xi{b:List Int}{i h:Int}(c0:okC b i h):Dr b TH (Bg (⟨b,i,h⟩:M.aQ)):=by
 unfold Bg
 refine .bnd (Mn c0) λi1 v1 J c1 q1=>.bnd (aW c1) λi2 v2 r2 c2 q2=> ?_
 dsimp only
 have hs:Nv J.aC:=⟨q1.1,by have:=sH q1.2.1;omega⟩
 have ha:J.aO.length<=60:=q1.2.2.1.1
 have hc:J.aHd.length<=5:=q1.2.2.2.1
 have ha2:=q1.2.2.1.2
 have hc2:=q1.2.2.2.2
 have U:J.aO.length<=100/\∀x∈J.aO,M.aO.ok x:=⟨jF,ha2⟩
 have I:J.aHd.length<=100/\∀x∈J.aHd,wsm x:=⟨jF,hc2⟩
 split
 ·exact .bnd (U0 c2) λi3 v3 r3 c3 q3=>.ret c3 (Zv q3 U I)
 split
 ·refine .bnd (uE (λx=> -1000000000000000<=x/\x<=1000000000000000) jI jI c2) λi3 v3 r3 c3 q3=>.bnd (uE (λx=> -1000000000000000<=x/\x<=1000000000000000) jI jI c3) λi4 v4 r4 c4 q4=> ?_
  dsimp only
  rw[BF jV jF,qA]
  refine .ret c4 (Zv hs ⟨jR,λx j=> ?_⟩ I)
  rcases qP.1 j with j|j
  ·exact ha2 x j
  ·rw[qQ.1 j];exact⟨bgI q3,bgI q4⟩
 split
 ·refine .bnd (Tj c2) λi3 v3 r3 c3 q3=> ?_
  dsimp only
  rw[BF jV jF,qA]
  refine .ret c3 (Zv hs U ⟨jR,λx j=> ?_⟩)
  rcases qP.1 j with j|j
  ·exact hc2 x j
  ·rw[qQ.1 j];exact q3
 split
 ·have key:∀(n k:Nat) (l:List M.aO),64-k<n->k<=64->l.length<=k->(∀x∈l,M.aO.ok x)->Dr b TH (wR (i1,v1,J) (i2,v2,r2) n (k:Int) l):=by
   intro n
   induction n with
   |zero=>intro k l h _ _ _;omega
   |succ n ih=>
    intro k l hn hk hl j
    simp only[wR]
    rcases Nat.lt_or_ge k 64 with h6|h6
    ·rw[if_pos jG,BF jV jF,qA,bD jF]
     refine ih (k+1) (l++[_]) jF jF jR λx C=> ?_
     rcases qP.1 C with C|C
     ·exact j x C
     ·rw[qQ.1 C];exact⟨bgI jL,xV⟩
    ·rw[if_neg jG];exact .ret c2 (Zv hs ⟨jF,j⟩ I)
  exact key fuel 4 [] (nJ jF) jF jH jH
 ·exact .ret c2 (Zv hs U I)
def UX(p:M.bC):Prop:=M.bC.ok p/\M.bC.sz p<=2000
theorem Xd{b:List Int}{i h:Int}(c0:okC b i h):Dr b UX (A9 (⟨b,i,h⟩:M.aQ)):=by
 unfold A9
 refine .bnd (UD c0) λi1 v1 r1 c1 q1=>.bnd (aW c1) λi2 v2 r2 U q2=> ?_
 dsimp only
 obtain⟨j,hl,hz⟩:=q1
 have hz':=hz
 simp only[M.bC.sz]at hz'
 split
 ·exact .bnd (uE (λx=> -1000000000000000<=x/\x<=1000000000000000) jI jI U) λi3 v3 r3 c3 J=>.ret c3 ⟨⟨bgI J,j.aHL,j.Top,j.aHA,j.aT,j.aHJ⟩,by show M.bC.sz r1<=2000;omega⟩
 split
 ·refine .bnd (BT (λs=>s.size<=16) jI jI U) λi3 v3 r3 c3 J=>.bnd (aW c3) λi4 v4 r4 c4 q4=> ?_
  dsimp only
  rw[BF jV jF,qA]
  have q3':r3.size<=16:=J
  refine .ret c4 ⟨⟨j.Id,j.aHL,j.Top,j.aHA,⟨ml jR,λx I=> ?_⟩,j.aHJ⟩,?_⟩
  ·rcases qP.1 I with I|I;(exact j.aT.2 x I);·rw[qQ.1 I];exact⟨s16 J,bJ _⟩
  ·simp only[M.bC.sz,zT,dG,M.aT.sz,qE,qJ,qK];omega
 split
 ·exact .bnd (uE (λx=> -1000000000000000<=x/\x<=1000000000000000) jI jI U) λi3 v3 r3 c3 J=>.ret c3 ⟨⟨j.Id,j.aHL,j.Top,bgI J,j.aT,j.aHJ⟩,by show M.bC.sz r1<=2000;omega⟩
 split
 ·have e5:(⟨#[105,110,100,101,120]⟩:ByteArray).size=5:=rfl
  have key:∀(n:Nat) (l:List M.aT),8-l.length<n->l.length<=8->(∀x∈l,M.aT.ok x)->dG M.aT.sz l+6*(8-l.length)<=dG M.aT.sz r1.aT+48->Dr b UX (wE (i1,v1,r1) (i2,v2,r2) n l):=by
   intro n
   induction n with
   |zero=>intro l h _ _ _;omega
   |succ n ih=>
    intro l hn hk I hs
    simp only[wE]
    rcases Nat.lt_or_ge l.length 8 with h6|h6
    ·rw[if_pos jG,BF jV jF,qA];refine ih (l++[_]) jR jR (λx C=> ?_) ?_;(rcases qP.1 C with C|C;(exact I x C);·rw[qQ.1 C];exact⟨s16 (show(⟨#[105,110,100,101,120]⟩:ByteArray).size<=16 by decide),j.aHA⟩);·simp only[zT,dG,M.aT.sz,e5,qE,qJ,qK];omega
    ·rw[if_neg jG];refine .ret U ⟨⟨j.Id,j.aHL,j.Top,j.aHA,⟨ml (by show l.length<=_;omega),I⟩,j.aHJ⟩,?_⟩;simp only[M.bC.sz];omega
  exact key fuel r1.aT (nJ jF) jF j.aT.2 jF
 ·exact .ret U ⟨j,jF⟩
def wdI(n:Nat)(w:M.World):Prop:=inI w.Now/\inI w.aHI/\stN 4 w.aA/\(w.aHQ.length<=n/\∀p∈w.aHQ,UX p)/\inI w.aHK/\(w.aHR.aHR=[])/\(w.aHN.aHn=[])/\(w.aHZ.length<=3/\(∀s∈w.aHZ,M.aHL.ok s/\M.aHL.sz s<=100))/\(w.aHT.length<=3/\∀s∈w.aHT,TH s)
theorem wdI.ok{n:Nat}{w:M.World}(h:wdI n w)(C:n<=20):M.World.ok w:=by obtain⟨h1,h2,h3,h4,h5,h6,h7,h8,h9⟩:=h;exact⟨h1,h2,h3.ok jF,⟨ml jF,λp j=>(h4.2 p j).1⟩,h5,⟨by rw[h6];simp[maxLen],by rw[h6];simp⟩,⟨by rw[h7];simp[maxLen],by rw[h7];simp⟩,⟨ml jF,λp j=>(h8.2 p j).1⟩,⟨ml jF,λp j=>(h9.2 p j).1⟩⟩
theorem wdI.sz{n:Nat}{w:M.World}(h:wdI n w)(hn:n<=20):M.World.sz w<=900000:=by
 obtain⟨h1,h2,h3,h4,h5,h6,h7,h8,h9⟩:=h
 have j:=dR (w:=M.aHD.sz) (b:=180000) (xs:=w.aA.aHE) λb hb=>(h3.2 b hb).sz
 have C:=dR (w:=M.bC.sz) (b:=2000) (xs:=w.aHQ) λb hb=>(h4.2 b hb).2
 have I:=dR (w:=M.aHL.sz) (b:=100) (xs:=w.aHZ) λb hb=>(h8.2 b hb).2
 have J:=dR (w:=M.aHO.sz) (b:=30000) (xs:=w.aHT) λb hb=>(h9.2 b hb).2
 have U:=h3.1
 have b2:=h4.1
 have b3:=h8.1
 have b4:=h9.1
 simp only[M.World.sz,M.aA.sz,M.aM.sz,M.aHN.sz,h6,h7,dG,qK]
 omega
theorem ZY{d:Int}:wdI 0 (Ty d):=by unfold Ty;split;(rename_i h;refine⟨xV,bgI jL,⟨jH,jH⟩,⟨jH,jH⟩,RE,rfl,rfl,⟨by simp[sI],λs j=> ?_⟩,⟨by simp[sI],λs j=> ?_⟩⟩;(simp only[sI,List.map_cons,List.map_nil,qq,qO,or_false]at j;rcases j with rfl|rfl|rfl<;>exact⟨⟨s16 jI,RE,⟨ml jH,λy C=>by simp only[qq,qO,or_false]at C;rcases C with rfl|rfl|rfl|rfl<;>exact s16 jI⟩⟩,jI⟩);·simp only[sI,List.map_cons,List.map_nil,qq,qO,or_false]at j;rcases j with rfl|rfl|rfl<;>exact Zv NO.any ⟨jH,jH⟩ ⟨jH,jH⟩);·exact⟨xV,xV,⟨jH,jH⟩,⟨jH,jH⟩,xV,rfl,rfl,⟨jH,jH⟩,⟨jH,jH⟩⟩
theorem NC(x:M.aA):K4 x x=true:=pJ Px _
theorem Tf(x:M.bC):Qn x x=true:=by simp[Qn,KZ,pJ (f:=FM) (λy=>by simp[FM]),pJ (f:=I4) (λy=>by simp[I4]),pJ (f:=OL) (λy=>by simp[OL])]
theorem O1(x:M.aHO):HN x x=true:=by simp[HN,HL,pJ (f:=ED) (λy=>by simp[ED]),pJ (f:=D9) (λy=>by simp[D9])]
theorem Tl(x:M.aHL):Q3 x x=true:=by simp[Q3,pJ (f:=Gq) (λy=>by simp[Gq])]
theorem LA(x:M.World):Sj x x=true:=by simp[Sj,NC,pJ (f:=Qn) Tf,pJ (f:=Mm) (λy=>by simp[Mm]),pJ (f:=LG) (λy=>by simp[LG]),pJ (f:=Q3) Tl,pJ (f:=HN) O1]
theorem KP(x:List M.bC)(j:x.length+dG M.bC.sz x<=1073741824):zR x=some x:=by
 unfold zR
 exact Bk (xs:=x) (b:=144) (L:=mG x) (E:=some) jF jF (λn r k hk=>by
  have C:=eU (f:=M.bC.sz) (qG hk)
  simp only[mG]
  rw[if_pos (aY hk),aK hk,qA,DT _ jF,qA,bD jF]) (λn r=>by
  simp only[mG]
  rw[if_neg jO])
theorem Hc(w:M.World)(C:M.World.sz w<=1073741824):fT w=some w:=by
 simp only[M.World.sz]at C
 have e3:kE w w.aA w.aHQ w.aHR w.aHN w.aHZ fuel 0 ([]:List M.aHO)=some w:=Bk (xs:=w.aHT) (b:=96) (L:=kE w w.aA w.aHQ w.aHR w.aHN w.aHZ) (E:=λr=>some { w with aHT:=r }) jF jF (λn r k hk=>by
   have j:=eU (f:=M.aHO.sz) (qG hk)
   simp only[kE]
   rw[if_pos (aY hk),aK hk,qA,MA _ jF,qA,bD jF]) (λn r=>by
   simp only[kE]
   rw[if_neg jO])
 have e2:kG w w.aA w.aHQ w.aHR w.aHN fuel 0 ([]:List M.aHL)=some w:=(Bk (xs:=w.aHZ) (b:=56) (L:=kG w w.aA w.aHQ w.aHR w.aHN) (E:=λr=>kE w w.aA w.aHQ w.aHR w.aHN r fuel 0 ([]:List M.aHO)) jF jF (λn r k hk=>by
   have j:=eU (f:=M.aHL.sz) (qG hk)
   simp only[kG]
   rw[if_pos (aY hk),aK hk,qA,ME _ jF,qA,bD jF]) (λn r=>by
   simp only[kG]
   rw[if_neg jO])).trans e3
 have e1:mX w w.aA fuel 0 ([]:List M.bC)=some w:=(Bk (xs:=w.aHQ) (b:=144) (L:=mX w w.aA) (E:=λr=>(xT w.aHR).bind λx=>(As w.aHN).bind λy=>kG w w.aA r x y fuel 0 ([]:List M.aHL)) jF jF (λn r k hk=>by
   have j:=eU (f:=M.bC.sz) (qG hk)
   simp only[mX]
   rw[if_pos (aY hk),aK hk,qA,G6 _ jF,qA,bD jF]) (λn r=>by
   simp only[mX]
   rw[if_neg jO])).trans (by rw[G9 _ jF,qA,MO _ jF,qA];exact e2)
 unfold fT
 rw[Em _ jF,qA]
 exact e1
theorem Fz(w:M.World)(j:M.World.sz w<=1073741824):iT w=some w:=by
 simp only[M.World.sz]at j
 have e3:gE w w.aA w.aHQ w.aHR w.aHN w.aHZ fuel 0 ([]:List M.aHO)=some w:=Bk (xs:=w.aHT) (b:=96) (L:=gE w w.aA w.aHQ w.aHR w.aHN w.aHZ) (E:=λr=>some { w with aHT:=r }) jF jF (λn r k hk=>by
   have C:=eU (f:=M.aHO.sz) (qG hk)
   simp only[gE]
   rw[if_pos (aY hk),aK hk,qA,J1 _ jF,qA,bD jF]) (λn r=>by
   simp only[gE]
   rw[if_neg jO])
 have e2:iP w w.aA w.aHQ w.aHR w.aHN fuel 0 ([]:List M.aHL)=some w:=(Bk (xs:=w.aHZ) (b:=56) (L:=iP w w.aA w.aHQ w.aHR w.aHN) (E:=λr=>gE w w.aA w.aHQ w.aHR w.aHN r fuel 0 ([]:List M.aHO)) jF jF (λn r k hk=>by
   have C:=eU (f:=M.aHL.sz) (qG hk)
   simp only[iP]
   rw[if_pos (aY hk),aK hk,qA,L7 _ jF,qA,bD jF]) (λn r=>by
   simp only[iP]
   rw[if_neg jO])).trans e3
 unfold iT
 rw[Cs _ jF,qA,KP _ jF,qA,Dl _ jF,qA,D8 _ jF,qA]
 exact e2
theorem SB{a:ByteArray}(h:¬En a<0):∃k:Nat,En a=(k:Int)/\k<3:=by obtain⟨k,e,hk⟩:=iF (show ¬mM (λx:ByteArray=>x.toList==a.toList) sI<0 from h);exact⟨k,e,hk⟩
theorem O4{w:M.World}(h:zZ w=true):w.aHZ.length=3:=by unfold zZ at h;rw[qM]at h;simpa using h.1
theorem aF8{α:Type}(a b:Bool)(x y:α):(if a=true then if b=true then x else y else y)=if(a&&b)=true then x else y:=by cases a<;>cases b<;>rfl
theorem Pz{s:M.aHL}(h:LD s=true):1<=s.aHA/\s.aHA<=1000000000000:=by simp only[LD,qM,inR,qL]at h;exact h.2.2.1
theorem Kf{α:Type}{f:α->Nat}(g:α->Bool):∀j:List α,dG f (j.filter g)<=dG f j
 |[]=>qg _
 |x::j=>by have:=Kf g j (f:=f);by_cases h:g x=true;(rw[List.filter_cons_of_pos h];simp only[dG];omega);·rw[List.filter_cons_of_neg h];simp only[dG];omega
def aGR(a b:ByteArray)(x:M.bC):Bool:=(x.aHL.toList==a.toList)&&(x.Top.toList==b.toList)
theorem G4{w:M.World}{a b:ByteArray}(j:M.World.sz w<=1048576):An w a b=some (w.aHQ.filter (aGR a b)):=by
 have I:w.aHQ.length<=1048576:=by simp only[M.World.sz]at j;omega
 unfold An
 refine I0 (L:=kA w a b) (b:=144) (E:=some) jN jF (λn r k hk=> ?_) (λn r=> ?_)
 ·have C:=eU (f:=M.bC.sz) (qG hk);simp only[M.World.sz]at j;simp only[kA];rw[if_pos (aY hk),aK hk,qA,DT _ jF,qA,bD jF,aF8];rfl
 ·simp only[kA];rw[if_neg jO]
theorem NP{s:M.aF}{v:Int}{a b:ByteArray}(I:s.ok)(U:s.sz<=1048576):∃r,yJ s v a b=some r/\zA s v a b=some r/\M.aHH.ok r.1:=by
 unfold yJ zA cY eX
 rw[Fw I,KL I]
 simp only[qA]
 have hnil:M.aHH.ok (⟨4,0,0,([]:List Int),false⟩:M.aHH):=⟨by unfold inI;simp,by unfold inI;simp,by unfold inI;simp,⟨by simp[maxLen],jH⟩⟩
 by_cases h:mM (λc:M.aHM=>c.aHA==v) s.aHC<0
 ·simp only[h,decide_true,if_true];exact⟨_,rfl,rfl,hnil⟩
 ·obtain⟨k,e,hk⟩:=iF h
  simp only[h,decide_false,qD,if_false]
  rw[e,aK hk]
  have hc:=I.aHC.2 _ (qG hk)
  simp only[qA]
  rw[Hm hc,MY hc]
  simp only[qA]
  by_cases h2:mM (Gc a b) s.aHC[k].aHS<0
  ·simp only[h2,decide_true,if_true];exact⟨_,rfl,rfl,hnil⟩
  ·obtain⟨j,e2,C⟩:=iF h2
   simp only[h2,decide_false,qD,if_false]
   rw[e2,aK C]
   have J:=hc.aHS.2 _ (qG C)
   have z1:=eU (f:=M.aHM.sz) (qG hk)
   have z2:=eU (f:=M.aHU.sz) (qG C)
   unfold M.aF.sz at U
   have q1:M.aHM.sz s.aHC[k]=s.aHC[k].aHS.length+dG M.aHU.sz s.aHC[k].aHS:=rfl
   have q2:M.aHU.sz s.aHC[k].aHS[j]=s.aHC[k].aHS[j].aHL.size+(s.aHC[k].aHS[j].aHv.size+s.aHC[k].aHS[j].aHH.aH3.length):=rfl
   have hb:(s.aHC[k].aHS[j].aHH.aH3).length<=1048576:=by omega
   simp only[qA,uI,mE,lQ]
   rw[dY jG]
   exact⟨_,rfl,rfl,J.aHH⟩
def Mp(s:M.aHL)(v:Int):Bool:=LD s&&(decide (v>s.aHA-2)&&(decide (v<=s.aHA)&&decide (v>=1)))
theorem NW{s:M.aHL}{v:Int}(j:s.ok):tZ s v=some (Mp s v):=by
 unfold tZ Mp
 rw[E1 j,qA]
 cases hn:LD s with
 |false=>simp
 |true=>
  have C:=Pz hn
  rw[if_pos rfl,bO (n:=s.aHA-2) jF jF,bO jF jF]
  unfold DJ aZ
  by_cases h:s.aHA-2+1>1
  ·rw[if_pos (by simpa using h),qA]
   by_cases h1:v>=s.aHA-2+1
   ·rw[if_pos (by simpa using h1),qA]
    have e1:decide (v>s.aHA-2)=true:=by simp;omega
    have e2:decide (v>=1)=true:=by simp;omega
    rw[e1,e2];simp
   ·rw[if_neg (by simpa using h1),qA]
    have e1:decide (v>s.aHA-2)=false:=by simp;omega
    rw[e1];simp
  ·rw[if_neg (by simpa using h),qA]
   by_cases h1:v>=1
   ·rw[if_pos (by simpa using h1),qA]
    have e1:decide (v>s.aHA-2)=true:=by simp;omega
    have e2:decide (v>=1)=true:=by simpa using h1
    rw[e1,e2];simp
   ·rw[if_neg (by simpa using h1),qA]
    have e2:decide (v>=1)=false:=by simpa using h1
    rw[e2];simp
theorem NU{s:M.aHL}{v:Int}(j:s.ok):uB s v=some (Mp s v):=by
 unfold uB Mp
 rw[EW j,qA]
 cases hn:LD s with
 |false=>simp
 |true=>
  have C:=Pz hn
  rw[if_pos rfl,bO (n:=s.aHA-2) jF jF]
  cases decide (v>s.aHA-2)<;>cases decide (v<=s.aHA)<;>simp
def aAB(s:M.aHL)(f:ByteArray):Bool:=s.aHl.any λx=>x.toList==f.toList
theorem MV{s:M.aHL}{f:ByteArray}(j:s.ok):Bp s f=some (aAB s f):=by have C:=le_max j.aHl.1;unfold Bp aAB;rw[findAll (L:=pU s f) (f:=λx:ByteArray=>x.toList==f.toList) (A:=λ_=>some true) (E:=some false) j.aHl.1 (λm k hk=> ?_) (λm=> ?_),N6];(cases s.aHl.any (λx=>x.toList==f.toList)<;>rfl);(simp only[pU];rw[if_pos (aY hk),aK hk,qA,bD jF]);·simp only[pU];rw[if_neg jO]
theorem MQ{s:M.aHL}{f:ByteArray}(j:s.ok):Bt s f=some (aAB s f):=by have C:=le_max j.aHl.1;unfold Bt sJ mY aAB;rw[findAll (L:=cD s.aHl f) (f:=λx:ByteArray=>x.toList==f.toList) (A:=λi=>some (i:Int)) (E:=some (-1)) j.aHl.1 (λm k hk=> ?_) (λm=> ?_),pM,qA,qA,Iv];(simp only[cD];rw[if_pos (aY hk),aK hk,qA,bD jF,Bool.beq_comm]);·simp only[cD];rw[if_neg jO]
theorem XR:M.aHH.ok (⟨4,0,0,([]:List Int),false⟩:M.aHH):=⟨by unfold inI;simp,by unfold inI;simp,by unfold inI;simp,⟨by simp[maxLen],jH⟩⟩
theorem Q7{s:M.aHL}{f:ByteArray}{v:Int}(j:s.ok)(U:inI v)(zs:M.aHL.sz s<=1048576)(zf:f.size<=1048576):∃r,Af s f v=some r/\zX s f v=some r/\M.aHH.ok r:=by
 have J:s.Name.size<=1048576:=by simp only[M.aHL.sz]at zs;omega
 obtain⟨l,e1,e2,I⟩:=Wu (t:=s) (f:=f) (v:=v) J zf
 unfold Af zX cY eX
 rw[E1 j,EW j,NW j,NU j,MV j,MQ j,e1,e2]
 have C:M.aHH.ok (⟨1,404,s.aHA,([]:List Int),false⟩:M.aHH):=⟨by unfold inI;simp,by unfold inI;simp,j.aHA,⟨by simp[maxLen],jH⟩⟩
 simp only[qA]
 cases LD s
 ·exact⟨_,rfl,rfl,XR⟩
 ·cases Mp s v;(exact⟨_,rfl,rfl,C⟩);·cases aAB s f;(exact⟨_,rfl,rfl,C⟩);·exact⟨_,rfl,rfl,⟨by unfold inI;simp,by unfold inI;simp,U,I⟩⟩
theorem N5{c:M.aF}{s:M.aHL}{f:ByteArray}{v:Int}{o:Bool}(hc:c.ok)(j:s.ok)(C:inI v)(U:c.sz<=1048576)(zs:M.aHL.sz s<=1048576)(zf:f.size<=1048576):∃r,oC c s v f o=some r/\oM c s v f o=some r/\M.aHH.ok r:=by obtain⟨x,e1,e2,I⟩:=NP (s:=c) (v:=v) (a:=s.Name) (b:=f) hc U;obtain⟨y,e3,e4,J⟩:=Q7 (f:=f) j C zs zf;unfold oC oM cY eX;rw[e1,e2,e3,e4];simp only[qA];cases x.2;(cases o;(exact⟨_,rfl,rfl,XR⟩);·exact⟨_,rfl,rfl,J⟩);·exact⟨_,rfl,rfl,I⟩
def ZG(x y:M.dO):Bool:=(y.Name.toList==x.Name.toList)&&(!y.aH4||(!y.aHo|| !x.aHo))
def X6(l:List M.dO)(x:M.dO):Bool:= !(l.any (ZG x))
theorem XV{α:Type}(n a b c:Bool)(p q:α):(if n=true then if(!a)=true then p else if(!b)=true then p else if(!c)=true then p else q else q)=if(n&&(!a||(!b|| !c)))=true then p else q:=by cases n<;>cases a<;>cases b<;>cases c<;>rfl
theorem Tn{l:List M.dO}{n:Nat}{x:M.dO}(I:l.length<=maxLen)(U:n<=l.length):B6 l (n:Int) x=some (X6 (l.take n) x):=by
 have J:=le_max I
 have C:(l.take n).length=n:=by simp;omega
 unfold B6 X6
 rw[findAll (xs:=l.take n) (L:=oV l (n:Int) x) (f:=ZG x) (A:=λ_=>some false) (E:=some true) (by rw[C];omega) (λm k hk=> ?_) (λm=> ?_),N6]
 ·cases (l.take n).any (ZG x)<;>rfl
 ·have j:k<n:=by omega
  simp only[oV]
  rw[if_pos (by simpa using j),aK (show k<l.length by omega),qA,bD jF,XV,List.getElem_take]
  rfl
 ·rw[C];simp only[oV];rw[if_neg jH]
theorem MK{t:M.aM}{i:Nat}(C:t.aHR.length<=maxLen)(j:i<t.aHR.length):BC t (i:Int)=some (X6 (t.aHR.take i) t.aHR[i]):=by
 have J:=le_max C
 have I:(t.aHR.take i).length=i:=by simp;omega
 unfold BC X6
 rw[CF jF,qA,findAll (xs:=t.aHR.take i) (L:=nD t (i:Int)) (f:=ZG t.aHR[i]) (A:=λ_=>some false) (E:=some true) (by rw[I];omega) (λm k hk=> ?_) (λm=> ?_),N6]
 ·cases (t.aHR.take i).any (ZG t.aHR[i])<;>rfl
 ·simp only[nD,qH];rw[if_pos (aY hk),aK hk,qA,aK j,qA,bD jF,XV];rfl
 ·simp only[nD,qH];rw[if_neg jO]
theorem Oo{α:Type}{xs:List α}{q:α->Bool}{L:Nat->Int->Int->List α->Option (List α)}
  (h1:∀n (i j:Nat) (r:List α) (hj:j<r.length) (hi:i<r.length),r.length=xs.length->r[j]∈xs->L (n+1) (i:Int) (j:Int) r=if q r[j]=true then L n (i:Int) ((j+1:Nat):Int) r else L n ((i+1:Nat):Int) ((j+1:Nat):Int) (r.set i r[j]))
  (h2:∀n (i:Nat) (r:List α),i<=r.length->L (n+1) (i:Int) (r.length:Int) r=some (r.take i)):
  ∀(n i j:Nat) (r:List α),xs.length-j<n->j<=xs.length->i<=j->r.length=xs.length->r.take i=(xs.take j).filter (λx=> !q x)->r.drop j=xs.drop j->L n (i:Int) (j:Int) r=some (xs.filter λx=> !q x)
 |0,i,j,r,hn,_,_,_,_,_=>by omega
 |n+1,i,j,r,hn,hj,hi,hr,ht,hd=>by
  rcases Nat.lt_or_ge j xs.length with h|h
  ·have I:j<r.length:=by omega
   have U:r[j]=xs[j]:=by have:=congrArg (λl=>l[0]?) hd;simp only[List.getElem?_drop,Nat.add_zero,qF I,qF h,qc]at this;exact this
   have C:r.drop (j+1)=xs.drop (j+1):=by have:=congrArg (List.drop 1) hd;simpa only[List.drop_drop]using this
   have J:xs.take (j+1)=xs.take j++[xs[j]]:=(List.take_append_getElem h).symm
   rw[h1 n i j r I jF hr (by rw[U];exact qG h)]
   cases hq:q r[j]with
   |true=>
    rw[if_pos rfl]
    refine Oo h1 h2 n i (j+1) r jF h jF hr ?_ C
    rw[ht,J,jE,<-U]
    simp[hq]
   |false=>
    rw[if_neg jH]
    refine Oo h1 h2 n (i+1) (j+1) (r.set i r[j]) jF h jF (by simpa using hr) ?_ ?_
    ·rw[J,jE,<-ht,<-U]
     have hl:i<(r.set i r[j]).length:=by rw[qN];omega
     rw[<-List.take_append_getElem hl,List.getElem_set_self,List.take_set_of_le (qg i)]
     simp[hq]
    ·rw[List.drop_set_of_lt jF];exact C
  ·have e:j=r.length:=by omega
   subst e
   rw[h2 n i r hi,ht,List.take_of_length_le jF]
theorem JH{p:M.dO->Option Bool}{q:M.dO->Bool}{xs:List M.dO}(C:xs.length<=maxLen)(hp:∀x∈xs,p x=some (q x)):nE xs p=some (xs.filter λx=> !q x):=by
 have hm:=le_max C
 unfold nE
 rw[KF C hp,qA]
 unfold mM
 cases hf:xs.findIdx? q with
 |none=>
  rw[if_pos jH]
  rw[List.findIdx?_eq_none_iff]at hf
  rw[List.filter_eq_self.2 (λx C=>by simp[hf x C])]
 |some k=>
  obtain⟨hk,hqk,U⟩:=List.findIdx?_eq_some_iff_getElem.1 hf
  have hne:((k:Int)== -1)=false:=beq_eq_false_iff_ne.2 jF
  simp only[hne,qD,if_false]
  rw[bD jF]
  refine Oo (xs:=xs) (q:=q) (L:=bX p) (λn i j r I J hrl hmem=> ?_) (λn i r J=> ?_) fuel k (k+1) xs jM hk jF rfl ?_ rfl
  ·simp only[bX];rw[if_pos (aY I),aK I,qA,hp _ hmem,qA,aK J,qA];rw[bD (n:=i) jF,bD (n:=j) jF,qH];cases q r[j]<;>rfl
  ·simp only[bX];rw[if_neg jO,Ho J,qA,qH]
  ·rw[<-List.take_append_getElem hk,jE];have:(xs.take k).filter (λx=> !q x)=xs.take k:=List.filter_eq_self.2 (λx C=>by obtain⟨j,I,rfl⟩:=List.mem_iff_getElem.1 C;rw[qV]at I;rw[List.getElem_take];have:=U j jF;simpa using this);rw[this];simp[hqk]
theorem Jf{p:M.mI->Option Bool}{q:M.mI->Bool}{xs:List M.mI}(C:xs.length<=maxLen)(hp:∀x∈xs,p x=some (q x)):nA xs p=some (xs.filter λx=> !q x):=by
 have hm:=le_max C
 unfold nA
 rw[KR C hp,qA]
 unfold mM
 cases hf:xs.findIdx? q with
 |none=>
  rw[if_pos jH]
  rw[List.findIdx?_eq_none_iff]at hf
  rw[List.filter_eq_self.2 (λx C=>by simp[hf x C])]
 |some k=>
  obtain⟨hk,hqk,U⟩:=List.findIdx?_eq_some_iff_getElem.1 hf
  have hne:((k:Int)== -1)=false:=beq_eq_false_iff_ne.2 jF
  simp only[hne,qD,if_false]
  rw[bD jF]
  refine Oo (xs:=xs) (q:=q) (L:=bY p) (λn i j r I J hrl hmem=> ?_) (λn i r J=> ?_) fuel k (k+1) xs jM hk jF rfl ?_ rfl
  ·simp only[bY];rw[if_pos (aY I),aK I,qA,hp _ hmem,qA,aK J,qA];rw[bD (n:=i) jF,bD (n:=j) jF,qH];cases q r[j]<;>rfl
  ·simp only[bY];rw[if_neg jO,Ho J,qA,qH]
  ·rw[<-List.take_append_getElem hk,jE];have:(xs.take k).filter (λx=> !q x)=xs.take k:=List.filter_eq_self.2 (λx C=>by obtain⟨j,I,rfl⟩:=List.mem_iff_getElem.1 C;rw[qV]at I;rw[List.getElem_take];have:=U j jF;simpa using this);rw[this];simp[hqk]
def nGr(l:List M.dO)(k:Nat):List M.dO:=match l[k]? with
 |some x=>if x.aH4=true then l else if X6 (l.take k) x=true then l.set k (⟨x.Name,x.bC,x.aHo,true⟩:M.dO)else l
 |none=>l
theorem XE{l:List M.dO}{k:Nat}(h:k<l.length):nGr l k=if l[k].aH4=true then l else if X6 (l.take k) l[k]=true then l.set k (⟨l[k].Name,l[k].bC,l[k].aHo,true⟩:M.dO)else l:=by unfold nGr;rw[qF h]
theorem YW(l:List M.dO)(k:Nat):(nGr l k).length=l.length:=by unfold nGr;split;(split;(rfl);·split<;>simp);·rfl
def M8(l:List M.dO):List M.dO:=(List.range l.length).foldl nGr l
theorem O6{N:Nat}{L:Nat->Int->List M.dO->Option M.aM}(U:N<=maxLen)(h1:∀n (r:List M.dO) (k:Nat),k<N->r.length=N->L (n+1) (k:Int) r=L n ((k+1:Nat):Int) (nGr r k))(h2:∀n (r:List M.dO),r.length=N->L (n+1) (N:Int) r=some (⟨r⟩:M.aM))(l:List M.dO)(J:l.length=N):
  L fuel 0 l=some (⟨M8 l⟩:M.aM):=by
 have C:(List.range N).length=N:=List.length_range
 have:=OT (xs:=List.range N) (L:=λn k r=>L n k r) (step:=nGr) (I:=λk r=>r.length=N) (E:=λr=>some (⟨r⟩:M.aM)) (by rw[C];exact U) (λs k hk j=>(YW s _).trans j) (λn s k hk j=>by rw[List.getElem_range];exact h1 n s k (by rw[C]at hk;exact hk) j) (λn s j=>by rw[C];exact h2 n s j) l J
 unfold M8
 rw[J]
 exact this.1
theorem J2{t:M.aM}(J:t.aHR.length<=1048576)(I:M.aM.sz t<=1073741824):uU t=some (⟨M8 t.aHR⟩:M.aM):=by
 unfold uU
 rw[G9 t I,qA]
 refine O6 (N:=t.aHR.length) (L:=eZ) jN (λn r k hk C=> ?_) (λn r C=> ?_) t.aHR rfl
 ·have j:k<r.length:=by omega
  simp only[eZ]
  rw[if_pos (aY j),aK j,qA,bD jF,Tn jN jF,qA,qH,XE j]
  cases r[k].aH4
  ·cases X6 (r.take k) r[k]<;>rfl
  ·rfl
 ·simp only[eZ];rw[<-C,if_neg jO]
theorem JS{t:M.aM}(J:t.aHR.length<=1048576)(I:M.aM.sz t<=1073741824):uS t=some (⟨M8 t.aHR⟩:M.aM):=by
 unfold uS
 rw[Dl t I,qA]
 refine O6 (N:=t.aHR.length) (L:=gV t) jN (λn r k hk C=> ?_) (λn r C=> ?_) t.aHR rfl
 ·have j:k<r.length:=by omega
  have e:=MK (t:=(⟨r⟩:M.aM)) (i:=k) (by show r.length<=maxLen;unfold maxLen;omega) j
  simp only at e
  simp only[gV]
  rw[if_pos (aY hk),aK j,qA,bD jF,e,qA,qH,XE j]
  cases hh:r[k].aH4 with
  |true=>rfl
  |false=>
   cases X6 (r.take k) r[k]with
   |true=>rfl
   |false=>
    have:(⟨r[k].Name,r[k].bC,r[k].aHo,false⟩:M.dO)=r[k]:=by rw[<-hh]
    simp[this]
 ·simp only[gV];rw[if_neg jO]
def MN(t:M.aM)(p:Int):M.aM:=(⟨M8 (t.aHR.filter λx=>x.bC !=p)⟩:M.aM)
theorem TT{t:M.aM}(p:Int):M.aM.sz (⟨t.aHR.filter λx=>x.bC !=p⟩:M.aM)<=M.aM.sz t:=by have h4:=List.length_filter_le (λx:M.dO=>x.bC !=p) t.aHR;have h5:=Kf (f:=M.dO.sz) (λx:M.dO=>x.bC !=p) t.aHR;simp only[M.aM.sz];omega
theorem Hw{t:M.aM}{p:Int}(j:t.aHR.length<=1048576)(C:M.aM.sz t<=1073741824):vF t p=some (MN t p):=by have h4:=List.length_filter_le (λx:M.dO=>x.bC !=p) t.aHR;have h5:=TT (t:=t) p;unfold vF MN;rw[I0 (xs:=t.aHR) (L:=eM t p) (b:=32) (f:=λx:M.dO=>x.bC !=p) (E:=λr=>(uU (⟨r⟩:M.aM)).bind λx=>some x) jN jF (λn r k hk=> ?_) (λn r=> ?_)];(rw[J2 (by simpa using qh h4 j) jF,qA]);(simp only[eM];rw[if_pos (aY hk),aK hk,qA,bD jF]);·simp only[eM];rw[if_neg jO]
theorem HR{t:M.aM}{p:Int}(j:t.aHR.length<=1048576)(C:M.aM.sz t<=1073741824):vA t p=some (MN t p):=by have h4:=List.length_filter_le (λx:M.dO=>x.bC !=p) t.aHR;have h5:=TT (t:=t) p;unfold vA MN;rw[Dl t C,qA,JH (q:=λx:M.dO=>x.bC==p) jN (λx _=>by simp only[rZ]),qA];show(uS (⟨t.aHR.filter λx=>x.bC !=p⟩:M.aM)).bind _=_;rw[JS (by simpa using qh h4 j) jF,qA]
def Ke(x:M.aHN)(p:Int):M.aHN:=(⟨x.aHn.filter λm=>m.To !=p⟩:M.aHN)
theorem KU{x:M.aHN}{p:Int}(j:x.aHn.length<=1048576):Ae x p=some (Ke x p):=by unfold Ae Ke;refine I0 (xs:=x.aHn) (L:=iK x p) (b:=24) (f:=λm:M.mI=>m.To !=p) (E:=λr=>some (⟨r⟩:M.aHN)) jN jF (λn r k hk=> ?_) (λn r=> ?_);(simp only[iK];rw[if_pos (aY hk),aK hk,qA,bD jF]);·simp only[iK];rw[if_neg jO]
theorem KJ{x:M.aHN}{p:Int}(j:M.aHN.sz x<=1073741824):zY x p=some (Ke x p):=by unfold zY Ke;rw[D8 x j,qA,Jf (q:=λm:M.mI=>m.To==p) (by simp only[M.aHN.sz]at j;unfold maxLen;omega) (λm _=>by simp only[wS]),qA];rfl
theorem Wm{α:Type}{f:α->Bool}{l:List α}{k:Nat}{x:α}(e:mM f l=(k:Int))(hx:f x=true):mM f (l.set k x)=(k:Int)/\(l.set k x)[k]? =some x:=by
 obtain⟨hk,U⟩:=B1 e
 have h1:=ER hk U
 have C:k<(l.set k x).length:=by rw[qN];exact hk
 have hg:(l.set k x)[k]? =some x:=by rw[qF C,List.getElem_set_self]
 have h2:=ER (f:=f) (xs:=l.set k x) C (by rw[List.getElem_set_self];exact hx)
 rw[e,beq_self_eq_true]at h1
 refine⟨eq_of_beq (h2.trans ?_),hg⟩
 rw[qR]
 intro j J
 have h3:=(qR.1 h1.symm) j J
 have I:k≠j:=by have:=qS.1 J;omega
 rw[List.getElem?_set_ne I]
 exact h3
theorem R0{α:Type}{f:α->Bool}{l:List α}{p:Nat}{x:α}(hp:p<=l.length)(h:∀y∈l,f y=false)(hx:f x=true):mM f (l.take p++([x]++l.drop p))=(p:Int)/\(l.take p++([x]++l.drop p))[p]? =some x:=by
 have U:(l.take p).length=p:=by rw[qV];omega
 have J:p<(l.take p++([x]++l.drop p)).length:=by simp only[qE,U,qJ,qK];omega
 have C:(l.take p++([x]++l.drop p))[p]? =some x:=by rw[qz jF,U,Nat.sub_self];rfl
 have I:(l.take p++([x]++l.drop p))[p]=x:=by rw[qF J]at C;exact qd C
 refine⟨eq_of_beq ((ER J (by rw[I];exact hx)).trans ?_),C⟩
 rw[qR]
 intro j hj
 have hj':=qS.1 hj
 rw[qy jF]
 cases e:(l.take p)[j]? with
 |none=>rfl
 |some y=>
  rw[qf,h y (qk (jC e))]
  rfl
theorem So{s:M.aA}{b:M.aHD}(j:(JI s b).2=true):(JI s b).1=(⟨Cy s b⟩:M.aA)/\pI (⟨Cy s b⟩:M.aA)=true:=by unfold JI Kr at j⊢;by_cases h1:pI s=true;(by_cases h2:pI (⟨Cy s b⟩:M.aA)=true;(rw[if_pos h1,if_pos h2];exact⟨rfl,h2⟩);·rw[if_pos h1,if_neg h2]at j;cases j);·rw[if_neg h1]at j;cases j
theorem Sp(b:M.aHD):nAt b.aHL b.Top b=true:=by unfold nAt;simp
theorem PK(s:M.aA)(b:M.aHD):∃j:Nat,mM (nAt b.aHL b.Top) (Cy s b)=(j:Int)/\(Cy s b)[j]? =some b:=by unfold Cy;by_cases h:mM (nAt b.aHL b.Top) s.aHE>=0;(rw[if_pos h];obtain⟨k,e,hk⟩:=iF (show ¬mM (nAt b.aHL b.Top) s.aHE<0 by omega);rw[e,qH];exact⟨k,Wm e (Sp b)⟩);·rw[if_neg h];exact⟨Tv s b,R0 (Om s b) (Jo jF) (Sp b)⟩
theorem Zc{s:M.aA}(h:pI s=true){x:M.aHD}{j:Nat}(C:s.aHE[j]? =some x):BP x=true:=by unfold pI at h;rw[qM,qR]at h;obtain⟨I,_⟩:=qe.1 C;have:=h.1 j (qS.2 I);unfold Eu at this;rw[C,qf,qM]at this;exact this.1
theorem XB{s:M.aA}{b:M.aHD}(C:M.aA.sz s<=1048576)(J:M.aHB.sz b.bP.aHa<=1048576):∀x∈(JI s b).1.aHE,M.aHB.sz x.bP.aHa<=1048576:=by
 have j:∀x∈s.aHE,M.aHB.sz x.bP.aHa<=1048576:=λx I=>DP (Ub C x I)
 unfold JI Kr
 split
 ·split;(exact Mj C J);·exact j
 ·exact j
theorem Wl(p:M.bC)(f:ByteArray)(x:M.aHH):(GA p f x).1.Id=p.Id:=by unfold GA;split;(rfl);·split;(rfl);·split;(split<;>rfl);·rfl
theorem U6{w:M.World}{B:M.aHD}{p:M.bC}{f:ByteArray}{k:Nat}(hw:w.ok)(J:B.ok)(hz:M.World.sz w<=1048576)(hk:k<w.aHZ.length)(I:En p.aHL=(k:Int))(U:(JI w.aA B).2=true)(e:nAt p.aHL p.Top=nAt B.aHL B.Top):
  pA (⟨w.Now,w.aHc,w.aHI,(JI w.aA B).1,w.aHQ,w.aHK,w.aHR,w.aHN,w.aHZ,w.aHT⟩:M.World) p f=oC B.aHC w.aHZ[k] p.aHA f w.aHc:=by
 have C:=TN hw.aA J (Ez hz)
 obtain⟨j,e1,e2⟩:=PK w.aA B
 rw[(So U).1]at C⊢
 unfold pA
 rw[xX C,qA,CM,qA,e,I]
 show(if decide (mM (nAt B.aHL B.Top) (Cy w.aA B)<0)=true then _ else _)=_
 rw[e1,if_neg jH,if_neg jH]
 show((idx (Cy w.aA B) (j:Int)).bind _)=_
 rw[ZX e2,qA,aK hk,qA]
 cases oC B.aHC w.aHZ[k] p.aHA f w.aHc<;>rfl
def oS(w:M.World)(B:M.aHD)(k:Nat)(a b:ByteArray)(l:List M.Instr):Option (M.World×Int×Bool):=(iS w.aA B).bind λj=>(idx w.aHZ (k:Int)).bind λU=>(pV B.aG9 U w.aHc).bind λaj=>(lO w.aHK a b aj l).bind λC=>if(!j.2)=true then some (w,0,false)else if(!C.2)=true then some (w,0,false)else(pA (⟨w.Now,w.aHc,w.aHI,j.1,w.aHQ,w.aHK,w.aHR,w.aHN,w.aHZ,w.aHT⟩:M.World) C.1 (⟨#[105,110,100,101,120]⟩:ByteArray)).bind λak=>(lG C.1 (⟨#[105,110,100,101,120]⟩:ByteArray) ak).bind λI=>(app 144 w.aHQ ([I.1])).bind λal=>if(!I.2)=true then some (w,0,false)else(iU (⟨w.Now,w.aHc,w.aHI,j.1,w.aHQ++[I.1],i64.wrap (w.aHK+1),w.aHR,w.aHN,w.aHZ,w.aHT⟩:M.World)).bind λJ=>if(!J)=true then some (w,0,false)else some ((⟨w.Now,w.aHc,w.aHI,j.1,w.aHQ++[I.1],i64.wrap (w.aHK+1),w.aHR,w.aHN,w.aHZ,w.aHT⟩:M.World),C.1.Id,true)
def oI(w:M.World)(B:M.aHD)(a b:ByteArray)(l:List M.Instr):Option (M.World×Int×Bool):=(zL w a).bind λJ=>(rN B.aG9 J w.aHc).bind λC=>(tJ w.aHK a b C l).bind λU=>(oM B.aHC J C (⟨#[105,110,100,101,120]⟩:ByteArray) w.aHc).bind λaj=>(vJ U.1 (⟨#[105,110,100,101,120]⟩:ByteArray) aj).bind λj=>if(C==0)=true then some (w,0,false)else if(!U.2)=true then some (w,0,false)else if(!j.2)=true then some (w,0,false)else(tE w.aA B).bind λI=>(app 144 w.aHQ ([j.1])).bind λal=>if(!I.2)=true then some (w,0,false)else(nL (⟨w.Now,w.aHc,w.aHI,I.1,w.aHQ++[j.1],i64.wrap (w.aHK+1),w.aHR,w.aHN,w.aHZ,w.aHT⟩:M.World)).bind λak=>if(!ak)=true then some (w,0,false)else some ((⟨w.Now,w.aHc,w.aHI,I.1,w.aHQ++[j.1],i64.wrap (w.aHK+1),w.aHR,w.aHN,w.aHZ,w.aHT⟩:M.World),j.1.Id,true)
def Qx(w:M.World)(B:M.aHD)(a b:ByteArray)(l:List M.Instr)(p:M.bC)(R:M.World×Int×Bool):Prop:=zZ w=true/\zZ R.1=true/\(JI w.aA B).2=true/\nAt a b=nAt B.aHL B.Top/\R.1=(⟨w.Now,w.aHc,w.aHI,(JI w.aA B).1,w.aHQ++[p],i64.wrap (w.aHK+1),w.aHR,w.aHN,w.aHZ,w.aHT⟩:M.World)/\R.2.1=w.aHK/\R.2.2=true/\M.bC.ok p/\M.bC.sz p<=a.size+b.size+(l.length+dG M.Instr.sz l)+10/\p.Id=w.aHK/\p.aHL=a/\p.Top=b/\p.aT=[(⟨(⟨#[105,110,100,101,120]⟩:ByteArray),p.aHA⟩:M.aT)]
def Zz(w:M.World)(q:M.aHD):M.aHD:=(⟨q.aHL,q.Top,q.aG9,q.aHC,q.bP,q.aE,w.Now,q.aHh⟩:M.aHD)
def Zx(w:M.World)(a b:ByteArray)(d:Int):M.aHD:=(⟨(CN a b d).1.aHL,(CN a b d).1.Top,(CN a b d).1.aG9,(CN a b d).1.aHC,(CN a b d).1.bP,(CN a b d).1.aE,w.Now,(CN a b d).1.aHh⟩:M.aHD)
def Y7(w:M.World)(a b:ByteArray)(B:M.aHD):Prop:=(∃j:Nat,∃C:j<w.aA.aHE.length,mM (nAt a b) w.aA.aHE=(j:Int)/\B=Zz w w.aA.aHE[j])\/(∃d,inI d/\B=Zx w a b d)
theorem VI{p:M.bC}{f:ByteArray}{x:M.aHH}(h:(GA p f x).2=true):(GA p f x).1=Ew p f x.aHA/\x.aHA=p.aHA:=by unfold GA at h⊢;by_cases h1:(x.aHx !=200)=true;(rw[if_pos h1]at h;cases h);·rw[if_neg h1]at h⊢;by_cases h2:(x.aHA !=p.aHA)=true;(rw[if_pos h2]at h;cases h);·rw[if_neg h2]at h⊢;by_cases h3:DA p=true;(rw[if_pos h3]at h⊢;by_cases h4:DA (Ew p f x.aHA)=true;(rw[if_pos h4];exact⟨rfl,by simpa using h2⟩);·rw[if_neg h4]at h;cases h);·rw[if_neg h3]at h;cases h
theorem M5{w:M.World}{B:M.aHD}{k:Nat}{a b:ByteArray}{l:List M.Instr}(C:w.ok)(hn:zZ w=true)(U:M.World.sz w<=1048576)(ha:a.size<=1048576)(hb:b.size<=1048576)(hl:BL l)(zl:l.length+dG M.Instr.sz l<=1048576)(ek:En a=(k:Int))(hk:k<w.aHZ.length)
  (J:B.ok)(zB:M.aHD.sz B<=4194304)(zD:M.aHB.sz B.bP.aHa<=1048576)(zC:M.aF.sz B.aHC<=1048576)(H:nAt a b=nAt B.aHL B.Top\/BP B=false):∃R:M.World×Int×Bool,oS w B k a b l=some R/\oI w B a b l=some R/\(R=(w,0,false) \/∃p,Qx w B a b l p R):=by
 have hz':=U
 simp only[M.World.sz]at hz'
 have z5:(⟨#[105,110,100,101,120]⟩:ByteArray).size=5:=rfl
 have m5:(⟨#[105,110,100,101,120]⟩:ByteArray).size<=maxLen:=OI _ jF
 have z2:=eU (f:=M.aHL.sz) (qG hk)
 have ht:=C.aHZ.2 _ (qG hk)
 have hpg:=C.aHQ.1
 have hv:=Yx (r:=B.aG9) (s:=w.aHZ[k]) (o:=w.aHc) J.aG9 ht
 have sO:zL w a=some w.aHZ[k]:=by unfold zL;rw[A4,qA,ek,if_neg jH,if_neg jG,aK hk];rfl
 obtain⟨r,e1,e2,e3⟩:=N5 (c:=B.aHC) (s:=w.aHZ[k]) (f:=(⟨#[105,110,100,101,120]⟩:ByteArray)) (v:=MJ B.aG9 w.aHZ[k] w.aHc) (o:=w.aHc) J.aHC ht hv zC jF jF
 have pk:=PI (i:=w.aHK) (v:=MJ B.aG9 w.aHZ[k] w.aHc) C.aHK (OI _ ha) (OI _ hb) hv hl
 have pz:=ON w.aHK a b (MJ B.aG9 w.aHZ[k] w.aHc) l
 have lk:=Sa (f:=(⟨#[105,110,100,101,120]⟩:ByteArray)) (x:=r) pk jF m5 e3.aHA
 have lz:=RS (Cr w.aHK a b (MJ B.aG9 w.aHZ[k] w.aHc) l).1 (⟨#[105,110,100,101,120]⟩:ByteArray) r
 have lid:=Wl (Cr w.aHK a b (MJ B.aG9 w.aHZ[k] w.aHc) l).1 (⟨#[105,110,100,101,120]⟩:ByteArray) r
 have sw:=TN C.aA J (Ez U)
 have sz:=YI w.aA B
 have sd:=XB (b:=B) (Ez U) zD
 have no:∃R:M.World×Int×Bool,some (w,0,false)=some R/\some (w,0,false)=some R/\(R=(w,0,false) \/∃p,Qx w B a b l p R):=⟨(w,0,false),rfl,rfl,.inl rfl⟩
 unfold oS oI
 rw[EC C.aA J (Ez U) jF zD,aK hk,sO]
 simp only[qA]
 rw[Ji,JT]
 simp only[qA]
 rw[Fo C.aHK (OI _ ha) (OI _ hb) hv hl jF,KN C.aHK (OI _ ha) (OI _ hb) hv hl jF,e2]
 simp only[qA]
 rw[Mb pk jF jF m5 e3.aHA,JO C.aA J (Ez U) jF zD]
 simp only[qA]
 cases hP:(Cr w.aHK a b (MJ B.aG9 w.aHZ[k] w.aHc) l).2 with
 |false=>
  simp only[qC,if_true,ite_self]
  exact no
 |true=>
  have hpp:DA (CK w.aHK a b (MJ B.aG9 w.aHZ[k] w.aHc) l)=true:=by unfold Cr at hP;split at hP;(assumption);·cases hP
  have I:(Cr w.aHK a b (MJ B.aG9 w.aHZ[k] w.aHc) l).1=CK w.aHK a b (MJ B.aG9 w.aHZ[k] w.aHc) l:=by unfold Cr;rw[if_pos hpp]
  have hv0:(MJ B.aG9 w.aHZ[k] w.aHc==0)=false:=Xs hpp
  simp only[hv0,qB,qD,if_false]
  cases hp:(JI w.aA B).2 with
  |false=>
   rw[dY jV]
   simp only[qC,if_true,qA,ite_self]
   exact no
  |true=>
   have e:nAt a b=nAt B.aHL B.Top:=by rcases H with H|H;(exact H);·obtain⟨j,_,e2⟩:=PK w.aA B;have:=Zc (So hp).2 e2;rw[H]at this;cases this
   have hA:pA (⟨w.Now,w.aHc,w.aHI,(JI w.aA B).1,w.aHQ,w.aHK,w.aHR,w.aHN,w.aHZ,w.aHT⟩:M.World) (Cr w.aHK a b (MJ B.aG9 w.aHZ[k] w.aHc) l).1 (⟨#[105,110,100,101,120]⟩:ByteArray)=some r:=by rw[U6 C J U hk (by rw[I];exact ek) hp (by rw[I];exact e),I];exact e1
   rw[hA]
   simp only[qB,qD,if_false,qA]
   rw[Gz pk jF jF m5 e3.aHA]
   simp only[qA]
   rw[dY jV]
   simp only[qA,lid]
   generalize hXe:GA (Cr w.aHK a b (MJ B.aG9 w.aHZ[k] w.aHc) l).1 (⟨#[105,110,100,101,120]⟩:ByteArray) r=X at lk lz
   cases hX:X.2 with
   |false=>
    simp only[qC,if_true]
    exact no
   |true=>
    simp only[qB,qD,if_false]
    have wo:M.World.ok (⟨w.Now,w.aHc,w.aHI,(JI w.aA B).1,w.aHQ++[X.1],i64.wrap (w.aHK+1),w.aHR,w.aHN,w.aHZ,w.aHT⟩:M.World):=⟨C.Now,C.aHI,sw,⟨by
     show(w.aHQ++[X.1]).length<=maxLen
     rw[qE]
     exact OI _ jV,λy hy=>by
     have hy':y∈w.aHQ++[X.1]:=hy
     rcases qP.1 hy' with h|h
     ·exact C.aHQ.2 y h
     ·rw[qQ.1 h];exact lk⟩,bJ _,C.aHR,C.aHN,C.aHZ,C.aHT⟩
    rw[Gl wo sd,Gp wo sd]
    simp only[qA]
    generalize hc:zZ _=c
    cases c with
    |false=>
     simp only[qC,if_true]
     exact no
    |true=>
     simp only[qB,qD,if_false]
     obtain⟨y1,y2⟩:=VI (p:=(Cr w.aHK a b (MJ B.aG9 w.aHZ[k] w.aHc) l).1) (f:=(⟨#[105,110,100,101,120]⟩:ByteArray)) (x:=r) (by rw[hXe];exact hX)
     rw[hXe,I]at y1
     rw[I]at y2
     refine⟨_,rfl,rfl,.inr ⟨X.1,hn,hc,hp,e,rfl,?_,rfl,lk,?_,?_,?_,?_,?_⟩⟩
     ·show(Cr w.aHK a b (MJ B.aG9 w.aHZ[k] w.aHc) l).1.Id=_;rw[I];rfl
     ·have:=pz.1;omega
     ·rw[y1];rfl
     ·rw[y1];rfl
     ·rw[y1];rfl
     ·rw[y1];show([]++[(⟨(⟨#[105,110,100,101,120]⟩:ByteArray),r.aHA⟩:M.aT)])=[(⟨(⟨#[105,110,100,101,120]⟩:ByteArray),(CK w.aHK a b (MJ B.aG9 w.aHZ[k] w.aHc) l).aHA⟩:M.aT)];rw[y2];rfl
theorem XJ(a b:ByteArray)(d:Int):M.aHD.sz (DZ a b d)<=2*a.size+b.size+1000:=by have h3:(⟨#[97,112,112]⟩:ByteArray).size=3:=rfl;have h5:(⟨#[110,111,116,101,115]⟩:ByteArray).size=5:=rfl;simp only[DZ,M.aHD.sz,M.aG9.sz,M.aF.sz,M.bP.sz,M.aHB.sz,M.aC.sz,M.aE.sz,M.aHY.sz,M.aJ.sz,dG,qJ,qK,h3,h5];omega
