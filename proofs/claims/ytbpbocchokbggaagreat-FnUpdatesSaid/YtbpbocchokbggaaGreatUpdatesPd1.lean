/-
  Helper text. No conditions.
-/
import Derived.Test.YtbpbocchokbggaaGreatUpdatesPd0
set_option linter.all false
namespace Go.Proofs.YtbpbocchokbggaaGreat.gen
open Go Go.Sh
open Go.IntKind (i64)
theorem JK{r:M.aE}{a:ByteArray}(j:r.aI9.length<=9223372036854775807):∀(n k:Nat),r.aI9.length-k<n->k<=r.aI9.length->sV r a n (k:Int)=some (match(r.aI9.drop k).find? (sW a)with|some x=>(x.N,true)|none=>(0,false))
 |0,k,h,_=>by omega
 |n+1,k,h,hk=>by
  simp only[sV]
  rcases Nat.lt_or_ge k r.aI9.length with h1|h1
  ·rw[if_pos (aW h1),aJ h1,qA,bF jB,JK j n (k+1) jB h1,qW h1,List.find?_cons]
   cases e:sW a r.aI9[k]with
   |true=>rw[if_pos (show(r.aI9[k].Name.toList==a.toList)=true from e)]
   |false=>rw[if_neg (by rw[show(r.aI9[k].Name.toList==a.toList)=false from e];simp)]
  ·have:k=r.aI9.length:=by omega
   subst this
   rw[if_neg jK,qZ]
   rfl
theorem vO{r:M.aE}{a:ByteArray}(C:r.ok):lV r a=some (kR r a):=by have j:=le_max C.aI9.1;have:=JK (a:=a) j fuel 0 jI jB;exact this
theorem wF{r:M.aE}{a:ByteArray}(J:r.ok):oK r a=some (kR r a):=by
 unfold oK Ds kR
 rw[Kh (f:=sW a) J.aI9.1 (λx _=>by simp only[Al];rfl),qA,qA]
 by_cases h:iJ (sW a) r.aI9<0
 ·rw[if_pos (by simpa using h)]
  have:r.aI9.find? (sW a)=none:=by have h2:=Ht (sW a) r.aI9;rw[decide_eq_false jB]at h2;rw[List.find?_eq_none];intro x U C;have h3:r.aI9.any (sW a)=true:=List.any_eq_true.2 ⟨x,U,C⟩;rw[<-h2]at h3;cases h3
  rw[this]
 ·obtain⟨k,e,hk⟩:=dK h
  rw[if_neg (by simpa using h),e,aJ hk,qA]
  have e2:r.aI9.findIdx? (sW a)=some k:=by
   unfold iJ at e
   cases e3:r.aI9.findIdx? (sW a)with
   |none=>rw[e3]at e;simp only at e;omega
   |some i=>rw[e3]at e;simp only at e;congr 1;omega
  have e4:=List.findIdx?_eq_some_iff_getElem.1 e2
  have:r.aI9.find? (sW a)=some r.aI9[k]:=by rw[List.find?_eq_some_iff_getElem];exact⟨e4.2.1,k,hk,rfl,λj I=>by simpa using e4.2.2 j I⟩
  rw[this]
def Im(a:ByteArray)(x y:M.aJN):Bool:=decide ((kR x.aE a).1<(kR y.aE a).1)||(((kR x.aE a).1==(kR y.aE a).1)&&decide (dG x.Key y.Key<0))
theorem O6{x y:M.aJN}{a:ByteArray}(j:x.ok)(C:y.ok):CZ x y a=some (Im a x y):=by unfold CZ Im;simp only[vO j.aE,vO C.aE,yE j.Key C.Key,qA,bA];cases decide ((kR x.aE a).1<(kR y.aE a).1)<;>simp
theorem JE{x y:M.aJN}{a:ByteArray}(j:x.ok)(C:y.ok):xW x y a=some (Im a x y):=by unfold xW Im;simp only[wF j.aE,wF C.aE,EJ j.Key C.Key,qA,bA];cases decide ((kR x.aE a).1<(kR y.aE a).1)<;>simp
theorem Gj(x:List Int)(j:x.length<=1073741824):mB x=some x:=by unfold mB;rw[Gv j jB,qA]
theorem H0(x:M.aI8)(j:M.aI8.sz x<=1073741824):uR x=some x:=by simp only[M.aI8.sz]at j;unfold uR;rw[Gv jB jB,qA]
theorem Cf(x:M.aI8)(j:M.aI8.sz x<=1073741824):gI x=some x:=by simp only[M.aI8.sz]at j;unfold gI;rw[Gj _ jB,qA]
theorem L8(x:M.aI5)(j:M.aI5.sz x<=1073741824):Bd x=some x:=by
 have C:x.aJB.length<=1073741824:=by simp only[M.aI5.sz]at j;omega
 unfold Bd
 exact BI (xs:=x.aJB) (L:=oE x) (b:=88) (E:=λr=>some { x with aJB:=r }) C jB (λn r k hk=>by
  simp only[oE]
  rw[if_pos (aW hk),aJ hk,qA,H0 _ (by have:=cN (f:=M.aJE.sz) (qG hk);simp only[M.aI5.sz]at j;simp only[M.aJE.sz]at this;omega),qA,bF jB]) (λn r=>by
  simp only[oE]
  rw[if_neg jK])
theorem uU(x:M.aC)(j:M.aC.sz x<=1073741824):bP x=some x:=by
 have C:x.aI1.length<=1073741824:=by simp only[M.aC.sz]at j;omega
 unfold bP
 exact BI (xs:=x.aI1) (L:=rX x) (b:=32) (E:=λr=>some { x with aI1:=r }) C jB (λn r k hk=>by
  simp only[rX]
  rw[if_pos (aW hk),aJ hk,qA,L8 _ (by have:=cN (f:=M.aI5.sz) (qG hk);simp only[M.aC.sz]at j;omega),qA,bF jB]) (λn r=>by
  simp only[rX]
  rw[if_neg jK])
theorem mY(x:M.aC)(I:M.aC.sz x<=1073741824):bB x=some x:=by
 have J:x.aI1.length<=1073741824:=by simp only[M.aC.sz]at I;omega
 unfold bB
 exact BI (xs:=x.aI1) (L:=eU x) (b:=32) (E:=λr=>some { x with aI1:=r }) J jB (λn r k hk=>by
  have hz:=cN (f:=M.aI5.sz) (qG hk)
  simp only[M.aC.sz]at I
  have hz2:x.aI1[k].aJB.length+dH M.aJE.sz x.aI1[k].aJB<=M.aI5.sz x.aI1[k]:=by simp only[M.aI5.sz];omega
  simp only[eU]
  rw[if_pos (aW hk),aJ hk,qA,bF jB]
  exact BI (xs:=x.aI1[k].aJB) (b:=88) (L:=hY x.aI1[k] (λ(v:Int) (q:List M.aJE)=>(app 32 r ([(⟨x.aI1[k].aI0,q⟩:M.aI5)])).bind λ_=>eU x n ((k+1:Nat):Int) (r++[(⟨x.aI1[k].aI0,q⟩:M.aI5)]))) jB jB (λm q j C=>by
   have U:=cN (f:=M.aJE.sz) (qG C)
   simp only[hY]
   rw[if_pos (aW C),aJ C,qA,Cf _ (by simp only[M.aJE.sz]at U;omega),qA,bF jB]) (λm q=>by
   simp only[hY]
   rw[if_neg jK])) (λn r=>by
  simp only[eU]
  rw[if_neg jK])
theorem CL(x:M.aE)(j:M.aE.sz x<=1073741824):cO x=some x:=by simp only[M.aE.sz]at j;unfold cO;rw[Gv jB jB,qA]
theorem Ga(x:M.aJN)(j:M.aJN.sz x<=1073741824):Ad x=some x:=by simp only[M.aJN.sz]at j;unfold Ad;rw[CL _ jB,qA]
theorem oV(x:M.aD)(j:M.aD.sz x<=1073741824):cD x=some x:=by
 have C:x.aI6.length<=1073741824:=by simp only[M.aD.sz]at j;omega
 unfold cD
 exact BI (xs:=x.aI6) (L:=tN x) (b:=56) (E:=λr=>some { x with aI6:=r }) C jB (λn r k hk=>by
  simp only[tN]
  rw[if_pos (aW hk),aJ hk,qA,Ga _ (by have:=cN (f:=M.aJN.sz) (qG hk);simp only[M.aD.sz]at j;omega),qA,bF jB]) (λn r=>by
  simp only[tN]
  rw[if_neg jK])
theorem BB(x:M.aI2)(j:M.aI2.sz x<=1073741824):eY x=some x:=by
 have C:x.aJF.length<=1073741824:=by simp only[M.aI2.sz]at j;omega
 unfold eY
 rw[Gv (by simp only[M.aI2.sz]at j;omega) jB,qA]
 exact BI (xs:=x.aJF) (L:=tR x) (b:=48) (E:=λr=>some { x with aJF:=r }) C jB (λn r k hk=>by
  simp only[tR]
  rw[if_pos (aW hk),aJ hk,qA,oV _ (by have:=cN (f:=M.aD.sz) (qG hk);simp only[M.aI2.sz]at j;omega),qA,bF jB]) (λn r=>by
  simp only[tR]
  rw[if_neg jK])
theorem HT(x:M.bR)(j:M.bR.sz x<=1073741824):AJ x=some x:=by simp only[M.bR.sz]at j;unfold AJ;rw[BB _ jB,qA,Gv jB jB,qA]
theorem Dk(x:M.aK)(j:M.aK.sz x<=1073741824):uT x=some x:=by simp only[M.aK.sz]at j;unfold uT;rw[Gv jB jB,qA]
theorem NB(x:M.aJR)(j:M.aJR.sz x<=1073741824):yK x=some x:=by simp only[M.aJR.sz]at j;unfold yK;rw[Dk _ jB,qA]
theorem E4(x:M.aG)(j:M.aG.sz x<=1073741824):yQ x=some x:=by simp only[M.aG.sz]at j;unfold yQ;rw[oV _ jB,qA,NB _ jB,qA]
theorem AQ(x:M.aI3)(j:M.aI3.sz x<=1073741824):gV x=some x:=by simp only[M.aI3.sz]at j;unfold gV;rw[uU _ jB,qA,HT _ jB,qA,E4 _ jB,qA]
theorem KC(x:M.aE)(j:M.aE.sz x<=1073741824):zM x=some x:=by simp only[M.aE.sz]at j;unfold zM;rw[Gv jB jB,qA]
theorem GU(x:M.aJN)(j:M.aJN.sz x<=1073741824):zS x=some x:=by simp only[M.aJN.sz]at j;unfold zS;rw[KC _ jB,qA]
theorem DK(x:M.aD)(j:M.aD.sz x<=1073741824):tP x=some x:=by
 have C:x.aI6.length<=1073741824:=by simp only[M.aD.sz]at j;omega
 unfold tP
 exact BI (xs:=x.aI6) (L:=mN x) (b:=56) (E:=λr=>some { x with aI6:=r }) C jB (λn r k hk=>by
  simp only[mN]
  rw[if_pos (aW hk),aJ hk,qA,GU _ (by have:=cN (f:=M.aJN.sz) (qG hk);simp only[M.aD.sz]at j;omega),qA,bF jB]) (λn r=>by
  simp only[mN]
  rw[if_neg jK])
theorem Ia(x:M.aI2)(j:M.aI2.sz x<=1073741824):wG x=some x:=by
 have C:x.aJF.length<=1073741824:=by simp only[M.aI2.sz]at j;omega
 unfold wG
 rw[Gv (by simp only[M.aI2.sz]at j;omega) jB,qA]
 exact BI (xs:=x.aJF) (L:=iB x) (b:=48) (E:=λr=>some { x with aJF:=r }) C jB (λn r k hk=>by
  simp only[iB]
  rw[if_pos (aW hk),aJ hk,qA,DK _ (by have:=cN (f:=M.aD.sz) (qG hk);simp only[M.aI2.sz]at j;omega),qA,bF jB]) (λn r=>by
  simp only[iB]
  rw[if_neg jK])
theorem Mu(x:M.bR)(j:M.bR.sz x<=1073741824):A5 x=some x:=by simp only[M.bR.sz]at j;unfold A5;rw[Ia _ jB,qA,Gj _ jB,qA]
theorem Kl(x:M.aK)(j:M.aK.sz x<=1073741824):zT x=some x:=by simp only[M.aK.sz]at j;unfold zT;rw[Gv jB jB,qA]
theorem M3(x:M.aJR)(j:M.aJR.sz x<=1073741824):Bj x=some x:=by simp only[M.aJR.sz]at j;unfold Bj;rw[Kl _ jB,qA]
theorem IU(x:M.aG)(j:M.aG.sz x<=1073741824):yC x=some x:=by simp only[M.aG.sz]at j;unfold yC;rw[DK _ jB,qA,M3 _ jB,qA]
theorem zY(x:M.aI3)(j:M.aI3.sz x<=1073741824):eE x=some x:=by simp only[M.aI3.sz]at j;unfold eE;rw[mY _ jB,qA,Mu _ jB,qA,IU _ jB,qA]
theorem E1(x:M.aA)(j:M.aA.sz x<=1073741824):fO x=some x:=by
 have C:x.aI4.length<=1073741824:=by simp only[M.aA.sz]at j;omega
 unfold fO
 exact BI (xs:=x.aI4) (L:=pW x) (b:=328) (E:=λr=>some { x with aI4:=r }) C jB (λn r k hk=>by
  simp only[pW]
  rw[if_pos (aW hk),aJ hk,qA,AQ _ (by have:=cN (f:=M.aI3.sz) (qG hk);simp only[M.aA.sz]at j;omega),qA,bF jB]) (λn r=>by
  simp only[pW]
  rw[if_neg jK])
theorem CW(x:M.aA)(j:M.aA.sz x<=1073741824):cQ x=some x:=by
 have C:x.aI4.length<=1073741824:=by simp only[M.aA.sz]at j;omega
 unfold cQ
 exact BI (xs:=x.aI4) (L:=iN x) (b:=328) (E:=λr=>some { x with aI4:=r }) C jB (λn r k hk=>by
  simp only[iN]
  rw[if_pos (aW hk),aJ hk,qA,zY _ (by have:=cN (f:=M.aI3.sz) (qG hk);simp only[M.aA.sz]at j;omega),qA,bF jB]) (λn r=>by
  simp only[iN]
  rw[if_neg jK])
def nPl(f:M.aJN->Bool)(l:List M.aJN):Nat->Nat
 |0=>0
 |k+1=>if(l[k]?).any f=true then nPl f l k else k+1
theorem Tq(f:M.aJN->Bool)(l:List M.aJN):∀k,nPl f l k<=k
 |0=>by simp[nPl]
 |k+1=>by unfold nPl;split;(exact Nat.le_succ_of_le (Tq f l k));·exact qe _
theorem Vy{α:Type}{l:List α}{i:Int}{x:α}(h:idx l i=some x):x∈l:=qz (wM h).2.1
theorem Da{α:Type}{l:List α}{k:Nat}(h:k<=l.length):Bz l (k:Int)=some (l.take k):=by unfold Bz;rw[if_pos ⟨jB,by simpa using h⟩,qH]
def Ym(a:ByteArray)(out:List M.aJN)(x:M.aJN):List M.aJN:=
 if(kR x.aE a).2=true then out.take (nPl (Im a x) out out.length)++(x::out.drop (nPl (Im a x) out out.length))else out
def K2(s:M.aD)(a:ByteArray):List M.aJN:=s.aI6.foldl (Ym a) []
theorem Ss(a:ByteArray)(out:List M.aJN)(x:M.aJN):(Ym a out x).length<=out.length+1:=by unfold Ym;have:=Tq (Im a x) out out.length;split;(simp only[qE,qU,qJ,qV];omega);·omega
theorem So{a:ByteArray}{out:List M.aJN}{x y:M.aJN}(h:y∈Ym a out x):y=x\/y∈out:=by unfold Ym at h;split at h;(rcases qP.1 h with h|h;(exact .inr (qi h));·rcases qo.1 h with h|h;(exact .inl h);·exact .inr (qt h));·exact .inr h
theorem Vr{a:ByteArray}{l:List M.aJN}{x:M.aJN}{K:Int->Option (List M.aJN)}(J:l.length<=1048576)(I:x.ok)(C:∀y∈l,M.aJN.ok y):
  ∀(n k:Nat),k<n->k<=l.length->pS a l x K n (k:Int)=K ((nPl (Im a x) l k:Nat):Int)
 |0,k,h,_=>by omega
 |n+1,0,h,_=>by simp only[pS,nPl];rw[if_neg jD]
 |n+1,k+1,h,hk=>by
  have j:k<l.length:=by omega
  have e:i64.wrap (((k+1:Nat):Int)-1)=(k:Int):=by rw[bN jB jB];omega
  simp only[pS]
  rw[if_pos jD,e,aJ j,qA,O6 I (C _ (qG j)),qA,nPl,qF j,qd]
  cases hc:Im a x l[k]with
  |true=>rw[if_pos rfl,if_pos rfl];exact Vr J I C n k jB jB
  |false=>rw[if_neg jD,if_neg jD]
theorem UQ{a:ByteArray}{l:List M.aJN}{x:M.aJN}{K:Int->Option (List M.aJN)}(J:l.length<=1048576)(I:x.ok)(C:∀y∈l,M.aJN.ok y):
  ∀(n k:Nat),k<n->k<=l.length->rJ a l x K n (k:Int)=K ((nPl (Im a x) l k:Nat):Int)
 |0,k,h,_=>by omega
 |n+1,0,h,_=>by simp only[rJ,nPl];rw[if_neg jD]
 |n+1,k+1,h,hk=>by
  have j:k<l.length:=by omega
  have e:i64.wrap (((k+1:Nat):Int)-1)=(k:Int):=by rw[bN jB jB];omega
  simp only[rJ]
  rw[if_pos jD,e,aJ j,qA,JE I (C _ (qG j)),qA,nPl,qF j,qd]
  cases hc:Im a x l[k]with
  |true=>rw[if_pos rfl,if_pos rfl];exact UQ J I C n k jB jB
  |false=>rw[if_neg jD,if_neg jD]
theorem X0{s:M.aD}{a:ByteArray}(C:s.ok)(hz:M.aD.sz s<=1048576):BZ s a=some (K2 s a)/\(K2 s a).length<=s.aI6.length/\∀y∈K2 s a,M.aJN.ok y:=by
 have hl:s.aI6.length<=1048576:=by simp only[M.aD.sz]at hz;omega
 unfold BZ K2
 refine NQ (L:=nE s a) (xs:=s.aI6) (step:=Ym a) (I:=λk out=>out.length<=k/\∀y∈out,M.aJN.ok y) (E:=λout=>some out) C.aI6.1 (λout k hk j=>⟨?_,λy J=> ?_⟩) (λn out k hk j=> ?_) (λn out j=> ?_) [] ⟨qe _,jD⟩
 ·have:=Ss a out s.aI6[k];have:=j.1;omega
 ·rcases So J with rfl|J;(exact C.aI6.2 _ (qG hk));·exact j.2 y J
 ·have hx:=C.aI6.2 _ (qG hk)
  have U:M.aJN.sz s.aI6[k]<=1073741824:=by have:=cN (f:=M.aJN.sz) (qG hk);simp only[M.aD.sz]at hz;omega
  have hi1:=j.1
  simp only[nE]
  rw[if_pos (aW hk),aJ hk,qA,vO hx.aE,qA,bF jB,gM]
  unfold Ym
  by_cases hg:(kR s.aI6[k].aE a).2=true
  ·have hp:=Tq (Im a s.aI6[k]) out out.length;rw[if_pos hg,if_pos hg,Vr jB hx j.2 fuel out.length jI (qe _)];generalize nPl (Im a s.aI6[k]) out out.length=p at hp;simp only[qH];rw[Da hp,qA,dS jT,qA,Ga _ U,qA,dS jR,qA,dS jM,qA,qT,List.singleton_append]
  ·rw[if_neg hg,if_neg hg]
 ·simp only[nE];rw[if_neg jK]
theorem Ty{s:M.aD}{a:ByteArray}(C:s.ok)(hz:M.aD.sz s<=1048576):BQ s a=some (K2 s a)/\(K2 s a).length<=s.aI6.length/\∀y∈K2 s a,M.aJN.ok y:=by
 have hl:s.aI6.length<=1048576:=by simp only[M.aD.sz]at hz;omega
 unfold BQ K2
 refine NQ (L:=nC s a) (xs:=s.aI6) (step:=Ym a) (I:=λk out=>out.length<=k/\∀y∈out,M.aJN.ok y) (E:=λout=>some out) C.aI6.1 (λout k hk j=>⟨?_,λy J=> ?_⟩) (λn out k hk j=> ?_) (λn out j=> ?_) [] ⟨qe _,jD⟩
 ·have:=Ss a out s.aI6[k];have:=j.1;omega
 ·rcases So J with rfl|J;(exact C.aI6.2 _ (qG hk));·exact j.2 y J
 ·have hx:=C.aI6.2 _ (qG hk)
  have U:M.aJN.sz s.aI6[k]<=1073741824:=by have:=cN (f:=M.aJN.sz) (qG hk);simp only[M.aD.sz]at hz;omega
  have hi1:=j.1
  simp only[nC]
  rw[if_pos (aW hk),aJ hk,qA,wF hx.aE,qA,bF jB,gM]
  unfold Ym
  by_cases hg:(kR s.aI6[k].aE a).2=true
  ·have hp:=Tq (Im a s.aI6[k]) out out.length;rw[if_pos hg,if_pos hg,UQ jB hx j.2 fuel out.length jI (qe _)];generalize nPl (Im a s.aI6[k]) out out.length=p at hp;simp only[qH];rw[GU _ U,qA,LF ⟨jB,by simpa using hp,jD,jS⟩,qA,List.singleton_append]
  ·rw[if_neg hg,if_neg hg]
 ·simp only[nC];rw[if_neg jK]
theorem WA{a:ByteArray}{l:List M.aJN}(j:∀y∈l,M.aJN.ok y):∀(n:Nat) (v:Int),nO a l n v=fV a l n v
 |0,v=>rfl
 |n+1,v=>by
  simp only[nO,fV,WA j n]
  cases h1:idx l (i64.wrap (v-1))with
  |none=>rfl
  |some x=>
   have C:=(j x (Vy h1)).aE
   simp only[qA,vO C,wF C]
   cases h2:idx l v with
   |none=>rfl
   |some y=>
    have I:=(j y (Vy h2)).aE
    simp only[qA,vO I,wF I]
theorem U6{a:ByteArray}{l:List M.aJN}(C:∀y∈l,M.aJN.ok y)(I:l.length<=1048576):∀(n k:Nat),l.length-k<n->1<=k->∃r,fV a l n (k:Int)=some r
 |0,k,h,_=>by omega
 |n+1,k,h,h1=>by
  simp only[fV]
  by_cases hk:k<l.length
  ·have e:i64.wrap ((k:Int)-1)=((k-1:Nat):Int):=by rw[bN jB jB];omega
   have j:k-1<l.length:=by omega
   rw[if_pos (aW hk),e,aJ j,qA,wF (C _ (qG j)).aE,qA,aJ hk,qA,wF (C _ (qG hk)).aE,qA,bF jB]
   split
   ·exact⟨_,rfl⟩
   ·exact U6 C I n (k+1) jB jB
  ·rw[if_neg jC];exact⟨_,rfl⟩
def NO(s:M.aD)(a:ByteArray):M.Key×M.Key×Bool:=(lF s a).getD (⟨0,0,⟨#[]⟩⟩,⟨0,0,⟨#[]⟩⟩,false)
theorem EM{s:M.aD}{a:ByteArray}(U:s.ok)(j:M.aD.sz s<=1048576):lF s a=some (NO s a):=by
 obtain⟨e,hl,I⟩:=Ty (a:=a) U j
 have C:s.aI6.length<=1048576:=by simp only[M.aD.sz]at j;omega
 obtain⟨r,J⟩:=U6 (a:=a) I jB fuel 1 jI jB
 have:lF s a=some r:=by unfold lF;rw[e,qA];exact J
 unfold NO
 rw[this]
 rfl
theorem I6{s:M.aD}{a:ByteArray}(j:s.ok)(C:M.aD.sz s<=1048576):xO s a=some (NO s a):=by obtain⟨e,J,I⟩:=X0 (a:=a) j C;obtain⟨e2,_⟩:=Ty (a:=a) j C;rw[<-EM j C];unfold xO lF;rw[e,e2,qA,qA];exact WA I _ _
def F9(l:List M.aD)(k:Nat):Bool:=(l[k]?).any iR&&(decide (k=0)||(l[k-1]?).any λy=>(l[k]?).any λx=>Op.bytesLess y.Name.toList x.Name.toList)
def D3(x y:M.aN):Bool:=(x.aD.toList==y.aD.toList)&&(x.Field.toList==y.Field.toList)
def N0(l:List M.aN)(k:Nat)(x:M.aN):Bool:=(List.range k).all λj=> !((l[j]?).any λy=>D3 y x)
def GF(d:M.aI2)(k:Nat):Bool:=(d.aJO[k]?).any λu=>decide (0<=iJ (DC u.aD) d.aJF)&&(oJ u.Field&&(!((d.aJF[(iJ (DC u.aD) d.aJF).toNat]?).any λs=>(NO s u.Field).2.2)&&N0 d.aJO k u))
def nDb(d:M.aI2):Bool:=(List.range d.aJF.length).all (F9 d.aJF)&&((List.range d.aJO.length).all (GF d)&&(oJ d.Name&&(inR d.aI0 0 1000&&(decide (d.aJF.length<=4)&&decide (d.aJO.length<=4)))))
theorem Xl{l:List M.aN}{k:Nat}{x:M.aN}(hk:k<=l.length):(l.take k).any (D3 x)= !(N0 l k x):=by
 have hc:∀y,D3 y x=D3 x y:=λy=>by unfold D3;rw[BEq.comm (a:=y.aD.toList),BEq.comm (a:=y.Field.toList)]
 unfold N0
 rw[Bool.eq_iff_iff]
 simp only[List.any_eq_true,Bool.not_eq_true',List.all_eq_false,qS,Bool.not_eq_true,Bool.not_eq_false',hc]
 constructor
 ·rintro⟨y,J,C⟩;obtain⟨j,I,rfl⟩:=List.mem_iff_getElem.1 J;rw[qU]at I;refine⟨j,jB,?_⟩;rw[qF jB,qd];rw[List.getElem_take]at C;simp[C]
 ·rintro⟨j,I,C⟩;rw[qF jB,qd]at C;refine⟨l[j],List.mem_iff_getElem.2 ⟨j,by rw[qU];omega,by rw[List.getElem_take]⟩,by simpa using C⟩
theorem Nm{l:List M.aN}{x:M.aN}(j:l.length<=maxLen):kS l x=some (l.any (D3 x)):=by
 have C:=le_max j
 have:oH l x=some (iJ (D3 x) l):=by unfold oH;rw[findAll (L:=eC l x) (f:=D3 x) (A:=λi=>some (i:Int)) (E:=some (-1)) j (λm k hk=> ?_) (λm=> ?_),uH];(simp only[eC];rw[if_pos (aW hk),aJ hk,qA,bF jB];rfl);·simp only[eC];rw[if_neg jK]
 unfold kS
 rw[this,qA,Ht]
theorem Ul{d:M.aI2}{u:M.aN}{k:Nat}{K:Int->Option Bool}(I:d.aJO.length<=maxLen)(hk:k<=d.aJO.length):hH d (k:Int) u K fuel 0=if N0 d.aJO k u=true then K (k:Int)else some false:=by
 have U:=le_max I
 refine pR (L:=hH d (k:Int) u K) (g:=λj=> !((d.aJO[j]?).any λy=>D3 y u)) (F:=some false) (E:=K (k:Int)) (qf hk I) (λn j J=> ?_) (λn=> ?_)
 ·have C:j<d.aJO.length:=by omega
  simp only[hH]
  rw[if_pos (aW J),aJ C,qA,bF jB,qF C,qd,gM]
  rfl
 ·simp only[hH];rw[if_neg jK]
theorem Tu{d:M.aI2}(C:M.aI2.sz d<=1048576):∀s∈d.aJF,M.aD.sz s<=1048576:=λs j=>by have:=cN (f:=M.aD.sz) j;simp only[M.aI2.sz]at C;omega
theorem S6(a b:List UInt8):(Op.bytesLess a b||a==b)= !(Op.bytesLess b a):=by have h:=Ea b a;cases h1:Op.bytesLess b a<;>cases h2:(Op.bytesLess a b||a==b)<;>simp_all
theorem uZ{d:M.aI2}(C:d.ok)(hz:M.aI2.sz d<=1048576):cF d=some (nDb d):=by
 have hm:=le_max C.aJF.1
 have hm2:=le_max C.aJO.1
 unfold cF nDb
 rw[pR (L:=fC d) (g:=F9 d.aJF) (F:=some false) (E:=fD d fuel 0) C.aJF.1 (λn k hk=> ?_) (λn=> ?_),
  pR (L:=fD d) (g:=GF d) (F:=some false) (E:=some (oJ d.Name&&(inR d.aI0 0 1000&&(decide (d.aJF.length<=4)&&decide (d.aJO.length<=4))))) C.aJO.1 (λn k hk=> ?_) (λn=> ?_),bA,bA]
 ·have U:=C.aJO.2 _ (qG hk)
  simp only[fD]
  rw[if_pos (aW hk),aJ hk,qA,DI C,qA,bF jB]
  unfold GF
  rw[qF hk,qd,dM U.Field,qA]
  by_cases h:iJ (DC d.aJO[k].aD) d.aJF<0
  ·rw[if_pos (by simpa using h),decide_eq_false jB];simp
  ·obtain⟨j,e,J⟩:=dK h
   have hs:=C.aJF.2 _ (qG J)
   rw[if_neg (by simpa using h),e,aJ J,qA,I6 hs (Tu hz _ (qG J)),qA,qH,qF J,qd,Ul C.aJO.1 jB]
   have:decide ((0:Int)<=(j:Int))=true:=by simp
   rw[this]
   generalize fD d n ((k+1:Nat):Int)=Z
   cases oJ d.aJO[k].Field<;>cases (NO d.aJF[j] d.aJO[k].Field).2.2<;>cases N0 d.aJO k d.aJO[k]<;>simp
 ·simp only[fD]
  rw[if_neg jK,dM C.Name,qA,cH,qA,bA,bA,bA]
  congr 3
  have e1:decide ((d.aJF.length:Int)<=4)=decide (d.aJF.length<=4):=by rw[Bool.eq_iff_iff];simp;omega
  have e2:decide ((d.aJO.length:Int)<=4)=decide (d.aJO.length<=4):=by rw[Bool.eq_iff_iff];simp;omega
  rw[e1,e2]
 ·have U:=C.aJF.2 _ (qG hk)
  simp only[fC]
  rw[if_pos (aW hk),aJ hk,qA,bF jB,AS U,qA]
  unfold F9
  rw[qF hk]
  generalize fC d n ((k+1:Nat):Int)=Z
  by_cases h0:k=0
  ·subst h0;simp only[qd];cases iR d.aJF[0]<;>simp
  ·have e:i64.wrap ((k:Int)-1)=((k-1:Nat):Int):=by rw[bN jB jB];omega
   have I:k-1<d.aJF.length:=by omega
   rw[if_pos (c:=(decide ((k:Int)>0))=true) jC,e,aJ I,qA,qF I]
   simp only[qd,h0,decide_false,Bool.false_or]
   cases iR d.aJF[k]<;>cases Op.bytesLess d.aJF[k-1].Name.toList d.aJF[k].Name.toList<;>simp
 ·simp only[fC];rw[if_neg jK]
theorem Kb{d:M.aI2}(C:d.ok)(hz:M.aI2.sz d<=1048576):yT d=some (nDb d):=by
 have hm:=le_max C.aJF.1
 have hm2:=le_max C.aJO.1
 unfold yT nDb
 rw[pR (L:=fB d) (g:=F9 d.aJF) (F:=some false) (E:=fF d fuel 0) C.aJF.1 (λn k hk=> ?_) (λn=> ?_),
  pR (L:=fF d) (g:=GF d) (F:=some false) (E:=some true) C.aJO.1 (λn k hk=> ?_) (λn=> ?_)]
 ·simp only[eH C.Name,cK,qA]
  have e1:decide ((d.aJF.length:Int)>4)= !decide (d.aJF.length<=4):=by rw[Bool.eq_iff_iff];simp;omega
  have e2:decide ((d.aJO.length:Int)>4)= !decide (d.aJO.length<=4):=by rw[Bool.eq_iff_iff];simp;omega
  rw[e1,e2]
  cases oJ d.Name<;>cases inR d.aI0 0 1000<;>cases decide (d.aJF.length<=4)<;>cases decide (d.aJO.length<=4)<;>cases (List.range d.aJF.length).all (F9 d.aJF)<;>cases (List.range d.aJO.length).all (GF d)<;>rfl
 ·have U:=C.aJO.2 _ (qG hk)
  simp only[fF]
  rw[if_pos (aW hk),aJ hk,qA,Lf C,qA,bF jB]
  unfold GF
  rw[qF hk,qd,eH U.Field,qA,Da jB,qA,qH,Nm (qf (by rw[qU];exact Nat.min_le_right _ _) C.aJO.1),qA,Xl jB]
  by_cases h:iJ (DC d.aJO[k].aD) d.aJF<0
  ·rw[if_pos (by simpa using h),decide_eq_false jB];simp
  ·obtain⟨j,e,J⟩:=dK h
   have hs:=C.aJF.2 _ (qG J)
   rw[if_neg (by simpa using h),e,aJ J,qA,EM hs (Tu hz _ (qG J)),qA,qH,qF J,qd]
   have:decide ((0:Int)<=(j:Int))=true:=by simp
   rw[this]
   generalize fF d n ((k+1:Nat):Int)=Z
   cases oJ d.aJO[k].Field<;>cases (NO d.aJF[j] d.aJO[k].Field).2.2<;>cases N0 d.aJO k d.aJO[k]<;>simp
 ·simp only[fF];rw[if_neg jK]
 ·have U:=C.aJF.2 _ (qG hk)
  simp only[fB]
  rw[if_pos (aW hk),aJ hk,qA,bF jB,ES U,qA]
  unfold F9
  rw[qF hk]
  generalize fB d n ((k+1:Nat):Int)=Z
  by_cases h0:k=0
  ·subst h0;simp only[qd];cases iR d.aJF[0]<;>simp
  ·have e:i64.wrap ((k:Int)-1)=((k-1:Nat):Int):=by rw[bN jB jB];omega
   have I:k-1<d.aJF.length:=by omega
   rw[if_pos (c:=(decide ((k:Int)>0))=true) jC,e,aJ I,qA,qF I,S6]
   simp only[qd,h0,decide_false,Bool.false_or]
   cases iR d.aJF[k]<;>cases Op.bytesLess d.aJF[k-1].Name.toList d.aJF[k].Name.toList<;>simp
 ·simp only[fB];rw[if_neg jK]
def oI(b:M.aI3):Bool:=oJ b.aI7&&(oJ b.Top&&(PB b.aIz&&((b.aIz.aI7.toList==b.aI7.toList)&&(cP b.aI1&&(nDb b.bR.aJQ&&(Dm b.aG&&(inR b.aJc 0 1000000000000&&decide (Qu b<=2500))))))))
theorem xV{b:M.aI3}(j:M.aI3.sz b<=1048576):M.aI2.sz b.bR.aJQ<=1048576:=by simp only[M.aI3.sz,M.bR.sz]at j;omega
theorem Cd{b:M.aI3}(hb:b.ok)(j:M.aI2.sz b.bR.aJQ<=1048576):oT b=some (oI b):=by unfold oT oI;simp only[dM hb.aI7,dM hb.Top,nN hb.aIz,rQ hb.aI1,uZ hb.bR.aJQ j,Cc hb.aG,cH,Nz hb,qA,bA]
theorem M7{b:M.aI3}(hb:b.ok)(j:M.aI3.sz b<=1048576):oT b=some (oI b):=Cd hb (xV j)
theorem DQ{b:M.aI3}(hb:b.ok)(j:M.aI2.sz b.bR.aJQ<=1048576):sD b=some (oI b):=by unfold sD oI;simp only[eH hb.aI7,eH hb.Top,sK hb.aIz,pX hb.aI1,Kb hb.bR.aJQ j,Lc hb.aG,cK,NI hb,qA,bA]
theorem L4{b:M.aI3}(hb:b.ok)(j:M.aI3.sz b<=1048576):sD b=some (oI b):=DQ hb (xV j)
def EW(x y:M.aI3):Bool:=Op.bytesLess x.aI7.toList y.aI7.toList||((x.aI7.toList==y.aI7.toList)&&Op.bytesLess x.Top.toList y.Top.toList)
theorem HZ(x y:M.aI3):AH x y.aI7 y.Top=some (EW x y):=by unfold AH EW;cases Op.bytesLess x.aI7.toList y.aI7.toList<;>cases (x.aI7.toList==y.aI7.toList)<;>simp
theorem En(x y:M.aI3):rR x y=some (EW x y):=by unfold rR EW;cases Op.bytesLess x.aI7.toList y.aI7.toList<;>cases (x.aI7.toList==y.aI7.toList)<;>simp
def Ej(l:List M.aI3)(k:Nat):Bool:=(l[k]?).any oI&&(decide (k=0)||(l[k-1]?).any λy=>(l[k]?).any λx=>EW y x)
def oP(s:M.aA):Bool:=(List.range s.aI4.length).all (Ej s.aI4)&&decide ((s.aI4.length:Int)<=9)
theorem C3{s:M.aA}(C:s.ok)(U:∀b∈s.aI4,M.aI2.sz b.bR.aJQ<=1048576):cV s=some (oP s):=by
 have hm:=le_max C.aI4.1
 unfold cV oP
 rw[pR (L:=gP s) (g:=Ej s.aI4) (F:=some false) (E:=some (decide ((s.aI4.length:Int)<=9))) C.aI4.1 (λn k hk=> ?_) (λn=> ?_),bA]
 ·have J:=C.aI4.2 _ (qG hk)
  have I:M.aI2.sz s.aI4[k].bR.aJQ<=1048576:=U _ (qG hk)
  simp only[gP]
  rw[if_pos (aW hk),aJ hk,qA,bF jB,Cd J I,qA]
  unfold Ej
  rw[qF hk]
  generalize gP s n ((k+1:Nat):Int)=Z
  by_cases h0:k=0
  ·subst h0;simp only[qd];cases oI s.aI4[0]<;>simp
  ·have e:i64.wrap ((k:Int)-1)=((k-1:Nat):Int):=by rw[bN jB jB];omega
   have j:k-1<s.aI4.length:=by omega
   rw[if_pos (c:=(decide ((k:Int)>0))=true) jC,e,aJ j,qA,HZ,qA,qF j]
   simp only[qd,h0,decide_false,Bool.false_or]
   cases oI s.aI4[k]<;>cases EW s.aI4[k-1] s.aI4[k]<;>simp
 ·simp only[gP];rw[if_neg jK]
theorem Ly{s:M.aA}(j:s.ok)(C:M.aA.sz s<=1048576):cV s=some (oP s):=C3 j (λb hb=>xV (by have:=cN (f:=M.aI3.sz) hb;simp only[M.aA.sz]at C;omega))
theorem Dc{s:M.aA}(C:s.ok)(U:∀b∈s.aI4,M.aI2.sz b.bR.aJQ<=1048576):cW s=some (oP s):=by
 have hm:=le_max C.aI4.1
 unfold cW oP
 rw[pR (L:=gL s) (g:=Ej s.aI4) (F:=some false) (E:=some (decide ((s.aI4.length:Int)<=9))) C.aI4.1 (λn k hk=> ?_) (λn=> ?_),bA]
 ·have J:=C.aI4.2 _ (qG hk)
  have I:M.aI2.sz s.aI4[k].bR.aJQ<=1048576:=U _ (qG hk)
  simp only[gL]
  rw[if_pos (aW hk),aJ hk,qA,bF jB,DQ J I,qA]
  unfold Ej
  rw[qF hk]
  generalize gL s n ((k+1:Nat):Int)=Z
  by_cases h0:k=0
  ·subst h0;simp only[qd];cases oI s.aI4[0]<;>simp
  ·have e:i64.wrap ((k:Int)-1)=((k-1:Nat):Int):=by rw[bN jB jB];omega
   have j:k-1<s.aI4.length:=by omega
   rw[if_pos (c:=(decide ((k:Int)>0))=true) jC,e,aJ j,qA,En,qA,qF j]
   simp only[qd,h0,decide_false,Bool.false_or]
   cases oI s.aI4[k]<;>cases EW s.aI4[k-1] s.aI4[k]<;>simp
 ·simp only[gL];rw[if_neg jK]
theorem Lj{s:M.aA}(j:s.ok)(C:M.aA.sz s<=1048576):cW s=some (oP s):=Dc j (λb hb=>xV (by have:=cN (f:=M.aI3.sz) hb;simp only[M.aA.sz]at C;omega))
def LQ(b o:M.aI3):M.aI3×Bool:=if oI b=true then if oI o=true then(o,true)else(b,false)else(b,false)
theorem RO{b o:M.aI3}(hb:b.ok)(j:o.ok):M.aI3.ok (LQ b o).1:=by unfold LQ;split;(split;(exact j);·exact hb);·exact hb
theorem Sk(b o:M.aI3):M.aI3.sz (LQ b o).1<=M.aI3.sz b+M.aI3.sz o:=by unfold LQ;split;(split<;>simp only<;>omega);·simp only;omega
theorem Le{b o:M.aI3}(hb:b.ok)(j:o.ok)(C:M.aI3.sz b<=1048576)(J:M.aI3.sz o<=1073741824)(I:M.aI2.sz o.bR.aJQ<=1048576):tO b o=some (LQ b o):=by unfold tO LQ;rw[M7 hb C,qA,AQ b jB,Cd j I];cases oI b;(simp);·cases oI o<;>simp
theorem U1(b o:M.aI3):((some (LQ b o)).bind λx=>if x.2=true then some (o,true)else some (x.1,false))=some (LQ b o):=by unfold LQ;cases oI b<;>cases oI o<;>rfl
theorem HH{b o:M.aI3}(hb:b.ok)(j:o.ok)(C:M.aI3.sz b<=1048576)(J:M.aI3.sz o<=1073741824)(I:M.aI2.sz o.bR.aJQ<=1048576):uC b o=some (LQ b o):=by unfold uC LQ;rw[L4 hb C,qA,zY b jB,DQ j I,zY o jB];cases oI b;(simp);·cases oI o<;>simp
def bD(b:M.aI3)(s:M.aC)(r:M.aIz):M.aI3:=(⟨b.aI7,b.Top,r,s,b.bR,b.aG,b.aJc,b.aJZ⟩:M.aI3)
theorem AK{b:M.aI3}{s:M.aC}{r:M.aIz}(hb:b.ok)(C:s.ok)(j:r.ok):(bD b s r).ok:=⟨hb.aI7,hb.Top,j,C,hb.bR,hb.aG,hb.aJc⟩
theorem B1(b:M.aI3)(s:M.aC)(r:M.aIz):M.aI3.sz (bD b s r)<=M.aI3.sz b+(M.aC.sz s+M.aIz.sz r):=by simp only[bD,M.aI3.sz];omega
theorem DU{b:M.aI3}{s:M.aC}{r:M.aIz}(hb:b.ok)(C:s.ok)(j:r.ok)(I:M.aI3.sz b<=1048576)(zs:(M.aC.sz s+M.aIz.sz r)<=536870912)(J:M.aI2.sz (bD b s r).bR.aJQ<=1048576):pD b s r=some (LQ b (bD b s r)):=by have U:=B1 b s r;unfold pD;rw[AQ b jB,qA,uU s jB,qA];have e:=Le hb (AK hb C j) I (show M.aI3.sz (bD b s r)<=1073741824 by omega) J;have e2:=U1 b (bD b s r);unfold bD at e e2⊢;rw[e];exact e2
theorem HI{b:M.aI3}{s:M.aC}{r:M.aIz}(hb:b.ok)(C:s.ok)(j:r.ok)(I:M.aI3.sz b<=1048576)(zs:(M.aC.sz s+M.aIz.sz r)<=536870912)(J:M.aI2.sz (bD b s r).bR.aJQ<=1048576):uG b s r=some (LQ b (bD b s r)):=by have U:=B1 b s r;unfold uG;have e:=HH hb (AK hb C j) I (show M.aI3.sz (bD b s r)<=1073741824 by omega) J;unfold bD at e;rw[e];rfl
def uQ:M.aI3:=(⟨(⟨#[]⟩:ByteArray),(⟨#[]⟩:ByteArray),(⟨(⟨#[]⟩:ByteArray),0,0,0⟩:M.aIz),(⟨([]:List M.aI5)⟩:M.aC),(⟨(⟨(⟨#[]⟩:ByteArray),0,([]:List M.aD),([]:List M.aN)⟩:M.aI2),([]:List Int),0⟩:M.bR),(⟨(⟨(⟨#[]⟩:ByteArray),([]:List M.aJN),0⟩:M.aD),0,(⟨(⟨0,0,([]:List M.bC)⟩:M.aK),0,0⟩:M.aJR)⟩:M.aG),0,false⟩:M.aI3)
def Ft(a b:ByteArray)(d:Int):M.aI3:=(⟨a,b,(⟨a,0,0,0⟩:M.aIz),(⟨([]:List M.aI5)⟩:M.aC),(⟨(⟨(⟨#[97,112,112]⟩:ByteArray),1,[(⟨(⟨#[110,111,116,101,115]⟩:ByteArray),([]:List M.aJN),0⟩:M.aD)],([]:List M.aN)⟩:M.aI2),([]:List Int),0⟩:M.bR),(⟨(⟨(⟨#[110,111,116,101,115]⟩:ByteArray),([]:List M.aJN),0⟩:M.aD),0,(⟨(⟨d,1,([]:List M.bC)⟩:M.aK),0,0⟩:M.aJR)⟩:M.aG),0,false⟩:M.aI3)
theorem yR:inI 0:=by unfold inI;omega
theorem TV:inI 1:=by unfold inI;omega
theorem Tz(n:Nat)(h:n<=1048576):n<=maxLen:=by unfold maxLen;omega
theorem sz0:((⟨#[]⟩:ByteArray)).size<=maxLen:=Tz _ jE
theorem sz5:((⟨#[110,111,116,101,115]⟩:ByteArray)).size<=maxLen:=Tz _ jE
theorem sz3:((⟨#[97,112,112]⟩:ByteArray)).size<=maxLen:=Tz _ jE
theorem Y2{d:Int}(n:Int)(j:inI d)(C:inI n):M.aK.ok (⟨d,n,([]:List M.bC)⟩:M.aK):=⟨j,C,⟨jD,jD⟩⟩
theorem L6:uQ.ok:=⟨sz0,sz0,⟨sz0,yR,yR,yR⟩,⟨⟨by simp[uQ],by simp[uQ]⟩⟩,⟨⟨sz0,yR,⟨by simp[uQ],by simp[uQ]⟩,⟨by simp[uQ],by simp[uQ]⟩⟩,⟨by simp[uQ],by simp[uQ]⟩,yR⟩,⟨⟨sz0,⟨by simp[uQ],by simp[uQ]⟩,yR⟩,yR,⟨⟨yR,yR,⟨by simp[uQ],by simp[uQ]⟩⟩,yR,yR⟩⟩,yR⟩
theorem VY:M.aD.ok (⟨(⟨#[110,111,116,101,115]⟩:ByteArray),([]:List M.aJN),0⟩:M.aD):=⟨sz5,⟨jD,jD⟩,yR⟩
theorem OI{a b:ByteArray}{d:Int}(j:a.size<=maxLen)(hb:b.size<=maxLen)(I:inI d):(Ft a b d).ok:=
 ⟨j,hb,⟨j,yR,yR,yR⟩,⟨⟨by simp[Ft],by simp[Ft]⟩⟩,⟨⟨sz3,TV,⟨Tz _ (by simp[Ft]),λy C=>by simp only[Ft,qo,qO,or_false]at C;subst C;exact VY⟩,⟨by simp[Ft],by simp[Ft]⟩⟩,⟨by simp[Ft],by simp[Ft]⟩,yR⟩,⟨VY,yR,⟨Y2 1 I TV,yR,yR⟩⟩,yR⟩
theorem Sm(a b:ByteArray)(d:Int):M.aI2.sz (Ft a b d).bR.aJQ<=1048576:=by simp only[Ft];decide
def DO(a b:ByteArray)(d:Int):M.aI3×Bool:=if vM (⟨d,1,([]:List M.bC)⟩:M.aK)=true then if oI (Ft a b d)=true then(Ft a b d,true)else(uQ,false)else(uQ,false)
theorem Gr{a b:ByteArray}{d:Int}(I:a.size<=maxLen)(hb:b.size<=maxLen)(C:inI d):tG a b d=some (DO a b d):=by
 unfold tG pI DO
 rw[sL (Y2 1 C TV),qA]
 cases hn:vM (⟨d,1,([]:List M.bC)⟩:M.aK)with
 |false=>simp[uQ]
 |true=>
  have j:=Cd (OI I hb C) (Sm a b d)
  unfold Ft at j
  simp only[qB,qD,if_false,qA,j,if_true]
  unfold Ft
  generalize oI _=c
  cases c<;>simp[uQ]
theorem SP{a b:ByteArray}{d:Int}(j:a.size<=maxLen)(hb:b.size<=maxLen)(C:inI d):(DO a b d).1.ok:=by unfold DO;split;(split;(exact OI j hb C);·exact L6);·exact L6
theorem bK(x:Int):inI (i64.wrap x):=by unfold inI;rw[IntKind.wrap_i64];omega
def Cx(x y:Int):Bool:=x==y
theorem QH{xs ys:List Int}(C:xs.length<=maxLen):wH xs ys=some (eqL Cx xs ys):=by
 have I:=le_max C
 unfold wH
 rw[FO (f:=Cx) C (E:=some true) (λn k hk j=>by
  simp only[lJ]
  rw[if_pos (aW hk),aJ hk,aJ j,qA,qA,bF jB]
  first|rw[gM];rfl|rw[wN];rfl) (λn=>by
  simp only[lJ]
  rw[if_neg jK]),bA,Bool.and_true]
def PG(x y:Int):Bool:=x==y
theorem Ro{xs ys:List Int}(C:xs.length<=maxLen):xY xs ys=some (eqL PG xs ys):=by
 have I:=le_max C
 unfold xY
 rw[FO (f:=PG) C (E:=some true) (λn k hk j=>by
  simp only[nJ]
  rw[if_pos (aW hk),aJ hk,aJ j,qA,qA,bF jB]
  first|rw[gM];rfl|rw[wN];rfl) (λn=>by
  simp only[nJ]
  rw[if_neg jK]),bA,Bool.and_true]
def Ha(x y:ByteArray):Bool:=x.toList==y.toList
theorem NG{xs ys:List ByteArray}(C:xs.length<=maxLen):sB xs ys=some (eqL Ha xs ys):=by
 have I:=le_max C
 unfold sB
 rw[FO (f:=Ha) C (E:=some true) (λn k hk j=>by
  simp only[iL]
  rw[if_pos (aW hk),aJ hk,aJ j,qA,qA,bF jB]
  first|rw[gM];rfl|rw[wN];rfl) (λn=>by
  simp only[iL]
  rw[if_neg jK]),bA,Bool.and_true]
def LX(x y:M.Field):Bool:=(x.Name.toList==y.Name.toList)&&(x.N==y.N)
theorem Pk{xs ys:List M.Field}(C:xs.length<=maxLen):uF xs ys=some (eqL LX xs ys):=by
 have I:=le_max C
 unfold uF
 rw[FO (f:=LX) C (E:=some true) (λn k hk j=>by
  simp only[kP]
  rw[if_pos (aW hk),aJ hk,aJ j,qA,qA,bF jB]
  first|rw[gM];rfl|rw[wN];rfl) (λn=>by
  simp only[kP]
  rw[if_neg jK]),bA,Bool.and_true]
def Ew(x y:M.aN):Bool:=(x.aD.toList==y.aD.toList)&&(x.Field.toList==y.Field.toList)
theorem La{xs ys:List M.aN}(C:xs.length<=maxLen):oR xs ys=some (eqL Ew xs ys):=by
 have I:=le_max C
 unfold oR
 rw[FO (f:=Ew) C (E:=some true) (λn k hk j=>by
  simp only[gB]
  rw[if_pos (aW hk),aJ hk,aJ j,qA,qA,bF jB]
  first|rw[gM];rfl|rw[wN];rfl) (λn=>by
  simp only[gB]
  rw[if_neg jK]),bA,Bool.and_true]
def EI(x y:M.bC):Bool:=(x.aJA==y.aJA)&&((x.Seq==y.Seq)&&((x.Key.aJS==y.Key.aJS)&&((x.Key.N==y.Key.N)&&((x.Key.aJb.toList==y.Key.aJb.toList)&&((x.Field.toList==y.Field.toList)&&(x.N==y.N))))))
theorem I5{xs ys:List M.bC}(C:xs.length<=maxLen):pB xs ys=some (eqL EI xs ys):=by
 have I:=le_max C
 unfold pB
 rw[FO (f:=EI) C (E:=some true) (λn k hk j=>by
  simp only[kF]
  rw[if_pos (aW hk),aJ hk,aJ j,qA,qA,bF jB]
  first|rw[gM];rfl|rw[wN];rfl) (λn=>by
  simp only[kF]
  rw[if_neg jK]),bA,Bool.and_true]
def JN(x y:M.Instr):Bool:=(x.aJS==y.aJS)&&((x.R==y.R)&&((x.N==y.N)&&(x.aJb.toList==y.aJb.toList)))
theorem Py{xs ys:List M.Instr}(C:xs.length<=maxLen):tZ xs ys=some (eqL JN xs ys):=by
 have I:=le_max C
 unfold tZ
 rw[FO (f:=JN) C (E:=some true) (λn k hk j=>by
  simp only[kL]
  rw[if_pos (aW hk),aJ hk,aJ j,qA,qA,bF jB]
  first|rw[gM];rfl|rw[wN];rfl) (λn=>by
  simp only[kL]
  rw[if_neg jK]),bA,Bool.and_true]
def Gz(x y:M.aV):Bool:=(x.aJk.toList==y.aJk.toList)&&(x.aI0==y.aI0)
theorem Np{xs ys:List M.aV}(C:xs.length<=maxLen):sA xs ys=some (eqL Gz xs ys):=by
 have I:=le_max C
 unfold sA
 rw[FO (f:=Gz) C (E:=some true) (λn k hk j=>by
  simp only[iM]
  rw[if_pos (aW hk),aJ hk,aJ j,qA,qA,bF jB]
  first|rw[gM];rfl|rw[wN];rfl) (λn=>by
  simp only[iM]
  rw[if_neg jK]),bA,Bool.and_true]
def Nb(x y:M.mV):Bool:=(x.Name.toList==y.Name.toList)&&((x.bG==y.bG)&&((x.aJf==y.aJf)&&(x.aJx==y.aJx)))
theorem P4{xs ys:List M.mV}(C:xs.length<=maxLen):wA xs ys=some (eqL Nb xs ys):=by
 have I:=le_max C
 unfold wA
 rw[FO (f:=Nb) C (E:=some true) (λn k hk j=>by
  simp only[lL]
  rw[if_pos (aW hk),aJ hk,aJ j,qA,qA,bF jB]
  first|rw[gM];rfl|rw[wN];rfl) (λn=>by
  simp only[lL]
  rw[if_neg jK]),bA,Bool.and_true]
def Mr(x y:M.AP):Bool:=(x.To==y.To)&&((x.aJ2==y.aJ2)&&(x.N==y.N))
theorem PU{xs ys:List M.AP}(C:xs.length<=maxLen):wK xs ys=some (eqL Mr xs ys):=by
 have I:=le_max C
 unfold wK
 rw[FO (f:=Mr) C (E:=some true) (λn k hk j=>by
  simp only[lK]
  rw[if_pos (aW hk),aJ hk,aJ j,qA,qA,bF jB]
  first|rw[gM];rfl|rw[wN];rfl) (λn=>by
  simp only[lK]
  rw[if_neg jK]),bA,Bool.and_true]
def Fo(x y:M.aP):Bool:=(x.aJA==y.aJA)&&(x.Seq==y.Seq)
theorem MG{xs ys:List M.aP}(C:xs.length<=maxLen):pP xs ys=some (eqL Fo xs ys):=by
 have I:=le_max C
 unfold pP
 rw[FO (f:=Fo) C (E:=some true) (λn k hk j=>by
  simp only[gU]
  rw[if_pos (aW hk),aJ hk,aJ j,qA,qA,bF jB]
  first|rw[gM];rfl|rw[wN];rfl) (λn=>by
  simp only[gU]
  rw[if_neg jK]),bA,Bool.and_true]
theorem Jb{p:M.aJE->M.aJE->Option Bool}{f:M.aJE->M.aJE->Bool}{xs ys:List M.aJE}(C:xs.length<=maxLen)(I:∀x∈xs,∀y∈ys,p x y=some (f x y)):lP xs ys p=some (eqL f xs ys):=by
 have J:=le_max C
 unfold lP
 rw[FO (f:=f) C (E:=some true) (λn k hk j=>by
  simp only[eP]
  rw[if_pos (aW hk),aJ hk,aJ j,qA,qA,bF jB]
  rw[I _ (qG hk) _ (qG j),qA,gM]) (λn=>by
  simp only[eP]
  rw[if_neg jK]),bA,Bool.and_true]
theorem Kk{p:M.aI5->M.aI5->Option Bool}{f:M.aI5->M.aI5->Bool}{xs ys:List M.aI5}(C:xs.length<=maxLen)(I:∀x∈xs,∀y∈ys,p x y=some (f x y)):nF xs ys p=some (eqL f xs ys):=by
 have J:=le_max C
 unfold nF
 rw[FO (f:=f) C (E:=some true) (λn k hk j=>by
  simp only[fN]
  rw[if_pos (aW hk),aJ hk,aJ j,qA,qA,bF jB]
  rw[I _ (qG hk) _ (qG j),qA,gM]) (λn=>by
  simp only[fN]
  rw[if_neg jK]),bA,Bool.and_true]
theorem Lo{p:M.aJN->M.aJN->Option Bool}{f:M.aJN->M.aJN->Bool}{xs ys:List M.aJN}(C:xs.length<=maxLen)(I:∀x∈xs,∀y∈ys,p x y=some (f x y)):oC xs ys p=some (eqL f xs ys):=by
 have J:=le_max C
 unfold oC
 rw[FO (f:=f) C (E:=some true) (λn k hk j=>by
  simp only[gC]
  rw[if_pos (aW hk),aJ hk,aJ j,qA,qA,bF jB]
  rw[I _ (qG hk) _ (qG j),qA,gM]) (λn=>by
  simp only[gC]
  rw[if_neg jK]),bA,Bool.and_true]
