/-
  Helper text. No conditions.
-/
import Derived.Test.YtbpbocchokbggaaGreatOpenedPd0
set_option linter.all false
namespace Go.Proofs.YtbpbocchokbggaaGreat.gen
open Go Go.Sh
open Go.IntKind (i64)
def kL(r:M.aD)(a:ByteArray):Int×Bool:=match r.aHG.find? (sP a)with|some x=>(x.N,true)|none=>(0,false)
theorem IX{r:M.aD}{a:ByteArray}(j:r.aHG.length<=9223372036854775807):∀(n k:Nat),r.aHG.length-k<n->k<=r.aHG.length->sN r a n (k:Int)=some (match(r.aHG.drop k).find? (sP a)with|some x=>(x.N,true)|none=>(0,false))
 |0,k,h,_=>by omega
 |n+1,k,h,hk=>by
  simp only[sN]
  rcases Nat.lt_or_ge k r.aHG.length with h1|h1
  ·rw[if_pos (aY h1),aK h1,qA,bD jF,IX j n (k+1) jF h1,qX h1,List.find?_cons]
   cases e:sP a r.aHG[k]with
   |true=>rw[if_pos (show(r.aHG[k].Name.toList==a.toList)=true from e)]
   |false=>rw[if_neg (by rw[show(r.aHG[k].Name.toList==a.toList)=false from e];simp)]
  ·have:k=r.aHG.length:=by omega
   subst this
   rw[if_neg jO,qa]
   rfl
theorem uW{r:M.aD}{a:ByteArray}(C:r.ok):lJ r a=some (kL r a):=by have j:=le_max C.aHG.1;have:=IX (a:=a) j fuel 0 jM jF;exact this
theorem vM{r:M.aD}{a:ByteArray}(J:r.ok):nZ r a=some (kL r a):=by
 unfold nZ C2 kL
 rw[Jy (f:=sP a) J.aHG.1 (λx _=>by simp only[zQ];rfl),qA,qA]
 by_cases h:mM (sP a) r.aHG<0
 ·rw[if_pos (by simpa using h)]
  have:r.aHG.find? (sP a)=none:=by have h2:=Iv (sP a) r.aHG;rw[decide_eq_false jF]at h2;rw[List.find?_eq_none];intro x U C;have h3:r.aHG.any (sP a)=true:=List.any_eq_true.2 ⟨x,U,C⟩;rw[<-h2]at h3;cases h3
  rw[this]
 ·obtain⟨k,e,hk⟩:=iF h
  rw[if_neg (by simpa using h),e,aK hk,qA]
  have e2:r.aHG.findIdx? (sP a)=some k:=by
   unfold mM at e
   cases e3:r.aHG.findIdx? (sP a)with
   |none=>rw[e3]at e;simp only at e;omega
   |some i=>rw[e3]at e;simp only at e;congr 1;omega
  have e4:=List.findIdx?_eq_some_iff_getElem.1 e2
  have:r.aHG.find? (sP a)=some r.aHG[k]:=by rw[List.find?_eq_some_iff_getElem];exact⟨e4.2.1,k,hk,rfl,λj I=>by simpa using e4.2.2 j I⟩
  rw[this]
def HC(a:ByteArray)(x y:M.aHV):Bool:=decide ((kL x.aD a).1<(kL y.aD a).1)||(((kL x.aD a).1==(kL y.aD a).1)&&decide (cX x.Key y.Key<0))
theorem Od{x y:M.aHV}{a:ByteArray}(j:x.ok)(C:y.ok):Cv x y a=some (HC a x y):=by unfold Cv HC;simp only[uW j.aD,uW C.aD,xH j.Key C.Key,qA,bA];cases decide ((kL x.aD a).1<(kL y.aD a).1)<;>simp
theorem IP{x y:M.aHV}{a:ByteArray}(j:x.ok)(C:y.ok):wZ x y a=some (HC a x y):=by unfold wZ HC;simp only[vM j.aD,vM C.aD,Ea j.Key C.Key,qA,bA];cases decide ((kL x.aD a).1<(kL y.aD a).1)<;>simp
theorem Fv(x:List Int)(j:x.length<=1073741824):lQ x=some x:=by unfold lQ;rw[FG j jF,qA]
theorem Hk(x:M.aHH)(j:M.aHH.sz x<=1073741824):uI x=some x:=by simp only[M.aHH.sz]at j;unfold uI;rw[FG jF jF,qA]
theorem Hq(x:M.aHH)(j:M.aHH.sz x<=1073741824):mE x=some x:=by simp only[M.aHH.sz]at j;unfold mE;rw[Fv _ jF,qA]
theorem Lj(x:M.aHM)(j:M.aHM.sz x<=1073741824):AP x=some x:=by
 have C:x.aHS.length<=1073741824:=by simp only[M.aHM.sz]at j;omega
 unfold AP
 exact Bk (xs:=x.aHS) (L:=nU x) (b:=88) (E:=λr=>some { x with aHS:=r }) C jF (λn r k hk=>by
  simp only[nU]
  rw[if_pos (aY hk),aK hk,qA,Hk _ (by have:=eU (f:=M.aHU.sz) (qG hk);simp only[M.aHM.sz]at j;simp only[M.aHU.sz]at this;omega),qA,bD jF]) (λn r=>by
  simp only[nU]
  rw[if_neg jO])
theorem C3(x:M.aF)(j:M.aF.sz x<=1073741824):dD x=some x:=by
 have C:x.aHC.length<=1073741824:=by simp only[M.aF.sz]at j;omega
 unfold dD
 exact Bk (xs:=x.aHC) (L:=rP x) (b:=32) (E:=λr=>some { x with aHC:=r }) C jF (λn r k hk=>by
  simp only[rP]
  rw[if_pos (aY hk),aK hk,qA,Lj _ (by have:=eU (f:=M.aHM.sz) (qG hk);simp only[M.aF.sz]at j;omega),qA,bD jF]) (λn r=>by
  simp only[rP]
  rw[if_neg jO])
theorem HM(x:M.aF)(I:M.aF.sz x<=1073741824):vE x=some x:=by
 have J:x.aHC.length<=1073741824:=by simp only[M.aF.sz]at I;omega
 unfold vE
 exact Bk (xs:=x.aHC) (L:=eN x) (b:=32) (E:=λr=>some { x with aHC:=r }) J jF (λn r k hk=>by
  have hz:=eU (f:=M.aHM.sz) (qG hk)
  simp only[M.aF.sz]at I
  have hz2:x.aHC[k].aHS.length+dG M.aHU.sz x.aHC[k].aHS<=M.aHM.sz x.aHC[k]:=by simp only[M.aHM.sz];omega
  simp only[eN]
  rw[if_pos (aY hk),aK hk,qA,bD jF]
  exact Bk (xs:=x.aHC[k].aHS) (b:=88) (L:=gW x.aHC[k] (λ(v:Int) (q:List M.aHU)=>(app 32 r ([(⟨x.aHC[k].aHA,q⟩:M.aHM)])).bind λ_=>eN x n ((k+1:Nat):Int) (r++[(⟨x.aHC[k].aHA,q⟩:M.aHM)]))) jF jF (λm q j C=>by
   have U:=eU (f:=M.aHU.sz) (qG C)
   simp only[gW]
   rw[if_pos (aY C),aK C,qA,Hq _ (by simp only[M.aHU.sz]at U;omega),qA,bD jF]) (λm q=>by
   simp only[gW]
   rw[if_neg jO])) (λn r=>by
  simp only[eN]
  rw[if_neg jO])
theorem Ci(x:M.aD)(j:M.aD.sz x<=1073741824):cG x=some x:=by simp only[M.aD.sz]at j;unfold cG;rw[FG jF jF,qA]
theorem Fk(x:M.aHV)(j:M.aHV.sz x<=1073741824):zI x=some x:=by simp only[M.aHV.sz]at j;unfold zI;rw[Ci _ jF,qA]
theorem oN(x:M.aC)(j:M.aC.sz x<=1073741824):bW x=some x:=by
 have C:x.aHF.length<=1073741824:=by simp only[M.aC.sz]at j;omega
 unfold bW
 exact Bk (xs:=x.aHF) (L:=tN x) (b:=56) (E:=λr=>some { x with aHF:=r }) C jF (λn r k hk=>by
  simp only[tN]
  rw[if_pos (aY hk),aK hk,qA,Fk _ (by have:=eU (f:=M.aHV.sz) (qG hk);simp only[M.aC.sz]at j;omega),qA,bD jF]) (λn r=>by
  simp only[tN]
  rw[if_neg jO])
theorem Bf(x:M.aHB)(j:M.aHB.sz x<=1073741824):eV x=some x:=by
 have C:x.aHP.length<=1073741824:=by simp only[M.aHB.sz]at j;omega
 unfold eV
 rw[FG (by simp only[M.aHB.sz]at j;omega) jF,qA]
 exact Bk (xs:=x.aHP) (L:=tP x) (b:=48) (E:=λr=>some { x with aHP:=r }) C jF (λn r k hk=>by
  simp only[tP]
  rw[if_pos (aY hk),aK hk,qA,oN _ (by have:=eU (f:=M.aC.sz) (qG hk);simp only[M.aHB.sz]at j;omega),qA,bD jF]) (λn r=>by
  simp only[tP]
  rw[if_neg jO])
theorem G8(x:M.bP)(j:M.bP.sz x<=1073741824):Ap x=some x:=by simp only[M.bP.sz]at j;unfold Ap;rw[Bf _ jF,qA,FG jF jF,qA]
theorem CU(x:M.aJ)(j:M.aJ.sz x<=1073741824):uJ x=some x:=by simp only[M.aJ.sz]at j;unfold uJ;rw[FG jF jF,qA]
theorem MR(x:M.aHY)(j:M.aHY.sz x<=1073741824):xO x=some x:=by simp only[M.aHY.sz]at j;unfold xO;rw[CU _ jF,qA]
theorem Eo(x:M.aE)(j:M.aE.sz x<=1073741824):xU x=some x:=by simp only[M.aE.sz]at j;unfold xU;rw[oN _ jF,qA,MR _ jF,qA]
theorem C1(x:M.aHD)(j:M.aHD.sz x<=1073741824):nM x=some x:=by simp only[M.aHD.sz]at j;unfold nM;rw[C3 _ jF,qA,G8 _ jF,qA,Eo _ jF,qA]
theorem JW(x:M.aD)(j:M.aD.sz x<=1073741824):yQ x=some x:=by simp only[M.aD.sz]at j;unfold yQ;rw[FG jF jF,qA]
theorem Ga(x:M.aHV)(j:M.aHV.sz x<=1073741824):yX x=some x:=by simp only[M.aHV.sz]at j;unfold yX;rw[JW _ jF,qA]
theorem Di(x:M.aC)(j:M.aC.sz x<=1073741824):tO x=some x:=by
 have C:x.aHF.length<=1073741824:=by simp only[M.aC.sz]at j;omega
 unfold tO
 exact Bk (xs:=x.aHF) (L:=lZ x) (b:=56) (E:=λr=>some { x with aHF:=r }) C jF (λn r k hk=>by
  simp only[lZ]
  rw[if_pos (aY hk),aK hk,qA,Ga _ (by have:=eU (f:=M.aHV.sz) (qG hk);simp only[M.aC.sz]at j;omega),qA,bD jF]) (λn r=>by
  simp only[lZ]
  rw[if_neg jO])
theorem Ht(x:M.aHB)(j:M.aHB.sz x<=1073741824):vN x=some x:=by
 have C:x.aHP.length<=1073741824:=by simp only[M.aHB.sz]at j;omega
 unfold vN
 rw[FG (by simp only[M.aHB.sz]at j;omega) jF,qA]
 exact Bk (xs:=x.aHP) (L:=gY x) (b:=48) (E:=λr=>some { x with aHP:=r }) C jF (λn r k hk=>by
  simp only[gY]
  rw[if_pos (aY hk),aK hk,qA,Di _ (by have:=eU (f:=M.aC.sz) (qG hk);simp only[M.aHB.sz]at j;omega),qA,bD jF]) (λn r=>by
  simp only[gY]
  rw[if_neg jO])
theorem LJ(x:M.bP)(j:M.bP.sz x<=1073741824):AJ x=some x:=by simp only[M.bP.sz]at j;unfold AJ;rw[Ht _ jF,qA,Fv _ jF,qA]
theorem JC(x:M.aJ)(j:M.aJ.sz x<=1073741824):yY x=some x:=by simp only[M.aJ.sz]at j;unfold yY;rw[FG jF jF,qA]
theorem Mh(x:M.aHY)(j:M.aHY.sz x<=1073741824):AV x=some x:=by simp only[M.aHY.sz]at j;unfold AV;rw[JC _ jF,qA]
theorem H0(x:M.aE)(j:M.aE.sz x<=1073741824):xE x=some x:=by simp only[M.aE.sz]at j;unfold xE;rw[Di _ jF,qA,Mh _ jF,qA]
theorem CQ(x:M.aHD)(j:M.aHD.sz x<=1073741824):kC x=some x:=by simp only[M.aHD.sz]at j;unfold kC;rw[HM _ jF,qA,LJ _ jF,qA,H0 _ jF,qA]
theorem Em(x:M.aA)(j:M.aA.sz x<=1073741824):fO x=some x:=by
 have C:x.aHE.length<=1073741824:=by simp only[M.aA.sz]at j;omega
 unfold fO
 exact Bk (xs:=x.aHE) (L:=pR x) (b:=328) (E:=λr=>some { x with aHE:=r }) C jF (λn r k hk=>by
  simp only[pR]
  rw[if_pos (aY hk),aK hk,qA,C1 _ (by have:=eU (f:=M.aHD.sz) (qG hk);simp only[M.aA.sz]at j;omega),qA,bD jF]) (λn r=>by
  simp only[pR]
  rw[if_neg jO])
theorem Cs(x:M.aA)(j:M.aA.sz x<=1073741824):cJ x=some x:=by
 have C:x.aHE.length<=1073741824:=by simp only[M.aA.sz]at j;omega
 unfold cJ
 exact Bk (xs:=x.aHE) (L:=iG x) (b:=328) (E:=λr=>some { x with aHE:=r }) C jF (λn r k hk=>by
  simp only[iG]
  rw[if_pos (aY hk),aK hk,qA,CQ _ (by have:=eU (f:=M.aHD.sz) (qG hk);simp only[M.aA.sz]at j;omega),qA,bD jF]) (λn r=>by
  simp only[iG]
  rw[if_neg jO])
def nPl(f:M.aHV->Bool)(l:List M.aHV):Nat->Nat
 |0=>0
 |k+1=>if(l[k]?).any f=true then nPl f l k else k+1
theorem Sk(f:M.aHV->Bool)(l:List M.aHV):∀k,nPl f l k<=k
 |0=>by simp[nPl]
 |k+1=>by unfold nPl;split;(exact Nat.le_succ_of_le (Sk f l k));·exact qg _
theorem Uu{α:Type}{l:List α}{i:Int}{x:α}(h:idx l i=some x):x∈l:=jC (rR h).2.1
theorem CF{α:Type}{l:List α}{k:Nat}(h:k<=l.length):AX l (k:Int)=some (l.take k):=by unfold AX;rw[if_pos ⟨jF,by simpa using h⟩,qH]
def W3(a:ByteArray)(out:List M.aHV)(x:M.aHV):List M.aHV:=
 if(kL x.aD a).2=true then out.take (nPl (HC a x) out out.length)++(x::out.drop (nPl (HC a x) out out.length))else out
def Kn(s:M.aC)(a:ByteArray):List M.aHV:=s.aHF.foldl (W3 a) []
theorem Rm(a:ByteArray)(out:List M.aHV)(x:M.aHV):(W3 a out x).length<=out.length+1:=by unfold W3;have:=Sk (HC a x) out out.length;split;(simp only[qE,qV,qJ,qW];omega);·omega
theorem Rh{a:ByteArray}{out:List M.aHV}{x y:M.aHV}(h:y∈W3 a out x):y=x\/y∈out:=by unfold W3 at h;split at h;(rcases qP.1 h with h|h;(exact .inr (qk h));·rcases qq.1 h with h|h;(exact .inl h);·exact .inr (qv h));·exact .inr h
theorem Uo{a:ByteArray}{l:List M.aHV}{x:M.aHV}{K:Int->Option (List M.aHV)}(J:l.length<=1048576)(I:x.ok)(C:∀y∈l,M.aHV.ok y):
  ∀(n k:Nat),k<n->k<=l.length->pN a l x K n (k:Int)=K ((nPl (HC a x) l k:Nat):Int)
 |0,k,h,_=>by omega
 |n+1,0,h,_=>by simp only[pN,nPl];rw[if_neg jH]
 |n+1,k+1,h,hk=>by
  have j:k<l.length:=by omega
  have e:i64.wrap (((k+1:Nat):Int)-1)=(k:Int):=by rw[bO jF jF];omega
  simp only[pN]
  rw[if_pos jH,e,aK j,qA,Od I (C _ (qG j)),qA,nPl,qF j,qf]
  cases hc:HC a x l[k]with
  |true=>rw[if_pos rfl,if_pos rfl];exact Uo J I C n k jF jF
  |false=>rw[if_neg jH,if_neg jH]
theorem TF{a:ByteArray}{l:List M.aHV}{x:M.aHV}{K:Int->Option (List M.aHV)}(J:l.length<=1048576)(I:x.ok)(C:∀y∈l,M.aHV.ok y):
  ∀(n k:Nat),k<n->k<=l.length->rA a l x K n (k:Int)=K ((nPl (HC a x) l k:Nat):Int)
 |0,k,h,_=>by omega
 |n+1,0,h,_=>by simp only[rA,nPl];rw[if_neg jH]
 |n+1,k+1,h,hk=>by
  have j:k<l.length:=by omega
  have e:i64.wrap (((k+1:Nat):Int)-1)=(k:Int):=by rw[bO jF jF];omega
  simp only[rA]
  rw[if_pos jH,e,aK j,qA,IP I (C _ (qG j)),qA,nPl,qF j,qf]
  cases hc:HC a x l[k]with
  |true=>rw[if_pos rfl,if_pos rfl];exact TF J I C n k jF jF
  |false=>rw[if_neg jH,if_neg jH]
theorem WK{s:M.aC}{a:ByteArray}(C:s.ok)(hz:M.aC.sz s<=1048576):Bz s a=some (Kn s a)/\(Kn s a).length<=s.aHF.length/\∀y∈Kn s a,M.aHV.ok y:=by
 have hl:s.aHF.length<=1048576:=by simp only[M.aC.sz]at hz;omega
 unfold Bz Kn
 refine OT (L:=mO s a) (xs:=s.aHF) (step:=W3 a) (I:=λk out=>out.length<=k/\∀y∈out,M.aHV.ok y) (E:=λout=>some out) C.aHF.1 (λout k hk j=>⟨?_,λy J=> ?_⟩) (λn out k hk j=> ?_) (λn out j=> ?_) [] ⟨qg _,jH⟩
 ·have:=Rm a out s.aHF[k];have:=j.1;omega
 ·rcases Rh J with rfl|J;(exact C.aHF.2 _ (qG hk));·exact j.2 y J
 ·have hx:=C.aHF.2 _ (qG hk)
  have U:M.aHV.sz s.aHF[k]<=1073741824:=by have:=eU (f:=M.aHV.sz) (qG hk);simp only[M.aC.sz]at hz;omega
  have hi1:=j.1
  simp only[mO]
  rw[if_pos (aY hk),aK hk,qA,uW hx.aD,qA,bD jF,fR]
  unfold W3
  by_cases hg:(kL s.aHF[k].aD a).2=true
  ·have hp:=Sk (HC a s.aHF[k]) out out.length;rw[if_pos hg,if_pos hg,Uo jF hx j.2 fuel out.length jM (qg _)];generalize nPl (HC a s.aHF[k]) out out.length=p at hp;simp only[qH];rw[CF hp,qA,dY jW,qA,Fk _ U,qA,dY jU,qA,dY jQ,qA,qT,List.singleton_append]
  ·rw[if_neg hg,if_neg hg]
 ·simp only[mO];rw[if_neg jO]
theorem Su{s:M.aC}{a:ByteArray}(C:s.ok)(hz:M.aC.sz s<=1048576):Bs s a=some (Kn s a)/\(Kn s a).length<=s.aHF.length/\∀y∈Kn s a,M.aHV.ok y:=by
 have hl:s.aHF.length<=1048576:=by simp only[M.aC.sz]at hz;omega
 unfold Bs Kn
 refine OT (L:=mN s a) (xs:=s.aHF) (step:=W3 a) (I:=λk out=>out.length<=k/\∀y∈out,M.aHV.ok y) (E:=λout=>some out) C.aHF.1 (λout k hk j=>⟨?_,λy J=> ?_⟩) (λn out k hk j=> ?_) (λn out j=> ?_) [] ⟨qg _,jH⟩
 ·have:=Rm a out s.aHF[k];have:=j.1;omega
 ·rcases Rh J with rfl|J;(exact C.aHF.2 _ (qG hk));·exact j.2 y J
 ·have hx:=C.aHF.2 _ (qG hk)
  have U:M.aHV.sz s.aHF[k]<=1073741824:=by have:=eU (f:=M.aHV.sz) (qG hk);simp only[M.aC.sz]at hz;omega
  have hi1:=j.1
  simp only[mN]
  rw[if_pos (aY hk),aK hk,qA,vM hx.aD,qA,bD jF,fR]
  unfold W3
  by_cases hg:(kL s.aHF[k].aD a).2=true
  ·have hp:=Sk (HC a s.aHF[k]) out out.length;rw[if_pos hg,if_pos hg,TF jF hx j.2 fuel out.length jM (qg _)];generalize nPl (HC a s.aHF[k]) out out.length=p at hp;simp only[qH];rw[Ga _ U,qA,Rl ⟨jF,by simpa using hp,jH,jV⟩,qA,List.singleton_append]
  ·rw[if_neg hg,if_neg hg]
 ·simp only[mN];rw[if_neg jO]
theorem Vp{a:ByteArray}{l:List M.aHV}(j:∀y∈l,M.aHV.ok y):∀(n:Nat) (v:Int),mZ a l n v=fW a l n v
 |0,v=>rfl
 |n+1,v=>by
  simp only[mZ,fW,Vp j n]
  cases h1:idx l (i64.wrap (v-1))with
  |none=>rfl
  |some x=>
   have C:=(j x (Uu h1)).aD
   simp only[qA,uW C,vM C]
   cases h2:idx l v with
   |none=>rfl
   |some y=>
    have I:=(j y (Uu h2)).aD
    simp only[qA,uW I,vM I]
theorem TZ{a:ByteArray}{l:List M.aHV}(C:∀y∈l,M.aHV.ok y)(I:l.length<=1048576):∀(n k:Nat),l.length-k<n->1<=k->∃r,fW a l n (k:Int)=some r
 |0,k,h,_=>by omega
 |n+1,k,h,h1=>by
  simp only[fW]
  by_cases hk:k<l.length
  ·have e:i64.wrap ((k:Int)-1)=((k-1:Nat):Int):=by rw[bO jF jF];omega
   have j:k-1<l.length:=by omega
   rw[if_pos (aY hk),e,aK j,qA,vM (C _ (qG j)).aD,qA,aK hk,qA,vM (C _ (qG hk)).aD,qA,bD jF]
   split
   ·exact⟨_,rfl⟩
   ·exact TZ C I n (k+1) jF jF
  ·rw[if_neg jG];exact⟨_,rfl⟩
def M4(s:M.aC)(a:ByteArray):M.Key×M.Key×Bool:=(kW s a).getD (⟨0,0,⟨#[]⟩⟩,⟨0,0,⟨#[]⟩⟩,false)
theorem Ee{s:M.aC}{a:ByteArray}(U:s.ok)(j:M.aC.sz s<=1048576):kW s a=some (M4 s a):=by
 obtain⟨e,hl,I⟩:=Su (a:=a) U j
 have C:s.aHF.length<=1048576:=by simp only[M.aC.sz]at j;omega
 obtain⟨r,J⟩:=TZ (a:=a) I jF fuel 1 jM jF
 have:kW s a=some r:=by unfold kW;rw[e,qA];exact J
 unfold M4
 rw[this]
 rfl
theorem Ib{s:M.aC}{a:ByteArray}(j:s.ok)(C:M.aC.sz s<=1048576):wT s a=some (M4 s a):=by obtain⟨e,J,I⟩:=WK (a:=a) j C;obtain⟨e2,_⟩:=Su (a:=a) j C;rw[<-Ee j C];unfold wT kW;rw[e,e2,qA,qA];exact Vp I _ _
def Fh(l:List M.aC)(k:Nat):Bool:=(l[k]?).any iJ&&(decide (k=0)||(l[k-1]?).any λy=>(l[k]?).any λx=>Op.bytesLess y.Name.toList x.Name.toList)
def Dv(x y:M.aN):Bool:=(x.aC.toList==y.aC.toList)&&(x.Field.toList==y.Field.toList)
def Ng(l:List M.aN)(k:Nat)(x:M.aN):Bool:=(List.range k).all λj=> !((l[j]?).any λy=>Dv y x)
def FQ(d:M.aHB)(k:Nat):Bool:=(d.aHX[k]?).any λu=>decide (0<=mM (De u.aC) d.aHP)&&(nY u.Field&&(!((d.aHP[(mM (De u.aC) d.aHP).toNat]?).any λs=>(M4 s u.Field).2.2)&&Ng d.aHX k u))
def nDb(d:M.aHB):Bool:=(List.range d.aHP.length).all (Fh d.aHP)&&((List.range d.aHX.length).all (FQ d)&&(nY d.Name&&(inR d.aHA 0 1000&&(decide (d.aHP.length<=4)&&decide (d.aHX.length<=4)))))
theorem V1{l:List M.aN}{k:Nat}{x:M.aN}(hk:k<=l.length):(l.take k).any (Dv x)= !(Ng l k x):=by
 have hc:∀y,Dv y x=Dv x y:=λy=>by unfold Dv;rw[BEq.comm (a:=y.aC.toList),BEq.comm (a:=y.Field.toList)]
 unfold Ng
 rw[Bool.eq_iff_iff]
 simp only[List.any_eq_true,Bool.not_eq_true',List.all_eq_false,qS,Bool.not_eq_true,Bool.not_eq_false',hc]
 constructor
 ·rintro⟨y,J,C⟩;obtain⟨j,I,rfl⟩:=List.mem_iff_getElem.1 J;rw[qV]at I;refine⟨j,jF,?_⟩;rw[qF jF,qf];rw[List.getElem_take]at C;simp[C]
 ·rintro⟨j,I,C⟩;rw[qF jF,qf]at C;refine⟨l[j],List.mem_iff_getElem.2 ⟨j,by rw[qV];omega,by rw[List.getElem_take]⟩,by simpa using C⟩
theorem Mz{l:List M.aN}{x:M.aN}(j:l.length<=maxLen):kM l x=some (l.any (Dv x)):=by
 have C:=le_max j
 have:nX l x=some (mM (Dv x) l):=by unfold nX;rw[findAll (L:=dU l x) (f:=Dv x) (A:=λi=>some (i:Int)) (E:=some (-1)) j (λm k hk=> ?_) (λm=> ?_),pM];(simp only[dU];rw[if_pos (aY hk),aK hk,qA,bD jF];rfl);·simp only[dU];rw[if_neg jO]
 unfold kM
 rw[this,qA,Iv]
theorem Ta{d:M.aHB}{u:M.aN}{k:Nat}{K:Int->Option Bool}(I:d.aHX.length<=maxLen)(hk:k<=d.aHX.length):gS d (k:Int) u K fuel 0=if Ng d.aHX k u=true then K (k:Int)else some false:=by
 have U:=le_max I
 refine oZ (L:=gS d (k:Int) u K) (g:=λj=> !((d.aHX[j]?).any λy=>Dv y u)) (F:=some false) (E:=K (k:Int)) (qh hk I) (λn j J=> ?_) (λn=> ?_)
 ·have C:j<d.aHX.length:=by omega
  simp only[gS]
  rw[if_pos (aY J),aK C,qA,bD jF,qF C,qf,fR]
  rfl
 ·simp only[gS];rw[if_neg jO]
theorem Sq{d:M.aHB}(C:M.aHB.sz d<=1048576):∀s∈d.aHP,M.aC.sz s<=1048576:=λs j=>by have:=eU (f:=M.aC.sz) j;simp only[M.aHB.sz]at C;omega
theorem RU(a b:List UInt8):(Op.bytesLess a b||a==b)= !(Op.bytesLess b a):=by have h:=DC b a;cases h1:Op.bytesLess b a<;>cases h2:(Op.bytesLess a b||a==b)<;>simp_all
theorem uN{d:M.aHB}(C:d.ok)(hz:M.aHB.sz d<=1048576):cA d=some (nDb d):=by
 have hm:=le_max C.aHP.1
 have hm2:=le_max C.aHX.1
 unfold cA nDb
 rw[oZ (L:=fB d) (g:=Fh d.aHP) (F:=some false) (E:=fC d fuel 0) C.aHP.1 (λn k hk=> ?_) (λn=> ?_),
  oZ (L:=fC d) (g:=FQ d) (F:=some false) (E:=some (nY d.Name&&(inR d.aHA 0 1000&&(decide (d.aHP.length<=4)&&decide (d.aHX.length<=4))))) C.aHX.1 (λn k hk=> ?_) (λn=> ?_),bA,bA]
 ·have U:=C.aHX.2 _ (qG hk)
  simp only[fC]
  rw[if_pos (aY hk),aK hk,qA,Dh C,qA,bD jF]
  unfold FQ
  rw[qF hk,qf,dB U.Field,qA]
  by_cases h:mM (De d.aHX[k].aC) d.aHP<0
  ·rw[if_pos (by simpa using h),decide_eq_false jF];simp
  ·obtain⟨j,e,J⟩:=iF h
   have hs:=C.aHP.2 _ (qG J)
   rw[if_neg (by simpa using h),e,aK J,qA,Ib hs (Sq hz _ (qG J)),qA,qH,qF J,qf,Ta C.aHX.1 jF]
   have:decide ((0:Int)<=(j:Int))=true:=by simp
   rw[this]
   generalize fC d n ((k+1:Nat):Int)=Z
   cases nY d.aHX[k].Field<;>cases (M4 d.aHP[j] d.aHX[k].Field).2.2<;>cases Ng d.aHX k d.aHX[k]<;>simp
 ·simp only[fC]
  rw[if_neg jO,dB C.Name,qA,cK,qA,bA,bA,bA]
  congr 3
  have e1:decide ((d.aHP.length:Int)<=4)=decide (d.aHP.length<=4):=by rw[Bool.eq_iff_iff];simp;omega
  have e2:decide ((d.aHX.length:Int)<=4)=decide (d.aHX.length<=4):=by rw[Bool.eq_iff_iff];simp;omega
  rw[e1,e2]
 ·have U:=C.aHP.2 _ (qG hk)
  simp only[fB]
  rw[if_pos (aY hk),aK hk,qA,bD jF,Au U,qA]
  unfold Fh
  rw[qF hk]
  generalize fB d n ((k+1:Nat):Int)=Z
  by_cases h0:k=0
  ·subst h0;simp only[qf];cases iJ d.aHP[0]<;>simp
  ·have e:i64.wrap ((k:Int)-1)=((k-1:Nat):Int):=by rw[bO jF jF];omega
   have I:k-1<d.aHP.length:=by omega
   rw[if_pos (c:=(decide ((k:Int)>0))=true) jG,e,aK I,qA,qF I]
   simp only[qf,h0,decide_false,Bool.false_or]
   cases iJ d.aHP[k]<;>cases Op.bytesLess d.aHP[k-1].Name.toList d.aHP[k].Name.toList<;>simp
 ·simp only[fB];rw[if_neg jO]
theorem Jr{d:M.aHB}(C:d.ok)(hz:M.aHB.sz d<=1048576):xY d=some (nDb d):=by
 have hm:=le_max C.aHP.1
 have hm2:=le_max C.aHX.1
 unfold xY nDb
 rw[oZ (L:=fA d) (g:=Fh d.aHP) (F:=some false) (E:=fE d fuel 0) C.aHP.1 (λn k hk=> ?_) (λn=> ?_),
  oZ (L:=fE d) (g:=FQ d) (F:=some false) (E:=some true) C.aHX.1 (λn k hk=> ?_) (λn=> ?_)]
 ·simp only[dJ C.Name,bU,qA]
  have e1:decide ((d.aHP.length:Int)>4)= !decide (d.aHP.length<=4):=by rw[Bool.eq_iff_iff];simp;omega
  have e2:decide ((d.aHX.length:Int)>4)= !decide (d.aHX.length<=4):=by rw[Bool.eq_iff_iff];simp;omega
  rw[e1,e2]
  cases nY d.Name<;>cases inR d.aHA 0 1000<;>cases decide (d.aHP.length<=4)<;>cases decide (d.aHX.length<=4)<;>cases (List.range d.aHP.length).all (Fh d.aHP)<;>cases (List.range d.aHX.length).all (FQ d)<;>rfl
 ·have U:=C.aHX.2 _ (qG hk)
  simp only[fE]
  rw[if_pos (aY hk),aK hk,qA,Kx C,qA,bD jF]
  unfold FQ
  rw[qF hk,qf,dJ U.Field,qA,CF jF,qA,qH,Mz (qh (by rw[qV];exact Nat.min_le_right _ _) C.aHX.1),qA,V1 jF]
  by_cases h:mM (De d.aHX[k].aC) d.aHP<0
  ·rw[if_pos (by simpa using h),decide_eq_false jF];simp
  ·obtain⟨j,e,J⟩:=iF h
   have hs:=C.aHP.2 _ (qG J)
   rw[if_neg (by simpa using h),e,aK J,qA,Ee hs (Sq hz _ (qG J)),qA,qH,qF J,qf]
   have:decide ((0:Int)<=(j:Int))=true:=by simp
   rw[this]
   generalize fE d n ((k+1:Nat):Int)=Z
   cases nY d.aHX[k].Field<;>cases (M4 d.aHP[j] d.aHX[k].Field).2.2<;>cases Ng d.aHX k d.aHX[k]<;>simp
 ·simp only[fE];rw[if_neg jO]
 ·have U:=C.aHP.2 _ (qG hk)
  simp only[fA]
  rw[if_pos (aY hk),aK hk,qA,bD jF,Eh U,qA]
  unfold Fh
  rw[qF hk]
  generalize fA d n ((k+1:Nat):Int)=Z
  by_cases h0:k=0
  ·subst h0;simp only[qf];cases iJ d.aHP[0]<;>simp
  ·have e:i64.wrap ((k:Int)-1)=((k-1:Nat):Int):=by rw[bO jF jF];omega
   have I:k-1<d.aHP.length:=by omega
   rw[if_pos (c:=(decide ((k:Int)>0))=true) jG,e,aK I,qA,qF I,RU]
   simp only[qf,h0,decide_false,Bool.false_or]
   cases iJ d.aHP[k]<;>cases Op.bytesLess d.aHP[k-1].Name.toList d.aHP[k].Name.toList<;>simp
 ·simp only[fA];rw[if_neg jO]
def BP(b:M.aHD):Bool:=nY b.aHL&&(nY b.Top&&(aAe b.aG9&&((b.aG9.aHL.toList==b.aHL.toList)&&(lL b.aHC&&(nDb b.bP.aHa&&(CX b.aE&&(inR b.aHk 0 1000000000000&&decide (PD b<=2500))))))))
theorem DP{b:M.aHD}(j:M.aHD.sz b<=1048576):M.aHB.sz b.bP.aHa<=1048576:=by simp only[M.aHD.sz,M.bP.sz]at j;omega
theorem Fy{b:M.aHD}(hb:b.ok)(j:M.aHB.sz b.bP.aHa<=1048576):yS b=some (BP b):=by unfold yS BP;simp only[dB hb.aHL,dB hb.Top,C9 hb.aG9,rH hb.aHC,uN hb.bP.aHa j,BJ hb.aE,cK,MP hb,qA,bA]
theorem FB{b:M.aHD}(hb:b.ok)(j:M.aHB.sz b.bP.aHa<=1048576):yR b=some (BP b):=by unfold yR BP;simp only[dJ hb.aHL,dJ hb.Top,Gt hb.aG9,Jb hb.aHC,Jr hb.bP.aHa j,Kv hb.aE,bU,MW hb,qA,bA]
def Ek(x y:M.aHD):Bool:=Op.bytesLess x.aHL.toList y.aHL.toList||((x.aHL.toList==y.aHL.toList)&&Op.bytesLess x.Top.toList y.Top.toList)
theorem Hi(x y:M.aHD):Ao x y.aHL y.Top=some (Ek x y):=by unfold Ao Ek;cases Op.bytesLess x.aHL.toList y.aHL.toList<;>cases (x.aHL.toList==y.aHL.toList)<;>simp
theorem DN(x y:M.aHD):rJ x y=some (Ek x y):=by unfold rJ Ek;cases Op.bytesLess x.aHL.toList y.aHL.toList<;>cases (x.aHL.toList==y.aHL.toList)<;>simp
def Eu(l:List M.aHD)(k:Nat):Bool:=(l[k]?).any BP&&(decide (k=0)||(l[k-1]?).any λy=>(l[k]?).any λx=>Ek y x)
def pI(s:M.aA):Bool:=(List.range s.aHE.length).all (Eu s.aHE)&&decide ((s.aHE.length:Int)<=9)
theorem CA{s:M.aA}(C:s.ok)(U:∀b∈s.aHE,M.aHB.sz b.bP.aHa<=1048576):cN s=some (pI s):=by
 have hm:=le_max C.aHE.1
 unfold cN pI
 rw[oZ (L:=gK s) (g:=Eu s.aHE) (F:=some false) (E:=some (decide ((s.aHE.length:Int)<=9))) C.aHE.1 (λn k hk=> ?_) (λn=> ?_),bA]
 ·have J:=C.aHE.2 _ (qG hk)
  have I:M.aHB.sz s.aHE[k].bP.aHa<=1048576:=U _ (qG hk)
  simp only[gK]
  rw[if_pos (aY hk),aK hk,qA,bD jF,Fy J I,qA]
  unfold Eu
  rw[qF hk]
  generalize gK s n ((k+1:Nat):Int)=Z
  by_cases h0:k=0
  ·subst h0;simp only[qf];cases BP s.aHE[0]<;>simp
  ·have e:i64.wrap ((k:Int)-1)=((k-1:Nat):Int):=by rw[bO jF jF];omega
   have j:k-1<s.aHE.length:=by omega
   rw[if_pos (c:=(decide ((k:Int)>0))=true) jG,e,aK j,qA,Hi,qA,qF j]
   simp only[qf,h0,decide_false,Bool.false_or]
   cases BP s.aHE[k]<;>cases Ek s.aHE[k-1] s.aHE[k]<;>simp
 ·simp only[gK];rw[if_neg jO]
theorem KT{s:M.aA}(j:s.ok)(C:M.aA.sz s<=1048576):cN s=some (pI s):=CA j (λb hb=>DP (by have:=eU (f:=M.aHD.sz) hb;simp only[M.aA.sz]at C;omega))
theorem CH{s:M.aA}(C:s.ok)(U:∀b∈s.aHE,M.aHB.sz b.bP.aHa<=1048576):cO s=some (pI s):=by
 have hm:=le_max C.aHE.1
 unfold cO pI
 rw[oZ (L:=gI s) (g:=Eu s.aHE) (F:=some false) (E:=some (decide ((s.aHE.length:Int)<=9))) C.aHE.1 (λn k hk=> ?_) (λn=> ?_),bA]
 ·have J:=C.aHE.2 _ (qG hk)
  have I:M.aHB.sz s.aHE[k].bP.aHa<=1048576:=U _ (qG hk)
  simp only[gI]
  rw[if_pos (aY hk),aK hk,qA,bD jF,FB J I,qA]
  unfold Eu
  rw[qF hk]
  generalize gI s n ((k+1:Nat):Int)=Z
  by_cases h0:k=0
  ·subst h0;simp only[qf];cases BP s.aHE[0]<;>simp
  ·have e:i64.wrap ((k:Int)-1)=((k-1:Nat):Int):=by rw[bO jF jF];omega
   have j:k-1<s.aHE.length:=by omega
   rw[if_pos (c:=(decide ((k:Int)>0))=true) jG,e,aK j,qA,DN,qA,qF j]
   simp only[qf,h0,decide_false,Bool.false_or]
   cases BP s.aHE[k]<;>cases Ek s.aHE[k-1] s.aHE[k]<;>simp
 ·simp only[gI];rw[if_neg jO]
theorem KB{s:M.aA}(j:s.ok)(C:M.aA.sz s<=1048576):cO s=some (pI s):=CH j (λb hb=>DP (by have:=eU (f:=M.aHD.sz) hb;simp only[M.aA.sz]at C;omega))
def sQ:M.aHD:=(⟨(⟨#[]⟩:ByteArray),(⟨#[]⟩:ByteArray),(⟨(⟨#[]⟩:ByteArray),0,0,0⟩:M.aG9),(⟨([]:List M.aHM)⟩:M.aF),(⟨(⟨(⟨#[]⟩:ByteArray),0,([]:List M.aC),([]:List M.aN)⟩:M.aHB),([]:List Int),0⟩:M.bP),(⟨(⟨(⟨#[]⟩:ByteArray),([]:List M.aHV),0⟩:M.aC),0,(⟨(⟨0,0,([]:List M.bB)⟩:M.aJ),0,0⟩:M.aHY)⟩:M.aE),0,false⟩:M.aHD)
def DZ(a b:ByteArray)(d:Int):M.aHD:=(⟨a,b,(⟨a,0,0,0⟩:M.aG9),(⟨([]:List M.aHM)⟩:M.aF),(⟨(⟨(⟨#[97,112,112]⟩:ByteArray),1,[(⟨(⟨#[110,111,116,101,115]⟩:ByteArray),([]:List M.aHV),0⟩:M.aC)],([]:List M.aN)⟩:M.aHB),([]:List Int),0⟩:M.bP),(⟨(⟨(⟨#[110,111,116,101,115]⟩:ByteArray),([]:List M.aHV),0⟩:M.aC),0,(⟨(⟨d,1,([]:List M.bB)⟩:M.aJ),0,0⟩:M.aHY)⟩:M.aE),0,false⟩:M.aHD)
theorem xV:inI 0:=by unfold inI;omega
theorem RE:inI 1:=by unfold inI;omega
theorem OI(n:Nat)(h:n<=1048576):n<=maxLen:=by unfold maxLen;omega
theorem sz0:((⟨#[]⟩:ByteArray)).size<=maxLen:=OI _ jI
theorem sz5:((⟨#[110,111,116,101,115]⟩:ByteArray)).size<=maxLen:=OI _ jI
theorem sz3:((⟨#[97,112,112]⟩:ByteArray)).size<=maxLen:=OI _ jI
theorem TE{d:Int}(n:Int)(j:inI d)(C:inI n):M.aJ.ok (⟨d,n,([]:List M.bB)⟩:M.aJ):=⟨j,C,⟨jH,jH⟩⟩
theorem Lh:sQ.ok:=⟨sz0,sz0,⟨sz0,xV,xV,xV⟩,⟨⟨by simp[sQ],by simp[sQ]⟩⟩,⟨⟨sz0,xV,⟨by simp[sQ],by simp[sQ]⟩,⟨by simp[sQ],by simp[sQ]⟩⟩,⟨by simp[sQ],by simp[sQ]⟩,xV⟩,⟨⟨sz0,⟨by simp[sQ],by simp[sQ]⟩,xV⟩,xV,⟨⟨xV,xV,⟨by simp[sQ],by simp[sQ]⟩⟩,xV,xV⟩⟩,xV⟩
theorem UQ:M.aC.ok (⟨(⟨#[110,111,116,101,115]⟩:ByteArray),([]:List M.aHV),0⟩:M.aC):=⟨sz5,⟨jH,jH⟩,xV⟩
theorem K2{a b:ByteArray}{d:Int}(j:a.size<=maxLen)(hb:b.size<=maxLen)(I:inI d):(DZ a b d).ok:=
 ⟨j,hb,⟨j,xV,xV,xV⟩,⟨⟨by simp[DZ],by simp[DZ]⟩⟩,⟨⟨sz3,RE,⟨OI _ (by simp[DZ]),λy C=>by simp only[DZ,qq,qO,or_false]at C;subst C;exact UQ⟩,⟨by simp[DZ],by simp[DZ]⟩⟩,⟨by simp[DZ],by simp[DZ]⟩,xV⟩,⟨UQ,xV,⟨TE 1 I RE,xV,xV⟩⟩,xV⟩
theorem NB(a b:ByteArray)(d:Int):M.aHB.sz (DZ a b d).bP.aHa<=1048576:=by simp only[DZ];decide
def CN(a b:ByteArray)(d:Int):M.aHD×Bool:=if uC (⟨d,1,([]:List M.bB)⟩:M.aJ)=true then if BP (DZ a b d)=true then(DZ a b d,true)else(sQ,false)else(sQ,false)
theorem FD{a b:ByteArray}{d:Int}(I:a.size<=maxLen)(hb:b.size<=maxLen)(C:inI d):tB a b d=some (CN a b d):=by
 unfold tB pB CN
 rw[sE (TE 1 C RE),qA]
 cases hn:uC (⟨d,1,([]:List M.bB)⟩:M.aJ)with
 |false=>simp[sQ]
 |true=>
  have j:=Fy (K2 I hb C) (NB a b d)
  unfold DZ at j
  simp only[qB,qD,if_false,qA,j,if_true]
  unfold DZ
  generalize BP _=c
  cases c<;>simp[sQ]
theorem KK{a b:ByteArray}{d:Int}(I:a.size<=maxLen)(hb:b.size<=maxLen)(C:inI d):Ab a b d=some (CN a b d):=by
 unfold Ab BN CN
 rw[Gn (TE 1 C RE),qA]
 cases hn:uC (⟨d,1,([]:List M.bB)⟩:M.aJ)with
 |false=>simp[sQ]
 |true=>
  have j:=FB (K2 I hb C) (NB a b d)
  unfold DZ at j
  simp only[qB,qD,if_false,qA,j,if_true]
  unfold DZ
  generalize BP _=c
  cases c<;>simp[sQ]
theorem RF{a b:ByteArray}{d:Int}(j:a.size<=maxLen)(hb:b.size<=maxLen)(C:inI d):(CN a b d).1.ok:=by unfold CN;split;(split;(exact K2 j hb C);·exact Lh);·exact Lh
theorem bJ(x:Int):inI (i64.wrap x):=by unfold inI;rw[IntKind.wrap_i64];omega
def B7(x y:Int):Bool:=x==y
theorem PQ{xs ys:List Int}(C:xs.length<=maxLen):vO xs ys=some (eqL B7 xs ys):=by
 have I:=le_max C
 unfold vO
 rw[E0 (f:=B7) C (E:=some true) (λn k hk j=>by
  simp only[kZ]
  rw[if_pos (aY hk),aK hk,aK j,qA,qA,bD jF]
  first|rw[fR];rfl|rw[vV];rfl) (λn=>by
  simp only[kZ]
  rw[if_neg jO]),bA,Bool.and_true]
def OL(x y:Int):Bool:=x==y
theorem Qu{xs ys:List Int}(C:xs.length<=maxLen):xB xs ys=some (eqL OL xs ys):=by
 have I:=le_max C
 unfold xB
 rw[E0 (f:=OL) C (E:=some true) (λn k hk j=>by
  simp only[mV]
  rw[if_pos (aY hk),aK hk,aK j,qA,qA,bD jF]
  first|rw[fR];rfl|rw[vV];rfl) (λn=>by
  simp only[mV]
  rw[if_neg jO]),bA,Bool.and_true]
def Gq(x y:ByteArray):Bool:=x.toList==y.toList
theorem MT{xs ys:List ByteArray}(C:xs.length<=maxLen):rY xs ys=some (eqL Gq xs ys):=by
 have I:=le_max C
 unfold rY
 rw[E0 (f:=Gq) C (E:=some true) (λn k hk j=>by
  simp only[iD]
  rw[if_pos (aY hk),aK hk,aK j,qA,qA,bD jF]
  first|rw[fR];rfl|rw[vV];rfl) (λn=>by
  simp only[iD]
  rw[if_neg jO]),bA,Bool.and_true]
def K9(x y:M.Field):Bool:=(x.Name.toList==y.Name.toList)&&(x.N==y.N)
theorem On{xs ys:List M.Field}(C:xs.length<=maxLen):tY xs ys=some (eqL K9 xs ys):=by
 have I:=le_max C
 unfold tY
 rw[E0 (f:=K9) C (E:=some true) (λn k hk j=>by
  simp only[kJ]
  rw[if_pos (aY hk),aK hk,aK j,qA,qA,bD jF]
  first|rw[fR];rfl|rw[vV];rfl) (λn=>by
  simp only[kJ]
  rw[if_neg jO]),bA,Bool.and_true]
def DW(x y:M.aN):Bool:=(x.aC.toList==y.aC.toList)&&(x.Field.toList==y.Field.toList)
theorem Ku{xs ys:List M.aN}(C:xs.length<=maxLen):oH xs ys=some (eqL DW xs ys):=by
 have I:=le_max C
 unfold oH
 rw[E0 (f:=DW) C (E:=some true) (λn k hk j=>by
  simp only[fZ]
  rw[if_pos (aY hk),aK hk,aK j,qA,qA,bD jF]
  first|rw[fR];rfl|rw[vV];rfl) (λn=>by
  simp only[fZ]
  rw[if_neg jO]),bA,Bool.and_true]
def D9(x y:M.bB):Bool:=(x.aHI==y.aHI)&&((x.Seq==y.Seq)&&((x.Key.aHb==y.Key.aHb)&&((x.Key.N==y.Key.N)&&((x.Key.aHi.toList==y.Key.aHi.toList)&&((x.Field.toList==y.Field.toList)&&(x.N==y.N))))))
theorem Ia{xs ys:List M.bB}(C:xs.length<=maxLen):oU xs ys=some (eqL D9 xs ys):=by
 have I:=le_max C
 unfold oU
 rw[E0 (f:=D9) C (E:=some true) (λn k hk j=>by
  simp only[jZ]
  rw[if_pos (aY hk),aK hk,aK j,qA,qA,bD jF]
  first|rw[fR];rfl|rw[vV];rfl) (λn=>by
  simp only[jZ]
  rw[if_neg jO]),bA,Bool.and_true]
def I4(x y:M.Instr):Bool:=(x.aHb==y.aHb)&&((x.R==y.R)&&((x.N==y.N)&&(x.aHi.toList==y.aHi.toList)))
theorem OC{xs ys:List M.Instr}(C:xs.length<=maxLen):tW xs ys=some (eqL I4 xs ys):=by
 have I:=le_max C
 unfold tW
 rw[E0 (f:=I4) C (E:=some true) (λn k hk j=>by
  simp only[kF]
  rw[if_pos (aY hk),aK hk,aK j,qA,qA,bD jF]
  first|rw[fR];rfl|rw[vV];rfl) (λn=>by
  simp only[kF]
  rw[if_neg jO]),bA,Bool.and_true]
def FM(x y:M.aT):Bool:=(x.aHv.toList==y.aHv.toList)&&(x.aHA==y.aHA)
theorem MD{xs ys:List M.aT}(C:xs.length<=maxLen):rV xs ys=some (eqL FM xs ys):=by
 have I:=le_max C
 unfold rV
 rw[E0 (f:=FM) C (E:=some true) (λn k hk j=>by
  simp only[iE]
  rw[if_pos (aY hk),aK hk,aK j,qA,qA,bD jF]
  first|rw[fR];rfl|rw[vV];rfl) (λn=>by
  simp only[iE]
  rw[if_neg jO]),bA,Bool.and_true]
def Mm(x y:M.dO):Bool:=(x.Name.toList==y.Name.toList)&&((x.bC==y.bC)&&((x.aHo==y.aHo)&&(x.aH4==y.aH4)))
theorem Pb{xs ys:List M.dO}(C:xs.length<=maxLen):vG xs ys=some (eqL Mm xs ys):=by
 have I:=le_max C
 unfold vG
 rw[E0 (f:=Mm) C (E:=some true) (λn k hk j=>by
  simp only[lB]
  rw[if_pos (aY hk),aK hk,aK j,qA,qA,bD jF]
  first|rw[fR];rfl|rw[vV];rfl) (λn=>by
  simp only[lB]
  rw[if_neg jO]),bA,Bool.and_true]
def LG(x y:M.mI):Bool:=(x.To==y.To)&&((x.aIC==y.aIC)&&(x.N==y.N))
theorem OY{xs ys:List M.mI}(C:xs.length<=maxLen):vT xs ys=some (eqL LG xs ys):=by
 have I:=le_max C
 unfold vT
 rw[E0 (f:=LG) C (E:=some true) (λn k hk j=>by
  simp only[lA]
  rw[if_pos (aY hk),aK hk,aK j,qA,qA,bD jF]
  first|rw[fR];rfl|rw[vV];rfl) (λn=>by
  simp only[lA]
  rw[if_neg jO]),bA,Bool.and_true]
def ED(x y:M.aO):Bool:=(x.aHI==y.aHI)&&(x.Seq==y.Seq)
theorem LX{xs ys:List M.aO}(C:xs.length<=maxLen):pK xs ys=some (eqL ED xs ys):=by
 have I:=le_max C
 unfold pK
 rw[E0 (f:=ED) C (E:=some true) (λn k hk j=>by
  simp only[gP]
  rw[if_pos (aY hk),aK hk,aK j,qA,qA,bD jF]
  first|rw[fR];rfl|rw[vV];rfl) (λn=>by
  simp only[gP]
  rw[if_neg jO]),bA,Bool.and_true]
theorem Ih{p:M.aHU->M.aHU->Option Bool}{f:M.aHU->M.aHU->Bool}{xs ys:List M.aHU}(C:xs.length<=maxLen)(I:∀x∈xs,∀y∈ys,p x y=some (f x y)):lE xs ys p=some (eqL f xs ys):=by
 have J:=le_max C
 unfold lE
 rw[E0 (f:=f) C (E:=some true) (λn k hk j=>by
  simp only[eK]
  rw[if_pos (aY hk),aK hk,aK j,qA,qA,bD jF]
  rw[I _ (qG hk) _ (qG j),qA,fR]) (λn=>by
  simp only[eK]
  rw[if_neg jO]),bA,Bool.and_true]
theorem JB{p:M.aHM->M.aHM->Option Bool}{f:M.aHM->M.aHM->Bool}{xs ys:List M.aHM}(C:xs.length<=maxLen)(I:∀x∈xs,∀y∈ys,p x y=some (f x y)):mP xs ys p=some (eqL f xs ys):=by
 have J:=le_max C
 unfold mP
 rw[E0 (f:=f) C (E:=some true) (λn k hk j=>by
  simp only[fM]
  rw[if_pos (aY hk),aK hk,aK j,qA,qA,bD jF]
  rw[I _ (qG hk) _ (qG j),qA,fR]) (λn=>by
  simp only[fM]
  rw[if_neg jO]),bA,Bool.and_true]
theorem KG{p:M.aHV->M.aHV->Option Bool}{f:M.aHV->M.aHV->Bool}{xs ys:List M.aHV}(C:xs.length<=maxLen)(I:∀x∈xs,∀y∈ys,p x y=some (f x y)):nT xs ys p=some (eqL f xs ys):=by
 have J:=le_max C
 unfold nT
 rw[E0 (f:=f) C (E:=some true) (λn k hk j=>by
  simp only[gA]
  rw[if_pos (aY hk),aK hk,aK j,qA,qA,bD jF]
  rw[I _ (qG hk) _ (qG j),qA,fR]) (λn=>by
  simp only[gA]
  rw[if_neg jO]),bA,Bool.and_true]
theorem Jk{p:M.aC->M.aC->Option Bool}{f:M.aC->M.aC->Bool}{xs ys:List M.aC}(C:xs.length<=maxLen)(I:∀x∈xs,∀y∈ys,p x y=some (f x y)):nG xs ys p=some (eqL f xs ys):=by
 have J:=le_max C
 unfold nG
 rw[E0 (f:=f) C (E:=some true) (λn k hk j=>by
  simp only[fJ]
  rw[if_pos (aY hk),aK hk,aK j,qA,qA,bD jF]
  rw[I _ (qG hk) _ (qG j),qA,fR]) (λn=>by
  simp only[fJ]
  rw[if_neg jO]),bA,Bool.and_true]
theorem Iq{p:M.aHD->M.aHD->Option Bool}{f:M.aHD->M.aHD->Bool}{xs ys:List M.aHD}(C:xs.length<=maxLen)(I:∀x∈xs,∀y∈ys,p x y=some (f x y)):lF xs ys p=some (eqL f xs ys):=by
 have J:=le_max C
 unfold lF
 rw[E0 (f:=f) C (E:=some true) (λn k hk j=>by
  simp only[eJ]
  rw[if_pos (aY hk),aK hk,aK j,qA,qA,bD jF]
  rw[I _ (qG hk) _ (qG j),qA,fR]) (λn=>by
  simp only[eJ]
  rw[if_neg jO]),bA,Bool.and_true]
theorem KD{p:M.bC->M.bC->Option Bool}{f:M.bC->M.bC->Bool}{xs ys:List M.bC}(C:xs.length<=maxLen)(I:∀x∈xs,∀y∈ys,p x y=some (f x y)):nR xs ys p=some (eqL f xs ys):=by
 have J:=le_max C
 unfold nR
 rw[E0 (f:=f) C (E:=some true) (λn k hk j=>by
  simp only[gC]
  rw[if_pos (aY hk),aK hk,aK j,qA,qA,bD jF]
  rw[I _ (qG hk) _ (qG j),qA,fR]) (λn=>by
  simp only[gC]
  rw[if_neg jO]),bA,Bool.and_true]
theorem KM{p:M.aHL->M.aHL->Option Bool}{f:M.aHL->M.aHL->Bool}{xs ys:List M.aHL}(C:xs.length<=maxLen)(I:∀x∈xs,∀y∈ys,p x y=some (f x y)):oG xs ys p=some (eqL f xs ys):=by
 have J:=le_max C
 unfold oG
 rw[E0 (f:=f) C (E:=some true) (λn k hk j=>by
  simp only[gB]
  rw[if_pos (aY hk),aK hk,aK j,qA,qA,bD jF]
  rw[I _ (qG hk) _ (qG j),qA,fR]) (λn=>by
  simp only[gB]
  rw[if_neg jO]),bA,Bool.and_true]
