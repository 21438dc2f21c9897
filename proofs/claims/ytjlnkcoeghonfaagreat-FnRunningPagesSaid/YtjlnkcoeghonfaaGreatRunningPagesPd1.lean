/-
  Helper text. No conditions.
-/
import Derived.Test.YtjlnkcoeghonfaaGreatRunningPagesPd0
set_option linter.all false
namespace Go.Proofs.YtjlnkcoeghonfaaGreat.gen
open Go Go.Sh
open Go.IntKind (i64)
theorem Me{r:M.aF}{a:ByteArray}(j:r.aLY.length<=9223372036854775807):∀(n k:Nat),r.aLY.length-k<n->k<=r.aLY.length->vH r a n (k:Int)=some (match(r.aLY.drop k).find? (sI a)with|some x=>(x.N,true)|none=>(0,false))
 |0,k,h,_=>by omega
 |n+1,k,h,hk=>by
  simp only[vH]
  rcases jR k r.aLY.length with h1|h1
  ·rw[jE (bE h1),aM h1,qA,bL wi,Me j n (k+1) wi h1,qX h1,List.find?_cons]
   cases e:sI a r.aLY[k]with
   |true=>rw[jE (show(r.aLY[k].Name.toList==a.toList)=true from e)]
   |false=>rw[jF (by rw[show(r.aLY[k].Name.toList==a.toList)=false from e];simp)]
  ·have:k=r.aLY.length:=by omega
   subst this
   rw[jF wG,qa]
   rfl
theorem uH{r:M.aF}{a:ByteArray}(C:r.ok):lC r a=some (eS r a):=by have j:=aY C.aLY.1;have:=Me (a:=a) j aH 0 wH wi;exact this
theorem nD{r:M.aF}{a:ByteArray}(J:r.ok):iO r a=some (eS r a):=by
 unfold iO CD eS
 rw[HK (f:=sI a) J.aLY.1 (λx _=>by simp only[zZ];rfl),qA,qA]
 by_cases h:kP (sI a) r.aLY<0
 ·rw[jE wN]
  have:r.aLY.find? (sI a)=none:=by have h2:=LH (sI a) r.aLY;rw[decide_eq_false wi]at h2;rw[List.find?_eq_none];intro x U C;have h3:r.aLY.any (sI a)=true:=List.any_eq_true.2 ⟨x,U,C⟩;rw[<-h2]at h3;cases h3
  rw[this]
 ·obtain⟨k,e,hk⟩:=dM h
  rw[jF wN,e,aM hk,qA]
  have e2:r.aLY.findIdx? (sI a)=some k:=by
   unfold kP at e
   cases e3:r.aLY.findIdx? (sI a)with
   |none=>rw[e3]at e;simp only at e;omega
   |some i=>rw[e3]at e;simp only at e;congr 1;omega
  have e4:=List.findIdx?_eq_some_iff_getElem.1 e2
  have:r.aLY.find? (sI a)=some r.aLY[k]:=by rw[List.find?_eq_some_iff_getElem];exact⟨e4.2.1,k,hk,rfl,λj I=>by simpa using e4.2.2 j I⟩
  rw[this]
def KL(a:ByteArray)(x y:M.aLo):Bool:=decide ((eS x.aF a).1<(eS y.aF a).1)||(((eS x.aF a).1==(eS y.aF a).1)&&decide (bZ x.Key y.Key<0))
theorem Rx{x y:M.aLo}{a:ByteArray}(j:x.ok)(C:y.ok):EU x y a=some (KL a x y):=by unfold EU KL;simp only[uH j.aF,uH C.aF,A5 j.Key C.Key,qA,bF];cases decide ((eS x.aF a).1<(eS y.aF a).1)<;>simp
theorem L8{x y:M.aLo}{a:ByteArray}(j:x.ok)(C:y.ok):AR x y a=some (KL a x y):=by unfold AR KL;simp only[nD j.aF,nD C.aF,AV j.Key C.Key,qA,bF];cases decide ((eS x.aF a).1<(eS y.aF a).1)<;>simp
theorem FU(x:List Int)(j:x.length<=1073741824):eD x=some x:=by unfold eD;rw[IP j wi,qA]
theorem Kt(x:M.aLb)(j:M.aLb.sz x<=1073741824):yD x=some x:=by simp only[M.aLb.sz]at j;unfold yD;rw[IP wi wi,qA]
theorem Kz(x:M.aLb)(j:M.aLb.sz x<=1073741824):nX x=some x:=by simp only[M.aLb.sz]at j;unfold nX;rw[FU _ wi,qA]
theorem Ot(x:M.aLi)(j:M.aLi.sz x<=1073741824):CY x=some x:=by
 have C:x.aLg.length<=1073741824:=by simp only[M.aLi.sz]at j;omega
 unfold CY
 exact DA (xs:=x.aLg) (L:=pN x) (b:=88) (E:=λr=>some { x with aLg:=r }) C wi (λn r k hk=>by
  simp only[pN]
  rw[jE (bE hk),aM hk,qA,Kt _ (by have:=eA (f:=M.aLr.sz) (qG hk);simp only[M.aLi.sz]at j;simp only[M.aLr.sz]at this;omega),qA,bL wi]) (λn r=>by
  simp only[pN]
  rw[jF wG])
theorem FB(x:M.aJ)(j:M.aJ.sz x<=1073741824):eC x=some x:=by
 have C:x.aLW.length<=1073741824:=by simp only[M.aJ.sz]at j;omega
 unfold eC
 exact DA (xs:=x.aLW) (L:=tZ x) (b:=32) (E:=λr=>some { x with aLW:=r }) C wi (λn r k hk=>by
  simp only[tZ]
  rw[jE (bE hk),aM hk,qA,Ot _ (by have:=eA (f:=M.aLi.sz) (qG hk);simp only[M.aJ.sz]at j;omega),qA,bL wi]) (λn r=>by
  simp only[tZ]
  rw[jF wG])
theorem KZ(x:M.aJ)(I:M.aJ.sz x<=1073741824):zI x=some x:=by
 have J:x.aLW.length<=1073741824:=by simp only[M.aJ.sz]at I;omega
 unfold zI
 exact DA (xs:=x.aLW) (L:=fU x) (b:=32) (E:=λr=>some { x with aLW:=r }) J wi (λn r k hk=>by
  have hz:=eA (f:=M.aLi.sz) (qG hk)
  simp only[M.aJ.sz]at I
  have hz2:x.aLW[k].aLg.length+dV M.aLr.sz x.aLW[k].aLg<=M.aLi.sz x.aLW[k]:=by simp only[M.aLi.sz];omega
  simp only[fU]
  rw[jE (bE hk),aM hk,qA,bL wi]
  exact DA (xs:=x.aLW[k].aLg) (b:=88) (L:=kE x.aLW[k] (λ(v:Int) (q:List M.aLr)=>(app 32 r ([(⟨x.aLW[k].aLT,q⟩:M.aLi)])).bind λ_=>fU x n ((k+1:Nat):Int) (r++[(⟨x.aLW[k].aLT,q⟩:M.aLi)]))) wi wi (λm q j C=>by
   have U:=eA (f:=M.aLr.sz) (qG C)
   simp only[kE]
   rw[jE (bE C),aM C,qA,Kz _ (by simp only[M.aLr.sz]at U;omega),qA,bL wi]) (λm q=>by
   simp only[kE]
   rw[jF wG])) (λn r=>by
  simp only[fU]
  rw[jF wG])
theorem Dm(x:M.aF)(j:M.aF.sz x<=1073741824):cO x=some x:=by simp only[M.aF.sz]at j;unfold cO;rw[IP wi wi,qA]
theorem Im(x:M.aLo)(j:M.aLo.sz x<=1073741824):B3 x=some x:=by simp only[M.aLo.sz]at j;unfold B3;rw[Dm _ wi,qA]
theorem rF(x:M.aE)(j:M.aE.sz x<=1073741824):cM x=some x:=by
 have C:x.aLV.length<=1073741824:=by simp only[M.aE.sz]at j;omega
 unfold cM
 exact DA (xs:=x.aLV) (L:=xI x) (b:=56) (E:=λr=>some { x with aLV:=r }) C wi (λn r k hk=>by
  simp only[xI]
  rw[jE (bE hk),aM hk,qA,Im _ (by have:=eA (f:=M.aLo.sz) (qG hk);simp only[M.aE.sz]at j;omega),qA,bL wi]) (λn r=>by
  simp only[xI]
  rw[jF wG])
theorem Du(x:M.aLS)(j:M.aLS.sz x<=1073741824):fY x=some x:=by
 have C:x.aLc.length<=1073741824:=by simp only[M.aLS.sz]at j;omega
 unfold fY
 rw[IP (by simp only[M.aLS.sz]at j;omega) wi,qA]
 exact DA (xs:=x.aLc) (L:=xJ x) (b:=48) (E:=λr=>some { x with aLc:=r }) C wi (λn r k hk=>by
  simp only[xJ]
  rw[jE (bE hk),aM hk,qA,rF _ (by have:=eA (f:=M.aE.sz) (qG hk);simp only[M.aLS.sz]at j;omega),qA,bL wi]) (λn r=>by
  simp only[xJ]
  rw[jF wG])
theorem Hs(x:M.bP)(j:M.bP.sz x<=1073741824):Bb x=some x:=by simp only[M.bP.sz]at j;unfold Bb;rw[Du _ wi,qA,IP wi wi,qA]
theorem Fu(x:M.aN)(j:M.aN.sz x<=1073741824):yE x=some x:=by simp only[M.aN.sz]at j;unfold yE;rw[IP wi wi,qA]
theorem P2(x:M.aLs)(j:M.aLs.sz x<=1073741824):Bd x=some x:=by simp only[M.aLs.sz]at j;unfold Bd;rw[Fu _ wi,qA]
theorem Fz(x:M.aG)(j:M.aG.sz x<=1073741824):yG x=some x:=by simp only[M.aG.sz]at j;unfold yG;rw[rF _ wi,qA,P2 _ wi,qA]
theorem Bi(x:M.Bucket)(j:M.Bucket.sz x<=1073741824):gU x=some x:=by simp only[M.Bucket.sz]at j;unfold gU;rw[FB _ wi,qA,Hs _ wi,qA,Fz _ wi,qA]
theorem yS(x:M.aF)(j:M.aF.sz x<=1073741824):bX x=some x:=by simp only[M.aF.sz]at j;unfold bX;rw[IP wi wi,qA]
theorem Js(x:M.aLo)(j:M.aLo.sz x<=1073741824):BO x=some x:=by simp only[M.aLo.sz]at j;unfold BO;rw[yS _ wi,qA]
theorem lK(x:M.aE)(j:M.aE.sz x<=1073741824):bH x=some x:=by
 have C:x.aLV.length<=1073741824:=by simp only[M.aE.sz]at j;omega
 unfold bH
 exact DA (xs:=x.aLV) (L:=nR x) (b:=56) (E:=λr=>some { x with aLV:=r }) C wi (λn r k hk=>by
  simp only[nR]
  rw[jE (bE hk),aM hk,qA,Js _ (by have:=eA (f:=M.aLo.sz) (qG hk);simp only[M.aE.sz]at j;omega),qA,bL wi]) (λn r=>by
  simp only[nR]
  rw[jF wG])
theorem yX(x:M.aLS)(j:M.aLS.sz x<=1073741824):eG x=some x:=by
 have C:x.aLc.length<=1073741824:=by simp only[M.aLS.sz]at j;omega
 unfold eG
 rw[IP (by simp only[M.aLS.sz]at j;omega) wi,qA]
 exact DA (xs:=x.aLc) (L:=kG x) (b:=48) (E:=λr=>some { x with aLc:=r }) C wi (λn r k hk=>by
  simp only[kG]
  rw[jE (bE hk),aM hk,qA,lK _ (by have:=eA (f:=M.aE.sz) (qG hk);simp only[M.aLS.sz]at j;omega),qA,bL wi]) (λn r=>by
  simp only[kG]
  rw[jF wG])
theorem Jw(x:M.bP)(j:M.bP.sz x<=1073741824):Bx x=some x:=by simp only[M.bP.sz]at j;unfold Bx;rw[yX _ wi,qA,FU _ wi,qA]
theorem HL(x:M.aN)(j:M.aN.sz x<=1073741824):pC x=some x:=by simp only[M.aN.sz]at j;unfold pC;rw[IP wi wi,qA]
theorem Pu(x:M.aLs)(j:M.aLs.sz x<=1073741824):C4 x=some x:=by simp only[M.aLs.sz]at j;unfold C4;rw[HL _ wi,qA]
theorem G5(x:M.aG)(j:M.aG.sz x<=1073741824):vN x=some x:=by simp only[M.aG.sz]at j;unfold vN;rw[lK _ wi,qA,Pu _ wi,qA]
theorem BX(x:M.Bucket)(j:M.Bucket.sz x<=1073741824):eZ x=some x:=by simp only[M.Bucket.sz]at j;unfold eZ;rw[KZ _ wi,qA,Jw _ wi,qA,G5 _ wi,qA]
theorem Ht(x:M.aC)(j:M.aC.sz x<=1073741824):gV x=some x:=by
 have C:x.Buckets.length<=1073741824:=by simp only[M.aC.sz]at j;omega
 unfold gV
 exact DA (xs:=x.Buckets) (L:=sR x) (b:=328) (E:=λr=>some { x with Buckets:=r }) C wi (λn r k hk=>by
  simp only[sR]
  rw[jE (bE hk),aM hk,qA,Bi _ (by have:=eA (f:=M.Bucket.sz) (qG hk);simp only[M.aC.sz]at j;omega),qA,bL wi]) (λn r=>by
  simp only[sR]
  rw[jF wG])
theorem EO(x:M.aC)(j:M.aC.sz x<=1073741824):cX x=some x:=by
 have C:x.Buckets.length<=1073741824:=by simp only[M.aC.sz]at j;omega
 unfold cX
 exact DA (xs:=x.Buckets) (L:=kV x) (b:=328) (E:=λr=>some { x with Buckets:=r }) C wi (λn r k hk=>by
  simp only[kV]
  rw[jE (bE hk),aM hk,qA,BX _ (by have:=eA (f:=M.Bucket.sz) (qG hk);simp only[M.aC.sz]at j;omega),qA,bL wi]) (λn r=>by
  simp only[kV]
  rw[jF wG])
def nPl(f:M.aLo->Bool)(l:List M.aLo):Nat->Nat
 |0=>0
 |k+1=>if(l[k]?).any f=true then nPl f l k else k+1
theorem VV(f:M.aLo->Bool)(l:List M.aLo):∀k,nPl f l k<=k
 |0=>by simp[nPl]
 |k+1=>by unfold nPl;split;(exact Nat.le_succ_of_le (VV f l k));·exact qg _
theorem Ya{α:Type}{l:List α}{i:Int}{x:α}(h:idx l i=some x):x∈l:=jC (nJ h).2.1
theorem FT{α:Type}{l:List α}{k:Nat}(h:k<=l.length):CK l (k:Int)=some (l.take k):=by unfold CK;rw[jE ⟨wi,wN⟩,qH]
def aAj(a:ByteArray)(out:List M.aLo)(x:M.aLo):List M.aLo:=
 if(eS x.aF a).2=true then out.take (nPl (KL a x) out out.length)++(x::out.drop (nPl (KL a x) out out.length))else out
def Nw(s:M.aE)(a:ByteArray):List M.aLo:=s.aLV.foldl (aAj a) []
theorem U8(a:ByteArray)(out:List M.aLo)(x:M.aLo):(aAj a out x).length<=out.length+1:=by unfold aAj;have:=VV (KL a x) out out.length;split;(simp only[qE,qV,qJ,qW];omega);·omega
theorem U3{a:ByteArray}{out:List M.aLo}{x y:M.aLo}(h:y∈aAj a out x):y=x\/y∈out:=by unfold aAj at h;split at h;(rcases qP.1 h with h|h;(exact .inr (qk h));·rcases qq.1 h with h|h;(exact .inl h);·exact .inr (qv h));·exact .inr h
theorem XX{a:ByteArray}{l:List M.aLo}{x:M.aLo}{K:Int->Option (List M.aLo)}(J:l.length<=1500000)(I:x.ok)(C:∀y∈l,M.aLo.ok y):
  ∀(n k:Nat),k<n->k<=l.length->sO a l x K n (k:Int)=K ((nPl (KL a x) l k:Nat):Int)
 |0,k,h,_=>by omega
 |n+1,0,h,_=>by simp only[sO,nPl];rw[jF we]
 |n+1,k+1,h,hk=>by
  have j:k<l.length:=by omega
  have e:i64.wrap (((k+1:Nat):Int)-1)=(k:Int):=by rw[bQ wi wi];omega
  simp only[sO]
  rw[jE we,e,aM j,qA,Rx I (C _ (qG j)),qA,nPl,qF j,qf]
  cases hc:KL a x l[k]with
  |true=>rw[jE rfl,jE rfl];exact XX J I C n k wi wi
  |false=>rw[jF we,jF we]
theorem Xn{a:ByteArray}{l:List M.aLo}{x:M.aLo}{K:Int->Option (List M.aLo)}(J:l.length<=1500000)(I:x.ok)(C:∀y∈l,M.aLo.ok y):
  ∀(n k:Nat),k<n->k<=l.length->tL a l x K n (k:Int)=K ((nPl (KL a x) l k:Nat):Int)
 |0,k,h,_=>by omega
 |n+1,0,h,_=>by simp only[tL,nPl];rw[jF we]
 |n+1,k+1,h,hk=>by
  have j:k<l.length:=by omega
  have e:i64.wrap (((k+1:Nat):Int)-1)=(k:Int):=by rw[bQ wi wi];omega
  simp only[tL]
  rw[jE we,e,aM j,qA,L8 I (C _ (qG j)),qA,nPl,qF j,qf]
  cases hc:KL a x l[k]with
  |true=>rw[jE rfl,jE rfl];exact Xn J I C n k wi wi
  |false=>rw[jF we,jF we]
theorem aAR{s:M.aE}{a:ByteArray}(C:s.ok)(hz:M.aE.sz s<=1500000):DO s a=some (Nw s a)/\(Nw s a).length<=s.aLV.length/\∀y∈Nw s a,M.aLo.ok y:=by
 have hl:s.aLV.length<=1500000:=by simp only[M.aE.sz]at hz;omega
 unfold DO Nw
 refine Qg (L:=oO s a) (xs:=s.aLV) (step:=aAj a) (I:=λk out=>out.length<=k/\∀y∈out,M.aLo.ok y) (E:=λout=>some out) C.aLV.1 (λout k hk j=>⟨?_,λy J=> ?_⟩) (λn out k hk j=> ?_) (λn out j=> ?_) [] ⟨qg _,we⟩
 ·have:=U8 a out s.aLV[k];have:=j.1;omega
 ·rcases U3 J with rfl|J;(exact C.aLV.2 _ (qG hk));·exact j.2 y J
 ·have hx:=C.aLV.2 _ (qG hk)
  have U:M.aLo.sz s.aLV[k]<=1073741824:=by have:=eA (f:=M.aLo.sz) (qG hk);simp only[M.aE.sz]at hz;omega
  have hi1:=j.1
  simp only[oO]
  rw[jE (bE hk),aM hk,qA,uH hx.aF,qA,bL wi,eJ]
  unfold aAj
  by_cases hg:(eS s.aLV[k].aF a).2=true
  ·have hp:=VV (KL a s.aLV[k]) out out.length;rw[jE hg,jE hg,XX wi hx j.2 aH out.length wH (qg _)];generalize nPl (KL a s.aLV[k]) out out.length=p at hp;simp only[qH];rw[FT hp,qA,dN wC,qA,Im _ U,qA,dN jx,qA,dN jt,qA,qT,List.singleton_append]
  ·rw[jF hg,jF hg]
 ·simp only[oO];rw[jF wG]
theorem Wa{s:M.aE}{a:ByteArray}(C:s.ok)(hz:M.aE.sz s<=1500000):DH s a=some (Nw s a)/\(Nw s a).length<=s.aLV.length/\∀y∈Nw s a,M.aLo.ok y:=by
 have hl:s.aLV.length<=1500000:=by simp only[M.aE.sz]at hz;omega
 unfold DH Nw
 refine Qg (L:=oK s a) (xs:=s.aLV) (step:=aAj a) (I:=λk out=>out.length<=k/\∀y∈out,M.aLo.ok y) (E:=λout=>some out) C.aLV.1 (λout k hk j=>⟨?_,λy J=> ?_⟩) (λn out k hk j=> ?_) (λn out j=> ?_) [] ⟨qg _,we⟩
 ·have:=U8 a out s.aLV[k];have:=j.1;omega
 ·rcases U3 J with rfl|J;(exact C.aLV.2 _ (qG hk));·exact j.2 y J
 ·have hx:=C.aLV.2 _ (qG hk)
  have U:M.aLo.sz s.aLV[k]<=1073741824:=by have:=eA (f:=M.aLo.sz) (qG hk);simp only[M.aE.sz]at hz;omega
  have hi1:=j.1
  simp only[oK]
  rw[jE (bE hk),aM hk,qA,nD hx.aF,qA,bL wi,eJ]
  unfold aAj
  by_cases hg:(eS s.aLV[k].aF a).2=true
  ·have hp:=VV (KL a s.aLV[k]) out out.length;rw[jE hg,jE hg,Xn wi hx j.2 aH out.length wH (qg _)];generalize nPl (KL a s.aLV[k]) out out.length=p at hp;simp only[qH];rw[Js _ U,qA,N6 ⟨wi,by simpa using hp,we,wA⟩,qA,List.singleton_append]
  ·rw[jF hg,jF hg]
 ·simp only[oK];rw[jF wG]
theorem Y5{a:ByteArray}{l:List M.aLo}(j:∀y∈l,M.aLo.ok y):∀(n:Nat) (v:Int),oZ a l n v=hH a l n v
 |0,v=>rfl
 |n+1,v=>by
  simp only[oZ,hH,Y5 j n]
  cases h1:idx l (i64.wrap (v-1))with
  |none=>rfl
  |some x=>
   have C:=(j x (Ya h1)).aF
   simp only[qA,uH C,nD C]
   cases h2:idx l v with
   |none=>rfl
   |some y=>
    have I:=(j y (Ya h2)).aF
    simp only[qA,uH I,nD I]
theorem XD{a:ByteArray}{l:List M.aLo}(C:∀y∈l,M.aLo.ok y)(I:l.length<=1500000):∀(n k:Nat),l.length-k<n->1<=k->∃r,hH a l n (k:Int)=some r
 |0,k,h,_=>by omega
 |n+1,k,h,h1=>by
  simp only[hH]
  by_cases hk:k<l.length
  ·have e:i64.wrap ((k:Int)-1)=((k-1:Nat):Int):=by rw[bQ wi wi];omega
   have j:k-1<l.length:=by omega
   rw[jE (bE hk),e,aM j,qA,nD (C _ (qG j)).aF,qA,aM hk,qA,nD (C _ (qG hk)).aF,qA,bL wi]
   split
   ·exact⟨_,rfl⟩
   ·exact XD C I n (k+1) wi wi
  ·rw[jF wX];exact⟨_,rfl⟩
def Qe(s:M.aE)(a:ByteArray):M.bD×M.bD×Bool:=(mQ s a).getD (⟨0,0,⟨#[]⟩⟩,⟨0,0,⟨#[]⟩⟩,false)
theorem Hk{s:M.aE}{a:ByteArray}(U:s.ok)(j:M.aE.sz s<=1500000):mQ s a=some (Qe s a):=by
 obtain⟨e,hl,I⟩:=Wa (a:=a) U j
 have C:s.aLV.length<=1500000:=by simp only[M.aE.sz]at j;omega
 obtain⟨r,J⟩:=XD (a:=a) I wi aH 1 wH wi
 have:mQ s a=some r:=by unfold mQ;rw[e,qA];exact J
 unfold Qe
 rw[this]
 rfl
theorem Lq{s:M.aE}{a:ByteArray}(j:s.ok)(C:M.aE.sz s<=1500000):AK s a=some (Qe s a):=by obtain⟨e,J,I⟩:=aAR (a:=a) j C;obtain⟨e2,_⟩:=Wa (a:=a) j C;rw[<-Hk j C];unfold AK mQ;rw[e,e2,qA,qA];exact Y5 I _ _
def Il(l:List M.aE)(k:Nat):Bool:=(l[k]?).any kB&&(decide (k=0)||(l[k-1]?).any λy=>(l[k]?).any λx=>Op.bytesLess y.Name.toList x.Name.toList)
def Ge(x y:M.aU):Bool:=(x.aE.toList==y.aE.toList)&&(x.Field.toList==y.Field.toList)
def Qp(l:List M.aU)(k:Nat)(x:M.aU):Bool:=(List.range k).all λj=> !((l[j]?).any λy=>Ge y x)
def I8(d:M.aLS)(k:Nat):Bool:=(d.aLm[k]?).any λu=>decide (0<=kP (C6 u.aE) d.aLc)&&(pS u.Field&&(!((d.aLc[(kP (C6 u.aE) d.aLc).toNat]?).any λs=>(Qe s u.Field).2.2)&&Qp d.aLm k u))
def nDb(d:M.aLS):Bool:=(List.range d.aLc.length).all (Il d.aLc)&&((List.range d.aLm.length).all (I8 d)&&(pS d.Name&&(inR d.aLT 0 1000&&(decide (d.aLc.length<=4)&&decide (d.aLm.length<=4)))))
theorem ZL{l:List M.aU}{k:Nat}{x:M.aU}(hk:k<=l.length):(l.take k).any (Ge x)= !(Qp l k x):=by
 have hc:∀y,Ge y x=Ge x y:=λy=>by unfold Ge;rw[BEq.comm (a:=y.aE.toList),BEq.comm (a:=y.Field.toList)]
 unfold Qp
 rw[jQ]
 simp only[List.any_eq_true,Bool.not_eq_true',List.all_eq_false,qS,Bool.not_eq_true,Bool.not_eq_false',hc]
 constructor
 ·rintro⟨y,J,C⟩;obtain⟨j,I,rfl⟩:=List.mem_iff_getElem.1 J;rw[qV]at I;refine⟨j,wi,?_⟩;rw[qF wi,qf];rw[List.getElem_take]at C;simp[C]
 ·rintro⟨j,I,C⟩;rw[qF wi,qf]at C;refine⟨l[j],List.mem_iff_getElem.2 ⟨j,wR,by rw[List.getElem_take]⟩,by simpa using C⟩
theorem PJ{l:List M.aU}{x:M.aU}(j:l.length<=maxLen):mE l x=some (l.any (Ge x)):=by
 have C:=aY j
 have:pQ l x=some (kP (Ge x) l):=by unfold pQ;rw[pI (L:=eV l x) (f:=Ge x) (A:=λi=>some (i:Int)) (E:=some (-1)) j (λm k hk=> ?_) (λm=> ?_),uQ];(simp only[eV];rw[jE (bE hk),aM hk,qA,bL wi];rfl);·simp only[eV];rw[jF wG]
 unfold mE
 rw[this,qA,LH]
theorem WS{d:M.aLS}{u:M.aU}{k:Nat}{K:Int->Option Bool}(I:d.aLm.length<=maxLen)(hk:k<=d.aLm.length):iZ d (k:Int) u K aH 0=if Qp d.aLm k u=true then K (k:Int)else some false:=by
 have U:=aY I
 refine sM (L:=iZ d (k:Int) u K) (g:=λj=> !((d.aLm[j]?).any λy=>Ge y u)) (F:=some false) (E:=K (k:Int)) (qh hk I) (λn j J=> ?_) (λn=> ?_)
 ·have C:j<d.aLm.length:=by omega
  simp only[iZ]
  rw[jE (bE J),aM C,qA,bL wi,qF C,qf,eJ]
  rfl
 ·simp only[iZ];rw[jF wG]
theorem Of{d:M.aLS}(C:M.aLS.sz d<=1500000):∀s∈d.aLc,M.aE.sz s<=1500000:=λs j=>by have:=eA (f:=M.aE.sz) j;simp only[M.aLS.sz]at C;omega
theorem VE(a b:List UInt8):(Op.bytesLess a b||a==b)= !(Op.bytesLess b a):=by have h:=EP b a;cases h1:Op.bytesLess b a<;>cases h2:(Op.bytesLess a b||a==b)<;>simp_all
theorem yM{d:M.aLS}(C:d.ok)(hz:M.aLS.sz d<=1500000):cR d=some (nDb d):=by
 have hm:=aY C.aLc.1
 have hm2:=aY C.aLm.1
 unfold cR nDb
 rw[sM (L:=gC d) (g:=Il d.aLc) (F:=some false) (E:=gD d aH 0) C.aLc.1 (λn k hk=> ?_) (λn=> ?_),
  sM (L:=gD d) (g:=I8 d) (F:=some false) (E:=some (pS d.Name&&(inR d.aLT 0 1000&&(decide (d.aLc.length<=4)&&decide (d.aLm.length<=4))))) C.aLm.1 (λn k hk=> ?_) (λn=> ?_),bF,bF]
 ·have U:=C.aLm.2 _ (qG hk)
  simp only[gD]
  rw[jE (bE hk),aM hk,qA,D4 C,qA,bL wi]
  unfold I8
  rw[qF hk,qf,eB U.Field,qA]
  by_cases h:kP (C6 d.aLm[k].aE) d.aLc<0
  ·rw[jE wN,decide_eq_false wi];simp
  ·obtain⟨j,e,J⟩:=dM h
   have hs:=C.aLc.2 _ (qG J)
   rw[jF wN,e,aM J,qA,Lq hs (Of hz _ (qG J)),qA,qH,qF J,qf,WS C.aLm.1 wi]
   have:decide ((0:Int)<=(j:Int))=true:=by simp
   rw[this]
   generalize gD d n ((k+1:Nat):Int)=Z
   cases pS d.aLm[k].Field<;>cases (Qe d.aLc[j] d.aLm[k].Field).2.2<;>cases Qp d.aLm k d.aLm[k]<;>simp
 ·simp only[gD]
  rw[jF wG,eB C.Name,qA,cK,qA,bF,bF,bF]
  congr 3
  have e1:decide ((d.aLc.length:Int)<=4)=decide (d.aLc.length<=4):=by rw[jQ];simp;omega
  have e2:decide ((d.aLm.length:Int)<=4)=decide (d.aLm.length<=4):=by rw[jQ];simp;omega
  rw[e1,e2]
 ·have U:=C.aLc.2 _ (qG hk)
  simp only[gC]
  rw[jE (bE hk),aM hk,qA,bL wi,CE U,qA]
  unfold Il
  rw[qF hk]
  generalize gC d n ((k+1:Nat):Int)=Z
  by_cases h0:k=0
  ·subst h0;simp only[qf];cases kB d.aLc[0]<;>simp
  ·have e:i64.wrap ((k:Int)-1)=((k-1:Nat):Int):=by rw[bQ wi wi];omega
   have I:k-1<d.aLc.length:=by omega
   rw[jE (c:=(decide ((k:Int)>0))=true) wX,e,aM I,qA,qF I]
   simp only[qf,h0,jc,jZ]
   cases kB d.aLc[k]<;>cases Op.bytesLess d.aLc[k-1].Name.toList d.aLc[k].Name.toList<;>simp
 ·simp only[gC];rw[jF wG]
theorem Di{d:M.aLS}(C:d.ok)(hz:M.aLS.sz d<=1500000):oJ d=some (nDb d):=by
 have hm:=aY C.aLc.1
 have hm2:=aY C.aLm.1
 unfold oJ nDb
 rw[sM (L:=gB d) (g:=Il d.aLc) (F:=some false) (E:=gG d aH 0) C.aLc.1 (λn k hk=> ?_) (λn=> ?_),
  sM (L:=gG d) (g:=I8 d) (F:=some false) (E:=some true) C.aLm.1 (λn k hk=> ?_) (λn=> ?_)]
 ·simp only[dG C.Name,bY,qA]
  have e1:decide ((d.aLc.length:Int)>4)= !decide (d.aLc.length<=4):=by rw[jQ];simp;omega
  have e2:decide ((d.aLm.length:Int)>4)= !decide (d.aLm.length<=4):=by rw[jQ];simp;omega
  rw[e1,e2]
  cases pS d.Name<;>cases inR d.aLT 0 1000<;>cases decide (d.aLc.length<=4)<;>cases decide (d.aLm.length<=4)<;>cases (List.range d.aLc.length).all (Il d.aLc)<;>cases (List.range d.aLm.length).all (I8 d)<;>rfl
 ·have U:=C.aLm.2 _ (qG hk)
  simp only[gG]
  rw[jE (bE hk),aM hk,qA,FP C,qA,bL wi]
  unfold I8
  rw[qF hk,qf,dG U.Field,qA,FT wi,qA,qH,PJ (qh (by rw[qV];exact Nat.min_le_right _ _) C.aLm.1),qA,ZL wi]
  by_cases h:kP (C6 d.aLm[k].aE) d.aLc<0
  ·rw[jE wN,decide_eq_false wi];simp
  ·obtain⟨j,e,J⟩:=dM h
   have hs:=C.aLc.2 _ (qG J)
   rw[jF wN,e,aM J,qA,Hk hs (Of hz _ (qG J)),qA,qH,qF J,qf]
   have:decide ((0:Int)<=(j:Int))=true:=by simp
   rw[this]
   generalize gG d n ((k+1:Nat):Int)=Z
   cases pS d.aLm[k].Field<;>cases (Qe d.aLc[j] d.aLm[k].Field).2.2<;>cases Qp d.aLm k d.aLm[k]<;>simp
 ·simp only[gG];rw[jF wG]
 ·have U:=C.aLc.2 _ (qG hk)
  simp only[gB]
  rw[jE (bE hk),aM hk,qA,bL wi,Cv U,qA]
  unfold Il
  rw[qF hk]
  generalize gB d n ((k+1:Nat):Int)=Z
  by_cases h0:k=0
  ·subst h0;simp only[qf];cases kB d.aLc[0]<;>simp
  ·have e:i64.wrap ((k:Int)-1)=((k-1:Nat):Int):=by rw[bQ wi wi];omega
   have I:k-1<d.aLc.length:=by omega
   rw[jE (c:=(decide ((k:Int)>0))=true) wX,e,aM I,qA,qF I,VE]
   simp only[qf,h0,jc,jZ]
   cases kB d.aLc[k]<;>cases Op.bytesLess d.aLc[k-1].Name.toList d.aLc[k].Name.toList<;>simp
 ·simp only[gB];rw[jF wG]
def xW(b:M.Bucket):Bool:=pS b.aLa&&(pS b.Top&&(aEd b.aLU&&((b.aLU.aLa.toList==b.aLa.toList)&&(nE b.aLW&&(nDb b.bP.aLq&&(EC b.aG&&(inR b.aL1 0 1000000000000&&decide (S9 b<=2500))))))))
theorem BG{b:M.Bucket}(j:M.Bucket.sz b<=1500000):M.aLS.sz b.bP.aLq<=1500000:=by simp only[M.Bucket.sz,M.bP.sz]at j;omega
theorem D7{b:M.Bucket}(hb:b.ok)(j:M.aLS.sz b.bP.aLq<=1500000):rA b=some (xW b):=by unfold rA xW;simp only[eB hb.aLa,eB hb.Top,FH hb.aLU,tR hb.aLW,yM hb.bP.aLq j,D2 hb.aG,cK,P0 hb,qA,bF]
theorem Py{b:M.Bucket}(hb:b.ok)(j:M.Bucket.sz b<=1500000):rA b=some (xW b):=D7 hb (BG j)
theorem FX{b:M.Bucket}(hb:b.ok)(j:M.aLS.sz b.bP.aLq<=1500000):uN b=some (xW b):=by unfold uN xW;simp only[dG hb.aLa,dG hb.Top,JI hb.aLU,Mm hb.aLW,Di hb.bP.aLq j,It hb.aG,bY,P7 hb,qA,bF]
theorem Om{b:M.Bucket}(hb:b.ok)(j:M.Bucket.sz b<=1500000):uN b=some (xW b):=FX hb (BG j)
def Hp(x y:M.Bucket):Bool:=Op.bytesLess x.aLa.toList y.aLa.toList||((x.aLa.toList==y.aLa.toList)&&Op.bytesLess x.Top.toList y.Top.toList)
theorem Ks(x y:M.Bucket):Cx x y.aLa y.Top=some (Hp x y):=by unfold Cx Hp;cases Op.bytesLess x.aLa.toList y.aLa.toList<;>cases (x.aLa.toList==y.aLa.toList)<;>simp
theorem GG(x y:M.Bucket):tT x y=some (Hp x y):=by unfold tT Hp;cases Op.bytesLess x.aLa.toList y.aLa.toList<;>cases (x.aLa.toList==y.aLa.toList)<;>simp
def HA(l:List M.Bucket)(k:Nat):Bool:=(l[k]?).any xW&&(decide (k=0)||(l[k-1]?).any λy=>(l[k]?).any λx=>Hp y x)
def sH(s:M.aC):Bool:=(List.range s.Buckets.length).all (HA s.Buckets)&&decide ((s.Buckets.length:Int)<=9)
theorem E2{s:M.aC}(C:s.ok)(U:∀b∈s.Buckets,M.aLS.sz b.bP.aLq<=1500000):dD s=some (sH s):=by
 have hm:=aY C.Buckets.1
 unfold dD sH
 rw[sM (L:=iM s) (g:=HA s.Buckets) (F:=some false) (E:=some (decide ((s.Buckets.length:Int)<=9))) C.Buckets.1 (λn k hk=> ?_) (λn=> ?_),bF]
 ·have J:=C.Buckets.2 _ (qG hk)
  have I:M.aLS.sz s.Buckets[k].bP.aLq<=1500000:=U _ (qG hk)
  simp only[iM]
  rw[jE (bE hk),aM hk,qA,bL wi,D7 J I,qA]
  unfold HA
  rw[qF hk]
  generalize iM s n ((k+1:Nat):Int)=Z
  by_cases h0:k=0
  ·subst h0;simp only[qf];cases xW s.Buckets[0]<;>simp
  ·have e:i64.wrap ((k:Int)-1)=((k-1:Nat):Int):=by rw[bQ wi wi];omega
   have j:k-1<s.Buckets.length:=by omega
   rw[jE (c:=(decide ((k:Int)>0))=true) wX,e,aM j,qA,Ks,qA,qF j]
   simp only[qf,h0,jc,jZ]
   cases xW s.Buckets[k]<;>cases Hp s.Buckets[k-1] s.Buckets[k]<;>simp
 ·simp only[iM];rw[jF wG]
theorem N0{s:M.aC}(j:s.ok)(C:M.aC.sz s<=1500000):dD s=some (sH s):=E2 j (λb hb=>BG (by have:=eA (f:=M.Bucket.sz) hb;simp only[M.aC.sz]at C;omega))
theorem Ff{s:M.aC}(C:s.ok)(U:∀b∈s.Buckets,M.aLS.sz b.bP.aLq<=1500000):dE s=some (sH s):=by
 have hm:=aY C.Buckets.1
 unfold dE sH
 rw[sM (L:=iK s) (g:=HA s.Buckets) (F:=some false) (E:=some (decide ((s.Buckets.length:Int)<=9))) C.Buckets.1 (λn k hk=> ?_) (λn=> ?_),bF]
 ·have J:=C.Buckets.2 _ (qG hk)
  have I:M.aLS.sz s.Buckets[k].bP.aLq<=1500000:=U _ (qG hk)
  simp only[iK]
  rw[jE (bE hk),aM hk,qA,bL wi,FX J I,qA]
  unfold HA
  rw[qF hk]
  generalize iK s n ((k+1:Nat):Int)=Z
  by_cases h0:k=0
  ·subst h0;simp only[qf];cases xW s.Buckets[0]<;>simp
  ·have e:i64.wrap ((k:Int)-1)=((k-1:Nat):Int):=by rw[bQ wi wi];omega
   have j:k-1<s.Buckets.length:=by omega
   rw[jE (c:=(decide ((k:Int)>0))=true) wX,e,aM j,qA,GG,qA,qF j]
   simp only[qf,h0,jc,jZ]
   cases xW s.Buckets[k]<;>cases Hp s.Buckets[k-1] s.Buckets[k]<;>simp
 ·simp only[iK];rw[jF wG]
theorem NJ{s:M.aC}(j:s.ok)(C:M.aC.sz s<=1500000):dE s=some (sH s):=Ff j (λb hb=>BG (by have:=eA (f:=M.Bucket.sz) hb;simp only[M.aC.sz]at C;omega))
def OR(b o:M.Bucket):M.Bucket×Bool:=if xW b=true then if xW o=true then(o,true)else(b,false)else(b,false)
theorem YW{b o:M.Bucket}(hb:b.ok)(j:o.ok):M.Bucket.ok (OR b o).1:=by unfold OR;split;(split;(exact j);·exact hb);·exact hb
theorem ZD(b o:M.Bucket):M.Bucket.sz (OR b o).1<=M.Bucket.sz b+M.Bucket.sz o:=by unfold OR;split;(split<;>simp only<;>omega);·simp only;omega
theorem Iu{b o:M.Bucket}(hb:b.ok)(j:o.ok)(C:M.Bucket.sz b<=1500000)(J:M.Bucket.sz o<=1073741824)(I:M.aLS.sz o.bP.aLq<=1500000):sA b o=some (OR b o):=by unfold sA OR;rw[Py hb C,qA,Bi b wi,D7 j I];cases xW b;(simp);·cases xW o<;>simp
theorem Sn(b o:M.Bucket):((some (OR b o)).bind λx=>if x.2=true then some (o,true)else some (x.1,false))=some (OR b o):=by unfold OR;cases xW b<;>cases xW o<;>rfl
theorem F5{b o:M.Bucket}(hb:b.ok)(j:o.ok)(C:M.Bucket.sz b<=1500000)(J:M.Bucket.sz o<=1073741824)(I:M.aLS.sz o.bP.aLq<=1500000):rP b o=some (OR b o):=by unfold rP OR;rw[Om hb C,qA,BX b wi,FX j I,BX o wi];cases xW b;(simp);·cases xW o<;>simp
def sN(b:M.Bucket)(k:M.bP):M.Bucket:=(⟨b.aLa,b.Top,b.aLU,b.aLW,k,b.aG,b.aL1,b.aLy⟩:M.Bucket)
theorem Jl{b:M.Bucket}{k:M.bP}(hb:b.ok)(hk:k.ok):(sN b k).ok:=⟨hb.aLa,hb.Top,hb.aLU,hb.aLW,hk,hb.aG,hb.aL1⟩
theorem Jo(b:M.Bucket)(k:M.bP):M.Bucket.sz (sN b k)<=M.Bucket.sz b+M.bP.sz k:=by simp only[sN,M.Bucket.sz];omega
theorem LL{b:M.Bucket}{k:M.bP}(hb:b.ok)(hk:k.ok)(j:M.Bucket.sz b<=1500000)(zs:M.bP.sz k<=536870912)(C:M.aLS.sz (sN b k).bP.aLq<=1500000):A4 b k=some (OR b (sN b k)):=by have I:=Jo b k;unfold A4;rw[Bi b wi,qA,Hs k wi,qA];have e:=Iu hb (Jl hb hk) j (show M.Bucket.sz (sN b k)<=1073741824 by omega) C;have e2:=Sn b (sN b k);unfold sN at e e2⊢;rw[e];exact e2
theorem Lp{b:M.Bucket}{k:M.bP}(hb:b.ok)(hk:k.ok)(j:M.Bucket.sz b<=1500000)(zs:M.bP.sz k<=536870912)(C:M.aLS.sz (sN b k).bP.aLq<=1500000):AN b k=some (OR b (sN b k)):=by have I:=Jo b k;unfold AN;have e:=F5 hb (Jl hb hk) j (show M.Bucket.sz (sN b k)<=1073741824 by omega) C;unfold sN at e;rw[e];rfl
def fR(b:M.Bucket)(r:M.aG):M.Bucket:=(⟨b.aLa,b.Top,b.aLU,b.aLW,b.bP,r,b.aL1,b.aLy⟩:M.Bucket)
theorem Gy{b:M.Bucket}{r:M.aG}(hb:b.ok)(j:r.ok):(fR b r).ok:=⟨hb.aLa,hb.Top,hb.aLU,hb.aLW,hb.bP,j,hb.aL1⟩
theorem GS(b:M.Bucket)(r:M.aG):M.Bucket.sz (fR b r)<=M.Bucket.sz b+M.aG.sz r:=by simp only[fR,M.Bucket.sz];omega
theorem JT{b:M.Bucket}{r:M.aG}(hb:b.ok)(j:r.ok)(C:M.Bucket.sz b<=1500000)(zs:M.aG.sz r<=536870912)(I:M.aLS.sz (fR b r).bP.aLq<=1500000):uP b r=some (OR b (fR b r)):=by have J:=GS b r;unfold uP;rw[Bi b wi,qA,Fz r wi,qA];have e:=Iu hb (Gy hb j) C (show M.Bucket.sz (fR b r)<=1073741824 by omega) I;have e2:=Sn b (fR b r);unfold fR at e e2⊢;rw[e];exact e2
theorem JM{b:M.Bucket}{r:M.aG}(hb:b.ok)(j:r.ok)(C:M.Bucket.sz b<=1500000)(zs:M.aG.sz r<=536870912)(I:M.aLS.sz (fR b r).bP.aLq<=1500000):uJ b r=some (OR b (fR b r)):=by have J:=GS b r;unfold uJ;have e:=F5 hb (Gy hb j) C (show M.Bucket.sz (fR b r)<=1073741824 by omega) I;unfold fR at e;rw[e];rfl
def DP:M.Bucket:=(⟨(⟨#[]⟩:ByteArray),(⟨#[]⟩:ByteArray),(⟨(⟨#[]⟩:ByteArray),0,0,0⟩:M.aLU),(⟨([]:List M.aLi)⟩:M.aJ),(⟨(⟨(⟨#[]⟩:ByteArray),0,([]:List M.aE),([]:List M.aU)⟩:M.aLS),([]:List Int),0⟩:M.bP),(⟨(⟨(⟨#[]⟩:ByteArray),([]:List M.aLo),0⟩:M.aE),0,(⟨(⟨0,0,([]:List M.bR)⟩:M.aN),0,0⟩:M.aLs)⟩:M.aG),0,false⟩:M.Bucket)
def LG(a b:ByteArray)(d:Int):M.Bucket:=(⟨a,b,(⟨a,0,0,0⟩:M.aLU),(⟨([]:List M.aLi)⟩:M.aJ),(⟨(⟨(⟨#[97,112,112]⟩:ByteArray),1,[(⟨(⟨#[110,111,116,101,115]⟩:ByteArray),([]:List M.aLo),0⟩:M.aE)],([]:List M.aU)⟩:M.aLS),([]:List Int),0⟩:M.bP),(⟨(⟨(⟨#[110,111,116,101,115]⟩:ByteArray),([]:List M.aLo),0⟩:M.aE),0,(⟨(⟨d,1,([]:List M.bR)⟩:M.aN),0,0⟩:M.aLs)⟩:M.aG),0,false⟩:M.Bucket)
theorem zV:inI 0:=by unfold inI;omega
theorem Wt:inI 1:=by unfold inI;omega
theorem UT(n:Nat)(h:n<=1500000):n<=maxLen:=by unfold maxLen;omega
theorem sz0:((⟨#[]⟩:ByteArray)).size<=maxLen:=UT _ wh
theorem sz5:((⟨#[110,111,116,101,115]⟩:ByteArray)).size<=maxLen:=UT _ wh
theorem sz3:((⟨#[97,112,112]⟩:ByteArray)).size<=maxLen:=UT _ wh
theorem aBJ{d:Int}(n:Int)(j:inI d)(C:inI n):M.aN.ok (⟨d,n,([]:List M.bR)⟩:M.aN):=⟨j,C,⟨we,we⟩⟩
theorem Oo:DP.ok:=⟨sz0,sz0,⟨sz0,zV,zV,zV⟩,⟨⟨wO,wO⟩⟩,⟨⟨sz0,zV,⟨wO,wO⟩,⟨wO,wO⟩⟩,⟨wO,wO⟩,zV⟩,⟨⟨sz0,⟨wO,wO⟩,zV⟩,zV,⟨⟨zV,zV,⟨wO,wO⟩⟩,zV,zV⟩⟩,zV⟩
theorem Yv:M.aE.ok (⟨(⟨#[110,111,116,101,115]⟩:ByteArray),([]:List M.aLo),0⟩:M.aE):=⟨sz5,⟨we,we⟩,zV⟩
theorem Q4{a b:ByteArray}{d:Int}(j:a.size<=maxLen)(hb:b.size<=maxLen)(I:inI d):(LG a b d).ok:=
 ⟨j,hb,⟨j,zV,zV,zV⟩,⟨⟨wV,wV⟩⟩,⟨⟨sz3,Wt,⟨UT _ wV,λy C=>by simp only[LG,qq,qO,or_false]at C;subst C;exact Yv⟩,⟨wV,wV⟩⟩,⟨wV,wV⟩,zV⟩,⟨Yv,zV,⟨aBJ 1 I Wt,zV,zV⟩⟩,zV⟩
theorem UZ(a b:ByteArray)(d:Int):M.aLS.sz (LG a b d).bP.aLq<=1500000:=by simp only[LG];decide
def FW(a b:ByteArray)(d:Int):M.Bucket×Bool:=if xA (⟨d,1,([]:List M.bR)⟩:M.aN)=true then if xW (LG a b d)=true then(LG a b d,true)else(DP,false)else(DP,false)
theorem IJ{a b:ByteArray}{d:Int}(I:a.size<=maxLen)(hb:b.size<=maxLen)(C:inI d):xB a b d=some (FW a b d):=by
 unfold xB rX FW
 rw[uV (aBJ 1 C Wt),qA]
 cases hn:xA (⟨d,1,([]:List M.bR)⟩:M.aN)with
 |false=>simp[DP]
 |true=>
  have j:=D7 (Q4 I hb C) (UZ a b d)
  unfold LG at j
  simp only[qB,qD,jG,qA,j,jH]
  unfold LG
  generalize xW _=c
  cases c<;>simp[DP]
theorem Vr{a b:ByteArray}{d:Int}(j:a.size<=maxLen)(hb:b.size<=maxLen)(C:inI d):(FW a b d).1.ok:=by unfold FW;split;(split;(exact Q4 j hb C);·exact Oo);·exact Oo
theorem bV(x:Int):inI (i64.wrap x):=by unfold inI;rw[IntKind.wrap_i64];omega
def zX(x y:Int):Bool:=x==y
theorem Tn{xs ys:List Int}(C:xs.length<=maxLen):zQ xs ys=some (eqL zX xs ys):=by
 have I:=aY C
 unfold zQ
 rw[FF (f:=zX) C (E:=some true) (λn k hk j=>by
  simp only[mR]
  rw[jE (bE hk),aM hk,aM j,qA,qA,bL wi]
  first|rw[eJ];rfl|rw[xY];rfl) (λn=>by
  simp only[mR]
  rw[jF wG]),bF,jL]
def Sf(x y:Int):Bool:=x==y
theorem T7{xs ys:List Int}(C:xs.length<=maxLen):AU xs ys=some (eqL Sf xs ys):=by
 have I:=aY C
 unfold AU
 rw[FF (f:=Sf) C (E:=some true) (λn k hk j=>by
  simp only[oU]
  rw[jE (bE hk),aM hk,aM j,qA,qA,bL wi]
  first|rw[eJ];rfl|rw[xY];rfl) (λn=>by
  simp only[oU]
  rw[jF wG]),bF,jL]
def JD(x y:ByteArray):Bool:=x.toList==y.toList
theorem P4{xs ys:List ByteArray}(C:xs.length<=maxLen):uK xs ys=some (eqL JD xs ys):=by
 have I:=aY C
 unfold uK
 rw[FF (f:=JD) C (E:=some true) (λn k hk j=>by
  simp only[kS]
  rw[jE (bE hk),aM hk,aM j,qA,qA,bL wi]
  first|rw[eJ];rfl|rw[xY];rfl) (λn=>by
  simp only[kS]
  rw[jF wG]),bF,jL]
def L3(x y:M.aR):Bool:=(x.Name.toList==y.Name.toList)&&(x.N==y.N)
theorem RO{xs ys:List M.aR}(C:xs.length<=maxLen):xS xs ys=some (eqL L3 xs ys):=by
 have I:=aY C
 unfold xS
 rw[FF (f:=L3) C (E:=some true) (λn k hk j=>by
  simp only[mC]
  rw[jE (bE hk),aM hk,aM j,qA,qA,bL wi]
  first|rw[eJ];rfl|rw[xY];rfl) (λn=>by
  simp only[mC]
  rw[jF wG]),bF,jL]
def B7(x y:M.aU):Bool:=(x.aE.toList==y.aE.toList)&&(x.Field.toList==y.Field.toList)
theorem NF{xs ys:List M.aU}(C:xs.length<=maxLen):pY xs ys=some (eqL B7 xs ys):=by
 have I:=aY C
 unfold pY
 rw[FF (f:=B7) C (E:=some true) (λn k hk j=>by
  simp only[hY]
  rw[jE (bE hk),aM hk,aM j,qA,qA,bL wi]
  first|rw[eJ];rfl|rw[xY];rfl) (λn=>by
  simp only[hY]
  rw[jF wG]),bF,jL]
def Gj(x y:M.bR):Bool:=(x.aLZ==y.aLZ)&&((x.Seq==y.Seq)&&((x.Key.aLn==y.Key.aLn)&&((x.Key.N==y.Key.N)&&((x.Key.aLu.toList==y.Key.aLu.toList)&&((x.Field.toList==y.Field.toList)&&(x.N==y.N))))))
theorem Lo{xs ys:List M.bR}(C:xs.length<=maxLen):rO xs ys=some (eqL Gj xs ys):=by
 have I:=aY C
 unfold rO
 rw[FF (f:=Gj) C (E:=some true) (λn k hk j=>by
  simp only[lS]
  rw[jE (bE hk),aM hk,aM j,qA,qA,bL wi]
  first|rw[eJ];rfl|rw[xY];rfl) (λn=>by
  simp only[lS]
  rw[jF wG]),bF,jL]
def Mh(x y:M.aZ):Bool:=(x.aLn==y.aLn)&&((x.R==y.R)&&((x.N==y.N)&&(x.aLu.toList==y.aLu.toList)))
theorem R7{xs ys:List M.aZ}(C:xs.length<=maxLen):xP xs ys=some (eqL Mh xs ys):=by
 have I:=aY C
 unfold xP
 rw[FF (f:=Mh) C (E:=some true) (λn k hk j=>by
  simp only[lX]
  rw[jE (bE hk),aM hk,aM j,qA,qA,bL wi]
  first|rw[eJ];rfl|rw[xY];rfl) (λn=>by
  simp only[lX]
  rw[jF wG]),bF,jL]
def I4(x y:M.aW):Bool:=(x.aMF.toList==y.aMF.toList)&&(x.aLT==y.aLT)
theorem PN{xs ys:List M.aW}(C:xs.length<=maxLen):uG xs ys=some (eqL I4 xs ys):=by
 have I:=aY C
 unfold uG
 rw[FF (f:=I4) C (E:=some true) (λn k hk j=>by
  simp only[kT]
  rw[jE (bE hk),aM hk,aM j,qA,qA,bL wi]
  first|rw[eJ];rfl|rw[xY];rfl) (λn=>by
  simp only[kT]
  rw[jF wG]),bF,jL]
def PB(x y:M.uY):Bool:=(x.Name.toList==y.Name.toList)&&((x.bO==y.bO)&&((x.aL9==y.aL9)&&(x.aMS==y.aMS)))
theorem SK{xs ys:List M.uY}(C:xs.length<=maxLen):zN xs ys=some (eqL PB xs ys):=by
 have I:=aY C
 unfold zN
 rw[FF (f:=PB) C (E:=some true) (λn k hk j=>by
  simp only[mU]
  rw[jE (bE hk),aM hk,aM j,qA,qA,bL wi]
  first|rw[eJ];rfl|rw[xY];rfl) (λn=>by
  simp only[mU]
  rw[jF wG]),bF,jL]
def OS(x y:M.Fy):Bool:=(x.To==y.To)&&((x.aMU==y.aMU)&&(x.N==y.N))
theorem Sy{xs ys:List M.Fy}(C:xs.length<=maxLen):zU xs ys=some (eqL OS xs ys):=by
 have I:=aY C
 unfold zU
 rw[FF (f:=OS) C (E:=some true) (λn k hk j=>by
  simp only[mT]
  rw[jE (bE hk),aM hk,aM j,qA,qA,bL wi]
  first|rw[eJ];rfl|rw[xY];rfl) (λn=>by
  simp only[mT]
  rw[jF wG]),bF,jL]
def HH(x y:M.aQ):Bool:=(x.aLZ==y.aLZ)&&(x.Seq==y.Seq)
theorem O2{xs ys:List M.aQ}(C:xs.length<=maxLen):sK xs ys=some (eqL HH xs ys):=by
 have I:=aY C
 unfold sK
 rw[FF (f:=HH) C (E:=some true) (λn k hk j=>by
  simp only[iU]
  rw[jE (bE hk),aM hk,aM j,qA,qA,bL wi]
  first|rw[eJ];rfl|rw[xY];rfl) (λn=>by
  simp only[iU]
  rw[jF wG]),bF,jL]
theorem Lt{p:M.aLr->M.aLr->Option Bool}{f:M.aLr->M.aLr->Bool}{xs ys:List M.aLr}(C:xs.length<=maxLen)(I:∀x∈xs,∀y∈ys,p x y=some (f x y)):mY xs ys p=some (eqL f xs ys):=by
 have J:=aY C
 unfold mY
 rw[FF (f:=f) C (E:=some true) (λn k hk j=>by
  simp only[fO]
  rw[jE (bE hk),aM hk,aM j,qA,qA,bL wi]
  rw[I _ (qG hk) _ (qG j),qA,eJ]) (λn=>by
  simp only[fO]
  rw[jF wG]),bF,jL]
