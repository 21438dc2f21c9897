/-
  Helper text. No conditions.
-/
import Derived.Test.YtipmihbgjolaaaaGreatStoragePd0
set_option linter.unusedVariables false
set_option linter.unusedSimpArgs false
namespace Go.Proofs.YtipmihbgjolaaaaGreat.gen
open Go Go.Sh
open Go.IntKind (i64)
theorem zL{d:M.YY}{a:ByteArray}(C:d.ok):mY d a=some (pU (zI a) d.Y5):=by have I:=le_max C.Y5.1;unfold mY;rw[findAll (L:=iZ d a) (f:=zI a) (A:=λi=>some (i:Int)) (E:=some (-1)) C.Y5.1 (λm k j=> ?_) (λm=> ?_),uU];(simp only[iZ];rw[if_pos (aY j),aN j,qA,bN qc];rfl);·simp only[iZ];rw[if_neg ql]
theorem FU{d:M.YY}{a:ByteArray}(j:d.ok):tH d a=some (pU (zI a) d.Y5):=by unfold tH;rw[EX (f:=zI a) j.Y5.1 (λx _=>by simp only[pW];rfl),qA]
def mP(a:ByteArray)(x:M.Field):Bool:=x.Name.toList==a.toList
def gJ(r:M.aC)(a:ByteArray):Int×Bool:=match r.Y4.find? (mP a)with|some x=>(x.N,true)|none=>(0,false)
theorem Ek{r:M.aC}{a:ByteArray}(j:r.Y4.length<=9223372036854775807):∀(n k:Nat),r.Y4.length-k<n->k<=r.Y4.length->mO r a n (k:Int)=some (match(r.Y4.drop k).find? (mP a)with|some x=>(x.N,true)|none=>(0,false))
 |0,k,h,_=>by omega
 |n+1,k,h,C=>by
  simp only[mO]
  rcases Nat.lt_or_ge k r.Y4.length with h1|h1
  ·rw[if_pos (aY h1),aN h1,qA,bN qc,Ek j n (k+1) qc h1,qW h1,List.find?_cons]
   cases e:mP a r.Y4[k]with
   |true=>rw[if_pos (show(r.Y4[k].Name.toList==a.toList)=true from e)]
   |false=>rw[if_neg (by rw[show(r.Y4[k].Name.toList==a.toList)=false from e];simp)]
  ·have:k=r.Y4.length:=by omega
   subst this
   rw[if_neg ql,qZ]
   rfl
theorem oK{r:M.aC}{a:ByteArray}(j:r.ok):hZ r a=some (gJ r a):=by have C:=le_max j.Y4.1;have:=Ek (a:=a) C fuel 0 qj qc;exact this
theorem oV{r:M.aC}{a:ByteArray}(hr:r.ok):kE r a=some (gJ r a):=by
 unfold kE yW gJ
 rw[ER (f:=mP a) hr.Y4.1 (λx _=>by simp only[tE];rfl),qA,qA]
 by_cases h:pU (mP a) r.Y4<0
 ·rw[if_pos (by simpa using h)]
  have:r.Y4.find? (mP a)=none:=by have C:=Gq (mP a) r.Y4;rw[decide_eq_false qc]at C;rw[List.find?_eq_none];intro x hx U;have I:r.Y4.any (mP a)=true:=List.any_eq_true.2 ⟨x,hx,U⟩;rw[<-C]at I;cases I
  rw[this]
 ·obtain⟨k,e,J⟩:=kI h
  rw[if_neg (by simpa using h),e,aN J,qA]
  have e2:r.Y4.findIdx? (mP a)=some k:=by
   unfold pU at e
   cases e3:r.Y4.findIdx? (mP a)with
   |none=>rw[e3]at e;simp only at e;omega
   |some i=>rw[e3]at e;simp only at e;congr 1;omega
  have e4:=List.findIdx?_eq_some_iff_getElem.1 e2
  have:r.Y4.find? (mP a)=some r.Y4[k]:=by rw[List.find?_eq_some_iff_getElem];exact⟨e4.2.1,k,J,rfl,λj hj=>by simpa using e4.2.2 j hj⟩
  rw[this]
def Dq(a:ByteArray)(x y:M.Zd):Bool:=decide ((gJ x.aC a).1<(gJ y.aC a).1)||(((gJ x.aC a).1==(gJ y.aC a).1)&&decide (cG x.Key y.Key<0))
theorem I5{x y:M.Zd}{a:ByteArray}(j:x.ok)(C:y.ok):xW x y a=some (Dq a x y):=by unfold xW Dq;simp only[oK j.aC,oK C.aC,rE j.Key C.Key,qA,aW];cases decide ((gJ x.aC a).1<(gJ y.aC a).1)<;>simp
theorem Eh{x y:M.Zd}{a:ByteArray}(j:x.ok)(C:y.ok):pX x y a=some (Dq a x y):=by unfold pX Dq;simp only[oV j.aC,oV C.aC,AD j.Key C.Key,qA,aW];cases decide ((gJ x.aC a).1<(gJ y.aC a).1)<;>simp
theorem BM(x:List Int)(j:x.length<=1073741824):kW x=some x:=by unfold kW;rw[Hh j qc,qA]
theorem C7(x:M.Y7)(j:M.Y7.sz x<=1073741824):uB x=some x:=by simp only[M.Y7.sz]at j;unfold uB;rw[Hh qc qc,qA]
theorem Df(x:M.Y7)(j:M.Y7.sz x<=1073741824):oS x=some x:=by simp only[M.Y7.sz]at j;unfold oS;rw[BM _ qc,qA]
theorem Gz(x:M.Y6)(C:M.Y6.sz x<=1073741824):uR x=some x:=by
 have I:x.Y8.length<=1073741824:=by simp only[M.Y6.sz]at C;omega
 unfold uR
 exact AN (xs:=x.Y8) (L:=kA x) (b:=88) (E:=λr=>some { x with Y8:=r }) I qc (λn r k j=>by
  simp only[kA]
  rw[if_pos (aY j),aN j,qA,C7 _ (by have:=iE (f:=M.Zb.sz) (qG j);simp only[M.Y6.sz]at C;simp only[M.Zb.sz]at this;omega),qA,bN qc]) (λn r=>by
  simp only[kA]
  rw[if_neg ql])
theorem yY(x:M.aE)(C:M.aE.sz x<=1073741824):cN x=some x:=by
 have I:x.Y1.length<=1073741824:=by simp only[M.aE.sz]at C;omega
 unfold cN
 exact AN (xs:=x.Y1) (L:=lW x) (b:=32) (E:=λr=>some { x with Y1:=r }) I qc (λn r k j=>by
  simp only[lW]
  rw[if_pos (aY j),aN j,qA,Gz _ (by have:=iE (f:=M.Y6.sz) (qG j);simp only[M.aE.sz]at C;omega),qA,bN qc]) (λn r=>by
  simp only[lW]
  rw[if_neg ql])
theorem Dz(x:M.aE)(J:M.aE.sz x<=1073741824):oQ x=some x:=by
 have hl:x.Y1.length<=1073741824:=by simp only[M.aE.sz]at J;omega
 unfold oQ
 exact AN (xs:=x.Y1) (L:=dN x) (b:=32) (E:=λr=>some { x with Y1:=r }) hl qc (λn r k C=>by
  have hz:=iE (f:=M.Y6.sz) (qG C)
  simp only[M.aE.sz]at J
  have U:x.Y1[k].Y8.length+jO M.Zb.sz x.Y1[k].Y8<=M.Y6.sz x.Y1[k]:=by simp only[M.Y6.sz];omega
  simp only[dN]
  rw[if_pos (aY C),aN C,qA,bN qc]
  exact AN (xs:=x.Y1[k].Y8) (b:=88) (L:=fG x.Y1[k] (λ(v:Int) (q:List M.Zb)=>(app 32 r ([(⟨x.Y1[k].Y2,q⟩:M.Y6)])).bind λ_=>dN x n ((k+1:Nat):Int) (r++[(⟨x.Y1[k].Y2,q⟩:M.Y6)]))) qc qc (λm q j I=>by
   have hy:=iE (f:=M.Zb.sz) (qG I)
   simp only[fG]
   rw[if_pos (aY I),aN I,qA,Df _ (by simp only[M.Zb.sz]at hy;omega),qA,bN qc]) (λm q=>by
   simp only[fG]
   rw[if_neg ql])) (λn r=>by
  simp only[dN]
  rw[if_neg ql])
theorem xO(x:M.aC)(j:M.aC.sz x<=1073741824):bQ x=some x:=by simp only[M.aC.sz]at j;unfold bQ;rw[Hh qc qc,qA]
theorem BH(x:M.Zd)(j:M.Zd.sz x<=1073741824):sZ x=some x:=by simp only[M.Zd.sz]at j;unfold sZ;rw[xO _ qc,qA]
theorem mA(x:M.aA)(C:M.aA.sz x<=1073741824):bL x=some x:=by
 have I:x.Y3.length<=1073741824:=by simp only[M.aA.sz]at C;omega
 unfold bL
 exact AN (xs:=x.Y3) (L:=nD x) (b:=56) (E:=λr=>some { x with Y3:=r }) I qc (λn r k j=>by
  simp only[nD]
  rw[if_pos (aY j),aN j,qA,BH _ (by have:=iE (f:=M.Zd.sz) (qG j);simp only[M.aA.sz]at C;omega),qA,bN qc]) (λn r=>by
  simp only[nD]
  rw[if_neg ql])
theorem vN(x:M.YY)(C:M.YY.sz x<=1073741824):dR x=some x:=by
 have I:x.Y5.length<=1073741824:=by simp only[M.YY.sz]at C;omega
 unfold dR
 rw[Hh (by simp only[M.YY.sz]at C;omega) qc,qA]
 exact AN (xs:=x.Y5) (L:=nE x) (b:=48) (E:=λr=>some { x with Y5:=r }) I qc (λn r k j=>by
  simp only[nE]
  rw[if_pos (aY j),aN j,qA,mA _ (by have:=iE (f:=M.aA.sz) (qG j);simp only[M.YY.sz]at C;omega),qA,bN qc]) (λn r=>by
  simp only[nE]
  rw[if_neg ql])
theorem CZ(x:M.bG)(j:M.bG.sz x<=1073741824):tX x=some x:=by simp only[M.bG.sz]at j;unfold tX;rw[vN _ qc,qA,Hh qc qc,qA]
theorem yQ(x:M.aF)(j:M.aF.sz x<=1073741824):nW x=some x:=by simp only[M.aF.sz]at j;unfold nW;rw[Hh qc qc,qA]
theorem HJ(x:M.Ze)(j:M.Ze.sz x<=1073741824):rN x=some x:=by simp only[M.Ze.sz]at j;unfold rN;rw[yQ _ qc,qA]
theorem AS(x:M.aD)(j:M.aD.sz x<=1073741824):rQ x=some x:=by simp only[M.aD.sz]at j;unfold rQ;rw[mA _ qc,qA,HJ _ qc,qA]
theorem AT(x:M.aK)(j:M.aK.sz x<=1073741824):lX x=some x:=by simp only[M.aK.sz]at j;unfold lX;rw[yY _ qc,qA,CZ _ qc,qA,AS _ qc,qA]
theorem Ff(x:M.aC)(j:M.aC.sz x<=1073741824):sI x=some x:=by simp only[M.aC.sz]at j;unfold sI;rw[Hh qc qc,qA]
theorem Cf(x:M.Zd)(j:M.Zd.sz x<=1073741824):sP x=some x:=by simp only[M.Zd.sz]at j;unfold sP;rw[Ff _ qc,qA]
theorem BK(x:M.aA)(C:M.aA.sz x<=1073741824):pQ x=some x:=by
 have I:x.Y3.length<=1073741824:=by simp only[M.aA.sz]at C;omega
 unfold pQ
 exact AN (xs:=x.Y3) (L:=iQ x) (b:=56) (E:=λr=>some { x with Y3:=r }) I qc (λn r k j=>by
  simp only[iQ]
  rw[if_pos (aY j),aN j,qA,Cf _ (by have:=iE (f:=M.Zd.sz) (qG j);simp only[M.aA.sz]at C;omega),qA,bN qc]) (λn r=>by
  simp only[iQ]
  rw[if_neg ql])
theorem Di(x:M.YY)(C:M.YY.sz x<=1073741824):oY x=some x:=by
 have I:x.Y5.length<=1073741824:=by simp only[M.YY.sz]at C;omega
 unfold oY
 rw[Hh (by simp only[M.YY.sz]at C;omega) qc,qA]
 exact AN (xs:=x.Y5) (L:=fI x) (b:=48) (E:=λr=>some { x with Y5:=r }) I qc (λn r k j=>by
  simp only[fI]
  rw[if_pos (aY j),aN j,qA,BK _ (by have:=iE (f:=M.aA.sz) (qG j);simp only[M.YY.sz]at C;omega),qA,bN qc]) (λn r=>by
  simp only[fI]
  rw[if_neg ql])
theorem GR(x:M.bG)(j:M.bG.sz x<=1073741824):uK x=some x:=by simp only[M.bG.sz]at j;unfold uK;rw[Di _ qc,qA,BM _ qc,qA]
theorem EW(x:M.aF)(j:M.aF.sz x<=1073741824):sQ x=some x:=by simp only[M.aF.sz]at j;unfold sQ;rw[Hh qc qc,qA]
theorem Hk(x:M.Ze)(j:M.Ze.sz x<=1073741824):uV x=some x:=by simp only[M.Ze.sz]at j;unfold uV;rw[EW _ qc,qA]
theorem DK(x:M.aD)(j:M.aD.sz x<=1073741824):rD x=some x:=by simp only[M.aD.sz]at j;unfold rD;rw[BK _ qc,qA,Hk _ qc,qA]
theorem vO(x:M.aK)(j:M.aK.sz x<=1073741824):fB x=some x:=by simp only[M.aK.sz]at j;unfold fB;rw[Dz _ qc,qA,GR _ qc,qA,DK _ qc,qA]
theorem C0(x:M.aH)(C:M.aH.sz x<=1073741824):eZ x=some x:=by
 have I:x.Y0.length<=1073741824:=by simp only[M.aH.sz]at C;omega
 unfold eZ
 exact AN (xs:=x.Y0) (L:=lH x) (b:=328) (E:=λr=>some { x with Y0:=r }) I qc (λn r k j=>by
  simp only[lH]
  rw[if_pos (aY j),aN j,qA,AT _ (by have:=iE (f:=M.aK.sz) (qG j);simp only[M.aH.sz]at C;omega),qA,bN qc]) (λn r=>by
  simp only[lH]
  rw[if_neg ql])
theorem AK(x:M.aH)(C:M.aH.sz x<=1073741824):bY x=some x:=by
 have I:x.Y0.length<=1073741824:=by simp only[M.aH.sz]at C;omega
 unfold bY
 exact AN (xs:=x.Y0) (L:=fT x) (b:=328) (E:=λr=>some { x with Y0:=r }) I qc (λn r k j=>by
  simp only[fT]
  rw[if_pos (aY j),aN j,qA,vO _ (by have:=iE (f:=M.aK.sz) (qG j);simp only[M.aH.sz]at C;omega),qA,bN qc]) (λn r=>by
  simp only[fT]
  rw[if_neg ql])
def nPl(f:M.Zd->Bool)(l:List M.Zd):Nat->Nat
 |0=>0
 |k+1=>if(l[k]?).any f=true then nPl f l k else k+1
theorem MA(f:M.Zd->Bool)(l:List M.Zd):∀k,nPl f l k<=k
 |0=>by simp[nPl]
 |k+1=>by unfold nPl;split;(exact Nat.le_succ_of_le (MA f l k));·exact Nat.le_refl _
theorem Oj{α:Type}{l:List α}{i:Int}{x:α}(h:idx l i=some x):x∈l:=List.mem_of_getElem? (pZ h).2.1
theorem Bu{α:Type}{l:List α}{k:Nat}(h:k<=l.length):yK l (k:Int)=some (l.take k):=by unfold yK;rw[if_pos ⟨qc,by simpa using h⟩,qH]
def QQ(a:ByteArray)(out:List M.Zd)(x:M.Zd):List M.Zd:=
 if(gJ x.aC a).2=true then out.take (nPl (Dq a x) out out.length)++(x::out.drop (nPl (Dq a x) out out.length))else out
def FK(s:M.aA)(a:ByteArray):List M.Zd:=s.Y3.foldl (QQ a) []
theorem LM(a:ByteArray)(out:List M.Zd)(x:M.Zd):(QQ a out x).length<=out.length+1:=by unfold QQ;have:=MA (Dq a x) out out.length;split;(simp only[qE,qU,qJ,qV];omega);·omega
theorem LG{a:ByteArray}{out:List M.Zd}{x y:M.Zd}(h:y∈QQ a out x):y=x\/y∈out:=by unfold QQ at h;split at h;(rcases List.mem_append.1 h with h|h;(exact .inr (List.mem_of_mem_take h));·rcases List.mem_cons.1 h with h|h;(exact .inl h);·exact .inr (List.mem_of_mem_drop h));·exact .inr h
theorem N7{a:ByteArray}{l:List M.Zd}{x:M.Zd}{K:Int->Option (List M.Zd)}(J:l.length<=1048576)(I:x.ok)(C:∀y∈l,M.Zd.ok y):
  ∀(n k:Nat),k<n->k<=l.length->lC a l x K n (k:Int)=K ((nPl (Dq a x) l k:Nat):Int)
 |0,k,h,_=>by omega
 |n+1,0,h,_=>by simp only[lC,nPl];rw[if_neg qe]
 |n+1,k+1,h,U=>by
  have j:k<l.length:=by omega
  have e:i64.wrap (((k+1:Nat):Int)-1)=(k:Int):=by rw[bT qc qc];omega
  simp only[lC]
  rw[if_pos qe,e,aN j,qA,I5 I (C _ (qG j)),qA,nPl,qF j,Option.any_some]
  cases hc:Dq a x l[k]with
  |true=>rw[if_pos rfl,if_pos rfl];exact N7 J I C n k qc qc
  |false=>rw[if_neg qe,if_neg qe]
theorem Nx{a:ByteArray}{l:List M.Zd}{x:M.Zd}{K:Int->Option (List M.Zd)}(J:l.length<=1048576)(I:x.ok)(C:∀y∈l,M.Zd.ok y):
  ∀(n k:Nat),k<n->k<=l.length->lN a l x K n (k:Int)=K ((nPl (Dq a x) l k:Nat):Int)
 |0,k,h,_=>by omega
 |n+1,0,h,_=>by simp only[lN,nPl];rw[if_neg qe]
 |n+1,k+1,h,U=>by
  have j:k<l.length:=by omega
  have e:i64.wrap (((k+1:Nat):Int)-1)=(k:Int):=by rw[bT qc qc];omega
  simp only[lN]
  rw[if_pos qe,e,aN j,qA,Eh I (C _ (qG j)),qA,nPl,qF j,Option.any_some]
  cases hc:Dq a x l[k]with
  |true=>rw[if_pos rfl,if_pos rfl];exact Nx J I C n k qc qc
  |false=>rw[if_neg qe,if_neg qe]
theorem QA{s:M.aA}{a:ByteArray}(U:s.ok)(hz:M.aA.sz s<=1048576):wH s a=some (FK s a)/\(FK s a).length<=s.Y3.length/\∀y∈FK s a,M.Zd.ok y:=by
 have hl:s.Y3.length<=1048576:=by simp only[M.aA.sz]at hz;omega
 unfold wH FK
 refine JC (L:=jE s a) (xs:=s.Y3) (step:=QQ a) (I:=λk out=>out.length<=k/\∀y∈out,M.Zd.ok y) (E:=λout=>some out) U.Y3.1 (λout k j C=>⟨?_,λy hy=> ?_⟩) (λn out k j C=> ?_) (λn out C=> ?_) [] ⟨Nat.le_refl _,qe⟩
 ·have:=LM a out s.Y3[k];have:=C.1;omega
 ·rcases LG hy with rfl|hy;(exact U.Y3.2 _ (qG j));·exact C.2 y hy
 ·have hx:=U.Y3.2 _ (qG j)
  have J:M.Zd.sz s.Y3[k]<=1073741824:=by have:=iE (f:=M.Zd.sz) (qG j);simp only[M.aA.sz]at hz;omega
  have hi1:=C.1
  simp only[jE]
  rw[if_pos (aY j),aN j,qA,oK hx.aC,qA,bN qc,iG]
  unfold QQ
  by_cases hg:(gJ s.Y3[k].aC a).2=true
  ·have hp:=MA (Dq a s.Y3[k]) out out.length;rw[if_pos hg,if_pos hg,N7 qc hx C.2 fuel out.length qj (Nat.le_refl _)];generalize nPl (Dq a s.Y3[k]) out out.length=p at hp;simp only[qH];rw[Bu hp,qA,eJ qu,qA,BH _ J,qA,eJ qs,qA,eJ qn,qA,qS,List.singleton_append]
  ·rw[if_neg hg,if_neg hg]
 ·simp only[jE];rw[if_neg ql]
theorem MG{s:M.aA}{a:ByteArray}(U:s.ok)(hz:M.aA.sz s<=1048576):wB s a=some (FK s a)/\(FK s a).length<=s.Y3.length/\∀y∈FK s a,M.Zd.ok y:=by
 have hl:s.Y3.length<=1048576:=by simp only[M.aA.sz]at hz;omega
 unfold wB FK
 refine JC (L:=jC s a) (xs:=s.Y3) (step:=QQ a) (I:=λk out=>out.length<=k/\∀y∈out,M.Zd.ok y) (E:=λout=>some out) U.Y3.1 (λout k j C=>⟨?_,λy hy=> ?_⟩) (λn out k j C=> ?_) (λn out C=> ?_) [] ⟨Nat.le_refl _,qe⟩
 ·have:=LM a out s.Y3[k];have:=C.1;omega
 ·rcases LG hy with rfl|hy;(exact U.Y3.2 _ (qG j));·exact C.2 y hy
 ·have hx:=U.Y3.2 _ (qG j)
  have J:M.Zd.sz s.Y3[k]<=1073741824:=by have:=iE (f:=M.Zd.sz) (qG j);simp only[M.aA.sz]at hz;omega
  have hi1:=C.1
  simp only[jC]
  rw[if_pos (aY j),aN j,qA,oV hx.aC,qA,bN qc,iG]
  unfold QQ
  by_cases hg:(gJ s.Y3[k].aC a).2=true
  ·have hp:=MA (Dq a s.Y3[k]) out out.length;rw[if_pos hg,if_pos hg,Nx qc hx C.2 fuel out.length qj (Nat.le_refl _)];generalize nPl (Dq a s.Y3[k]) out out.length=p at hp;simp only[qH];rw[Cf _ J,qA,LL ⟨qc,by simpa using hp,qe,qt⟩,qA,List.singleton_append]
  ·rw[if_neg hg,if_neg hg]
 ·simp only[jC];rw[if_neg ql]
theorem Pm{a:ByteArray}{l:List M.Zd}(j:∀y∈l,M.Zd.ok y):∀(n:Nat) (v:Int),jI a l n v=eI a l n v
 |0,v=>rfl
 |n+1,v=>by
  simp only[jI,eI,Pm j n]
  cases h1:idx l (i64.wrap (v-1))with
  |none=>rfl
  |some x=>
   have I:=(j x (Oj h1)).aC
   simp only[qA,oK I,oV I]
   cases h2:idx l v with
   |none=>rfl
   |some y=>
    have C:=(j y (Oj h2)).aC
    simp only[qA,oK C,oV C]
theorem NM{a:ByteArray}{l:List M.Zd}(C:∀y∈l,M.Zd.ok y)(I:l.length<=1048576):∀(n k:Nat),l.length-k<n->1<=k->∃r,eI a l n (k:Int)=some r
 |0,k,h,_=>by omega
 |n+1,k,h,J=>by
  simp only[eI]
  by_cases hk:k<l.length
  ·have e:i64.wrap ((k:Int)-1)=((k-1:Nat):Int):=by rw[bT qc qc];omega
   have j:k-1<l.length:=by omega
   rw[if_pos (aY hk),e,aN j,qA,oV (C _ (qG j)).aC,qA,aN hk,qA,oV (C _ (qG hk)).aC,qA,bN qc]
   split
   ·exact⟨_,rfl⟩
   ·exact NM C I n (k+1) qc qc
  ·rw[if_neg qd];exact⟨_,rfl⟩
def HT(s:M.aA)(a:ByteArray):M.Key×M.Key×Bool:=(gW s a).getD (⟨0,0,⟨#[]⟩⟩,⟨0,0,⟨#[]⟩⟩,false)
theorem AJ{s:M.aA}{a:ByteArray}(I:s.ok)(j:M.aA.sz s<=1048576):gW s a=some (HT s a):=by
 obtain⟨e,hl,C⟩:=MG (a:=a) I j
 have J:s.Y3.length<=1048576:=by simp only[M.aA.sz]at j;omega
 obtain⟨r,U⟩:=NM (a:=a) C qc fuel 1 qj qc
 have:gW s a=some r:=by unfold gW;rw[e,qA];exact U
 unfold HT
 rw[this]
 rfl
theorem DS{s:M.aA}{a:ByteArray}(j:s.ok)(C:M.aA.sz s<=1048576):pS s a=some (HT s a):=by obtain⟨e,J,I⟩:=QA (a:=a) j C;obtain⟨e2,_⟩:=MG (a:=a) j C;rw[<-AJ j C];unfold pS gW;rw[e,e2,qA,qA];exact Pm I _ _
def BG(l:List M.aA)(k:Nat):Bool:=(l[k]?).any gC&&(decide (k=0)||(l[k-1]?).any λy=>(l[k]?).any λx=>Op.bytesLess y.Name.toList x.Name.toList)
def zS(x y:M.aM):Bool:=(x.aA.toList==y.aA.toList)&&(x.Field.toList==y.Field.toList)
def H0(l:List M.aM)(k:Nat)(x:M.aM):Bool:=(List.range k).all λj=> !((l[j]?).any λy=>zS y x)
def BZ(d:M.YY)(k:Nat):Bool:=(d.Za[k]?).any λu=>decide (0<=pU (zI u.aA) d.Y5)&&(nS u.Field&&(!((d.Y5[(pU (zI u.aA) d.Y5).toNat]?).any λs=>(HT s u.Field).2.2)&&H0 d.Za k u))
def nDb(d:M.YY):Bool:=(List.range d.Y5.length).all (BG d.Y5)&&((List.range d.Za.length).all (BZ d)&&(nS d.Name&&(inR d.Y2 0 1000&&(decide (d.Y5.length<=4)&&decide (d.Za.length<=4)))))
theorem PZ{l:List M.aM}{k:Nat}{x:M.aM}(hk:k<=l.length):(l.take k).any (zS x)= !(H0 l k x):=by
 have J:∀y,zS y x=zS x y:=λy=>by unfold zS;rw[BEq.comm (a:=y.aA.toList),BEq.comm (a:=y.Field.toList)]
 unfold H0
 rw[Bool.eq_iff_iff]
 simp only[List.any_eq_true,Bool.not_eq_true',List.all_eq_false,qR,Bool.not_eq_true,Bool.not_eq_false',J]
 constructor
 ·rintro⟨y,U,C⟩;obtain⟨j,I,rfl⟩:=List.mem_iff_getElem.1 U;rw[qU]at I;refine⟨j,qc,?_⟩;rw[qF qc,Option.any_some];rw[List.getElem_take]at C;simp[C]
 ·rintro⟨j,I,C⟩;rw[qF qc,Option.any_some]at C;refine⟨l[j],List.mem_iff_getElem.2 ⟨j,by rw[qU];omega,by rw[List.getElem_take]⟩,by simpa using C⟩
theorem HA{l:List M.aM}{x:M.aM}(j:l.length<=maxLen):gL l x=some (l.any (zS x)):=by
 have I:=le_max j
 have:kD l x=some (pU (zS x) l):=by unfold kD;rw[findAll (L:=dA l x) (f:=zS x) (A:=λi=>some (i:Int)) (E:=some (-1)) j (λm k C=> ?_) (λm=> ?_),uU];(simp only[dA];rw[if_pos (aY C),aN C,qA,bN qc];rfl);·simp only[dA];rw[if_neg ql]
 unfold gL
 rw[this,qA,Gq]
theorem Nh{d:M.YY}{u:M.aM}{k:Nat}{K:Int->Option Bool}(I:d.Za.length<=maxLen)(U:k<=d.Za.length):fC d (k:Int) u K fuel 0=if H0 d.Za k u=true then K (k:Int)else some false:=by
 have J:=le_max I
 refine uG (L:=fC d (k:Int) u K) (g:=λj=> !((d.Za[j]?).any λy=>zS y u)) (F:=some false) (E:=K (k:Int)) (Nat.le_trans U I) (λn j hj=> ?_) (λn=> ?_)
 ·have C:j<d.Za.length:=by omega
  simp only[fC]
  rw[if_pos (aY hj),aN C,qA,bN qc,qF C,Option.any_some,iG]
  rfl
 ·simp only[fC];rw[if_neg ql]
theorem ME{d:M.YY}(C:M.YY.sz d<=1048576):∀s∈d.Y5,M.aA.sz s<=1048576:=λs j=>by have:=iE (f:=M.aA.sz) j;simp only[M.YY.sz]at C;omega
theorem QP(a b:List UInt8):(Op.bytesLess a b||a==b)= !(Op.bytesLess b a):=by have h:=zY b a;cases h1:Op.bytesLess b a<;>cases h2:(Op.bytesLess a b||a==b)<;>simp_all
theorem oC{d:M.YY}(C:d.ok)(hz:M.YY.sz d<=1048576):bM d=some (nDb d):=by
 have hm:=le_max C.Y5.1
 have hm2:=le_max C.Za.1
 unfold bM nDb
 rw[uG (L:=dV d) (g:=BG d.Y5) (F:=some false) (E:=dW d fuel 0) C.Y5.1 (λn k I=> ?_) (λn=> ?_),
  uG (L:=dW d) (g:=BZ d) (F:=some false) (E:=some (nS d.Name&&(inR d.Y2 0 1000&&(decide (d.Y5.length<=4)&&decide (d.Za.length<=4))))) C.Za.1 (λn k I=> ?_) (λn=> ?_),aW,aW]
 ·have hf:=C.Za.2 _ (qG I)
  simp only[dW]
  rw[if_pos (aY I),aN I,qA,zL C,qA,bN qc]
  unfold BZ
  rw[qF I,Option.any_some,dG hf.Field,qA]
  by_cases h:pU (zI d.Za[k].aA) d.Y5<0
  ·rw[if_pos (by simpa using h),decide_eq_false qc];simp
  ·obtain⟨j,e,U⟩:=kI h
   have hs:=C.Y5.2 _ (qG U)
   rw[if_neg (by simpa using h),e,aN U,qA,DS hs (ME hz _ (qG U)),qA,qH,qF U,Option.any_some,Nh C.Za.1 qc]
   have:decide ((0:Int)<=(j:Int))=true:=by simp
   rw[this]
   generalize dW d n ((k+1:Nat):Int)=Z
   cases nS d.Za[k].Field<;>cases (HT d.Y5[j] d.Za[k].Field).2.2<;>cases H0 d.Za k d.Za[k]<;>simp
 ·simp only[dW]
  rw[if_neg ql,dG C.Name,qA,dB,qA,aW,aW,aW]
  congr 3
  have e1:decide ((d.Y5.length:Int)<=4)=decide (d.Y5.length<=4):=by rw[Bool.eq_iff_iff];simp;omega
  have e2:decide ((d.Za.length:Int)<=4)=decide (d.Za.length<=4):=by rw[Bool.eq_iff_iff];simp;omega
  rw[e1,e2]
 ·have hf:=C.Y5.2 _ (qG I)
  simp only[dV]
  rw[if_pos (aY I),aN I,qA,bN qc,uE hf,qA]
  unfold BG
  rw[qF I]
  generalize dV d n ((k+1:Nat):Int)=Z
  by_cases h0:k=0
  ·subst h0;simp only[Option.any_some];cases gC d.Y5[0]<;>simp
  ·have e:i64.wrap ((k:Int)-1)=((k-1:Nat):Int):=by rw[bT qc qc];omega
   have J:k-1<d.Y5.length:=by omega
   rw[if_pos (c:=(decide ((k:Int)>0))=true) qd,e,aN J,qA,qF J]
   simp only[Option.any_some,h0,decide_false,Bool.false_or]
   cases gC d.Y5[k]<;>cases Op.bytesLess d.Y5[k-1].Name.toList d.Y5[k].Name.toList<;>simp
 ·simp only[dV];rw[if_neg ql]
theorem EI{d:M.YY}(C:d.ok)(hz:M.YY.sz d<=1048576):rU d=some (nDb d):=by
 have hm:=le_max C.Y5.1
 have hm2:=le_max C.Za.1
 unfold rU nDb
 rw[uG (L:=dU d) (g:=BG d.Y5) (F:=some false) (E:=dY d fuel 0) C.Y5.1 (λn k I=> ?_) (λn=> ?_),
  uG (L:=dY d) (g:=BZ d) (F:=some false) (E:=some true) C.Za.1 (λn k I=> ?_) (λn=> ?_)]
 ·simp only[iF C.Name,eY,qA]
  have e1:decide ((d.Y5.length:Int)>4)= !decide (d.Y5.length<=4):=by rw[Bool.eq_iff_iff];simp;omega
  have e2:decide ((d.Za.length:Int)>4)= !decide (d.Za.length<=4):=by rw[Bool.eq_iff_iff];simp;omega
  rw[e1,e2]
  cases nS d.Name<;>cases inR d.Y2 0 1000<;>cases decide (d.Y5.length<=4)<;>cases decide (d.Za.length<=4)<;>cases (List.range d.Y5.length).all (BG d.Y5)<;>cases (List.range d.Za.length).all (BZ d)<;>rfl
 ·have hf:=C.Za.2 _ (qG I)
  simp only[dY]
  rw[if_pos (aY I),aN I,qA,FU C,qA,bN qc]
  unfold BZ
  rw[qF I,Option.any_some,iF hf.Field,qA,Bu qc,qA,qH,HA (Nat.le_trans (by rw[qU];exact Nat.min_le_right _ _) C.Za.1),qA,PZ qc]
  by_cases h:pU (zI d.Za[k].aA) d.Y5<0
  ·rw[if_pos (by simpa using h),decide_eq_false qc];simp
  ·obtain⟨j,e,U⟩:=kI h
   have hs:=C.Y5.2 _ (qG U)
   rw[if_neg (by simpa using h),e,aN U,qA,AJ hs (ME hz _ (qG U)),qA,qH,qF U,Option.any_some]
   have:decide ((0:Int)<=(j:Int))=true:=by simp
   rw[this]
   generalize dY d n ((k+1:Nat):Int)=Z
   cases nS d.Za[k].Field<;>cases (HT d.Y5[j] d.Za[k].Field).2.2<;>cases H0 d.Za k d.Za[k]<;>simp
 ·simp only[dY];rw[if_neg ql]
 ·have hf:=C.Y5.2 _ (qG I)
  simp only[dU]
  rw[if_pos (aY I),aN I,qA,bN qc,CX hf,qA]
  unfold BG
  rw[qF I]
  generalize dU d n ((k+1:Nat):Int)=Z
  by_cases h0:k=0
  ·subst h0;simp only[Option.any_some];cases gC d.Y5[0]<;>simp
  ·have e:i64.wrap ((k:Int)-1)=((k-1:Nat):Int):=by rw[bT qc qc];omega
   have J:k-1<d.Y5.length:=by omega
   rw[if_pos (c:=(decide ((k:Int)>0))=true) qd,e,aN J,qA,qF J,QP]
   simp only[Option.any_some,h0,decide_false,Bool.false_or]
   cases gC d.Y5[k]<;>cases Op.bytesLess d.Y5[k-1].Name.toList d.Y5[k].Name.toList<;>simp
 ·simp only[dU];rw[if_neg ql]
def Ai(b:M.aK):Bool:=nS b.Zh&&(nS b.Zw&&(T0 b.YZ&&((b.YZ.Zh.toList==b.Zh.toList)&&(iB b.Y1&&(nDb b.bG.Zf&&(yS b.aD&&(inR b.Zo 0 1000000000000&&decide (Bd b<=2500))))))))
theorem Ch{b:M.aK}(j:M.aK.sz b<=1048576):M.YY.sz b.bG.Zf<=1048576:=by simp only[M.aK.sz,M.bG.sz]at j;omega
theorem BP{b:M.aK}(j:b.ok)(C:M.YY.sz b.bG.Zf<=1048576):sJ b=some (Ai b):=by unfold sJ Ai;simp only[dG j.Zh,dG j.Zw,zE j.YZ,lS j.Y1,oC j.bG.Zf C,wN j.aD,dB,HH j,qA,aW]
theorem Ge{b:M.aK}(j:b.ok)(C:M.YY.sz b.bG.Zf<=1048576):uT b=some (Ai b):=by unfold uT Ai;simp only[iF j.Zh,iF j.Zw,Cs j.YZ,Et j.Y1,EI j.bG.Zf C,FR j.aD,eY,Da j,qA,aW]
def uF(x y:M.aK):Bool:=Op.bytesLess x.Zh.toList y.Zh.toList||((x.Zh.toList==y.Zh.toList)&&Op.bytesLess x.Zw.toList y.Zw.toList)
theorem C6(x y:M.aK):tW x y.Zh y.Zw=some (uF x y):=by unfold tW uF;cases Op.bytesLess x.Zh.toList y.Zh.toList<;>cases (x.Zh.toList==y.Zh.toList)<;>simp
theorem Am(x y:M.aK):lT x y=some (uF x y):=by unfold lT uF;cases Op.bytesLess x.Zh.toList y.Zh.toList<;>cases (x.Zh.toList==y.Zh.toList)<;>simp
def AY(l:List M.aK)(k:Nat):Bool:=(l[k]?).any Ai&&(decide (k=0)||(l[k-1]?).any λy=>(l[k]?).any λx=>uF y x)
def pB(s:M.aH):Bool:=(List.range s.Y0.length).all (AY s.Y0)&&decide ((s.Y0.length:Int)<=9)
theorem AZ{s:M.aH}(J:s.ok)(hz:∀b∈s.Y0,M.YY.sz b.bG.Zf<=1048576):cC s=some (pB s):=by
 have hm:=le_max J.Y0.1
 unfold cC pB
 rw[uG (L:=eU s) (g:=AY s.Y0) (F:=some false) (E:=some (decide ((s.Y0.length:Int)<=9))) J.Y0.1 (λn k C=> ?_) (λn=> ?_),aW]
 ·have U:=J.Y0.2 _ (qG C)
  have I:M.YY.sz s.Y0[k].bG.Zf<=1048576:=hz _ (qG C)
  simp only[eU]
  rw[if_pos (aY C),aN C,qA,bN qc,BP U I,qA]
  unfold AY
  rw[qF C]
  generalize eU s n ((k+1:Nat):Int)=Z
  by_cases h0:k=0
  ·subst h0;simp only[Option.any_some];cases Ai s.Y0[0]<;>simp
  ·have e:i64.wrap ((k:Int)-1)=((k-1:Nat):Int):=by rw[bT qc qc];omega
   have j:k-1<s.Y0.length:=by omega
   rw[if_pos (c:=(decide ((k:Int)>0))=true) qd,e,aN j,qA,C6,qA,qF j]
   simp only[Option.any_some,h0,decide_false,Bool.false_or]
   cases Ai s.Y0[k]<;>cases uF s.Y0[k-1] s.Y0[k]<;>simp
 ·simp only[eU];rw[if_neg ql]
theorem Gd{s:M.aH}(C:s.ok)(I:M.aH.sz s<=1048576):cC s=some (pB s):=AZ C (λb j=>Ch (by have:=iE (f:=M.aK.sz) j;simp only[M.aH.sz]at I;omega))
theorem A9{s:M.aH}(J:s.ok)(hz:∀b∈s.Y0,M.YY.sz b.bG.Zf<=1048576):cD s=some (pB s):=by
 have hm:=le_max J.Y0.1
 unfold cD pB
 rw[uG (L:=eS s) (g:=AY s.Y0) (F:=some false) (E:=some (decide ((s.Y0.length:Int)<=9))) J.Y0.1 (λn k C=> ?_) (λn=> ?_),aW]
 ·have U:=J.Y0.2 _ (qG C)
  have I:M.YY.sz s.Y0[k].bG.Zf<=1048576:=hz _ (qG C)
  simp only[eS]
  rw[if_pos (aY C),aN C,qA,bN qc,Ge U I,qA]
  unfold AY
  rw[qF C]
  generalize eS s n ((k+1:Nat):Int)=Z
  by_cases h0:k=0
  ·subst h0;simp only[Option.any_some];cases Ai s.Y0[0]<;>simp
  ·have e:i64.wrap ((k:Int)-1)=((k-1:Nat):Int):=by rw[bT qc qc];omega
   have j:k-1<s.Y0.length:=by omega
   rw[if_pos (c:=(decide ((k:Int)>0))=true) qd,e,aN j,qA,Am,qA,qF j]
   simp only[Option.any_some,h0,decide_false,Bool.false_or]
   cases Ai s.Y0[k]<;>cases uF s.Y0[k-1] s.Y0[k]<;>simp
 ·simp only[eS];rw[if_neg ql]
theorem FZ{s:M.aH}(C:s.ok)(I:M.aH.sz s<=1048576):cD s=some (pB s):=A9 C (λb j=>Ch (by have:=iE (f:=M.aK.sz) j;simp only[M.aH.sz]at I;omega))
def yA:M.aK:=(⟨(⟨#[]⟩:ByteArray),(⟨#[]⟩:ByteArray),(⟨(⟨#[]⟩:ByteArray),0,0,0⟩:M.YZ),(⟨([]:List M.Y6)⟩:M.aE),(⟨(⟨(⟨#[]⟩:ByteArray),0,([]:List M.aA),([]:List M.aM)⟩:M.YY),([]:List Int),0⟩:M.bG),(⟨(⟨(⟨#[]⟩:ByteArray),([]:List M.Zd),0⟩:M.aA),0,(⟨(⟨0,0,([]:List M.aV)⟩:M.aF),0,0⟩:M.Ze)⟩:M.aD),0,false⟩:M.aK)
def CS(a b:ByteArray)(d:Int):M.aK:=(⟨a,b,(⟨a,0,0,0⟩:M.YZ),(⟨([]:List M.Y6)⟩:M.aE),(⟨(⟨(⟨#[97,112,112]⟩:ByteArray),1,[(⟨(⟨#[110,111,116,101,115]⟩:ByteArray),([]:List M.Zd),0⟩:M.aA)],([]:List M.aM)⟩:M.YY),([]:List Int),0⟩:M.bG),(⟨(⟨(⟨#[110,111,116,101,115]⟩:ByteArray),([]:List M.Zd),0⟩:M.aA),0,(⟨(⟨d,1,([]:List M.aV)⟩:M.aF),0,0⟩:M.Ze)⟩:M.aD),0,false⟩:M.aK)
theorem tD:inI 0:=by unfold inI;omega
theorem Og:inI 1:=by unfold inI;omega
theorem T6(n:Nat)(h:n<=1048576):n<=maxLen:=by unfold maxLen;omega
theorem sz0:((⟨#[]⟩:ByteArray)).size<=maxLen:=T6 _ qf
theorem sz5:((⟨#[110,111,116,101,115]⟩:ByteArray)).size<=maxLen:=T6 _ qf
theorem sz3:((⟨#[97,112,112]⟩:ByteArray)).size<=maxLen:=T6 _ qf
theorem Rh{d:Int}(n:Int)(C:inI d)(j:inI n):M.aF.ok (⟨d,n,([]:List M.aV)⟩:M.aF):=⟨C,j,⟨qe,qe⟩⟩
theorem NR:yA.ok:=⟨sz0,sz0,⟨sz0,tD,tD,tD⟩,⟨⟨by simp[yA],by simp[yA]⟩⟩,⟨⟨sz0,tD,⟨by simp[yA],by simp[yA]⟩,⟨by simp[yA],by simp[yA]⟩⟩,⟨by simp[yA],by simp[yA]⟩,tD⟩,⟨⟨sz0,⟨by simp[yA],by simp[yA]⟩,tD⟩,tD,⟨⟨tD,tD,⟨by simp[yA],by simp[yA]⟩⟩,tD,tD⟩⟩,tD⟩
theorem OL:M.aA.ok (⟨(⟨#[110,111,116,101,115]⟩:ByteArray),([]:List M.Zd),0⟩:M.aA):=⟨sz5,⟨qe,qe⟩,tD⟩
theorem L1{a b:ByteArray}{d:Int}(j:a.size<=maxLen)(I:b.size<=maxLen)(J:inI d):(CS a b d).ok:=
 ⟨j,I,⟨j,tD,tD,tD⟩,⟨⟨by simp[CS],by simp[CS]⟩⟩,⟨⟨sz3,Og,⟨T6 _ (by simp[CS]),λy C=>by simp only[CS,List.mem_cons,qO,or_false]at C;subst C;exact OL⟩,⟨by simp[CS],by simp[CS]⟩⟩,⟨by simp[CS],by simp[CS]⟩,tD⟩,⟨OL,tD,⟨Rh 1 J Og,tD,tD⟩⟩,tD⟩
theorem PW(a b:ByteArray)(d:Int):M.YY.sz (CS a b d).bG.Zf<=1048576:=by simp only[CS];decide
def SL(a b:ByteArray)(d:Int):M.aK×Bool:=if oI (⟨d,1,([]:List M.aV)⟩:M.aF)=true then if Ai (CS a b d)=true then(CS a b d,true)else(yA,false)else(yA,false)
theorem Gg{a b:ByteArray}{d:Int}(J:a.size<=maxLen)(I:b.size<=maxLen)(C:inI d):pE a b d=some (SL a b d):=by
 unfold pE kU SL
 rw[mJ (Rh 1 C Og),qA]
 cases hn:oI (⟨d,1,([]:List M.aV)⟩:M.aF)with
 |false=>simp[yA]
 |true=>
  have j:=BP (L1 J I C) (PW a b d)
  unfold CS at j
  simp only[qB,qD,if_false,qA,j,if_true]
  unfold CS
  generalize Ai _=c
  cases c<;>simp[yA]
theorem cH(x:Int):inI (i64.wrap x):=by unfold inI;rw[IntKind.wrap_i64];omega
def xG(x y:Int):Bool:=x==y
theorem Kh{xs ys:List Int}(I:xs.length<=maxLen):oZ xs ys=some (eqL xG xs ys):=by
 have J:=le_max I
 unfold oZ
 rw[CP (f:=xG) I (E:=some true) (λn k C j=>by
  simp only[gY]
  rw[if_pos (aY C),aN C,aN j,qA,qA,bN qc]
  first|rw[iG];rfl|rw[yX];rfl) (λn=>by
  simp only[gY]
  rw[if_neg ql]),aW,Bool.and_true]
def Ee(x y:M.Field):Bool:=(x.Name.toList==y.Name.toList)&&(x.N==y.N)
theorem Jg{xs ys:List M.Field}(I:xs.length<=maxLen):nN xs ys=some (eqL Ee xs ys):=by
 have J:=le_max I
 unfold nN
 rw[CP (f:=Ee) I (E:=some true) (λn k C j=>by
  simp only[gI]
  rw[if_pos (aY C),aN C,aN j,qA,qA,bN qc]
  first|rw[iG];rfl|rw[yX];rfl) (λn=>by
  simp only[gI]
  rw[if_neg ql]),aW,Bool.and_true]
def tB(x y:M.aM):Bool:=(x.aA.toList==y.aA.toList)&&(x.Field.toList==y.Field.toList)
theorem FQ{xs ys:List M.aM}(I:xs.length<=maxLen):kJ xs ys=some (eqL tB xs ys):=by
 have J:=le_max I
 unfold kJ
 rw[CP (f:=tB) I (E:=some true) (λn k C j=>by
  simp only[eL]
  rw[if_pos (aY C),aN C,aN j,qA,qA,bN qc]
  first|rw[iG];rfl|rw[yX];rfl) (λn=>by
  simp only[eL]
  rw[if_neg ql]),aW,Bool.and_true]
def CG(x y:M.aV):Bool:=(x.Zg==y.Zg)&&((x.ZI==y.ZI)&&((x.Key.Zi==y.Key.Zi)&&((x.Key.N==y.Key.N)&&((x.Key.Zp.toList==y.Key.Zp.toList)&&((x.Field.toList==y.Field.toList)&&(x.N==y.N))))))
theorem IF{xs ys:List M.aV}(I:xs.length<=maxLen):nJ xs ys=some (eqL CG xs ys):=by
 have J:=le_max I
 unfold nJ
 rw[CP (f:=CG) I (E:=some true) (λn k C j=>by
  simp only[gF]
  rw[if_pos (aY C),aN C,aN j,qA,qA,bN qc]
  first|rw[iG];rfl|rw[yX];rfl) (λn=>by
  simp only[gF]
  rw[if_neg ql]),aW,Bool.and_true]
theorem DX{p:M.Zb->M.Zb->Option Bool}{f:M.Zb->M.Zb->Bool}{xs ys:List M.Zb}(I:xs.length<=maxLen)(J:∀x∈xs,∀y∈ys,p x y=some (f x y)):hU xs ys p=some (eqL f xs ys):=by
 have U:=le_max I
 unfold hU
 rw[CP (f:=f) I (E:=some true) (λn k C j=>by
  simp only[dM]
  rw[if_pos (aY C),aN C,aN j,qA,qA,bN qc]
  rw[J _ (qG C) _ (qG j),qA,iG]) (λn=>by
  simp only[dM]
  rw[if_neg ql]),aW,Bool.and_true]
theorem EV{p:M.Y6->M.Y6->Option Bool}{f:M.Y6->M.Y6->Bool}{xs ys:List M.Y6}(I:xs.length<=maxLen)(J:∀x∈xs,∀y∈ys,p x y=some (f x y)):jF xs ys p=some (eqL f xs ys):=by
 have U:=le_max I
 unfold jF
 rw[CP (f:=f) I (E:=some true) (λn k C j=>by
  simp only[eE]
  rw[if_pos (aY C),aN C,aN j,qA,qA,bN qc]
  rw[J _ (qG C) _ (qG j),qA,iG]) (λn=>by
  simp only[eE]
  rw[if_neg ql]),aW,Bool.and_true]
theorem F6{p:M.Zd->M.Zd->Option Bool}{f:M.Zd->M.Zd->Bool}{xs ys:List M.Zd}(I:xs.length<=maxLen)(J:∀x∈xs,∀y∈ys,p x y=some (f x y)):jY xs ys p=some (eqL f xs ys):=by
 have U:=le_max I
 unfold jY
 rw[CP (f:=f) I (E:=some true) (λn k C j=>by
  simp only[eM]
  rw[if_pos (aY C),aN C,aN j,qA,qA,bN qc]
  rw[J _ (qG C) _ (qG j),qA,iG]) (λn=>by
  simp only[eM]
  rw[if_neg ql]),aW,Bool.and_true]
theorem Ez{p:M.aA->M.aA->Option Bool}{f:M.aA->M.aA->Bool}{xs ys:List M.aA}(I:xs.length<=maxLen)(J:∀x∈xs,∀y∈ys,p x y=some (f x y)):jM xs ys p=some (eqL f xs ys):=by
 have U:=le_max I
 unfold jM
 rw[CP (f:=f) I (E:=some true) (λn k C j=>by
  simp only[eC]
  rw[if_pos (aY C),aN C,aN j,qA,qA,bN qc]
  rw[J _ (qG C) _ (qG j),qA,iG]) (λn=>by
  simp only[eC]
  rw[if_neg ql]),aW,Bool.and_true]
theorem D2{p:M.aK->M.aK->Option Bool}{f:M.aK->M.aK->Bool}{xs ys:List M.aK}(I:xs.length<=maxLen)(J:∀x∈xs,∀y∈ys,p x y=some (f x y)):hY xs ys p=some (eqL f xs ys):=by
 have U:=le_max I
 unfold hY
 rw[CP (f:=f) I (E:=some true) (λn k C j=>by
  simp only[dL]
  rw[if_pos (aY C),aN C,aN j,qA,qA,bN qc]
  rw[J _ (qG C) _ (qG j),qA,iG]) (λn=>by
  simp only[dL]
  rw[if_neg ql]),aW,Bool.and_true]
theorem yB{a b:List Int}(C:okB a)(j:okB b):lI a b=some (eqL xG a b):=by unfold lI;rw[BD C.2,BD j.2,qA,qA,KO C.2 j.2];rfl
theorem A8{a b:List Int}(j:okB a):nX a b=some (eqL xG a b):=by unfold nX;rw[Kh j.1,qA]
def Ap(x y:M.Y7):Bool:=(x.ZC==y.ZC)&&((x.ZA==y.ZA)&&((x.Y2==y.Y2)&&((x.ZF==y.ZF)&&eqL xG x.ZE y.ZE)))
theorem Cw{a b:M.Y7}(C:a.ok)(j:b.ok):mC a b=some (Ap a b):=by simp only[mC,yB C.ZE j.ZE,qA,aW,wX,pC,Ap]
theorem B3{a b:M.Y7}(j:a.ok):mH a b=some (Ap a b):=by simp only[mH,A8 j.ZE,qA,aW,wX,pC,Ap];ac_rfl
def BU(x y:M.Zb):Bool:=(x.Zh.toList==y.Zh.toList)&&((x.Zy.toList==y.Zy.toList)&&Ap x.Y7 y.Y7)
def H2(x y:M.Y6):Bool:=(x.Y2==y.Y2)&&eqL BU x.Y8 y.Y8
def Ce(x y:M.aE):Bool:=eqL H2 x.Y1 y.Y1
theorem El{a b:M.Zb}(j:a.ok):mL a b=some (BU a b):=by simp only[mL,B3 j.Y7,qA,aW,wX,pC,BU]
theorem DZ{a b:M.Y6}(j:a.ok):mW a b=some (H2 a b):=by simp only[mW,DX (f:=BU) j.Y8.1 (λx C y I=>El (j.Y8.2 x C)),qA,aW,wX,pC,H2]
theorem B2{a b:M.aE}(j:a.ok):mB a b=some (Ce a b):=by simp only[mB,EV (f:=H2) j.Y1.1 (λx C y I=>DZ (j.Y1.2 x C)),qA,aW,wX,pC,Ce]
theorem Dy{x y:M.Y6}(I:x.ok)(hy:y.ok)(E:Int->Option Bool)(J:Option Bool)(U:∀v,E v=J):(if((List.length x.Y8:Int) !=(List.length y.Y8:Int))=true then some false else eF x y E fuel 0)=if eqL BU x.Y8 y.Y8=true then J else some false:=by have hm:=le_max I.Y8.1;refine CP (f:=BU) I.Y8.1 (λn k C j=> ?_) (λn=> ?_);(simp only[eF];rw[if_pos (aY C),aN C,aN j,qA,qA,bN qc,Cw (I.Y8.2 _ (qG C)).Y7 (hy.Y8.2 _ (qG j)).Y7,qA];simp only[iG,OJ];rfl);·simp only[eF];rw[if_neg ql,U]
theorem Cm{a b:M.aE}(I:a.ok)(J:b.ok):mE a b=some (Ce a b):=by have U:=le_max I.Y1.1;unfold mE;rw[CP (f:=H2) I.Y1.1 (E:=some true) (λn k C j=> ?_) (λn=> ?_),aW,Bool.and_true];(rfl);(simp only[fP];rw[if_pos (aY C),aN C,aN j,qA,qA,bN qc,Dy (I.Y1.2 _ (qG C)) (J.Y1.2 _ (qG j)) _ _ (λv=>rfl)];simp only[yX,OJ];rfl);·simp only[fP];rw[if_neg ql]
def GH(x y:M.aC):Bool:=eqL Ee x.Y4 y.Y4
theorem DB{a b:M.aC}(j:a.ok):oM a b=some (GH a b):=by simp only[oM,Jg j.Y4.1,qA,GH]
theorem Du{a b:M.aC}(C:a.ok):oR a b=some (GH a b):=by have J:=le_max C.Y4.1;unfold oR;rw[CP (f:=Ee) C.Y4.1 (E:=some true) (λn k I j=> ?_) (λn=> ?_),aW,Bool.and_true];(rfl);(simp only[gZ];rw[if_pos (aY I),aN I,aN j,qA,qA,bN qc,iG];rfl);·simp only[gZ];rw[if_neg ql]
def T4(x y:M.Key):Bool:=(x.Zi==y.Zi)&&((x.N==y.N)&&(x.Zp.toList==y.Zp.toList))
def Lg(x y:M.Zd):Bool:=T4 x.Key y.Key&&GH x.aC y.aC
def Cd(x y:M.aA):Bool:=(x.Name.toList==y.Name.toList)&&((x.Zn==y.Zn)&&eqL Lg x.Y3 y.Y3)
theorem E4{a b:M.Zd}(j:a.ok):oE a b=some (Lg a b):=by simp only[oE,DB j.aC,qA,aW,wX,pC,Lg,T4]
theorem AE{a b:M.aA}(j:a.ok):gS a b=some (Cd a b):=by simp only[gS,F6 (f:=Lg) j.Y3.1 (λx C y I=>E4 (j.Y3.2 x C)),qA,aW,wX,pC,Cd]
theorem AF{a b:M.aA}(j:a.ok):mT a b=some (Cd a b):=by have J:=le_max j.Y3.1;unfold mT;rw[CP (f:=Lg) j.Y3.1 (E:=some true) (λn k I C=> ?_) (λn=> ?_),aW,Bool.and_true,pC,wX];(rfl);(simp only[jD];rw[if_pos (aY I),aN I,aN C,qA,qA,bN qc,Du (j.Y3.2 _ (qG I)).aC,qA];simp only[iG,OJ];rfl);·simp only[jD];rw[if_neg ql]
def Ah(x y:M.YY):Bool:=(x.Name.toList==y.Name.toList)&&((x.Y2==y.Y2)&&(eqL Cd x.Y5 y.Y5&&eqL tB x.Za y.Za))
end Go.Proofs.YtipmihbgjolaaaaGreat.gen
