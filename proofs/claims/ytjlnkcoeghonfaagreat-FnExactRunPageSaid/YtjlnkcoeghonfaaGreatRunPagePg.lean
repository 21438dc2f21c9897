/-
  Helper text. No conditions.
-/
import Derived.Test.YtjlnkcoeghonfaaGreatRunPagePf
set_option linter.all false
namespace Go.Proofs.YtjlnkcoeghonfaaGreat.gen
open Go Go.Sh
def Cl(a:ByteArray)(x:M.aD):Bool:=x.Name.toList==a.toList
theorem E3{d:M.aJj}{a:ByteArray}(j:d.ok):nG d a=some (mF (Cl a) d.aJw):=by have C:=le_max j.aJw.1;unfold nG;rw[findAll (L:=lG d a) (f:=Cl a) (A:=λi=>some (i:Int)) (E:=some (-1)) j.aJw.1 (λm k hk=> ?_) (λm=> ?_),pG];(simp only[lG];rw[if_pos (bE hk),aH hk,qA,bG jD];rfl);·simp only[lG];rw[if_neg jK]
theorem E5{d:M.aJj}{a:ByteArray}(j:d.ok):nH d a=some (mF (Cl a) d.aJw):=by unfold nH;rw[LG (f:=Cl a) j.aJw.1 (λx _=>by simp only[uZ];rfl),qA]
def nP(a:ByteArray)(x:M.Field):Bool:=x.Name.toList==a.toList
def dV(r:M.aC)(a:ByteArray):Int×Bool:=match r.aJq.find? (nP a)with|some x=>(x.N,true)|none=>(0,false)
theorem KY{r:M.aC}{a:ByteArray}(j:r.aJq.length<=9223372036854775807):∀(n k:Nat),r.aJq.length-k<n->k<=r.aJq.length->pR r a n (k:Int)=some (match(r.aJq.drop k).find? (nP a)with|some x=>(x.N,true)|none=>(0,false))
 |0,k,h,_=>by omega
 |n+1,k,h,hk=>by
  simp only[pR]
  rcases Nat.lt_or_ge k r.aJq.length with h1|h1
  ·rw[if_pos (bE h1),aH h1,qA,bG jD,KY j n (k+1) jD h1,qW h1,List.find?_cons]
   cases e:nP a r.aJq[k]with
   |true=>rw[if_pos (show(r.aJq[k].Name.toList==a.toList)=true from e)]
   |false=>rw[if_neg (by rw[show(r.aJq[k].Name.toList==a.toList)=false from e];simp)]
  ·have:k=r.aJq.length:=by omega
   subst this
   rw[if_neg jK,qZ]
   rfl
theorem pA{r:M.aC}{a:ByteArray}(C:r.ok):hP r a=some (dV r a):=by have j:=le_max C.aJq.1;have:=KY (a:=a) j fuel 0 jI jD;exact this
theorem kN{r:M.aC}{a:ByteArray}(J:r.ok):gB r a=some (dV r a):=by
 unfold gB AS dV
 rw[G7 (f:=nP a) J.aJq.1 (λx _=>by simp only[tG];rfl),qA,qA]
 by_cases h:mF (nP a) r.aJq<0
 ·rw[if_pos (by simpa using h)]
  have:r.aJq.find? (nP a)=none:=by have h2:=Ks (nP a) r.aJq;rw[decide_eq_false jD]at h2;rw[List.find?_eq_none];intro x U C;have h3:r.aJq.any (nP a)=true:=List.any_eq_true.2 ⟨x,U,C⟩;rw[<-h2]at h3;cases h3
  rw[this]
 ·obtain⟨k,e,hk⟩:=eN h
  rw[if_neg (by simpa using h),e,aH hk,qA]
  have e2:r.aJq.findIdx? (nP a)=some k:=by
   unfold mF at e
   cases e3:r.aJq.findIdx? (nP a)with
   |none=>rw[e3]at e;simp only at e;omega
   |some i=>rw[e3]at e;simp only at e;congr 1;omega
  have e4:=List.findIdx?_eq_some_iff_getElem.1 e2
  have:r.aJq.find? (nP a)=some r.aJq[k]:=by rw[List.find?_eq_some_iff_getElem];exact⟨e4.2.1,k,hk,rfl,λj I=>by simpa using e4.2.2 j I⟩
  rw[this]
def JO(a:ByteArray)(x y:M.aJt):Bool:=decide ((dV x.aC a).1<(dV y.aC a).1)||(((dV x.aC a).1==(dV y.aC a).1)&&decide (bP x.Key y.Key<0))
theorem P1{x y:M.aJt}{a:ByteArray}(j:x.ok)(C:y.ok):El x y a=some (JO a x y):=by unfold El JO;simp only[pA j.aC,pA C.aC,vW j.Key C.Key,qA,bY];cases decide ((dV x.aC a).1<(dV y.aC a).1)<;>simp
theorem KR{x y:M.aJt}{a:ByteArray}(j:x.ok)(C:y.ok):vK x y a=some (JO a x y):=by unfold vK JO;simp only[kN j.aC,kN C.aC,vM j.Key C.Key,qA,bY];cases decide ((dV x.aC a).1<(dV y.aC a).1)<;>simp
