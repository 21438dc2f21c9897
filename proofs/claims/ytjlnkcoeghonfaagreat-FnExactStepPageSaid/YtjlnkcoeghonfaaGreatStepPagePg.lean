/-
  Helper text. No conditions.
-/
import Derived.Test.YtjlnkcoeghonfaaGreatStepPagePf
set_option linter.all false
namespace Go.Proofs.YtjlnkcoeghonfaaGreat.gen
open Go Go.Sh
def Ch(a:ByteArray)(x:M.aD):Bool:=x.Name.toList==a.toList
theorem EX{d:M.aJb}{a:ByteArray}(j:d.ok):nE d a=some (mD (Ch a) d.aJm):=by have C:=le_max j.aJm.1;unfold nE;rw[findAll (L:=lE d a) (f:=Ch a) (A:=λi=>some (i:Int)) (E:=some (-1)) j.aJm.1 (λm k hk=> ?_) (λm=> ?_),pB];(simp only[lE];rw[if_pos (bE hk),aH hk,qA,bG jD];rfl);·simp only[lE];rw[if_neg jK]
theorem EY{d:M.aJb}{a:ByteArray}(j:d.ok):nF d a=some (mD (Ch a) d.aJm):=by unfold nF;rw[Lx (f:=Ch a) j.aJm.1 (λx _=>by simp only[uX];rfl),qA]
def nM(a:ByteArray)(x:M.Field):Bool:=x.Name.toList==a.toList
def dU(r:M.aA)(a:ByteArray):Int×Bool:=match r.aJi.find? (nM a)with|some x=>(x.N,true)|none=>(0,false)
theorem KS{r:M.aA}{a:ByteArray}(j:r.aJi.length<=9223372036854775807):∀(n k:Nat),r.aJi.length-k<n->k<=r.aJi.length->pM r a n (k:Int)=some (match(r.aJi.drop k).find? (nM a)with|some x=>(x.N,true)|none=>(0,false))
 |0,k,h,_=>by omega
 |n+1,k,h,hk=>by
  simp only[pM]
  rcases Nat.lt_or_ge k r.aJi.length with h1|h1
  ·rw[if_pos (bE h1),aH h1,qA,bG jD,KS j n (k+1) jD h1,qW h1,List.find?_cons]
   cases e:nM a r.aJi[k]with
   |true=>rw[if_pos (show(r.aJi[k].Name.toList==a.toList)=true from e)]
   |false=>rw[if_neg (by rw[show(r.aJi[k].Name.toList==a.toList)=false from e];simp)]
  ·have:k=r.aJi.length:=by omega
   subst this
   rw[if_neg jK,qZ]
   rfl
theorem oT{r:M.aA}{a:ByteArray}(C:r.ok):hJ r a=some (dU r a):=by have j:=le_max C.aJi.1;have:=KS (a:=a) j fuel 0 jI jD;exact this
theorem kL{r:M.aA}{a:ByteArray}(J:r.ok):gB r a=some (dU r a):=by
 unfold gB AP dU
 rw[GY (f:=nM a) J.aJi.1 (λx _=>by simp only[tE];rfl),qA,qA]
 by_cases h:mD (nM a) r.aJi<0
 ·rw[if_pos (by simpa using h)]
  have:r.aJi.find? (nM a)=none:=by have h2:=Km (nM a) r.aJi;rw[decide_eq_false jD]at h2;rw[List.find?_eq_none];intro x U C;have h3:r.aJi.any (nM a)=true:=List.any_eq_true.2 ⟨x,U,C⟩;rw[<-h2]at h3;cases h3
  rw[this]
 ·obtain⟨k,e,hk⟩:=eN h
  rw[if_neg (by simpa using h),e,aH hk,qA]
  have e2:r.aJi.findIdx? (nM a)=some k:=by
   unfold mD at e
   cases e3:r.aJi.findIdx? (nM a)with
   |none=>rw[e3]at e;simp only at e;omega
   |some i=>rw[e3]at e;simp only at e;congr 1;omega
  have e4:=List.findIdx?_eq_some_iff_getElem.1 e2
  have:r.aJi.find? (nM a)=some r.aJi[k]:=by rw[List.find?_eq_some_iff_getElem];exact⟨e4.2.1,k,hk,rfl,λj I=>by simpa using e4.2.2 j I⟩
  rw[this]
def JI(a:ByteArray)(x y:M.aJl):Bool:=decide ((dU x.aA a).1<(dU y.aA a).1)||(((dU x.aA a).1==(dU y.aA a).1)&&decide (bP x.Key y.Key<0))
theorem PX{x y:M.aJl}{a:ByteArray}(j:x.ok)(C:y.ok):Ee x y a=some (JI a x y):=by unfold Ee JI;simp only[oT j.aA,oT C.aA,vT j.Key C.Key,qA,bY];cases decide ((dU x.aA a).1<(dU y.aA a).1)<;>simp
theorem KL{x y:M.aJl}{a:ByteArray}(j:x.ok)(C:y.ok):vG x y a=some (JI a x y):=by unfold vG JI;simp only[kL j.aA,kL C.aA,vH j.Key C.Key,qA,bY];cases decide ((dU x.aA a).1<(dU y.aA a).1)<;>simp
