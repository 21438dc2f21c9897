/-
  Helper text. No conditions.
-/
import Derived.Test.YtbpbocchokbggaaGreatWriteNotePf
set_option linter.all false
namespace Go.Proofs.YtbpbocchokbggaaGreat.gen
open Go Go.Sh
def Ab(a:ByteArray)(x:M.aC):Bool:=x.Name.toList==a.toList
theorem CU{d:M.aEK}{a:ByteArray}(j:d.ok):kX d a=some (rY (Ab a) d.aEU):=by have C:=le_max j.aEU.1;unfold kX;rw[findAll (L:=iV d a) (f:=Ab a) (A:=λi=>some (i:Int)) (E:=some (-1)) j.aEU.1 (λm k hk=> ?_) (λm=> ?_),B2];(simp only[iV];rw[if_pos (bL hk),aM hk,qA,bI jD];rfl);·simp only[iV];rw[if_neg jK]
theorem CV{d:M.aEK}{a:ByteArray}(j:d.ok):kY d a=some (rY (Ab a) d.aEU):=by unfold kY;rw[Ix (f:=Ab a) j.aEU.1 (λx _=>by simp only[pZ];rfl),qA]
def lE(a:ByteArray)(x:M.Field):Bool:=x.Name.toList==a.toList
def fN(r:M.aA)(a:ByteArray):Int×Bool:=match r.aEN.find? (lE a)with|some x=>(x.N,true)|none=>(0,false)
theorem HT{r:M.aA}{a:ByteArray}(j:r.aEN.length<=9223372036854775807):∀(n k:Nat),r.aEN.length-k<n->k<=r.aEN.length->mL r a n (k:Int)=some (match(r.aEN.drop k).find? (lE a)with|some x=>(x.N,true)|none=>(0,false))
 |0,k,h,_=>by omega
 |n+1,k,h,hk=>by
  simp only[mL]
  rcases Nat.lt_or_ge k r.aEN.length with h1|h1
  ·rw[if_pos (bL h1),aM h1,qA,bI jD,HT j n (k+1) jD h1,qW h1,List.find?_cons]
   cases e:lE a r.aEN[k]with
   |true=>rw[if_pos (show(r.aEN[k].Name.toList==a.toList)=true from e)]
   |false=>rw[if_neg (by rw[show(r.aEN[k].Name.toList==a.toList)=false from e];simp)]
  ·have:k=r.aEN.length:=by omega
   subst this
   rw[if_neg jK,qZ]
   rfl
theorem oF{r:M.aA}{a:ByteArray}(C:r.ok):iF r a=some (fN r a):=by have j:=le_max C.aEN.1;have:=HT (a:=a) j fuel 0 jI jD;exact this
theorem kO{r:M.aA}{a:ByteArray}(J:r.ok):fW r a=some (fN r a):=by
 unfold fW xF fN
 rw[Ec (f:=lE a) J.aEN.1 (λx _=>by simp only[oS];rfl),qA,qA]
 by_cases h:rY (lE a) r.aEN<0
 ·rw[if_pos (by simpa using h)]
  have:r.aEN.find? (lE a)=none:=by have h2:=Ma (lE a) r.aEN;rw[decide_eq_false jD]at h2;rw[List.find?_eq_none];intro x U C;have h3:r.aEN.any (lE a)=true:=List.any_eq_true.2 ⟨x,U,C⟩;rw[<-h2]at h3;cases h3
  rw[this]
 ·obtain⟨k,e,hk⟩:=kN h
  rw[if_neg (by simpa using h),e,aM hk,qA]
  have e2:r.aEN.findIdx? (lE a)=some k:=by
   unfold rY at e
   cases e3:r.aEN.findIdx? (lE a)with
   |none=>rw[e3]at e;simp only at e;omega
   |some i=>rw[e3]at e;simp only at e;congr 1;omega
  have e4:=List.findIdx?_eq_some_iff_getElem.1 e2
  have:r.aEN.find? (lE a)=some r.aEN[k]:=by rw[List.find?_eq_some_iff_getElem];exact⟨e4.2.1,k,hk,rfl,λj I=>by simpa using e4.2.2 j I⟩
  rw[this]
def GF(a:ByteArray)(x y:M.aES):Bool:=decide ((fN x.aA a).1<(fN y.aA a).1)||(((fN x.aA a).1==(fN y.aA a).1)&&decide (bH x.Key y.Key<0))
theorem Mi{x y:M.aES}{a:ByteArray}(j:x.ok)(C:y.ok):Cd x y a=some (GF a x y):=by unfold Cd GF;simp only[oF j.aA,oF C.aA,rR j.Key C.Key,qA,fF];cases decide ((fN x.aA a).1<(fN y.aA a).1)<;>simp
theorem HN{x y:M.aES}{a:ByteArray}(j:x.ok)(C:y.ok):rF x y a=some (GF a x y):=by unfold rF GF;simp only[kO j.aA,kO C.aA,rK j.Key C.Key,qA,fF];cases decide ((fN x.aA a).1<(fN y.aA a).1)<;>simp
