/-
  Helper text. No conditions.
-/
import Derived.Test.YtbpbocchokbggaaGreatWriteNotePe
set_option linter.all false
namespace Go.Proofs.YtbpbocchokbggaaGreat.gen
open Go Go.Sh
theorem Mp{p:M.aEL}(j:p.aET.size<=maxLen):∀(n k:Nat) (v:Int),k<=3->3-k<n->∃r,cC p n v (k:Int)=some r
 |0,k,v,_,h=>by omega
 |n+1,k,v,h3,h=>by
  simp only[cC]
  have C:(List.length ([p.aE0,p.aEw,p.aEn]))=3:=rfl
  by_cases hk:k<3
  ·rw[if_pos jE,aM (by rw[C];exact hk),qA,fY,qA,bI jD]
   obtain⟨I,e1⟩:=Mp j n (k+1) ([p.aE0,p.aEw,p.aEn][k]'(by rw[C];exact hk)) jD jD
   obtain⟨J,e2⟩:=Mp j n (k+1) v jD jD
   rw[e1,e2]
   repeat' split
   all_goals exact⟨_,rfl⟩
  ·have:k=3:=by omega
   subst this
   rw[if_neg jF,gN j]
   exact⟨_,rfl⟩
theorem Mo{p:M.aEL}(j:p.aET.size<=maxLen):∀(n:Nat) (v k:Int),0<=v->dA p n v k=cC p n v k
 |0,_,_,_=>rfl
 |n+1,v,k,I=>by
  simp only[dA,cC]
  rw[gN j,fP j]
  cases hx:idx ([p.aE0,p.aEw,p.aEn]) k with
  |none=>rfl
  |some x=>
   simp only[qA,fY,dM]
   cases hi:inR x 0 1000000000000 with
   |false=>rfl
   |true=>
    have C:0<=x:=by unfold inR at hi;simp at hi;exact hi.1
    by_cases e0:x=0
    ·subst e0
     have:(if(0:Int)>v then(0:Int)else v)=v:=by rw[if_neg jD]
     rw[this,Mo j n v _ I]
     rfl
    ·by_cases e1:x<=v
     ·have e2:(decide (x<=v))=true:=by simpa using e1
      simp[e0,e1]
     ·have:(if x>v then x else v)=x:=by rw[if_pos jD]
      rw[this,Mo j n x _ C]
      simp[e0,e1]
def WV(p:M.aEL):Bool:=(kA p).getD false
theorem CO{p:M.aEL}(j:p.ok):kA p=some (WV p):=by obtain⟨r,e⟩:=Mp j.aET fuel 0 0 jD jI;have e2:kA p=some r:=e;unfold WV;rw[e2];rfl
theorem FF{p:M.aEL}(j:p.ok):rT p=some (WV p):=by rw[<-CO j];exact Mo j.aET fuel 0 0 jD
