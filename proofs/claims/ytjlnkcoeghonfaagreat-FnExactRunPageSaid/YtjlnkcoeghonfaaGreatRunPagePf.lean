/-
  Helper text. No conditions.
-/
import Derived.Test.YtjlnkcoeghonfaaGreatRunPagePe
set_option linter.all false
namespace Go.Proofs.YtjlnkcoeghonfaaGreat.gen
open Go Go.Sh
theorem P8{p:M.aJk}(j:p.aJr.size<=maxLen):∀(n k:Nat) (v:Int),k<=3->3-k<n->∃r,cJ p n v (k:Int)=some r
 |0,k,v,_,h=>by omega
 |n+1,k,v,h3,h=>by
  simp only[cJ]
  have C:(List.length ([p.aKT,p.aKN,p.aKI]))=3:=rfl
  by_cases hk:k<3
  ·rw[if_pos jE,aH (by rw[C];exact hk),qA,cG,qA,bG jD]
   obtain⟨I,e1⟩:=P8 j n (k+1) ([p.aKT,p.aKN,p.aKI][k]'(by rw[C];exact hk)) jD jD
   obtain⟨J,e2⟩:=P8 j n (k+1) v jD jD
   rw[e1,e2]
   repeat' split
   all_goals exact⟨_,rfl⟩
  ·have:k=3:=by omega
   subst this
   rw[if_neg jF,dG j]
   exact⟨_,rfl⟩
theorem P7{p:M.aJk}(j:p.aJr.size<=maxLen):∀(n:Nat) (v k:Int),0<=v->dR p n v k=cJ p n v k
 |0,_,_,_=>rfl
 |n+1,v,k,I=>by
  simp only[dR,cJ]
  rw[dG j,cT j]
  cases hx:idx ([p.aKT,p.aKN,p.aKI]) k with
  |none=>rfl
  |some x=>
   simp only[qA,cG,bR]
   cases hi:inR x 0 1000000000000 with
   |false=>rfl
   |true=>
    have C:0<=x:=by unfold inR at hi;simp at hi;exact hi.1
    by_cases e0:x=0
    ·subst e0
     have:(if(0:Int)>v then(0:Int)else v)=v:=by rw[if_neg jD]
     rw[this,P7 j n v _ I]
     rfl
    ·by_cases e1:x<=v
     ·have e2:(decide (x<=v))=true:=by simpa using e1
      simp[e0,e1]
     ·have:(if x>v then x else v)=x:=by rw[if_pos jD]
      rw[this,P7 j n x _ C]
      simp[e0,e1]
def aBB(p:M.aJk):Bool:=(lZ p).getD false
theorem EY{p:M.aJk}(j:p.ok):lZ p=some (aBB p):=by obtain⟨r,e⟩:=P8 j.aJr fuel 0 0 jD jI;have e2:lZ p=some r:=e;unfold aBB;rw[e2];rfl
theorem IU{p:M.aJk}(j:p.ok):vX p=some (aBB p):=by rw[<-EY j];exact P7 j.aJr fuel 0 0 jD
