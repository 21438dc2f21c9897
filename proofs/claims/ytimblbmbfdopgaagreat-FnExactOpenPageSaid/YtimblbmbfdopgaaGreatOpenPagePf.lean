/-
  Helper text. No conditions.
-/
import Derived.Test.YtimblbmbfdopgaaGreatOpenPagePe
set_option linter.unusedVariables false
set_option linter.unusedSimpArgs false
namespace Go.Proofs.YtimblbmbfdopgaaGreat.gen
open Go Go.Sh
theorem aKF {p:M.Registration} (hs:p.Site.size≤maxLen) : ∀(n k:Nat) (v:Int),k≤3→3-k<n → ∃r,bQ p n v (k:Int)=some r
 | 0,k,v,_,h=>by omega
 | n+1,k,v,h3,h=>by
  simp only [bQ]
  have hl:(List.length ([p.Active,p.Waiting,p.Installing]))=3:=rfl
  by_cases hk:k<3
  ·rw [if_pos (by simp;omega),aN (by rw [hl];exact hk),qA,cZ,qA,bF (by omega)]
   obtain ⟨r1,e1⟩:=aKF hs n (k+1) ([p.Active,p.Waiting,p.Installing][k]'(by rw [hl];exact hk)) (by omega) (by omega)
   obtain ⟨r2,e2⟩:=aKF hs n (k+1) v (by omega) (by omega)
   rw [e1,e2]
   repeat' split
   all_goals exact ⟨_,rfl⟩
  ·have:k=3:=by omega
   subst this
   rw [if_neg (by simp),dP hs]
   exact ⟨_,rfl⟩
theorem aKE {p:M.Registration} (hs:p.Site.size≤maxLen) : ∀(n:Nat) (v k:Int),0≤v→dC p n v k=bQ p n v k
 | 0,_,_,_=>rfl
 | n+1,v,k,hv=>by
  simp only [dC,bQ]
  rw [dP hs,dA hs]
  cases hx:idx ([p.Active,p.Waiting,p.Installing]) k with
  | none=>rfl
  | some x =>
   simp only [qA,cZ,bN]
   cases hi:inR x 0 1000000000000 with
   | false=>rfl
   | true =>
    have h0:0≤x:=by unfold inR at hi;simp at hi;exact hi.1
    by_cases e0:x=0
    ·subst e0
     have:(if (0:Int)>v then (0:Int) else v)=v:=by rw [if_neg (by omega)]
     rw [this,aKE hs n v _ hv]
     rfl
    ·by_cases e1:x≤v
     ·have e2:(decide (x≤v))=true:=by simpa using e1
      simp [e0,e1]
     ·have:(if x>v then x else v)=x:=by rw [if_pos (by omega)]
      rw [this,aKE hs n x _ h0]
      simp [e0,e1]
def aR6 (p:M.Registration):Bool:=(jE p).getD false
theorem aCb {p:M.Registration} (hp:p.ok):jE p=some (aR6 p):=by
 obtain ⟨r,e⟩:=aKF hp.Site fuel 0 0 (by omega) (by unfold fuel;omega)
 have e2:jE p=some r:=e
 unfold aR6
 rw [e2];rfl
theorem aEu {p:M.Registration} (hp:p.ok):rK p=some (aR6 p):=by
 rw [←aCb hp]
 exact aKE hp.Site fuel 0 0 (by omega)
end Go.Proofs.YtimblbmbfdopgaaGreat.gen
