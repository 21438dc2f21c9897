/-
  Helper text. No conditions.
-/
import Derived.Test.YtidhkhdnjonjfaaGreatUpdateWorkerPe
set_option linter.unusedVariables false
set_option linter.unusedSimpArgs false
namespace Go.Proofs.YtidhkhdnjonjfaaGreat.gen
open Go Go.Sh
theorem aKo {p:M.Registration} (hs:p.Site.size≤maxLen) : ∀(n k:Nat) (v:Int),k≤3→3-k<n → ∃r,bL p n v (k:Int)=some r
 | 0,k,v,_,h=>by omega
 | n+1,k,v,h3,h=>by
  simp only [bL]
  have hl:(List.length ([p.Active,p.Waiting,p.Installing]))=3:=rfl
  by_cases hk:k<3
  ·rw [if_pos (by simp;omega),aM (by rw [hl];exact hk),qA,dC,qA,bC (by omega)]
   obtain ⟨r1,e1⟩:=aKo hs n (k+1) ([p.Active,p.Waiting,p.Installing][k]'(by rw [hl];exact hk)) (by omega) (by omega)
   obtain ⟨r2,e2⟩:=aKo hs n (k+1) v (by omega) (by omega)
   rw [e1,e2]
   repeat' split
   all_goals exact ⟨_,rfl⟩
  ·have:k=3:=by omega
   subst this
   rw [if_neg (by simp),eU hs]
   exact ⟨_,rfl⟩
theorem aKm {p:M.Registration} (hs:p.Site.size≤maxLen) : ∀(n:Nat) (v k:Int),0≤v→dG p n v k=bL p n v k
 | 0,_,_,_=>rfl
 | n+1,v,k,hv=>by
  simp only [dG,bL]
  rw [eU hs,dV hs]
  cases hx:idx ([p.Active,p.Waiting,p.Installing]) k with
  | none=>rfl
  | some x =>
   simp only [qA,dC,bP]
   cases hi:inR x 0 1000000000000 with
   | false=>rfl
   | true =>
    have h0:0≤x:=by unfold inR at hi;simp at hi;exact hi.1
    by_cases e0:x=0
    ·subst e0
     have:(if (0:Int)>v then (0:Int) else v)=v:=by rw [if_neg (by omega)]
     rw [this,aKm hs n v _ hv]
     rfl
    ·by_cases e1:x≤v
     ·have e2:(decide (x≤v))=true:=by simpa using e1
      simp [e0,e1]
     ·have:(if x>v then x else v)=x:=by rw [if_pos (by omega)]
      rw [this,aKm hs n x _ h0]
      simp [e0,e1]
def aMZ (p:M.Registration):Bool:=(cT p).getD false
theorem lL {p:M.Registration} (hp:p.ok):cT p=some (aMZ p):=by
 obtain ⟨r,e⟩:=aKo hp.Site fuel 0 0 (by omega) (by unfold fuel;omega)
 have e2:cT p=some r:=e
 unfold aMZ
 rw [e2];rfl
theorem rV {p:M.Registration} (hp:p.ok):gT p=some (aMZ p):=by
 rw [←lL hp]
 exact aKm hp.Site fuel 0 0 (by omega)
end Go.Proofs.YtidhkhdnjonjfaaGreat.gen
