/-
  Helper text. No conditions.
-/
import Derived.Test.YtidhkhdnjonjfaaGreatReadNotePd
set_option linter.unusedVariables false
set_option linter.unusedSimpArgs false
namespace Go.Proofs.YtidhkhdnjonjfaaGreat.gen
open Go Go.Sh
def sV (a:ByteArray) (x:M.aC):Bool:=x.Name.toList==a.toList
theorem xY {d:M.Database} {a:ByteArray} (hd:d.ok):fR d a=some (nO (sV a) d.Stores):=by
 have hm:=le_max hd.Stores.1
 unfold fR
 rw [findAll (L:=eV d a) (f:=sV a) (A:=fun i=>some (i:Int)) (E:=some (-1)) hd.Stores.1 (fun m k hk => ?_) (fun m => ?_),xV]
 ·simp only [eV]
  rw [if_pos (bD hk),aF hk,qA,bR (by omega)]
  rfl
 ·simp only [eV]
  rw [if_neg (by rw [aJ];simp)]
theorem xZ {d:M.Database} {a:ByteArray} (hd:d.ok):fS d a=some (nO (sV a) d.Stores):=by
 unfold fS
 rw [aCC (f:=sV a) hd.Stores.1 (fun x _=>by simp only [kS];rfl),qA]
def fW (a:ByteArray) (x:M.Field):Bool:=x.Name.toList==a.toList
def cA (r:M.aA) (a:ByteArray):Int×Bool:=match r.Fields.find? (fW a) with | some x=>(x.N,true) | none=>(0,false)
theorem aBw {r:M.aA} {a:ByteArray} (hm:r.Fields.length≤9223372036854775807) : ∀(n k:Nat),r.Fields.length-k<n→k≤r.Fields.length→iB r a n (k:Int)=some (match (r.Fields.drop k).find? (fW a) with | some x=>(x.N,true) | none=>(0,false))
 | 0,k,h,_=>by omega
 | n+1,k,h,hk=>by
  simp only [iB]
  rcases Nat.lt_or_ge k r.Fields.length with h1 | h1
  ·rw [if_pos (bD h1),aF h1,qA,bR (by omega),aBw hm n (k+1) (by omega) h1,qU h1,List.find?_cons]
   cases e:fW a r.Fields[k] with
   | true=>rw [if_pos (show (r.Fields[k].Name.toList==a.toList)=true from e)]
   | false=>rw [if_neg (by rw [show (r.Fields[k].Name.toList==a.toList)=false from e];simp)]
  ·have:k=r.Fields.length:=by omega
   subst this
   rw [if_neg (by rw [aJ];simp),qX]
   rfl
theorem gV {r:M.aA} {a:ByteArray} (hr:r.ok):dU r a=some (cA r a):=by
 have hm:=le_max hr.Fields.1
 have:=aBw (a:=a) hm fuel 0 (by unfold fuel;omega) (by omega)
 exact this
theorem eN {r:M.aA} {a:ByteArray} (hr:r.ok):dH r a=some (cA r a):=by
 unfold dH oT cA
 rw [zR (f:=fW a) hr.Fields.1 (fun x _=>by simp only [jX];rfl),qA,qA]
 by_cases h:nO (fW a) r.Fields<0
 ·rw [if_pos (by simpa using h)]
  have:r.Fields.find? (fW a)=none:=by
   have h2:=aEi (fW a) r.Fields
   rw [decide_eq_false (by omega)] at h2
   rw [List.find?_eq_none]
   intro x hx hf
   have h3:r.Fields.any (fW a)=true:=List.any_eq_true.2 ⟨x,hx,hf⟩
   rw [←h2] at h3
   cases h3
  rw [this]
 ·obtain ⟨k,e,hk⟩:=fV h
  rw [if_neg (by simpa using h),e,aF hk,qA]
  have e2:r.Fields.findIdx? (fW a)=some k:=by
   unfold nO at e
   cases e3:r.Fields.findIdx? (fW a) with
   | none=>rw [e3] at e;simp only at e;omega
   | some i=>rw [e3] at e;simp only at e;congr 1;omega
  have e4:=List.findIdx?_eq_some_iff_getElem.1 e2
  have:r.Fields.find? (fW a)=some r.Fields[k]:=by
   rw [List.find?_eq_some_iff_getElem]
   exact ⟨e4.2.1,k,hk,rfl,fun j hj=>by simpa using e4.2.2 j hj⟩
  rw [this]
def aBL (a:ByteArray) (x y:M.Item):Bool:=decide ((cA x.aA a).1<(cA y.aA a).1)||(((cA x.aA a).1==(cA y.aA a).1)&&decide (aY x.Key y.Key<0))
theorem aEr {x y:M.Item} {a:ByteArray} (hx:x.ok) (hy:y.ok):wR x y a=some (aBL a x y):=by
 unfold wR aBL
 simp only [gV hx.aA,gV hy.aA,lF hx.Key hy.Key,qA,lM]
 cases decide ((cA x.aA a).1<(cA y.aA a).1)<;>simp
theorem aBu {x y:M.Item} {a:ByteArray} (hx:x.ok) (hy:y.ok):lA x y a=some (aBL a x y):=by
 unfold lA aBL
 simp only [eN hx.aA,eN hy.aA,lD hx.Key hy.Key,qA,lM]
 cases decide ((cA x.aA a).1<(cA y.aA a).1)<;>simp
end Go.Proofs.YtidhkhdnjonjfaaGreat.gen
