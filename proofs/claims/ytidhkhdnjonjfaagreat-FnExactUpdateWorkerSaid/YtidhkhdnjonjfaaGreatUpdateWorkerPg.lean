/-
  Helper text. No conditions.
-/
import Derived.Test.YtidhkhdnjonjfaaGreatUpdateWorkerPf
set_option linter.unusedVariables false
set_option linter.unusedSimpArgs false
namespace Go.Proofs.YtidhkhdnjonjfaaGreat.gen
open Go Go.Sh
def aHl (a:ByteArray) (x:M.aJ):Bool:=x.Name.toList==a.toList
theorem aH0 {d:M.Database} {a:ByteArray} (hd:d.ok):wB d a=some (yK (aHl a) d.Stores):=by
 have hm:=le_max hd.Stores.1
 unfold wB
 rw [findAll (L:=iZ d a) (f:=aHl a) (A:=fun i=>some (i:Int)) (E:=some (-1)) hd.Stores.1 (fun m k hk => ?_) (fun m => ?_),uE]
 ·simp only [iZ]
  rw [if_pos (aY hk),aM hk,qA,bC (by omega)]
  rfl
 ·simp only [iZ]
  rw [if_neg (by rw [aO];simp)]
theorem aH5 {d:M.Database} {a:ByteArray} (hd:d.ok):wF d a=some (yK (aHl a) d.Stores):=by
 unfold wF
 rw [aHM (f:=aHl a) hd.Stores.1 (fun x _=>by simp only [rC];rfl),qA]
def aB2 (a:ByteArray) (x:M.Field):Bool:=x.Name.toList==a.toList
def pZ (r:M.aU) (a:ByteArray):Int×Bool:=match r.Fields.find? (aB2 a) with | some x=>(x.N,true) | none=>(0,false)
theorem aGk {r:M.aU} {a:ByteArray} (hm:r.Fields.length≤9223372036854775807) : ∀(n k:Nat),r.Fields.length-k<n→k≤r.Fields.length→lZ r a n (k:Int)=some (match (r.Fields.drop k).find? (aB2 a) with | some x=>(x.N,true) | none=>(0,false))
 | 0,k,h,_=>by omega
 | n+1,k,h,hk=>by
  simp only [lZ]
  rcases Nat.lt_or_ge k r.Fields.length with h1 | h1
  ·rw [if_pos (aY h1),aM h1,qA,bC (by omega),aGk hm n (k+1) (by omega) h1,qV h1,List.find?_cons]
   cases e:aB2 a r.Fields[k] with
   | true=>rw [if_pos (show (r.Fields[k].Name.toList==a.toList)=true from e)]
   | false=>rw [if_neg (by rw [show (r.Fields[k].Name.toList==a.toList)=false from e];simp)]
  ·have:k=r.Fields.length:=by omega
   subst this
   rw [if_neg (by rw [aO];simp),qY]
   rfl
theorem zB {r:M.aU} {a:ByteArray} (hr:r.ok):lJ r a=some (pZ r a):=by
 have hm:=le_max hr.Fields.1
 have:=aGk (a:=a) hm fuel 0 (by unfold fuel;omega) (by omega)
 exact this
theorem oM {r:M.aU} {a:ByteArray} (hr:r.ok):jV r a=some (pZ r a):=by
 unfold jV aCc pZ
 rw [aHG (f:=aB2 a) hr.Fields.1 (fun x _=>by simp only [vO];rfl),qA,qA]
 by_cases h:yK (aB2 a) r.Fields<0
 ·rw [if_pos (by simpa using h)]
  have:r.Fields.find? (aB2 a)=none:=by
   have h2:=aIP (aB2 a) r.Fields
   rw [decide_eq_false (by omega)] at h2
   rw [List.find?_eq_none]
   intro x hx hf
   have h3:r.Fields.any (aB2 a)=true:=List.any_eq_true.2 ⟨x,hx,hf⟩
   rw [←h2] at h3
   cases h3
  rw [this]
 ·obtain ⟨k,e,hk⟩:=vC h
  rw [if_neg (by simpa using h),e,aM hk,qA]
  have e2:r.Fields.findIdx? (aB2 a)=some k:=by
   unfold yK at e
   cases e3:r.Fields.findIdx? (aB2 a) with
   | none=>rw [e3] at e;simp only at e;omega
   | some i=>rw [e3] at e;simp only at e;congr 1;omega
  have e4:=List.findIdx?_eq_some_iff_getElem.1 e2
  have:r.Fields.find? (aB2 a)=some r.Fields[k]:=by
   rw [List.find?_eq_some_iff_getElem]
   exact ⟨e4.2.1,k,hk,rfl,fun j hj=>by simpa using e4.2.2 j hj⟩
  rw [this]
def aFl (a:ByteArray) (x y:M.Item):Bool:=decide ((pZ x.aU a).1<(pZ y.aU a).1)||(((pZ x.aU a).1==(pZ y.aU a).1)&&decide (kE x.Key y.Key<0))
theorem aKj {x y:M.Item} {a:ByteArray} (hx:x.ok) (hy:y.ok):aCO x y a=some (aFl a x y):=by
 unfold aCO aFl
 simp only [zB hx.aU,zB hy.aU,aDV hx.Key hy.Key,qA,bN]
 cases decide ((pZ x.aU a).1<(pZ y.aU a).1)<;>simp
theorem aGf {x y:M.Item} {a:ByteArray} (hx:x.ok) (hy:y.ok):rM x y a=some (aFl a x y):=by
 unfold rM aFl
 simp only [oM hx.aU,oM hy.aU,aDS hx.Key hy.Key,qA,bN]
 cases decide ((pZ x.aU a).1<(pZ y.aU a).1)<;>simp
end Go.Proofs.YtidhkhdnjonjfaaGreat.gen
