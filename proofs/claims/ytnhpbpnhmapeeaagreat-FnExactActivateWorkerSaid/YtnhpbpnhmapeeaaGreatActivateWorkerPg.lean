/-
  Helper text. No conditions.
-/
import Derived.Test.YtnhpbpnhmapeeaaGreatActivateWorkerPf
namespace Go.Proofs.YtnhpbpnhmapeeaaGreat.gen
open Go Go.Sh
set_option linter.unusedVariables false
set_option linter.unusedSimpArgs false
def aF1 (a:ByteArray) (x:M.aH):Bool:=x.Name.toList==a.toList
theorem aGD {d:M.Database} {a:ByteArray} (hd:d.ok):tA d a=some (aBN (aF1 a) d.Stores):=by
 have hm:=le_max hd.Stores.1
 unfold tA
 rw [findAll (L:=iI d a) (f:=aF1 a) (A:=fun i=>some (i:Int)) (E:=some (-1)) hd.Stores.1 (fun m k hk => ?_) (fun m => ?_),xI]
 ·simp only [iI]
  rw [if_pos (aZ hk),aO hk,Option.bind_some,bD (by omega)]
  rfl
 ·simp only [iI]
  rw [if_neg (by rw [aP];simp)]
theorem aGI {d:M.Database} {a:ByteArray} (hd:d.ok):tF d a=some (aBN (aF1 a) d.Stores):=by
 unfold tF
 rw [aFe (f:=aF1 a) hd.Stores.1 (fun x _=>by simp only [oM];rfl),Option.bind_some]
def aAw (a:ByteArray) (x:M.Field):Bool:=x.Name.toList==a.toList
def oK (r:M.aU) (a:ByteArray):Int×Bool:=match r.Fields.find? (aAw a) with | some x=>(x.N,true) | none=>(0,false)
theorem aFA {r:M.aU} {a:ByteArray} (hm:r.Fields.length≤9223372036854775807) : ∀(n k:Nat),r.Fields.length-k<n→k≤r.Fields.length→kW r a n (k:Int)=some (match (r.Fields.drop k).find? (aAw a) with | some x=>(x.N,true) | none=>(0,false))
 | 0,k,h,_=>by omega
 | n+1,k,h,hk=>by
  simp only [kW]
  rcases Nat.lt_or_ge k r.Fields.length with h1 | h1
  ·rw [if_pos (aZ h1),aO h1,Option.bind_some,bD (by omega),aFA hm n (k+1) (by omega) h1,List.drop_eq_getElem_cons h1,List.find?_cons]
   cases e:aAw a r.Fields[k] with
   | true=>rw [if_pos (show (r.Fields[k].Name.toList==a.toList)=true from e)]
   | false=>rw [if_neg (by rw [show (r.Fields[k].Name.toList==a.toList)=false from e];simp)]
  ·have:k=r.Fields.length:=by omega
   subst this
   rw [if_neg (by rw [aP];simp),List.drop_length]
   rfl
theorem wI {r:M.aU} {a:ByteArray} (hr:r.ok):kG r a=some (oK r a):=by
 have hm:=le_max hr.Fields.1
 have:=aFA (a:=a) hm fuel 0 (by unfold fuel;omega) (by omega)
 exact this
theorem nD {r:M.aU} {a:ByteArray} (hr:r.ok):iZ r a=some (oK r a):=by
 unfold iZ aBY oK
 rw [aFZ (f:=aAw a) hr.Fields.1 (fun x _=>by simp only [sP];rfl),Option.bind_some,Option.bind_some]
 by_cases h:aBN (aAw a) r.Fields<0
 ·rw [if_pos (by simpa using h)]
  have:r.Fields.find? (aAw a)=none:=by
   have h2:=aGf (aAw a) r.Fields
   rw [decide_eq_false (by omega)] at h2
   rw [List.find?_eq_none]
   intro x hx hf
   have h3:r.Fields.any (aAw a)=true:=List.any_eq_true.2 ⟨x,hx,hf⟩
   rw [←h2] at h3
   cases h3
  rw [this]
 ·obtain ⟨k,e,hk⟩:=aBx h
  rw [if_neg (by simpa using h),e,aO hk,Option.bind_some]
  have e2:r.Fields.findIdx? (aAw a)=some k:=by
   unfold aBN at e
   cases e3:r.Fields.findIdx? (aAw a) with
   | none=>rw [e3] at e;simp only at e;omega
   | some i=>rw [e3] at e;simp only at e;congr 1;omega
  have e4:=List.findIdx?_eq_some_iff_getElem.1 e2
  have:r.Fields.find? (aAw a)=some r.Fields[k]:=by
   rw [List.find?_eq_some_iff_getElem]
   exact ⟨e4.2.1,k,hk,rfl,fun j hj=>by simpa using e4.2.2 j hj⟩
  rw [this]
def aEA (a:ByteArray) (x y:M.Item):Bool:=decide ((oK x.aU a).1<(oK y.aU a).1)||(((oK x.aU a).1==(oK y.aU a).1)&&decide (jH x.Key y.Key<0))
theorem aI0 {x y:M.Item} {a:ByteArray} (hx:x.ok) (hy:y.ok):aBJ x y a=some (aEA a x y):=by
 unfold aBJ aEA
 simp only [wI hx.aU,wI hy.aU,aCL hx.Key hy.Key,Option.bind_some,bM]
 cases decide ((oK x.aU a).1<(oK y.aU a).1)<;>simp
theorem aE4 {x y:M.Item} {a:ByteArray} (hx:x.ok) (hy:y.ok):pA x y a=some (aEA a x y):=by
 unfold pA aEA
 simp only [nD hx.aU,nD hy.aU,aCJ hx.Key hy.Key,Option.bind_some,bM]
 cases decide ((oK x.aU a).1<(oK y.aU a).1)<;>simp
end Go.Proofs.YtnhpbpnhmapeeaaGreat.gen
