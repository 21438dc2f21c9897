/-
  Helper text. No conditions.
-/
import Derived.Test.YtnhpbpnhmapeeaaGreatClosePagePf
namespace Go.Proofs.YtnhpbpnhmapeeaaGreat.gen
open Go Go.Sh
set_option linter.unusedVariables false
set_option linter.unusedSimpArgs false
def aFe (a:ByteArray) (x:M.aH):Bool:=x.Name.toList==a.toList
theorem aFp {d:M.Database} {a:ByteArray} (hd:d.ok):sJ d a=some (aBj (aFe a) d.Stores):=by
 have hm:=le_max hd.Stores.1
 unfold sJ
 rw [findAll (L:=iB d a) (f:=aFe a) (A:=fun i=>some (i:Int)) (E:=some (-1)) hd.Stores.1 (fun m k hk => ?_) (fun m => ?_),tT]
 ·simp only [iB]
  rw [if_pos (aZ hk),aO hk,Option.bind_some,bB (by omega)]
  rfl
 ·simp only [iB]
  rw [if_neg (by rw [aP];simp)]
theorem aFu {d:M.Database} {a:ByteArray} (hd:d.ok):sO d a=some (aBj (aFe a) d.Stores):=by
 unfold sO
 rw [aFF (f:=aFe a) hd.Stores.1 (fun x _=>by simp only [oF];rfl),Option.bind_some]
def aAf (a:ByteArray) (x:M.Field):Bool:=x.Name.toList==a.toList
def oD (r:M.aU) (a:ByteArray):Int×Bool:=match r.Fields.find? (aAf a) with | some x=>(x.N,true) | none=>(0,false)
theorem aEj {r:M.aU} {a:ByteArray} (hm:r.Fields.length≤9223372036854775807) : ∀(n k:Nat),r.Fields.length-k<n→k≤r.Fields.length→kM r a n (k:Int)=some (match (r.Fields.drop k).find? (aAf a) with | some x=>(x.N,true) | none=>(0,false))
 | 0,k,h,_=>by omega
 | n+1,k,h,hk=>by
  simp only [kM]
  rcases Nat.lt_or_ge k r.Fields.length with h1 | h1
  ·rw [if_pos (aZ h1),aO h1,Option.bind_some,bB (by omega),aEj hm n (k+1) (by omega) h1,List.drop_eq_getElem_cons h1,List.find?_cons]
   cases e:aAf a r.Fields[k] with
   | true=>rw [if_pos (show (r.Fields[k].Name.toList==a.toList)=true from e)]
   | false=>rw [if_neg (by rw [show (r.Fields[k].Name.toList==a.toList)=false from e];simp)]
  ·have:k=r.Fields.length:=by omega
   subst this
   rw [if_neg (by rw [aP];simp),List.drop_length]
   rfl
theorem vQ {r:M.aU} {a:ByteArray} (hr:r.ok):kA r a=some (oD r a):=by
 have hm:=le_max hr.Fields.1
 have:=aEj (a:=a) hm fuel 0 (by unfold fuel;omega) (by omega)
 exact this
theorem mW {r:M.aU} {a:ByteArray} (hr:r.ok):iQ r a=some (oD r a):=by
 unfold iQ aBA oD
 rw [aFB (f:=aAf a) hr.Fields.1 (fun x _=>by simp only [sA];rfl),Option.bind_some,Option.bind_some]
 by_cases h:aBj (aAf a) r.Fields<0
 ·rw [if_pos (by simpa using h)]
  have:r.Fields.find? (aAf a)=none:=by
   have h2:=aIM (aAf a) r.Fields
   rw [decide_eq_false (by omega)] at h2
   rw [List.find?_eq_none]
   intro x hx hf
   have h3:r.Fields.any (aAf a)=true:=List.any_eq_true.2 ⟨x,hx,hf⟩
   rw [←h2] at h3
   cases h3
  rw [this]
 ·obtain ⟨k,e,hk⟩:=aEH h
  rw [if_neg (by simpa using h),e,aO hk,Option.bind_some]
  have e2:r.Fields.findIdx? (aAf a)=some k:=by
   unfold aBj at e
   cases e3:r.Fields.findIdx? (aAf a) with
   | none=>rw [e3] at e;simp only at e;omega
   | some i=>rw [e3] at e;simp only at e;congr 1;omega
  have e4:=List.findIdx?_eq_some_iff_getElem.1 e2
  have:r.Fields.find? (aAf a)=some r.Fields[k]:=by
   rw [List.find?_eq_some_iff_getElem]
   exact ⟨e4.2.1,k,hk,rfl,fun j hj=>by simpa using e4.2.2 j hj⟩
  rw [this]
def aDh (a:ByteArray) (x y:M.Item):Bool:=decide ((oD x.aU a).1<(oD y.aU a).1)||(((oD x.aU a).1==(oD y.aU a).1)&&decide (jD x.Key y.Key<0))
theorem aIS {x y:M.Item} {a:ByteArray} (hx:x.ok) (hy:y.ok):aA2 x y a=some (aDh a x y):=by
 unfold aA2 aDh
 simp only [vQ hx.aU,vQ hy.aU,aBw hx.Key hy.Key,Option.bind_some,bP]
 cases decide ((oD x.aU a).1<(oD y.aU a).1)<;>simp
theorem aEd {x y:M.Item} {a:ByteArray} (hx:x.ok) (hy:y.ok):oN x y a=some (aDh a x y):=by
 unfold oN aDh
 simp only [mW hx.aU,mW hy.aU,aBu hx.Key hy.Key,Option.bind_some,bP]
 cases decide ((oD x.aU a).1<(oD y.aU a).1)<;>simp
end Go.Proofs.YtnhpbpnhmapeeaaGreat.gen
