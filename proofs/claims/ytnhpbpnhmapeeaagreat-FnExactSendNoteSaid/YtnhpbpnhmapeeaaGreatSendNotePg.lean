/-
  Helper text. No conditions.
-/
import Derived.Test.YtnhpbpnhmapeeaaGreatSendNotePf
namespace Go.Proofs.YtnhpbpnhmapeeaaGreat.gen
open Go Go.Sh
set_option linter.unusedVariables false
set_option linter.unusedSimpArgs false
def aFl (a:ByteArray) (x:M.aE):Bool:=x.Name.toList==a.toList
theorem aFw {d:M.Database} {a:ByteArray} (hd:d.ok):sV d a=some (aAM (aFl a) d.Stores):=by
 have hm:=le_max hd.Stores.1
 unfold sV
 rw [findAll (L:=hY d a) (f:=aFl a) (A:=fun i=>some (i:Int)) (E:=some (-1)) hd.Stores.1 (fun m k hk => ?_) (fun m => ?_),aAw]
 ·simp only [hY]
  rw [if_pos (bF hk),aQ hk,Option.bind_some,bH (by omega)]
  rfl
 ·simp only [hY]
  rw [if_neg (by rw [aT];simp)]
theorem aF0 {d:M.Database} {a:ByteArray} (hd:d.ok):sZ d a=some (aAM (aFl a) d.Stores):=by
 unfold sZ
 rw [aFQ (f:=aFl a) hd.Stores.1 (fun x _=>by simp only [oQ];rfl),Option.bind_some]
def jA (a:ByteArray) (x:M.Field):Bool:=x.Name.toList==a.toList
def oO (r:M.aH) (a:ByteArray):Int×Bool:=match r.Fields.find? (jA a) with | some x=>(x.N,true) | none=>(0,false)
theorem aE3 {r:M.aH} {a:ByteArray} (hm:r.Fields.length≤9223372036854775807) : ∀(n k:Nat),r.Fields.length-k<n→k≤r.Fields.length→kN r a n (k:Int)=some (match (r.Fields.drop k).find? (jA a) with | some x=>(x.N,true) | none=>(0,false))
 | 0,k,h,_=>by omega
 | n+1,k,h,hk=>by
  simp only [kN]
  rcases Nat.lt_or_ge k r.Fields.length with h1 | h1
  ·rw [if_pos (bF h1),aQ h1,Option.bind_some,bH (by omega),aE3 hm n (k+1) (by omega) h1,List.drop_eq_getElem_cons h1,List.find?_cons]
   cases e:jA a r.Fields[k] with
   | true=>rw [if_pos (show (r.Fields[k].Name.toList==a.toList)=true from e)]
   | false=>rw [if_neg (by rw [show (r.Fields[k].Name.toList==a.toList)=false from e];simp)]
  ·have:k=r.Fields.length:=by omega
   subst this
   rw [if_neg (by rw [aT];simp),List.drop_length]
   rfl
theorem wA {r:M.aH} {a:ByteArray} (hr:r.ok):kA r a=some (oO r a):=by
 have hm:=le_max hr.Fields.1
 have:=aE3 (a:=a) hm fuel 0 (by unfold fuel;omega) (by omega)
 exact this
theorem nH {r:M.aH} {a:ByteArray} (hr:r.ok):iN r a=some (oO r a):=by
 unfold iN uV oO
 rw [aCV (f:=jA a) hr.Fields.1 (fun x _=>by simp only [nS];rfl),Option.bind_some,Option.bind_some]
 by_cases h:aAM (jA a) r.Fields<0
 ·rw [if_pos (by simpa using h)]
  have:r.Fields.find? (jA a)=none:=by
   have h2:=aIR (jA a) r.Fields
   rw [decide_eq_false (by omega)] at h2
   rw [List.find?_eq_none]
   intro x hx hf
   have h3:r.Fields.any (jA a)=true:=List.any_eq_true.2 ⟨x,hx,hf⟩
   rw [←h2] at h3
   cases h3
  rw [this]
 ·obtain ⟨k,e,hk⟩:=oZ h
  rw [if_neg (by simpa using h),e,aQ hk,Option.bind_some]
  have e2:r.Fields.findIdx? (jA a)=some k:=by
   unfold aAM at e
   cases e3:r.Fields.findIdx? (jA a) with
   | none=>rw [e3] at e;simp only at e;omega
   | some i=>rw [e3] at e;simp only at e;congr 1;omega
  have e4:=List.findIdx?_eq_some_iff_getElem.1 e2
  have:r.Fields.find? (jA a)=some r.Fields[k]:=by
   rw [List.find?_eq_some_iff_getElem]
   exact ⟨e4.2.1,k,hk,rfl,fun j hj=>by simpa using e4.2.2 j hj⟩
  rw [this]
def aEA (a:ByteArray) (x y:M.Item):Bool:=decide ((oO x.aH a).1<(oO y.aH a).1)||(((oO x.aH a).1==(oO y.aH a).1)&&decide (dU x.Key y.Key<0))
theorem aIX {x y:M.Item} {a:ByteArray} (hx:x.ok) (hy:y.ok):aA8 x y a=some (aEA a x y):=by
 unfold aA8 aEA
 simp only [wA hx.aH,wA hy.aH,aA6 hx.Key hy.Key,Option.bind_some,fX]
 cases decide ((oO x.aH a).1<(oO y.aH a).1)<;>simp
theorem aEy {x y:M.Item} {a:ByteArray} (hx:x.ok) (hy:y.ok):pB x y a=some (aEA a x y):=by
 unfold pB aEA
 simp only [nH hx.aH,nH hy.aH,aAo hx.Key hy.Key,Option.bind_some,fX]
 cases decide ((oO x.aH a).1<(oO y.aH a).1)<;>simp
end Go.Proofs.YtnhpbpnhmapeeaaGreat.gen
