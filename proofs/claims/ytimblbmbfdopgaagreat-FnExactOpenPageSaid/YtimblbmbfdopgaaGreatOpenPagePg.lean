/-
  Helper text. No conditions.
-/
import Derived.Test.YtimblbmbfdopgaaGreatOpenPagePf
set_option linter.unusedVariables false
set_option linter.unusedSimpArgs false
namespace Go.Proofs.YtimblbmbfdopgaaGreat.gen
open Go Go.Sh
def aHX (a:ByteArray) (x:M.aH):Bool:=x.Name.toList==a.toList
theorem aHg {d:M.Database} {a:ByteArray} (hd:d.ok):vZ d a=some (aAP (aHX a) d.Stores):=by
 have hm:=le_max hd.Stores.1
 unfold vZ
 rw [findAll (L:=iR d a) (f:=aHX a) (A:=fun i=>some (i:Int)) (E:=some (-1)) hd.Stores.1 (fun m k hk => ?_) (fun m => ?_),uB]
 ·simp only [iR]
  rw [if_pos (bB hk),aN hk,qA,bF (by omega)]
  rfl
 ·simp only [iR]
  rw [if_neg (by rw [aP];simp)]
theorem aHl {d:M.Database} {a:ByteArray} (hd:d.ok):wC d a=some (aAP (aHX a) d.Stores):=by
 unfold wC
 rw [aG8 (f:=aHX a) hd.Stores.1 (fun x _=>by simp only [pR];rfl),qA]
def aBz (a:ByteArray) (x:M.Field):Bool:=x.Name.toList==a.toList
def pP (r:M.aW) (a:ByteArray):Int×Bool:=match r.Fields.find? (aBz a) with | some x=>(x.N,true) | none=>(0,false)
theorem aGb {r:M.aW} {a:ByteArray} (hm:r.Fields.length≤9223372036854775807) : ∀(n k:Nat),r.Fields.length-k<n→k≤r.Fields.length→lS r a n (k:Int)=some (match (r.Fields.drop k).find? (aBz a) with | some x=>(x.N,true) | none=>(0,false))
 | 0,k,h,_=>by omega
 | n+1,k,h,hk=>by
  simp only [lS]
  rcases Nat.lt_or_ge k r.Fields.length with h1 | h1
  ·rw [if_pos (bB h1),aN h1,qA,bF (by omega),aGb hm n (k+1) (by omega) h1,qU h1,List.find?_cons]
   cases e:aBz a r.Fields[k] with
   | true=>rw [if_pos (show (r.Fields[k].Name.toList==a.toList)=true from e)]
   | false=>rw [if_neg (by rw [show (r.Fields[k].Name.toList==a.toList)=false from e];simp)]
  ·have:k=r.Fields.length:=by omega
   subst this
   rw [if_neg (by rw [aP];simp),List.drop_length]
   rfl
theorem yR {r:M.aW} {a:ByteArray} (hr:r.ok):lF r a=some (pP r a):=by
 have hm:=le_max hr.Fields.1
 have:=aGb (a:=a) hm fuel 0 (by unfold fuel;omega) (by omega)
 exact this
theorem oG {r:M.aW} {a:ByteArray} (hr:r.ok):jO r a=some (pP r a):=by
 unfold jO aCW pP
 rw [aG3 (f:=aBz a) hr.Fields.1 (fun x _=>by simp only [vM];rfl),qA,qA]
 by_cases h:aAP (aBz a) r.Fields<0
 ·rw [if_pos (by simpa using h)]
  have:r.Fields.find? (aBz a)=none:=by
   have h2:=aGC (aBz a) r.Fields
   rw [decide_eq_false (by omega)] at h2
   rw [List.find?_eq_none]
   intro x hx hf
   have h3:r.Fields.any (aBz a)=true:=List.any_eq_true.2 ⟨x,hx,hf⟩
   rw [←h2] at h3
   cases h3
  rw [this]
 ·obtain ⟨k,e,hk⟩:=aBx h
  rw [if_neg (by simpa using h),e,aN hk,qA]
  have e2:r.Fields.findIdx? (aBz a)=some k:=by
   unfold aAP at e
   cases e3:r.Fields.findIdx? (aBz a) with
   | none=>rw [e3] at e;simp only at e;omega
   | some i=>rw [e3] at e;simp only at e;congr 1;omega
  have e4:=List.findIdx?_eq_some_iff_getElem.1 e2
  have:r.Fields.find? (aBz a)=some r.Fields[k]:=by
   rw [List.find?_eq_some_iff_getElem]
   exact ⟨e4.2.1,k,hk,rfl,fun j hj=>by simpa using e4.2.2 j hj⟩
  rw [this]
def aFd (a:ByteArray) (x y:M.Item):Bool:=decide ((pP x.aW a).1<(pP y.aW a).1)||(((pP x.aW a).1==(pP y.aW a).1)&&decide (kB x.Key y.Key<0))
theorem aKB {x y:M.Item} {a:ByteArray} (hx:x.ok) (hy:y.ok):aCH x y a=some (aFd a x y):=by
 unfold aCH aFd
 simp only [yR hx.aW,yR hy.aW,aDS hx.Key hy.Key,qA,bL]
 cases decide ((pP x.aW a).1<(pP y.aW a).1)<;>simp
theorem aGV {x y:M.Item} {a:ByteArray} (hx:x.ok) (hy:y.ok):qY x y a=some (aFd a x y):=by
 unfold qY aFd
 simp only [oG hx.aW,oG hy.aW,aDO hx.Key hy.Key,qA,bL]
 cases decide ((pP x.aW a).1<(pP y.aW a).1)<;>simp
end Go.Proofs.YtimblbmbfdopgaaGreat.gen
