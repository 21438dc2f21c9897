/-
  Helper text. No conditions.
-/
import Derived.Test.YtblghjofnielnaaShP
import Derived.Lib.Walk
import Derived.Lib.Bytealg
import Derived.Laws.Externs
namespace Go.Sh
set_option linter.unusedVariables false
set_option linter.unusedSimpArgs false
theorem aBJ {s:ByteArray} {k:Nat} (h:k<s.size):s[k]? = some s[k]:=by simp [h]
theorem yQ {s:ByteArray} {k:Nat} (h:k<s.size):aAu s (k:Int)=some s[k]:=by
 unfold aAu
 rw [if_pos (by omega),Int.toNat_natCast,aBJ h]
theorem xO {R:Type} {N:Nat} {g:Nat→Bool} {F E:Option R} {L:Nat→Int→Option R}
  (h1 : ∀n (k:Nat) (hk:k<N),L (n+1) (k:Int)=if g k=true then L n ((k+1:Nat):Int) else F) (h2 : ∀n,L (n+1) (N:Int)=E) :
  ∀(n k:Nat),N-k<n→k≤N→L n (k:Int)=if (List.range' k (N-k)).all g=true then E else F
 | 0,k,hn,_=>by omega
 | n+1,k,hn,hk=>by
  rcases Nat.lt_or_ge k N with h | h
  ·rw [h1 n k h,xO h1 h2 n (k+1) (by omega) h]
   have e:N-k=(N-(k+1))+1:=by omega
   rw [e,List.range'_succ,List.all_cons]
   cases g k<;>simp only [Bool.true_and,Bool.false_and,if_true,if_false,Bool.false_eq_true]
  ·have:k=N:=by omega
   subst this
   rw [h2];simp
theorem vY {R:Type} {N:Nat} {g:Nat→Bool} {F E:Option R} {L:Nat→Int→Option R} (hx:N≤maxLen)
  (h1 : ∀n (k:Nat) (hk:k<N),L (n+1) (k:Int)=if g k=true then L n ((k+1:Nat):Int) else F) (h2 : ∀n,L (n+1) (N:Int)=E) :
  L fuel 0=if (List.range N).all g=true then E else F:=by
 have hm:=le_max hx
 have:=xO h1 h2 fuel 0 (by unfold fuel;omega) (by omega)
 rw [List.range_eq_range']
 simpa using this
theorem jT {α:Type} {b:Nat} {xs ys:List α} (h:(xs.length+ys.length)*b≤140737488355328):app b xs ys=some (xs++ys):=by unfold app;rw [if_pos h]
end Go.Sh
namespace Go.Sh
set_option linter.unusedVariables false
set_option linter.unusedSimpArgs false
theorem aG (s:ByteArray):(mH s).length=s.size:=by unfold mH;rw [List.length_map,Array.length_toList];rfl
def bat (s:ByteArray) (k:Nat) (g:UInt8→Bool):Bool:=(s[k]?).any g
theorem aAy {s:ByteArray} {k:Nat} (h:k<s.size) (g:UInt8→Bool):bat s k g=g s[k]:=by unfold bat;rw [aBJ h];rfl
def aAh (s:ByteArray) (g:UInt8→Bool):Bool:=(List.range s.size).all fun k=>bat s k g
theorem yU {R:Type} {s:ByteArray} {g:UInt8→Bool} {F E:Option R} {L:Nat→Int→Option R} (hx:s.size≤maxLen)
  (h1 : ∀n (k:Nat) (hk:k<s.size),L (n+1) (k:Int)=if g s[k]=true then L n ((k+1:Nat):Int) else F) (h2 : ∀n,L (n+1) (s.size:Int)=E) :
  L fuel 0=if aAh s g=true then E else F:=
 vY (g:=fun k=>bat s k g) hx (fun n k hk=>by rw [h1 n k hk];simp only [aAy hk]) h2
def inR (x a b:Int):Bool:=decide (a≤x)&&decide (x≤b)
theorem aAi {α:Type} (x:Int) (a b:α):(if x<0 then a else b)=if (decide (0≤x))=true then b else a:=by
 by_cases h:x<0
 ·rw [if_pos h,if_neg (by simp;omega)]
 ·rw [if_neg h,if_pos (by simp;omega)]
theorem xV {α:Type} (x:Int) (a b:α):(if x=0 then a else b)=if (decide (x=0))=true then a else b:=by
 by_cases h:x=0
 ·rw [if_pos h,if_pos (by simpa using h)]
 ·rw [if_neg h,if_neg (by simpa using h)]
end Go.Sh
namespace Go.Sh
set_option linter.unusedVariables false
set_option linter.unusedSimpArgs false
theorem uK {α:Type} {f:α→Bool} {xs:List α} (h : ¬lZ f xs<0) : ∃k:Nat,lZ f xs=(k:Int)∧k<xs.length:=by
 unfold lZ at h ⊢
 cases e:xs.findIdx? f with
 | none=>rw [e] at h;simp at h
 | some i=>exact ⟨i,rfl,(List.findIdx?_eq_some_iff_getElem.1 e).1⟩
end Go.Sh
namespace Go.Sh
set_option linter.unusedVariables false
set_option linter.unusedSimpArgs false
open Go.RowKit
end Go.Sh
namespace Go.Sh
set_option linter.unusedVariables false
set_option linter.unusedSimpArgs false
end Go.Sh
