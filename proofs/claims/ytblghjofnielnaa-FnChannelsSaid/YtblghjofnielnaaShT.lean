/-
  Helper text. No conditions.
-/
import Derived.Test.YtblghjofnielnaaShQ
import Derived.KernelRfl
import Derived.Laws.CopyRow
import Derived.Lib.Walk
import Derived.WalkKit
import Derived.Lib.AppendZerosOnto
import Derived.Lib.Overlaps
import Derived.Lib.SliceRun
import Derived.Laws.Externs
import Derived.Laws.OwnMore
namespace Go.Sh
set_option linter.unusedVariables false
set_option linter.unusedSimpArgs false
theorem xS {α:Type} {l:List α} {i:Nat} {x:α} (h:l[i]? = some x):idx l (i:Int)=some x:=by
 unfold idx;rw [if_pos (by omega)];simpa using h
theorem mS {α:Type} {c:α→Nat} {A:Nat} : ∀ {xs:List α},(∀x∈xs,c x≤A)→iV c xs≤A*xs.length
 | [],_=>by simp [iV]
 | x::xs,h=>by
  have h1:=h x (by simp)
  have h2:=mS (xs:=xs) fun y hy=>h y (by simp [hy])
  simp only [iV,List.length_cons,Nat.mul_add]
  omega
end Go.Sh
namespace Go.Sh
set_option linter.unusedVariables false
set_option linter.unusedSimpArgs false
theorem xY {α σ R:Type} {xs:List α} {step:σ→α→σ} {I:Nat→σ→Prop} {E:σ→Option R} {L:Nat→Int→σ→Option R}
  (hI : ∀s (k:Nat) (hk:k<xs.length),I k s→I (k+1) (step s xs[k]))
  (h1 : ∀n s (k:Nat) (hk:k<xs.length),I k s→L (n+1) (k:Int) s=L n ((k+1:Nat):Int) (step s xs[k])) (h2 : ∀n s,I xs.length s→L (n+1) (xs.length:Int) s=E s) :
  ∀(n k:Nat) (s:σ),xs.length-k<n→k≤xs.length→I k s→L n (k:Int) s=E ((xs.drop k).foldl step s)∧I xs.length ((xs.drop k).foldl step s)
 | 0,k,s,hn,_,_=>by omega
 | n+1,k,s,hn,hk,hi=>by
  rcases Nat.lt_or_ge k xs.length with h | h
  ·have ih:=xY hI h1 h2 n (k+1) _ (by omega) h (hI s k h hi)
   rw [h1 n s k h hi,List.drop_eq_getElem_cons h,List.foldl_cons]
   exact ih
  ·have:k=xs.length:=by omega
   subst this
   rw [h2 n s hi]
   simpa using hi
theorem xB {α σ R:Type} {xs:List α} {step:σ→α→σ} {I:Nat→σ→Prop} {E:σ→Option R} {L:Nat→Int→σ→Option R} (hx:xs.length≤maxLen)
  (hI : ∀s (k:Nat) (hk:k<xs.length),I k s→I (k+1) (step s xs[k]))
  (h1 : ∀n s (k:Nat) (hk:k<xs.length),I k s→L (n+1) (k:Int) s=L n ((k+1:Nat):Int) (step s xs[k])) (h2 : ∀n s,I xs.length s→L (n+1) (xs.length:Int) s=E s) (s:σ) (h0:I 0 s) :
  L fuel 0 s=E (xs.foldl step s)∧I xs.length (xs.foldl step s):=by
 have hm:=le_max hx
 have:=xY hI h1 h2 fuel 0 s (by unfold fuel;omega) (by omega) h0
 simpa using this
theorem rV {α R:Type} {xs:List α} {f:α→Bool} {b:Nat} {E:List α→Option R} {L:Nat→Int→List α→Option R} (hx:xs.length≤maxLen) (hb:xs.length*b≤140737488355328)
  (h1 : ∀n (r:List α) (k:Nat) (hk:k<xs.length),L (n+1) (k:Int) r=if f xs[k]=true then (app b r [xs[k]]).bind fun _=>L n ((k+1:Nat):Int) (r++[xs[k]]) else L n ((k+1:Nat):Int) r) (h2 : ∀n r,L (n+1) (xs.length:Int) r=E r) :
  L fuel 0 []=E (xs.filter f):=by
 have key:=xB (L:=fun n k r=>L n k r) (step:=fun r x=>if f x=true then r++[x] else r) (I:=fun k r=>r.length≤k) (E:=E) hx
  (fun s k hk hi=>by have hi':s.length≤k:=hi;split<;>(try simp only [List.length_append,List.length_cons,List.length_nil])<;>omega) (fun n s k hk hi=>by
   rw [h1 n s k hk]
   by_cases h:f xs[k]=true
   ·rw [if_pos h,if_pos h,jT,Option.bind_some]
    simp only [List.length_cons,List.length_nil]
    refine Nat.le_trans (Nat.mul_le_mul_right b (show s.length+(0+1)≤xs.length by omega)) hb
   ·rw [if_neg h,if_neg h]) (fun n s _=>h2 n s) [] (by simp)
 have e : ∀(l:List α) (r:List α),l.foldl (fun r x=>if f x=true then r++[x] else r) r=r++l.filter f:=by
  intro l
  induction l with
  | nil=>intro r;simp
  | cons x l ih =>
   intro r
   rw [List.foldl_cons,ih,List.filter_cons]
   split<;>simp
 rw [key.1,e]
 simp
theorem aA0 {α:Type} {b:Nat} {ys:List α} (h:ys.length≤1073741824) (hb:b≤65536):app b [] ys=some ys:=by
 rw [jT]
 ·simp
 ·simp only [List.length_nil,Nat.zero_add]
  exact Nat.le_trans (Nat.mul_le_mul h hb) (by omega)
def xE {α:Type} (xs:List α) (i j:Int):Option (List α):=if 0≤i∧i≤j∧j.toNat≤xs.length then some (xs.take i.toNat++xs.drop j.toNat) else none
theorem vN {α:Type} {xs zs:List α} {i j:Int} (h:xE xs i j=some zs):0≤i∧i≤j∧j.toNat≤xs.length:=by
 unfold xE at h
 split at h
 ·assumption
 ·cases h
theorem zF {α:Type} {xs:List α} {i j:Int} (h:0≤i∧i≤j∧j.toNat≤xs.length):xE xs i j=some (xs.take i.toNat++xs.drop j.toNat):=by
 unfold xE;rw [if_pos h]
theorem sQ {α:Type} {xs z:List α} {i:Int} (h:oF xs i=some z):0≤i∧i.toNat≤xs.length:=by
 unfold oF at h
 split at h
 ·assumption
 ·cases h
end Go.Sh
namespace Go.Sh
set_option linter.unusedVariables false
set_option linter.unusedSimpArgs false
theorem qR (k:IntKind) (n:Int):strOf [[.int k n]]=mF [n]:=rfl
section
variable {P:Program} {base N:Nat} {w0:W0} {Z:St→Prop} {k:List Fr} {s s':St}
theorem rn {id:Nat} {ops:Array Oper} (hk:aft P base w0 N Z k .normal s') (h:gS P (dA P) N ops ops.toList s (Is s'):=by (simp +decide only [E,reduceIte,Nat.reduceAdd,Nat.reduceMul,Int.reduceEq,Int.reduceLT,Bool.not_true,Bool.not_false,L,TB,EN, *,-h];exact Is.mk _)):SW P base w0 N (.region id ops false) s (aft P base w0 N Z k):=eT (h) hk
theorem rd (hm:P.follows .mixedOrders=true) {id:Nat} {ops:Array Oper} (hk:aft P base w0 N Z k .normal s') (h:gE P (dA P) N ops ops.toList s [] (fun t fps=>sG ops fps∧Is s' t):=by (simp +decide only [E,reduceIte,Nat.reduceAdd,Nat.reduceMul,Int.reduceEq,Int.reduceLT,Bool.not_true,Bool.not_false,L,TB,EN, *,-h];exact ⟨.mk (by decide +kernel),Is.mk _⟩)):SW P base w0 N (.region id ops true) s (aft P base w0 N Z k):=mU hm (h) hk
theorem rn1 {X1:Prop} {id:Nat} {ops:Array Oper} (c1:X1) (hk:aft P base w0 N Z k .normal s') (h:X1→gS P (dA P) N ops ops.toList s (Is s'):=by (intro hc1;simp +decide only [E,reduceIte,Nat.reduceAdd,Nat.reduceMul,Int.reduceEq,Int.reduceLT,Bool.not_true,Bool.not_false,L,TB,EN, *,-h,-hc1];(try (first | refine ⟨_,hc1,?_⟩ | refine ⟨hc1,?_⟩ | refine ⟨by (have hb:=eA hc1);simp [EN,List.length_append,aG] at hb ⊢ <;> omega,?_⟩ | refine ⟨by (have hb:=dG hc1);simp [EN,List.length_append,aG] at hb ⊢ <;> omega,?_⟩ | (simp only [List.map_append,List.map_cons,List.map_nil,EN] at hc1;refine ⟨_,hc1,?_⟩) | (simp only [List.map_append,List.map_cons,List.map_nil,EN, *,-h] at hc1;refine ⟨_,hc1,?_⟩)));(try simp +decide only [E,reduceIte,Nat.reduceAdd,Nat.reduceMul,Int.reduceEq,Int.reduceLT,Bool.not_true,Bool.not_false,L,TB,EN, *,-h,-hc1]);exact Is.mk _)):SW P base w0 N (.region id ops false) s (aft P base w0 N Z k):=eT (h c1) hk
theorem rd1 (hm:P.follows .mixedOrders=true) {X1:Prop} {id:Nat} {ops:Array Oper} (c1:X1) (hk:aft P base w0 N Z k .normal s') (h:X1→gE P (dA P) N ops ops.toList s [] (fun t fps=>sG ops fps∧Is s' t):=by (intro hc1;simp +decide only [E,reduceIte,Nat.reduceAdd,Nat.reduceMul,Int.reduceEq,Int.reduceLT,Bool.not_true,Bool.not_false,L,TB,EN, *,-h,-hc1];(try (first | refine ⟨_,hc1,?_⟩ | refine ⟨hc1,?_⟩ | refine ⟨by (have hb:=eA hc1);simp [EN,List.length_append,aG] at hb ⊢ <;> omega,?_⟩ | refine ⟨by (have hb:=dG hc1);simp [EN,List.length_append,aG] at hb ⊢ <;> omega,?_⟩ | (simp only [List.map_append,List.map_cons,List.map_nil,EN] at hc1;refine ⟨_,hc1,?_⟩) | (simp only [List.map_append,List.map_cons,List.map_nil,EN, *,-h] at hc1;refine ⟨_,hc1,?_⟩)));(try simp +decide only [E,reduceIte,Nat.reduceAdd,Nat.reduceMul,Int.reduceEq,Int.reduceLT,Bool.not_true,Bool.not_false,L,TB,EN, *,-h,-hc1]);exact ⟨.mk (by decide +kernel),Is.mk _⟩)):SW P base w0 N (.region id ops true) s (aft P base w0 N Z k):=mU hm (h c1) hk
theorem rn2 {X1:Prop} {X2:Prop} {id:Nat} {ops:Array Oper} (c1:X1) (c2:X2) (hk:aft P base w0 N Z k .normal s') (h:X1→X2→gS P (dA P) N ops ops.toList s (Is s'):=by (intro hc1 hc2;simp +decide only [E,reduceIte,Nat.reduceAdd,Nat.reduceMul,Int.reduceEq,Int.reduceLT,Bool.not_true,Bool.not_false,L,TB,EN, *,-h,-hc1,-hc2];(try (first | refine ⟨_,hc1,?_⟩ | refine ⟨hc1,?_⟩ | refine ⟨by (have hb:=eA hc1);simp [EN,List.length_append,aG] at hb ⊢ <;> omega,?_⟩ | refine ⟨by (have hb:=dG hc1);simp [EN,List.length_append,aG] at hb ⊢ <;> omega,?_⟩ | (simp only [List.map_append,List.map_cons,List.map_nil,EN] at hc1;refine ⟨_,hc1,?_⟩) | (simp only [List.map_append,List.map_cons,List.map_nil,EN, *,-h] at hc1;refine ⟨_,hc1,?_⟩)));(try simp +decide only [E,reduceIte,Nat.reduceAdd,Nat.reduceMul,Int.reduceEq,Int.reduceLT,Bool.not_true,Bool.not_false,L,TB,EN, *,-h,-hc1,-hc2]);(try (first | refine ⟨_,hc2,?_⟩ | refine ⟨hc2,?_⟩ | refine ⟨by (have hb:=eA hc2);simp [EN,List.length_append,aG] at hb ⊢ <;> omega,?_⟩ | refine ⟨by (have hb:=dG hc2);simp [EN,List.length_append,aG] at hb ⊢ <;> omega,?_⟩ | (simp only [List.map_append,List.map_cons,List.map_nil,EN] at hc2;refine ⟨_,hc2,?_⟩) | (simp only [List.map_append,List.map_cons,List.map_nil,EN, *,-h] at hc2;refine ⟨_,hc2,?_⟩)));(try simp +decide only [E,reduceIte,Nat.reduceAdd,Nat.reduceMul,Int.reduceEq,Int.reduceLT,Bool.not_true,Bool.not_false,L,TB,EN, *,-h,-hc1,-hc2]);exact Is.mk _)):SW P base w0 N (.region id ops false) s (aft P base w0 N Z k):=eT (h c1 c2) hk
theorem rd2 (hm:P.follows .mixedOrders=true) {X1:Prop} {X2:Prop} {id:Nat} {ops:Array Oper} (c1:X1) (c2:X2) (hk:aft P base w0 N Z k .normal s') (h:X1→X2→gE P (dA P) N ops ops.toList s [] (fun t fps=>sG ops fps∧Is s' t):=by (intro hc1 hc2;simp +decide only [E,reduceIte,Nat.reduceAdd,Nat.reduceMul,Int.reduceEq,Int.reduceLT,Bool.not_true,Bool.not_false,L,TB,EN, *,-h,-hc1,-hc2];(try (first | refine ⟨_,hc1,?_⟩ | refine ⟨hc1,?_⟩ | refine ⟨by (have hb:=eA hc1);simp [EN,List.length_append,aG] at hb ⊢ <;> omega,?_⟩ | refine ⟨by (have hb:=dG hc1);simp [EN,List.length_append,aG] at hb ⊢ <;> omega,?_⟩ | (simp only [List.map_append,List.map_cons,List.map_nil,EN] at hc1;refine ⟨_,hc1,?_⟩) | (simp only [List.map_append,List.map_cons,List.map_nil,EN, *,-h] at hc1;refine ⟨_,hc1,?_⟩)));(try simp +decide only [E,reduceIte,Nat.reduceAdd,Nat.reduceMul,Int.reduceEq,Int.reduceLT,Bool.not_true,Bool.not_false,L,TB,EN, *,-h,-hc1,-hc2]);(try (first | refine ⟨_,hc2,?_⟩ | refine ⟨hc2,?_⟩ | refine ⟨by (have hb:=eA hc2);simp [EN,List.length_append,aG] at hb ⊢ <;> omega,?_⟩ | refine ⟨by (have hb:=dG hc2);simp [EN,List.length_append,aG] at hb ⊢ <;> omega,?_⟩ | (simp only [List.map_append,List.map_cons,List.map_nil,EN] at hc2;refine ⟨_,hc2,?_⟩) | (simp only [List.map_append,List.map_cons,List.map_nil,EN, *,-h] at hc2;refine ⟨_,hc2,?_⟩)));(try simp +decide only [E,reduceIte,Nat.reduceAdd,Nat.reduceMul,Int.reduceEq,Int.reduceLT,Bool.not_true,Bool.not_false,L,TB,EN, *,-h,-hc1,-hc2]);exact ⟨.mk (by decide +kernel),Is.mk _⟩)):SW P base w0 N (.region id ops true) s (aft P base w0 N Z k):=mU hm (h c1 c2) hk
theorem rn3 {X1:Prop} {X2:Prop} {X3:Prop} {id:Nat} {ops:Array Oper} (c1:X1) (c2:X2) (c3:X3) (hk:aft P base w0 N Z k .normal s') (h:X1→X2→X3→gS P (dA P) N ops ops.toList s (Is s'):=by (intro hc1 hc2 hc3;simp +decide only [E,reduceIte,Nat.reduceAdd,Nat.reduceMul,Int.reduceEq,Int.reduceLT,Bool.not_true,Bool.not_false,L,TB,EN, *,-h,-hc1,-hc2,-hc3];(try (first | refine ⟨_,hc1,?_⟩ | refine ⟨hc1,?_⟩ | refine ⟨by (have hb:=eA hc1);simp [EN,List.length_append,aG] at hb ⊢ <;> omega,?_⟩ | refine ⟨by (have hb:=dG hc1);simp [EN,List.length_append,aG] at hb ⊢ <;> omega,?_⟩ | (simp only [List.map_append,List.map_cons,List.map_nil,EN] at hc1;refine ⟨_,hc1,?_⟩) | (simp only [List.map_append,List.map_cons,List.map_nil,EN, *,-h] at hc1;refine ⟨_,hc1,?_⟩)));(try simp +decide only [E,reduceIte,Nat.reduceAdd,Nat.reduceMul,Int.reduceEq,Int.reduceLT,Bool.not_true,Bool.not_false,L,TB,EN, *,-h,-hc1,-hc2,-hc3]);(try (first | refine ⟨_,hc2,?_⟩ | refine ⟨hc2,?_⟩ | refine ⟨by (have hb:=eA hc2);simp [EN,List.length_append,aG] at hb ⊢ <;> omega,?_⟩ | refine ⟨by (have hb:=dG hc2);simp [EN,List.length_append,aG] at hb ⊢ <;> omega,?_⟩ | (simp only [List.map_append,List.map_cons,List.map_nil,EN] at hc2;refine ⟨_,hc2,?_⟩) | (simp only [List.map_append,List.map_cons,List.map_nil,EN, *,-h] at hc2;refine ⟨_,hc2,?_⟩)));(try simp +decide only [E,reduceIte,Nat.reduceAdd,Nat.reduceMul,Int.reduceEq,Int.reduceLT,Bool.not_true,Bool.not_false,L,TB,EN, *,-h,-hc1,-hc2,-hc3]);(try (first | refine ⟨_,hc3,?_⟩ | refine ⟨hc3,?_⟩ | refine ⟨by (have hb:=eA hc3);simp [EN,List.length_append,aG] at hb ⊢ <;> omega,?_⟩ | refine ⟨by (have hb:=dG hc3);simp [EN,List.length_append,aG] at hb ⊢ <;> omega,?_⟩ | (simp only [List.map_append,List.map_cons,List.map_nil,EN] at hc3;refine ⟨_,hc3,?_⟩) | (simp only [List.map_append,List.map_cons,List.map_nil,EN, *,-h] at hc3;refine ⟨_,hc3,?_⟩)));(try simp +decide only [E,reduceIte,Nat.reduceAdd,Nat.reduceMul,Int.reduceEq,Int.reduceLT,Bool.not_true,Bool.not_false,L,TB,EN, *,-h,-hc1,-hc2,-hc3]);exact Is.mk _)):SW P base w0 N (.region id ops false) s (aft P base w0 N Z k):=eT (h c1 c2 c3) hk
theorem rn4 {X1:Prop} {X2:Prop} {X3:Prop} {X4:Prop} {id:Nat} {ops:Array Oper} (c1:X1) (c2:X2) (c3:X3) (c4:X4) (hk:aft P base w0 N Z k .normal s') (h:X1→X2→X3→X4→gS P (dA P) N ops ops.toList s (Is s'):=by (intro hc1 hc2 hc3 hc4;simp +decide only [E,reduceIte,Nat.reduceAdd,Nat.reduceMul,Int.reduceEq,Int.reduceLT,Bool.not_true,Bool.not_false,L,TB,EN, *,-h,-hc1,-hc2,-hc3,-hc4];(try (first | refine ⟨_,hc1,?_⟩ | refine ⟨hc1,?_⟩ | refine ⟨by (have hb:=eA hc1);simp [EN,List.length_append,aG] at hb ⊢ <;> omega,?_⟩ | refine ⟨by (have hb:=dG hc1);simp [EN,List.length_append,aG] at hb ⊢ <;> omega,?_⟩ | (simp only [List.map_append,List.map_cons,List.map_nil,EN] at hc1;refine ⟨_,hc1,?_⟩) | (simp only [List.map_append,List.map_cons,List.map_nil,EN, *,-h] at hc1;refine ⟨_,hc1,?_⟩)));(try simp +decide only [E,reduceIte,Nat.reduceAdd,Nat.reduceMul,Int.reduceEq,Int.reduceLT,Bool.not_true,Bool.not_false,L,TB,EN, *,-h,-hc1,-hc2,-hc3,-hc4]);(try (first | refine ⟨_,hc2,?_⟩ | refine ⟨hc2,?_⟩ | refine ⟨by (have hb:=eA hc2);simp [EN,List.length_append,aG] at hb ⊢ <;> omega,?_⟩ | refine ⟨by (have hb:=dG hc2);simp [EN,List.length_append,aG] at hb ⊢ <;> omega,?_⟩ | (simp only [List.map_append,List.map_cons,List.map_nil,EN] at hc2;refine ⟨_,hc2,?_⟩) | (simp only [List.map_append,List.map_cons,List.map_nil,EN, *,-h] at hc2;refine ⟨_,hc2,?_⟩)));(try simp +decide only [E,reduceIte,Nat.reduceAdd,Nat.reduceMul,Int.reduceEq,Int.reduceLT,Bool.not_true,Bool.not_false,L,TB,EN, *,-h,-hc1,-hc2,-hc3,-hc4]);(try (first | refine ⟨_,hc3,?_⟩ | refine ⟨hc3,?_⟩ | refine ⟨by (have hb:=eA hc3);simp [EN,List.length_append,aG] at hb ⊢ <;> omega,?_⟩ | refine ⟨by (have hb:=dG hc3);simp [EN,List.length_append,aG] at hb ⊢ <;> omega,?_⟩ | (simp only [List.map_append,List.map_cons,List.map_nil,EN] at hc3;refine ⟨_,hc3,?_⟩) | (simp only [List.map_append,List.map_cons,List.map_nil,EN, *,-h] at hc3;refine ⟨_,hc3,?_⟩)));(try simp +decide only [E,reduceIte,Nat.reduceAdd,Nat.reduceMul,Int.reduceEq,Int.reduceLT,Bool.not_true,Bool.not_false,L,TB,EN, *,-h,-hc1,-hc2,-hc3,-hc4]);(try (first | refine ⟨_,hc4,?_⟩ | refine ⟨hc4,?_⟩ | refine ⟨by (have hb:=eA hc4);simp [EN,List.length_append,aG] at hb ⊢ <;> omega,?_⟩ | refine ⟨by (have hb:=dG hc4);simp [EN,List.length_append,aG] at hb ⊢ <;> omega,?_⟩ | (simp only [List.map_append,List.map_cons,List.map_nil,EN] at hc4;refine ⟨_,hc4,?_⟩) | (simp only [List.map_append,List.map_cons,List.map_nil,EN, *,-h] at hc4;refine ⟨_,hc4,?_⟩)));(try simp +decide only [E,reduceIte,Nat.reduceAdd,Nat.reduceMul,Int.reduceEq,Int.reduceLT,Bool.not_true,Bool.not_false,L,TB,EN, *,-h,-hc1,-hc2,-hc3,-hc4]);exact Is.mk _)):SW P base w0 N (.region id ops false) s (aft P base w0 N Z k):=eT (h c1 c2 c3 c4) hk
theorem ct {t:Nat} {x y:Code} (h0:SW P base w0 N x s (aft P base w0 N Z k)) (hb:s.t t = .v false [.dat (.bool true)]:=by (simp +decide only [F,reduceIte,Nat.reduceAdd,Bool.not_true,Bool.not_false,EN, *,-h])):SW P base w0 N (.cond (.tmp t) x y) s (aft P base w0 N Z k):=yP hb h0
theorem cf {t:Nat} {x y:Code} (h0:SW P base w0 N y s (aft P base w0 N Z k)) (hb:s.t t = .v false [.dat (.bool false)]:=by (simp +decide only [F,reduceIte,Nat.reduceAdd,Bool.not_true,Bool.not_false,EN, *,-h])):SW P base w0 N (.cond (.tmp t) x y) s (aft P base w0 N Z k):=yJ hb h0
theorem cu {c:Code} {Q:Exit→St→Prop} (J:St→Prop) (h0 : ∀s,J s→SW P base w0 N c s Q) (hj:J s:=by ((repeat' (with_reducible refine ⟨?_,?_⟩))<;>(first | trivial | (simp +decide only [F,reduceIte,Nat.reduceAdd,Bool.not_true,Bool.not_false,EN, *,-h])))):SW P base w0 N c s Q:=h0 s hj
end
section
end
end Go.Sh
namespace Go.Sh
set_option linter.unusedVariables false
set_option linter.unusedSimpArgs false
open Go Go.RowKit Go.Lib
end Go.Sh
namespace Go.Sh
set_option linter.unusedVariables false
set_option linter.unusedSimpArgs false
open Go Go.RowKit Go.Lib
theorem pN {P:Program} (w:World) {o:Oper} {a:Act} {K:Act→World→Prop} {Q:Exit→Act→World→Prop} (d:Operand) (t:TypeId)
  (ho:o.op = .call { callee:=.builtin .clear,args := #[d],argTypes := #[t] }) (v:Value) (hd:a.eval d=v) {v':Value} {w':World}
  (hr:(Builtin.clear_ #[t] o.type #[v]).run P w = .ok v' w') (h:K (a.put o.dst v') w'):o.wp P a w K Q:=by
 unfold Oper.wp execOp
 simp only [ho,resolve,invoke,builtin,Sem.run_bind,Sem.run_pure,Result.andThen_ok,List.map_toArray,List.map_cons,List.map_nil,hd,hr]
 exact h
theorem lI {P:Program} (w:World) {ops:Array Oper} {rest:List Oper} {o:Oper} {a:Act} {Q:Exit→Act→World→Prop} (hgd:o.guard=none) (d:Operand) (t:TypeId)
  (ho:o.op = .call { callee:=.builtin .clear,args := #[d],argTypes := #[t] }) (v:Value) (hd:a.eval d=v) {v':Value} {w':World}
  (hr:(Builtin.clear_ #[t] o.type #[v]).run P w = .ok v' w') (h:wpList P ops Q rest (a.put o.dst v') w'):wpList P ops Q (o::rest) a w:=
 wpList_plain hgd fun _ hK=>pN w d t ho v hd hr (hK _ _ h)
theorem mA {P:Program} {ops:Array Oper} {o:Oper} {a:Act} {w:World} {K:Act→World→Prop} {Q:Exit→Act→World→Prop} {E:Prop}
  (hg:o.guard=none) (d x:Operand) (dT sT:TypeId) (hop:o.op=Op.call { callee:=Callee.builtin Builtin.append,args := #[d,x],argTypes := #[dT,sT] })
  (v u:Value) (hd:a.eval d=v) (hx:a.eval x=u) {v':Value} {w':World} (hr:(Builtin.append_ #[dT,sT] o.type #[v,u]).run P w = .ok v' w') (hK:K (a.put o.dst v') w') :
  if Region.wanted o (yielded ops a.tmps)=true then Oper.wp P o a w K Q else E:=by
 have hw:Region.wanted o (yielded ops a.tmps)=true:=by simp [Region.wanted,hg]
 rw [if_pos hw]
 unfold Oper.wp
 simp [execOp,hop,resolve,invoke,builtin,hd,hx,hr,Result.andThen]
 exact hK
end Go.Sh
namespace Go.Sh
set_option linter.unusedVariables false
set_option linter.unusedSimpArgs false
class gR (n:Nat) (T:outParam Prop):Prop where
 pf:T
theorem aA9 {P:Program} {n:FuncId} {args:List (Bool×List D)} {T:Prop} {Q:List (Bool×List RC)→Prop} [c:gR n T] (h:T → ∃rs,dO P n args rs∧Q rs) : ∃rs,dO P n args rs∧Q rs:=h c.pf
def Hin (I:Nat→St→Prop):Prop:=True
theorem inv (I:Nat→St→Prop):Hin I:=trivial
def aI (x:Int):Bool×List D:=(false,[.int .i64 x])
def aB (x:Bool):Bool×List D:=(false,[.bool x])
def aS (x:ByteArray):Bool×List D:=(false,[.str x])
def aL {α:Type} (f:α→List D) (x:List α):Bool×List D:=(false,[.sl (List.map f x)])
def aX (x:List D):Bool×List D:=(true,x)
def cI (x:Int):SC:=.dat (.int .i64 x)
def cB (x:Bool):SC:=.dat (.bool x)
def cS (x:ByteArray):SC:=.dat (.str x)
def cL {α:Type} (f:α→List D) (x:List α):SC:=.dat (.sl (List.map f x))
def vI (x:Int):SV:=.v false [.dat (.int .i64 x)]
def vB (x:Bool):SV:=.v false [.dat (.bool x)]
def vS (x:ByteArray):SV:=.v false [.dat (.str x)]
def vL {α:Type} (f:α→List D) (x:List α):SV:=.v false [.dat (.sl (List.map f x))]
def vR (i ver:Nat):SV:=.v false [.row i ver]
def vP (i ver o:Nat):SV:=.v false [.bp i ver o]
def oX (t:TypeId) (l:List D):lG:=.box t (l.map .dat)
def oB (t:TypeId) (l:List SC):lG:=.box t l
def oW {α:Type} (e:TypeId) (z:Nat) (f:α→List D) (x:List α):lG:=.row e z (List.map f x) true
def rI (x:Int):Bool×List RC:=(false,[.ro (.int .i64 x)])
def rB (x:Bool):Bool×List RC:=(false,[.ro (.bool x)])
def rS (x:ByteArray):Bool×List RC:=(false,[.ro (.str x)])
def rW {α:Type} (e:TypeId) (z:Nat) (f:α→List D) (x:List α):Bool×List RC:=(false,[.own e z (List.map f x)])
section
variable {P:Program} {base N:Nat} {w0:W0} {Z:St→Prop} {k:List Fr} {s:St}
theorem lpI {c:Code} {I:Nat→St→Prop} (i:Hin I) (n:Nat) (h0:I n s) (h : ∀m s,I m s→SW P base w0 N c s (aft P base w0 N Z (.inv (fun s'=>∃m',m'<m∧I m' s')::k))):SW P base w0 N (.loop c) s (aft P base w0 N Z k):=jI I n h0 h
inductive Mv where
 | t (i K:Nat) (e:TypeId) (sz:Nat)
 | b (b c K:Nat) (e:TypeId) (sz:Nat)
def aBk (ms:List Mv) (I:Nat→St→Prop):Prop:=True
def GX (P:Program) (base:Nat) (w0:W0) (N:Nat) (ms:List Mv) (s:St) (Q:St→Prop):Prop:=∃s',Gho P base w0 N s s'∧Q s'
section
variable {ms:List Mv} {Q:St→Prop}
theorem gx0 (h:Q s):GX P base w0 N [] s Q:=⟨s,Gho.refl s,h⟩
theorem gx1 {m:Mv} {s':St} (hg:Gho P base w0 N s s') (h:GX P base w0 N ms s' Q):GX P base w0 N (m::ms) s Q:=by
 obtain ⟨t,h1,h2⟩:=h
 exact ⟨t,Gho.trans hg h1,h2⟩
theorem sN {i K:Nat} {e:TypeId} {sz:Nat} (h:GX P base w0 N ms ((s.bL K ((s.h K).1+1,.row e sz [] true)).kD i (.v false [.row K ((s.h K).1+1)])) Q) (h1:s.t i = .v false [.nil]):GX P base w0 N (.t i K e sz::ms) s Q:=gx1 (Gho.aA4 e sz h1) h
theorem sR {i K j vj:Nat} {e e':TypeId} {sz sz':Nat} {xs:List (List D)} {dp:Bool} (h:GX P base w0 N ms (((s.bL j (vj,.none)).bL K ((s.h K).1+1,.row e' sz' xs dp)).kD i (.v false [.row K ((s.h K).1+1)])) Q) (h1:s.t i = .v false [.row j vj]) (h2:s.h j=(vj,.row e' sz' xs dp)):GX P base w0 N (.t i K e sz::ms) s Q:=gx1 (Gho.aA2 h1 h2) h
theorem sO {b vb c K:Nat} {t:TypeId} {cells:List SC} {e:TypeId} {sz:Nat} (h:GX P base w0 N ms ((s.bL K ((s.h K).1+1,.row e sz [] true)).bL b (vb,.box t (cells.set c (.row K ((s.h K).1+1))))) Q) (h0:s.h b=(vb,.box t cells)) (h1:cells[c]? = some .nil) (hk:b≠K):GX P base w0 N (.b b c K e sz::ms) s Q:=gx1 (Gho.aAs e sz h0 h1 hk) h
theorem sI {b vb c j K vj:Nat} {t:TypeId} {cells:List SC} {e e':TypeId} {sz sz':Nat} {xs:List (List D)} {dp:Bool} (h:GX P base w0 N ms (((s.bL j (vj,.none)).bL K ((s.h K).1+1,.row e' sz' xs dp)).bL b (vb,.box t (cells.set c (.row K ((s.h K).1+1))))) Q) (h0:s.h b=(vb,.box t cells)) (h1:cells[c]? = some (.row j vj)) (h2:s.h j=(vj,.row e' sz' xs dp)) (hk:b≠K):GX P base w0 N (.b b c K e sz::ms) s Q:=gx1 (Gho.kP h0 h1 h2 hk) h
theorem lpM {c:Code} {I:Nat→St→Prop} (i:aBk ms I) (n:Nat) (h0:GX P base w0 N ms s (I n)) (h : ∀m s,I m s→SW P base w0 N c s (aft P base w0 N Z (.inv (fun s'=>GX P base w0 N ms s' (fun s''=>∃m',m'<m∧I m' s''))::k))):SW P base w0 N (.loop c) s (aft P base w0 N Z k):=by
 obtain ⟨s',h1,h2⟩:=h0
 exact tZ h1 (mL I n h2 h)
theorem aAp {m:Nat} {I:Nat→St→Prop} (h:GX P base w0 N ms s (fun s''=>∃m',m'<m∧I m' s'')):aft P base w0 N Z (.inv (fun s'=>GX P base w0 N ms s' (fun s''=>∃m',m'<m∧I m' s''))::k) .normal s:=h
end
theorem rgK {id:Nat} {ops:Array Oper} (h : ∀K:St→Prop,(∀t,aft P base w0 N Z k .normal t→K t)→gS P (dA P) N ops ops.toList s K):SW P base w0 N (.region id ops false) s (aft P base w0 N Z k):=rJ (h _ fun _ x=>x)
theorem rgD (hm:P.follows .mixedOrders=true) {id:Nat} {ops:Array Oper} (h : ∀K:St→Prop,(∀t,aft P base w0 N Z k .normal t→K t)→gE P (dA P) N ops ops.toList s [] (fun t fps=>sG ops fps∧K t)):SW P base w0 N (.region id ops true) s (aft P base w0 N Z k):=wK hm (h (fun t=>aft P base w0 N Z k .normal t) fun _ x=>x)
theorem aAj {α:Type} {b:Bool} {x y z:α} (h:(if b=true then x else y)=z):b=true∧x=z∨b=false∧y=z:=by
 cases b
 ·exact .inr ⟨rfl,by simpa using h⟩
 ·exact .inl ⟨rfl,by simpa using h⟩
theorem rz (h:Z s):aft P base w0 N Z [] .normal s:=h
def Yes (A:Prop) (b c:Bool):Prop:=b=c→A
theorem yes {A:Prop} {b c:Bool} (h:b=c→A):Yes A b c:=h
theorem cnd {t:Nat} {x y:Code} {b:Bool} (hb:s.t t = .v false [.dat (.bool b)]) (h1:Yes (SW P base w0 N x s (aft P base w0 N Z k)) b true) (h2:Yes (SW P base w0 N y s (aft P base w0 N Z k)) b false):SW P base w0 N (.cond (.tmp t) x y) s (aft P base w0 N Z k):=sY hb h1 h2
end
theorem sgo {P : Program} {f : FuncId} {fn : Func} {c : Code} {args : List (Bool × List D)} {rs : List (Bool × List RC)} (N : Nat) (vars : List ResultVar) (hf : P.funcs[f]? = some fn) (hb : fn.body = some c := by exact rfl) (hN : fn.ntmps = N := by exact rfl) (hv : fn.results.toList = vars := by exact rfl) (hnm : (fn.name == "runtime.NumGoroutine") = false := by decide +kernel) (hn : args.length ≤ N := by exact Nat.le_of_ble_eq_true rfl)
  (h : ∀(base:Nat) (w0:W0),SW P base w0 N c (init args) (aft P base w0 N (Ret (dA P) vars rs) []):=by
 intro base wd
 (try simp only [EN])
 repeat' (first
  | (with_reducible refine an ?_)
  | (with_reducible refine sq ?_)
  | (with_reducible refine bk ?_)
  | (with_reducible refine ab ?_)
  | (with_reducible refine sk ?_)
  | (with_reducible refine xt ?_)
  | (with_reducible refine iR ?_)
  | (with_reducible refine mC ?_)
  | ((with_reducible refine iQ ?_);(try dsimp only at h))
  | (with_reducible refine aBC (by decide) ?_)
  | ((with_reducible refine hK _ ?_);clear hK;clear K)
  | ((with_reducible refine rgK fun K hK => ?_);simp +decide only [E,reduceIte,Nat.reduceAdd,Nat.reduceMul,Int.reduceEq,Int.reduceLT,Bool.not_true,Bool.not_false,L,TB,EN, *,-h,-hK])
  | ((with_reducible refine rgD mixed fun K hK => ?_);simp +decide only [E,reduceIte,Nat.reduceAdd,Nat.reduceMul,Int.reduceEq,Int.reduceLT,Bool.not_true,Bool.not_false,L,TB,EN, *,-h,-hK])
  | ((with_reducible refine rt ?_);cases h;simp [Ret,TB,EN, *];done)
  | ((with_reducible refine rz ?_);cases h;simp [Ret,TB,EN, *];done)
  | (with_reducible refine And.intro (.mk (by decide +kernel)) ?_)
  | ((with_reducible refine eP ⟨_,Nat.lt_add_one _,?_⟩);(repeat (with_reducible apply Exists.intro));(with_reducible refine And.intro ?_ h);(repeat' (with_reducible refine And.intro ?_ ?_));(all_goals first | (simp +decide only [F,reduceIte,Nat.reduceAdd,Bool.not_true,Bool.not_false,EN, *,-h];done) | (simp +decide only [F,reduceIte,Nat.reduceAdd,Bool.not_true,Bool.not_false,EN, *,-h];rfl) | rfl))
  | ((with_reducible refine aAp ?_);(repeat (first | (refine sN ?_ (by (simp +decide only [F,reduceIte,Nat.reduceAdd,Bool.not_true,Bool.not_false,EN, *,-h];rfl))) | (refine sR ?_ (by (simp +decide only [F,reduceIte,Nat.reduceAdd,Bool.not_true,Bool.not_false,EN, *,-h];rfl)) (by (simp +decide only [F,reduceIte,Nat.reduceAdd,Bool.not_true,Bool.not_false,EN, *,-h];rfl))) | (refine sO ?_ (by (simp +decide only [F,reduceIte,Nat.reduceAdd,Bool.not_true,Bool.not_false,EN, *,-h];rfl)) (by rfl) (by decide)) | (refine sI ?_ (by (simp +decide only [F,reduceIte,Nat.reduceAdd,Bool.not_true,Bool.not_false,EN, *,-h];rfl)) (by rfl) (by (simp +decide only [F,reduceIte,Nat.reduceAdd,Bool.not_true,Bool.not_false,EN, *,-h];rfl)) (by decide))));refine gx0 ⟨_,Nat.lt_add_one _,?_⟩;(repeat (with_reducible apply Exists.intro));(with_reducible refine And.intro ?_ h);(repeat' (with_reducible refine And.intro ?_ ?_));(all_goals first | (simp +decide only [F,reduceIte,Nat.reduceAdd,Bool.not_true,Bool.not_false,EN, *,-h];done) | (simp +decide only [F,reduceIte,Nat.reduceAdd,Bool.not_true,Bool.not_false,EN, *,-h];rfl) | rfl))
  | (refine cnd (b:=_) (by (simp +decide only [F,reduceIte,Nat.reduceAdd,Bool.not_true,Bool.not_false,EN, *,-h]);exact rfl) ?_ ?_)
  | ((with_reducible refine yes fun hb => ?_);(first | exact absurd hb (by decide) | (replace h:=cP hb h) | (replace h:=cO hb h) | clear hb))
  | (obtain ⟨x,hb,h⟩:=bind_some h;(first | (obtain ⟨q1,q2,q3⟩:=fE hb;simp +decide only [E,reduceIte,Nat.reduceAdd,Nat.reduceMul,Int.reduceEq,Int.reduceLT,Bool.not_true,Bool.not_false,L,TB,EN, *,-h,-hK]) | (obtain ⟨q1,q2⟩:=wQ hb;simp +decide only [E,reduceIte,Nat.reduceAdd,Nat.reduceMul,Int.reduceEq,Int.reduceLT,Bool.not_true,Bool.not_false,L,TB,EN, *,-h,-hK]) | (refine aA9 fun hC => ?_;(first | refine ⟨_,hC (h:=hb),?_⟩ | (have hc:=hC (h:=hb);simp only [List.map_append,List.map_cons,List.map_nil,EN] at hc;refine ⟨_,hc,?_⟩) | (have hc:=hC (h:=hb);simp only [List.map_append,List.map_cons,List.map_nil,EN, *,-h,-hK,-hC] at hc;refine ⟨_,hc,?_⟩));(try clear hC);(try simp +decide only [E,reduceIte,Nat.reduceAdd,Nat.reduceMul,Int.reduceEq,Int.reduceLT,Bool.not_true,Bool.not_false,L,TB,EN, *,-h,-hK])) | (refine ⟨zM hb,?_⟩;(try simp +decide only [E,reduceIte,Nat.reduceAdd,Nat.reduceMul,Int.reduceEq,Int.reduceLT,Bool.not_true,Bool.not_false,L,TB,EN, *,-h,-hK])) | (refine ⟨uR hb,?_⟩;(try simp +decide only [E,reduceIte,Nat.reduceAdd,Nat.reduceMul,Int.reduceEq,Int.reduceLT,Bool.not_true,Bool.not_false,L,TB,EN, *,-h,-hK])) | (refine ⟨by (have hb:=eA hb;simp [EN,List.length_append,aG] at hb ⊢ <;> omega),?_⟩;(try simp +decide only [E,reduceIte,Nat.reduceAdd,Nat.reduceMul,Int.reduceEq,Int.reduceLT,Bool.not_true,Bool.not_false,L,TB,EN, *,-h,-hK])) | (refine ⟨by (have hb:=dG hb;simp [EN,List.length_append,aG] at hb ⊢ <;> omega),?_⟩;(try simp +decide only [E,reduceIte,Nat.reduceAdd,Nat.reduceMul,Int.reduceEq,Int.reduceLT,Bool.not_true,Bool.not_false,L,TB,EN, *,-h,-hK])) | (have hb:=yX hb;refine ⟨hb,?_⟩;(try simp +decide only [E,reduceIte,Nat.reduceAdd,Nat.reduceMul,Int.reduceEq,Int.reduceLT,Bool.not_true,Bool.not_false,L,TB,EN, *,-h,-hK]))))
  | (revert hK;intro hK;(rcases aAj h with ⟨hb,h⟩ | ⟨hb,h⟩)<;>simp +decide only [E,reduceIte,Nat.reduceAdd,Nat.reduceMul,Int.reduceEq,Int.reduceLT,Bool.not_true,Bool.not_false,L,TB,EN, *,-h,-hK])
  | ((with_reducible apply lpI (i1 ..) fuel);(· ((repeat (with_reducible apply Exists.intro));(with_reducible refine And.intro ?_ h);(repeat' (with_reducible refine And.intro ?_ ?_));(all_goals first | (simp +decide only [F,reduceIte,Nat.reduceAdd,Bool.not_true,Bool.not_false,EN, *,-h];done) | (simp +decide only [F,reduceIte,Nat.reduceAdd,Bool.not_true,Bool.not_false,EN, *,-h];rfl) | rfl)));clear i1;intro m s1 hI;clear h;(repeat (obtain ⟨v,hI⟩:=hI));have h:=hI;clear hI;rcases m with _ | m;(· cases (show none=some _ from h));(simp only [e1] at h))
  | ((with_reducible apply lpI (i2 ..) fuel);(· ((repeat (with_reducible apply Exists.intro));(with_reducible refine And.intro ?_ h);(repeat' (with_reducible refine And.intro ?_ ?_));(all_goals first | (simp +decide only [F,reduceIte,Nat.reduceAdd,Bool.not_true,Bool.not_false,EN, *,-h];done) | (simp +decide only [F,reduceIte,Nat.reduceAdd,Bool.not_true,Bool.not_false,EN, *,-h];rfl) | rfl)));clear i2;intro m s1 hI;clear h;(repeat (obtain ⟨v,hI⟩:=hI));have h:=hI;clear hI;rcases m with _ | m;(· cases (show none=some _ from h));(simp only [e2] at h))
  | ((with_reducible apply lpI (i3 ..) fuel);(· ((repeat (with_reducible apply Exists.intro));(with_reducible refine And.intro ?_ h);(repeat' (with_reducible refine And.intro ?_ ?_));(all_goals first | (simp +decide only [F,reduceIte,Nat.reduceAdd,Bool.not_true,Bool.not_false,EN, *,-h];done) | (simp +decide only [F,reduceIte,Nat.reduceAdd,Bool.not_true,Bool.not_false,EN, *,-h];rfl) | rfl)));clear i3;intro m s1 hI;clear h;(repeat (obtain ⟨v,hI⟩:=hI));have h:=hI;clear hI;rcases m with _ | m;(· cases (show none=some _ from h));(simp only [e3] at h))
  | ((with_reducible apply lpI (i4 ..) fuel);(· ((repeat (with_reducible apply Exists.intro));(with_reducible refine And.intro ?_ h);(repeat' (with_reducible refine And.intro ?_ ?_));(all_goals first | (simp +decide only [F,reduceIte,Nat.reduceAdd,Bool.not_true,Bool.not_false,EN, *,-h];done) | (simp +decide only [F,reduceIte,Nat.reduceAdd,Bool.not_true,Bool.not_false,EN, *,-h];rfl) | rfl)));clear i4;intro m s1 hI;clear h;(repeat (obtain ⟨v,hI⟩:=hI));have h:=hI;clear hI;rcases m with _ | m;(· cases (show none=some _ from h));(simp only [e4] at h))
  | ((with_reducible apply lpI (i5 ..) fuel);(· ((repeat (with_reducible apply Exists.intro));(with_reducible refine And.intro ?_ h);(repeat' (with_reducible refine And.intro ?_ ?_));(all_goals first | (simp +decide only [F,reduceIte,Nat.reduceAdd,Bool.not_true,Bool.not_false,EN, *,-h];done) | (simp +decide only [F,reduceIte,Nat.reduceAdd,Bool.not_true,Bool.not_false,EN, *,-h];rfl) | rfl)));clear i5;intro m s1 hI;clear h;(repeat (obtain ⟨v,hI⟩:=hI));have h:=hI;clear hI;rcases m with _ | m;(· cases (show none=some _ from h));(simp only [e5] at h))
  | ((with_reducible apply lpI (i6 ..) fuel);(· ((repeat (with_reducible apply Exists.intro));(with_reducible refine And.intro ?_ h);(repeat' (with_reducible refine And.intro ?_ ?_));(all_goals first | (simp +decide only [F,reduceIte,Nat.reduceAdd,Bool.not_true,Bool.not_false,EN, *,-h];done) | (simp +decide only [F,reduceIte,Nat.reduceAdd,Bool.not_true,Bool.not_false,EN, *,-h];rfl) | rfl)));clear i6;intro m s1 hI;clear h;(repeat (obtain ⟨v,hI⟩:=hI));have h:=hI;clear hI;rcases m with _ | m;(· cases (show none=some _ from h));(simp only [e6] at h))
  | ((with_reducible apply lpM (i1 ..) fuel);(· ((repeat (first | (refine sN ?_ (by (simp +decide only [F,reduceIte,Nat.reduceAdd,Bool.not_true,Bool.not_false,EN, *,-h];rfl))) | (refine sR ?_ (by (simp +decide only [F,reduceIte,Nat.reduceAdd,Bool.not_true,Bool.not_false,EN, *,-h];rfl)) (by (simp +decide only [F,reduceIte,Nat.reduceAdd,Bool.not_true,Bool.not_false,EN, *,-h];rfl))) | (refine sO ?_ (by (simp +decide only [F,reduceIte,Nat.reduceAdd,Bool.not_true,Bool.not_false,EN, *,-h];rfl)) (by rfl) (by decide)) | (refine sI ?_ (by (simp +decide only [F,reduceIte,Nat.reduceAdd,Bool.not_true,Bool.not_false,EN, *,-h];rfl)) (by rfl) (by (simp +decide only [F,reduceIte,Nat.reduceAdd,Bool.not_true,Bool.not_false,EN, *,-h];rfl)) (by decide))));refine gx0 ?_;(repeat (with_reducible apply Exists.intro));(with_reducible refine And.intro ?_ h);(repeat' (with_reducible refine And.intro ?_ ?_));(all_goals first | (simp +decide only [F,reduceIte,Nat.reduceAdd,Bool.not_true,Bool.not_false,EN, *,-h];done) | (simp +decide only [F,reduceIte,Nat.reduceAdd,Bool.not_true,Bool.not_false,EN, *,-h];rfl) | rfl)));clear i1;intro m s1 hI;clear h;(repeat (obtain ⟨v,hI⟩:=hI));have h:=hI;clear hI;rcases m with _ | m;(· cases (show none=some _ from h));(simp only [e1] at h))
  | ((with_reducible apply lpM (i2 ..) fuel);(· ((repeat (first | (refine sN ?_ (by (simp +decide only [F,reduceIte,Nat.reduceAdd,Bool.not_true,Bool.not_false,EN, *,-h];rfl))) | (refine sR ?_ (by (simp +decide only [F,reduceIte,Nat.reduceAdd,Bool.not_true,Bool.not_false,EN, *,-h];rfl)) (by (simp +decide only [F,reduceIte,Nat.reduceAdd,Bool.not_true,Bool.not_false,EN, *,-h];rfl))) | (refine sO ?_ (by (simp +decide only [F,reduceIte,Nat.reduceAdd,Bool.not_true,Bool.not_false,EN, *,-h];rfl)) (by rfl) (by decide)) | (refine sI ?_ (by (simp +decide only [F,reduceIte,Nat.reduceAdd,Bool.not_true,Bool.not_false,EN, *,-h];rfl)) (by rfl) (by (simp +decide only [F,reduceIte,Nat.reduceAdd,Bool.not_true,Bool.not_false,EN, *,-h];rfl)) (by decide))));refine gx0 ?_;(repeat (with_reducible apply Exists.intro));(with_reducible refine And.intro ?_ h);(repeat' (with_reducible refine And.intro ?_ ?_));(all_goals first | (simp +decide only [F,reduceIte,Nat.reduceAdd,Bool.not_true,Bool.not_false,EN, *,-h];done) | (simp +decide only [F,reduceIte,Nat.reduceAdd,Bool.not_true,Bool.not_false,EN, *,-h];rfl) | rfl)));clear i2;intro m s1 hI;clear h;(repeat (obtain ⟨v,hI⟩:=hI));have h:=hI;clear hI;rcases m with _ | m;(· cases (show none=some _ from h));(simp only [e2] at h))
  | ((with_reducible apply lpM (i3 ..) fuel);(· ((repeat (first | (refine sN ?_ (by (simp +decide only [F,reduceIte,Nat.reduceAdd,Bool.not_true,Bool.not_false,EN, *,-h];rfl))) | (refine sR ?_ (by (simp +decide only [F,reduceIte,Nat.reduceAdd,Bool.not_true,Bool.not_false,EN, *,-h];rfl)) (by (simp +decide only [F,reduceIte,Nat.reduceAdd,Bool.not_true,Bool.not_false,EN, *,-h];rfl))) | (refine sO ?_ (by (simp +decide only [F,reduceIte,Nat.reduceAdd,Bool.not_true,Bool.not_false,EN, *,-h];rfl)) (by rfl) (by decide)) | (refine sI ?_ (by (simp +decide only [F,reduceIte,Nat.reduceAdd,Bool.not_true,Bool.not_false,EN, *,-h];rfl)) (by rfl) (by (simp +decide only [F,reduceIte,Nat.reduceAdd,Bool.not_true,Bool.not_false,EN, *,-h];rfl)) (by decide))));refine gx0 ?_;(repeat (with_reducible apply Exists.intro));(with_reducible refine And.intro ?_ h);(repeat' (with_reducible refine And.intro ?_ ?_));(all_goals first | (simp +decide only [F,reduceIte,Nat.reduceAdd,Bool.not_true,Bool.not_false,EN, *,-h];done) | (simp +decide only [F,reduceIte,Nat.reduceAdd,Bool.not_true,Bool.not_false,EN, *,-h];rfl) | rfl)));clear i3;intro m s1 hI;clear h;(repeat (obtain ⟨v,hI⟩:=hI));have h:=hI;clear hI;rcases m with _ | m;(· cases (show none=some _ from h));(simp only [e3] at h))
  | ((with_reducible apply lpM (i4 ..) fuel);(· ((repeat (first | (refine sN ?_ (by (simp +decide only [F,reduceIte,Nat.reduceAdd,Bool.not_true,Bool.not_false,EN, *,-h];rfl))) | (refine sR ?_ (by (simp +decide only [F,reduceIte,Nat.reduceAdd,Bool.not_true,Bool.not_false,EN, *,-h];rfl)) (by (simp +decide only [F,reduceIte,Nat.reduceAdd,Bool.not_true,Bool.not_false,EN, *,-h];rfl))) | (refine sO ?_ (by (simp +decide only [F,reduceIte,Nat.reduceAdd,Bool.not_true,Bool.not_false,EN, *,-h];rfl)) (by rfl) (by decide)) | (refine sI ?_ (by (simp +decide only [F,reduceIte,Nat.reduceAdd,Bool.not_true,Bool.not_false,EN, *,-h];rfl)) (by rfl) (by (simp +decide only [F,reduceIte,Nat.reduceAdd,Bool.not_true,Bool.not_false,EN, *,-h];rfl)) (by decide))));refine gx0 ?_;(repeat (with_reducible apply Exists.intro));(with_reducible refine And.intro ?_ h);(repeat' (with_reducible refine And.intro ?_ ?_));(all_goals first | (simp +decide only [F,reduceIte,Nat.reduceAdd,Bool.not_true,Bool.not_false,EN, *,-h];done) | (simp +decide only [F,reduceIte,Nat.reduceAdd,Bool.not_true,Bool.not_false,EN, *,-h];rfl) | rfl)));clear i4;intro m s1 hI;clear h;(repeat (obtain ⟨v,hI⟩:=hI));have h:=hI;clear hI;rcases m with _ | m;(· cases (show none=some _ from h));(simp only [e4] at h))
  | ((with_reducible apply lpM (i5 ..) fuel);(· ((repeat (first | (refine sN ?_ (by (simp +decide only [F,reduceIte,Nat.reduceAdd,Bool.not_true,Bool.not_false,EN, *,-h];rfl))) | (refine sR ?_ (by (simp +decide only [F,reduceIte,Nat.reduceAdd,Bool.not_true,Bool.not_false,EN, *,-h];rfl)) (by (simp +decide only [F,reduceIte,Nat.reduceAdd,Bool.not_true,Bool.not_false,EN, *,-h];rfl))) | (refine sO ?_ (by (simp +decide only [F,reduceIte,Nat.reduceAdd,Bool.not_true,Bool.not_false,EN, *,-h];rfl)) (by rfl) (by decide)) | (refine sI ?_ (by (simp +decide only [F,reduceIte,Nat.reduceAdd,Bool.not_true,Bool.not_false,EN, *,-h];rfl)) (by rfl) (by (simp +decide only [F,reduceIte,Nat.reduceAdd,Bool.not_true,Bool.not_false,EN, *,-h];rfl)) (by decide))));refine gx0 ?_;(repeat (with_reducible apply Exists.intro));(with_reducible refine And.intro ?_ h);(repeat' (with_reducible refine And.intro ?_ ?_));(all_goals first | (simp +decide only [F,reduceIte,Nat.reduceAdd,Bool.not_true,Bool.not_false,EN, *,-h];done) | (simp +decide only [F,reduceIte,Nat.reduceAdd,Bool.not_true,Bool.not_false,EN, *,-h];rfl) | rfl)));clear i5;intro m s1 hI;clear h;(repeat (obtain ⟨v,hI⟩:=hI));have h:=hI;clear hI;rcases m with _ | m;(· cases (show none=some _ from h));(simp only [e5] at h))
  | ((with_reducible apply lpM (i6 ..) fuel);(· ((repeat (first | (refine sN ?_ (by (simp +decide only [F,reduceIte,Nat.reduceAdd,Bool.not_true,Bool.not_false,EN, *,-h];rfl))) | (refine sR ?_ (by (simp +decide only [F,reduceIte,Nat.reduceAdd,Bool.not_true,Bool.not_false,EN, *,-h];rfl)) (by (simp +decide only [F,reduceIte,Nat.reduceAdd,Bool.not_true,Bool.not_false,EN, *,-h];rfl))) | (refine sO ?_ (by (simp +decide only [F,reduceIte,Nat.reduceAdd,Bool.not_true,Bool.not_false,EN, *,-h];rfl)) (by rfl) (by decide)) | (refine sI ?_ (by (simp +decide only [F,reduceIte,Nat.reduceAdd,Bool.not_true,Bool.not_false,EN, *,-h];rfl)) (by rfl) (by (simp +decide only [F,reduceIte,Nat.reduceAdd,Bool.not_true,Bool.not_false,EN, *,-h];rfl)) (by decide))));refine gx0 ?_;(repeat (with_reducible apply Exists.intro));(with_reducible refine And.intro ?_ h);(repeat' (with_reducible refine And.intro ?_ ?_));(all_goals first | (simp +decide only [F,reduceIte,Nat.reduceAdd,Bool.not_true,Bool.not_false,EN, *,-h];done) | (simp +decide only [F,reduceIte,Nat.reduceAdd,Bool.not_true,Bool.not_false,EN, *,-h];rfl) | rfl)));clear i6;intro m s1 hI;clear h;(repeat (obtain ⟨v,hI⟩:=hI));have h:=hI;clear hI;rcases m with _ | m;(· cases (show none=some _ from h));(simp only [e6] at h)))):dO P f args rs:=uE hf hb hN hv hnm hn h
theorem sgn {P : Program} {f : FuncId} {fn : Func} {c : Code} {args : List (Bool × List D)} {rs : List (Bool × List RC)} (N : Nat) (vars : List ResultVar) (hf : P.funcs[f]? = some fn) (h : ∀ (base : Nat) (w0 : W0), SW P base w0 N c (init args) (aft P base w0 N (Ret (dA P) vars rs) [])) (hb : fn.body = some c := by exact rfl) (hN : fn.ntmps = N := by exact rfl) (hv : fn.results.toList = vars := by exact rfl) (hnm : (fn.name == "runtime.NumGoroutine") = false := by decide +kernel) (hn : args.length ≤ N := by exact Nat.le_of_ble_eq_true rfl) : dO P f args rs := uE hf hb hN hv hnm hn h
theorem sgB {P : Program} {f : FuncId} {fn : Func} {c : Code} {t : TypeId} {d0 : D} {ds es : List D} {rest : List (Bool × List D)} {rs : List (Bool × List RC)} (N : Nat) (vars : List ResultVar) (hf : P.funcs[f]? = some fn) (h : ∀ (base : Nat) (w0 : W0) (B : Nat) (v0 : Value), (B ≤ base ∧ w0.Q.L = slP P ∧ ∀ b, w0.K b → b < base) → SW P base w0 N c (vW t B v0 d0 ds rest) (aft P base w0 N (lA (dA P) vars t B v0 d0 es rs) [])) (hb : fn.body = some c := by exact rfl) (hN : fn.ntmps = N := by exact rfl) (hv : fn.results.toList = vars := by exact rfl) (hnm : (fn.name == "runtime.NumGoroutine") = false := by decide +kernel) (hn : rest.length + 1 ≤ N := by exact Nat.le_of_ble_eq_true rfl) (hrs : eI rs = false := by exact rfl) (hds : ds.all D.flat = true := by exact rfl) (hes : es.all D.flat = true := by exact rfl) (hl : es.length = ds.length := by exact rfl) : dO P f ((false, [.ptr (d0 :: ds)]) :: rest) ((false, [.edit (.lend t es)]) :: rs) := aAR hf hb hN hv hnm hn hrs hds hes hl h
theorem sgN {P : Program} {f : FuncId} {fn : Func} {c : Code} {t : TypeId} {es : List D} {args : List (Bool × List D)} (N : Nat) (vars : List ResultVar) (hf : P.funcs[f]? = some fn) (h : ∀ (base : Nat) (w0 : W0), SW P base w0 N c (init args) (aft P base w0 N (aBB (dA P) vars t es) [])) (hb : fn.body = some c := by exact rfl) (hN : fn.ntmps = N := by exact rfl) (hv : fn.results.toList = vars := by exact rfl) (hnm : (fn.name == "runtime.NumGoroutine") = false := by decide +kernel) (hn : args.length ≤ N := by exact Nat.le_of_ble_eq_true rfl) : dO P f args [(false, [.edit (.newb t es)])] := aAP hf hb hN hv hnm hn h
end Go.Sh
