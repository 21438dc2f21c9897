/-
  Helper text. No conditions.
-/
import Derived.Test.YtidhkhdnjonjfaaGreatBucketsShQ
import Derived.KernelRfl
import Derived.Laws.CopyRow
import Derived.Lib.Walk
import Derived.WalkKit
import Derived.Lib.AppendZerosOnto
import Derived.Lib.Overlaps
import Derived.Lib.SliceRun
import Derived.Laws.Externs
import Derived.Laws.OwnMore
set_option linter.unusedVariables false
set_option linter.unusedSimpArgs false
namespace Go.Sh
end Go.Sh
namespace Go.Sh
theorem aKd {α σ R:Type} {xs:List α} {step:σ→α→σ} {I:Nat→σ→Prop} {E:σ→Option R} {L:Nat→Int→σ→Option R}
  (hI : ∀s (k:Nat) (hk:k<xs.length),I k s→I (k+1) (step s xs[k]))
  (h1 : ∀n s (k:Nat) (hk:k<xs.length),I k s→L (n+1) (k:Int) s=L n ((k+1:Nat):Int) (step s xs[k])) (h2 : ∀n s,I xs.length s→L (n+1) (xs.length:Int) s=E s) :
  ∀(n k:Nat) (s:σ),xs.length-k<n→k≤xs.length→I k s→L n (k:Int) s=E ((xs.drop k).foldl step s)∧I xs.length ((xs.drop k).foldl step s)
 | 0,k,s,hn,_,_=>by omega
 | n+1,k,s,hn,hk,hi=>by
  rcases Nat.lt_or_ge k xs.length with h | h
  ·have ih:=aKd hI h1 h2 n (k+1) _ (by omega) h (hI s k h hi)
   rw [h1 n s k h hi,qV h,List.foldl_cons]
   exact ih
  ·have:k=xs.length:=by omega
   subst this
   rw [h2 n s hi]
   simpa using hi
theorem aIb {α σ R:Type} {xs:List α} {step:σ→α→σ} {I:Nat→σ→Prop} {E:σ→Option R} {L:Nat→Int→σ→Option R} (hx:xs.length≤maxLen)
  (hI : ∀s (k:Nat) (hk:k<xs.length),I k s→I (k+1) (step s xs[k]))
  (h1 : ∀n s (k:Nat) (hk:k<xs.length),I k s→L (n+1) (k:Int) s=L n ((k+1:Nat):Int) (step s xs[k])) (h2 : ∀n s,I xs.length s→L (n+1) (xs.length:Int) s=E s) (s:σ) (h0:I 0 s) :
  L fuel 0 s=E (xs.foldl step s)∧I xs.length (xs.foldl step s):=by
 have hm:=le_max hx
 have:=aKd hI h1 h2 fuel 0 s (by unfold fuel;omega) (by omega) h0
 simpa using this
theorem aL8 {α R:Type} {xs:List α} {f:α→Bool} {b:Nat} {E:List α→Option R} {L:Nat→Int→List α→Option R} (hx:xs.length≤maxLen) (hb:xs.length*b≤140737488355328)
  (h1 : ∀n (r:List α) (k:Nat) (hk:k<xs.length),L (n+1) (k:Int) r=if f xs[k]=true then (app b r [xs[k]]).bind fun _=>L n ((k+1:Nat):Int) (r++[xs[k]]) else L n ((k+1:Nat):Int) r) (h2 : ∀n r,L (n+1) (xs.length:Int) r=E r) :
  L fuel 0 []=E (xs.filter f):=by
 have key:=aIb (L:=fun n k r=>L n k r) (step:=fun r x=>if f x=true then r++[x] else r) (I:=fun k r=>r.length≤k) (E:=E) hx
  (fun s k hk hi=>by have hi':s.length≤k:=hi;split<;>(try simp only [qE,qJ,qK])<;>omega) (fun n s k hk hi=>by
   rw [h1 n s k hk]
   by_cases h:f xs[k]=true
   ·rw [if_pos h,if_pos h,fC,qA]
    simp only [qJ,qK]
    refine Nat.le_trans (Nat.mul_le_mul_right b (show s.length+(0+1)≤xs.length by omega)) hb
   ·rw [if_neg h,if_neg h]) (fun n s _=>h2 n s) [] (by simp)
 have e : ∀(l:List α) (r:List α),l.foldl (fun r x=>if f x=true then r++[x] else r) r=r++l.filter f:=by
  intro l
  induction l with
  | nil=>intro r;simp
  | cons x l ih =>
   intro r
   rw [List.foldl_cons,ih,List.filter_cons]
   split<;>simp
 rw [key.1,e]
 simp
theorem aAU {α R:Type} {xs:List α} {b:Nat} {E:List α→Option R} {L:Nat→Int→List α→Option R} (hx:xs.length≤1073741824) (hb:b≤65536)
  (h1 : ∀n (r:List α) (k:Nat) (hk:k<xs.length),L (n+1) (k:Int) r=(app b r [xs[k]]).bind fun _=>L n ((k+1:Nat):Int) (r++[xs[k]])) (h2 : ∀n r,L (n+1) (xs.length:Int) r=E r) :
  L fuel 0 []=E xs:=by
 have:=aL8 (xs:=xs) (f:=fun _=>true) (b:=b) (E:=E) (L:=L) (by unfold maxLen;omega) (Nat.le_trans (Nat.mul_le_mul hx hb) (by omega)) (fun n r k hk=>by rw [if_pos rfl];exact h1 n r k hk) h2
 rw [this,List.filter_eq_self.2 (fun _ _=>rfl)]
theorem aGS {α:Type} {b:Nat} {ys:List α} (h:ys.length≤1073741824) (hb:b≤65536):app b [] ys=some ys:=by
 rw [fC]
 ·simp
 ·simp only [qK,Nat.zero_add]
  exact Nat.le_trans (Nat.mul_le_mul h hb) (by omega)
def aLm {α:Type} (b:Nat) (xs:List α) (i:Int) (ys:List α):Option (List α):=
 if 0≤i∧i.toNat≤xs.length∧0<ys.length∧(xs.length+ys.length)*b≤140737488355328 then some (xs.take i.toNat++(ys++xs.drop i.toNat)) else none
theorem aCZ {α:Type} {b:Nat} {xs ys zs:List α} {i:Int} (h:aLm b xs i ys=some zs):0≤i∧i.toNat≤xs.length∧0<ys.length∧(xs.length+ys.length)*b≤140737488355328:=by
 unfold aLm at h
 split at h
 ·assumption
 ·cases h
theorem aMS {α:Type} {b:Nat} {xs ys:List α} {i:Int} (h:0≤i∧i.toNat≤xs.length∧0<ys.length∧(xs.length+ys.length)*b≤140737488355328):aLm b xs i ys=some (xs.take i.toNat++(ys++xs.drop i.toNat)):=by
 unfold aLm;rw [if_pos h]
def aPL {α:Type} (xs:List α) (i j:Int):Option (List α):=if 0≤i∧i≤j∧j.toNat≤xs.length then some (xs.take i.toNat++xs.drop j.toNat) else none
theorem aCs {α:Type} {xs zs:List α} {i j:Int} (h:aPL xs i j=some zs):0≤i∧i≤j∧j.toNat≤xs.length:=by
 unfold aPL at h
 split at h
 ·assumption
 ·cases h
theorem aEp {α:Type} {xs z:List α} {i:Int} (h:wM xs i=some z):0≤i∧i.toNat≤xs.length:=by
 unfold wM at h
 split at h
 ·assumption
 ·cases h
theorem rX {α:Type} {xs z:List α} {i:Int} (h:xA xs i=some z):0≤i∧i.toNat≤xs.length:=by
 unfold xA at h
 split at h
 ·assumption
 ·cases h
end Go.Sh
namespace Go.Sh
theorem aKp (k:IntKind) (n:Int):strOf [[.int k n]]=cK [n]:=rfl
section
variable {P:Program} {base N:Nat} {w0:W0} {Z:St→Prop} {k:List Fr} {s s':St}
theorem rn {id:Nat} {ops:Array Oper} (hk:aft P base w0 N Z k .normal s') (h:aAL P (jF P) N ops ops.toList s (Is s'):=by (simp +decide only [E,reduceIte,Nat.reduceAdd,Nat.reduceMul,Int.reduceEq,Int.reduceLT,qB,qC,L,TB,EN, *,-h];exact Is.mk _)):SW P base w0 N (.region id ops false) s (aft P base w0 N Z k):=eD (h) hk
theorem rd (hm:P.follows .mixedOrders=true) {id:Nat} {ops:Array Oper} (hk:aft P base w0 N Z k .normal s') (h:xQ P (jF P) N ops ops.toList s [] (fun t fps=>aGs ops fps∧Is s' t):=by (simp +decide only [E,reduceIte,Nat.reduceAdd,Nat.reduceMul,Int.reduceEq,Int.reduceLT,qB,qC,L,TB,EN, *,-h];exact ⟨.mk (by decide +kernel),Is.mk _⟩)):SW P base w0 N (.region id ops true) s (aft P base w0 N Z k):=xG hm (h) hk
theorem rn1 {X1:Prop} {id:Nat} {ops:Array Oper} (c1:X1) (hk:aft P base w0 N Z k .normal s') (h:X1→aAL P (jF P) N ops ops.toList s (Is s'):=by (intro hc1;simp +decide only [E,reduceIte,Nat.reduceAdd,Nat.reduceMul,Int.reduceEq,Int.reduceLT,qB,qC,L,TB,EN, *,-h,-hc1];(try (first | refine ⟨_,hc1,?_⟩ | refine ⟨hc1,?_⟩ | refine ⟨by (have hb:=oA hc1);simp [EN,qE,aQ] at hb ⊢ <;> omega,?_⟩ | refine ⟨by (have hb:=sU hc1);simp [EN,qE,aQ] at hb ⊢ <;> omega,?_⟩ | (simp only [List.map_append,List.map_cons,List.map_nil,EN] at hc1;refine ⟨_,hc1,?_⟩) | (simp only [List.map_append,List.map_cons,List.map_nil,EN, *,-h] at hc1;refine ⟨_,hc1,?_⟩)));(try simp +decide only [E,reduceIte,Nat.reduceAdd,Nat.reduceMul,Int.reduceEq,Int.reduceLT,qB,qC,L,TB,EN, *,-h,-hc1]);exact Is.mk _)):SW P base w0 N (.region id ops false) s (aft P base w0 N Z k):=eD (h c1) hk
theorem rd1 (hm:P.follows .mixedOrders=true) {X1:Prop} {id:Nat} {ops:Array Oper} (c1:X1) (hk:aft P base w0 N Z k .normal s') (h:X1→xQ P (jF P) N ops ops.toList s [] (fun t fps=>aGs ops fps∧Is s' t):=by (intro hc1;simp +decide only [E,reduceIte,Nat.reduceAdd,Nat.reduceMul,Int.reduceEq,Int.reduceLT,qB,qC,L,TB,EN, *,-h,-hc1];(try (first | refine ⟨_,hc1,?_⟩ | refine ⟨hc1,?_⟩ | refine ⟨by (have hb:=oA hc1);simp [EN,qE,aQ] at hb ⊢ <;> omega,?_⟩ | refine ⟨by (have hb:=sU hc1);simp [EN,qE,aQ] at hb ⊢ <;> omega,?_⟩ | (simp only [List.map_append,List.map_cons,List.map_nil,EN] at hc1;refine ⟨_,hc1,?_⟩) | (simp only [List.map_append,List.map_cons,List.map_nil,EN, *,-h] at hc1;refine ⟨_,hc1,?_⟩)));(try simp +decide only [E,reduceIte,Nat.reduceAdd,Nat.reduceMul,Int.reduceEq,Int.reduceLT,qB,qC,L,TB,EN, *,-h,-hc1]);exact ⟨.mk (by decide +kernel),Is.mk _⟩)):SW P base w0 N (.region id ops true) s (aft P base w0 N Z k):=xG hm (h c1) hk
theorem rn2 {X1:Prop} {X2:Prop} {id:Nat} {ops:Array Oper} (c1:X1) (c2:X2) (hk:aft P base w0 N Z k .normal s') (h:X1→X2→aAL P (jF P) N ops ops.toList s (Is s'):=by (intro hc1 hc2;simp +decide only [E,reduceIte,Nat.reduceAdd,Nat.reduceMul,Int.reduceEq,Int.reduceLT,qB,qC,L,TB,EN, *,-h,-hc1,-hc2];(try (first | refine ⟨_,hc1,?_⟩ | refine ⟨hc1,?_⟩ | refine ⟨by (have hb:=oA hc1);simp [EN,qE,aQ] at hb ⊢ <;> omega,?_⟩ | refine ⟨by (have hb:=sU hc1);simp [EN,qE,aQ] at hb ⊢ <;> omega,?_⟩ | (simp only [List.map_append,List.map_cons,List.map_nil,EN] at hc1;refine ⟨_,hc1,?_⟩) | (simp only [List.map_append,List.map_cons,List.map_nil,EN, *,-h] at hc1;refine ⟨_,hc1,?_⟩)));(try simp +decide only [E,reduceIte,Nat.reduceAdd,Nat.reduceMul,Int.reduceEq,Int.reduceLT,qB,qC,L,TB,EN, *,-h,-hc1,-hc2]);(try (first | refine ⟨_,hc2,?_⟩ | refine ⟨hc2,?_⟩ | refine ⟨by (have hb:=oA hc2);simp [EN,qE,aQ] at hb ⊢ <;> omega,?_⟩ | refine ⟨by (have hb:=sU hc2);simp [EN,qE,aQ] at hb ⊢ <;> omega,?_⟩ | (simp only [List.map_append,List.map_cons,List.map_nil,EN] at hc2;refine ⟨_,hc2,?_⟩) | (simp only [List.map_append,List.map_cons,List.map_nil,EN, *,-h] at hc2;refine ⟨_,hc2,?_⟩)));(try simp +decide only [E,reduceIte,Nat.reduceAdd,Nat.reduceMul,Int.reduceEq,Int.reduceLT,qB,qC,L,TB,EN, *,-h,-hc1,-hc2]);exact Is.mk _)):SW P base w0 N (.region id ops false) s (aft P base w0 N Z k):=eD (h c1 c2) hk
theorem rd2 (hm:P.follows .mixedOrders=true) {X1:Prop} {X2:Prop} {id:Nat} {ops:Array Oper} (c1:X1) (c2:X2) (hk:aft P base w0 N Z k .normal s') (h:X1→X2→xQ P (jF P) N ops ops.toList s [] (fun t fps=>aGs ops fps∧Is s' t):=by (intro hc1 hc2;simp +decide only [E,reduceIte,Nat.reduceAdd,Nat.reduceMul,Int.reduceEq,Int.reduceLT,qB,qC,L,TB,EN, *,-h,-hc1,-hc2];(try (first | refine ⟨_,hc1,?_⟩ | refine ⟨hc1,?_⟩ | refine ⟨by (have hb:=oA hc1);simp [EN,qE,aQ] at hb ⊢ <;> omega,?_⟩ | refine ⟨by (have hb:=sU hc1);simp [EN,qE,aQ] at hb ⊢ <;> omega,?_⟩ | (simp only [List.map_append,List.map_cons,List.map_nil,EN] at hc1;refine ⟨_,hc1,?_⟩) | (simp only [List.map_append,List.map_cons,List.map_nil,EN, *,-h] at hc1;refine ⟨_,hc1,?_⟩)));(try simp +decide only [E,reduceIte,Nat.reduceAdd,Nat.reduceMul,Int.reduceEq,Int.reduceLT,qB,qC,L,TB,EN, *,-h,-hc1,-hc2]);(try (first | refine ⟨_,hc2,?_⟩ | refine ⟨hc2,?_⟩ | refine ⟨by (have hb:=oA hc2);simp [EN,qE,aQ] at hb ⊢ <;> omega,?_⟩ | refine ⟨by (have hb:=sU hc2);simp [EN,qE,aQ] at hb ⊢ <;> omega,?_⟩ | (simp only [List.map_append,List.map_cons,List.map_nil,EN] at hc2;refine ⟨_,hc2,?_⟩) | (simp only [List.map_append,List.map_cons,List.map_nil,EN, *,-h] at hc2;refine ⟨_,hc2,?_⟩)));(try simp +decide only [E,reduceIte,Nat.reduceAdd,Nat.reduceMul,Int.reduceEq,Int.reduceLT,qB,qC,L,TB,EN, *,-h,-hc1,-hc2]);exact ⟨.mk (by decide +kernel),Is.mk _⟩)):SW P base w0 N (.region id ops true) s (aft P base w0 N Z k):=xG hm (h c1 c2) hk
theorem rd3 (hm:P.follows .mixedOrders=true) {X1:Prop} {X2:Prop} {X3:Prop} {id:Nat} {ops:Array Oper} (c1:X1) (c2:X2) (c3:X3) (hk:aft P base w0 N Z k .normal s') (h:X1→X2→X3→xQ P (jF P) N ops ops.toList s [] (fun t fps=>aGs ops fps∧Is s' t):=by (intro hc1 hc2 hc3;simp +decide only [E,reduceIte,Nat.reduceAdd,Nat.reduceMul,Int.reduceEq,Int.reduceLT,qB,qC,L,TB,EN, *,-h,-hc1,-hc2,-hc3];(try (first | refine ⟨_,hc1,?_⟩ | refine ⟨hc1,?_⟩ | refine ⟨by (have hb:=oA hc1);simp [EN,qE,aQ] at hb ⊢ <;> omega,?_⟩ | refine ⟨by (have hb:=sU hc1);simp [EN,qE,aQ] at hb ⊢ <;> omega,?_⟩ | (simp only [List.map_append,List.map_cons,List.map_nil,EN] at hc1;refine ⟨_,hc1,?_⟩) | (simp only [List.map_append,List.map_cons,List.map_nil,EN, *,-h] at hc1;refine ⟨_,hc1,?_⟩)));(try simp +decide only [E,reduceIte,Nat.reduceAdd,Nat.reduceMul,Int.reduceEq,Int.reduceLT,qB,qC,L,TB,EN, *,-h,-hc1,-hc2,-hc3]);(try (first | refine ⟨_,hc2,?_⟩ | refine ⟨hc2,?_⟩ | refine ⟨by (have hb:=oA hc2);simp [EN,qE,aQ] at hb ⊢ <;> omega,?_⟩ | refine ⟨by (have hb:=sU hc2);simp [EN,qE,aQ] at hb ⊢ <;> omega,?_⟩ | (simp only [List.map_append,List.map_cons,List.map_nil,EN] at hc2;refine ⟨_,hc2,?_⟩) | (simp only [List.map_append,List.map_cons,List.map_nil,EN, *,-h] at hc2;refine ⟨_,hc2,?_⟩)));(try simp +decide only [E,reduceIte,Nat.reduceAdd,Nat.reduceMul,Int.reduceEq,Int.reduceLT,qB,qC,L,TB,EN, *,-h,-hc1,-hc2,-hc3]);(try (first | refine ⟨_,hc3,?_⟩ | refine ⟨hc3,?_⟩ | refine ⟨by (have hb:=oA hc3);simp [EN,qE,aQ] at hb ⊢ <;> omega,?_⟩ | refine ⟨by (have hb:=sU hc3);simp [EN,qE,aQ] at hb ⊢ <;> omega,?_⟩ | (simp only [List.map_append,List.map_cons,List.map_nil,EN] at hc3;refine ⟨_,hc3,?_⟩) | (simp only [List.map_append,List.map_cons,List.map_nil,EN, *,-h] at hc3;refine ⟨_,hc3,?_⟩)));(try simp +decide only [E,reduceIte,Nat.reduceAdd,Nat.reduceMul,Int.reduceEq,Int.reduceLT,qB,qC,L,TB,EN, *,-h,-hc1,-hc2,-hc3]);exact ⟨.mk (by decide +kernel),Is.mk _⟩)):SW P base w0 N (.region id ops true) s (aft P base w0 N Z k):=xG hm (h c1 c2 c3) hk
theorem ct {t:Nat} {x y:Code} (h0:SW P base w0 N x s (aft P base w0 N Z k)) (hb:s.t t = .v false [.dat (.bool true)]:=by (simp +decide only [F,reduceIte,Nat.reduceAdd,qB,qC,EN, *,-h])):SW P base w0 N (.cond (.tmp t) x y) s (aft P base w0 N Z k):=aBC hb h0
theorem cf {t:Nat} {x y:Code} (h0:SW P base w0 N y s (aft P base w0 N Z k)) (hb:s.t t = .v false [.dat (.bool false)]:=by (simp +decide only [F,reduceIte,Nat.reduceAdd,qB,qC,EN, *,-h])):SW P base w0 N (.cond (.tmp t) x y) s (aft P base w0 N Z k):=aDp hb h0
theorem cu {c:Code} {Q:Exit→St→Prop} (J:St→Prop) (h0 : ∀s,J s→SW P base w0 N c s Q) (hj:J s:=by ((repeat' (with_reducible refine ⟨?_,?_⟩))<;>(first | trivial | (simp +decide only [F,reduceIte,Nat.reduceAdd,qB,qC,EN, *,-h])))):SW P base w0 N c s Q:=h0 s hj
theorem ghB (b c K j:Nat) {vb vj:Nat} {t:TypeId} {cells:List SC} {e:TypeId} {sz:Nat} {xs:List (List D)} {dp:Bool} (h0:s.h b=(vb,.box t cells):=by (simp +decide only [F,reduceIte,Nat.reduceAdd,qB,qC,EN, *,-h];rfl)) (h1:cells[c]? = some (.row j vj):=by rfl) (h2:s.h j=(vj,.row e sz xs dp):=by (simp +decide only [F,reduceIte,Nat.reduceAdd,qB,qC,EN, *,-h];rfl)) (hk:b≠K:=by decide):Gho P base w0 N s (((s.eE j (vj,.none)).eE K ((s.h K).1+1,.row e sz xs dp)).eE b (vb,.box t (cells.set c (.row K ((s.h K).1+1))))):=Gho.aNP h0 h1 h2 hk
end
section
end
end Go.Sh
namespace Go.Sh
open Go Go.RowKit Go.Lib
theorem aA2 {P:Program} (w:World) (dT sT ty elem:TypeId) (ie:TypeInfo) (g o dLen dCap:Nat) (a:Addr) (sLen sCap:Nat) (cur:Array Value) (t:TypeId) (cs:List Value)
  (hu:P.underlying dT=some (.slice elem)) (hs:P.info? elem=some ie) (hg:w.heap[g]? = some (.cells cur t (0,0))) (hn:cs.length=Nat.min sLen dLen*ie.size)
  (hsrc : ∀j v,cs[j]? = some v→w.cell? (a.add j)=some v) (hfit:o+cs.length≤cur.size) (h1 : ∀v∈cs,v.oneCell'=true) :
  (Builtin.copy_ #[dT,sT] ty #[.slice (some ⟨g,o,none⟩) dLen dCap,.slice (some a) sLen sCap]).run P w =
   .ok (goInt (Nat.min sLen dLen)) (w.setRow g (cur.toList.take o++cs++cur.toList.drop (o+cs.length)).toArray):=by
 have hl:=run_loadCells_list (P:=P) w a cs hsrc
 have hst:=run_storeCells_at P g o t cs 0 cur w hg (by simpa using hfit) h1
 simp [Builtin.copy_,run_underlying hu,Builtin.lenOf,Builtin.firstCells,sizeOf,typeInfo,hs,←hn,hl,hst]
theorem aG0 {P:Program} (w:World) {o:Oper} {a:Act} {K:Act→World→Prop} {Q:Exit→Act→World→Prop} (d s:Operand) (t t':TypeId)
  (ho:o.op = .call { callee:=.builtin .copy,args := #[d,s],argTypes := #[t,t'] }) (v u:Value) (hd:a.eval d=v) (hs:a.eval s=u) {v':Value} {w':World}
  (hr:(Builtin.copy_ #[t,t'] o.type #[v,u]).run P w = .ok v' w') (h:K (a.put o.dst v') w'):o.wp P a w K Q:=by
 unfold Oper.wp execOp
 simp only [ho,resolve,invoke,builtin,Sem.run_bind,Sem.run_pure,Result.andThen_ok,List.map_toArray,List.map_cons,List.map_nil,hd,hs,hr]
 exact h
theorem aAC {P:Program} (w:World) {ops:Array Oper} {rest:List Oper} {o:Oper} {a:Act} {Q:Exit→Act→World→Prop} (hgd:o.guard=none) (d s:Operand) (t t':TypeId)
  (ho:o.op = .call { callee:=.builtin .copy,args := #[d,s],argTypes := #[t,t'] }) (v u:Value) (hd:a.eval d=v) (hs:a.eval s=u) {v':Value} {w':World}
  (hr:(Builtin.copy_ #[t,t'] o.type #[v,u]).run P w = .ok v' w') (h:wpList P ops Q rest (a.put o.dst v') w'):wpList P ops Q (o::rest) a w:=
 wpList_plain hgd fun _ hK=>aG0 w d s t t' ho v u hd hs hr (hK _ _ h)
theorem aBI {P:Program} {ops:Array Oper} {o:Oper} {a:Act} {w:World} {K:Act→World→Prop} {Q:Exit→Act→World→Prop} {E:Prop}
  (hg:o.guard=none) (d x:Operand) (dT sT:TypeId) (hop:o.op=Op.call { callee:=Callee.builtin Builtin.copy,args := #[d,x],argTypes := #[dT,sT] })
  (v u:Value) (hd:a.eval d=v) (hx:a.eval x=u) {v':Value} {w':World} (hr:(Builtin.copy_ #[dT,sT] o.type #[v,u]).run P w = .ok v' w') (hK:K (a.put o.dst v') w') :
  if Region.wanted o (yielded ops a.tmps)=true then Oper.wp P o a w K Q else E:=by
 have hw:Region.wanted o (yielded ops a.tmps)=true:=by simp [Region.wanted,hg]
 rw [if_pos hw]
 unfold Oper.wp
 simp [execOp,hop,resolve,invoke,builtin,hd,hx,hr,Result.andThen]
 exact hK
theorem aMv {cur:List Value} {cs vs:List Value} {n m c i sz:Nat} (hi:i<n) (hroom:n+m≤c) (hcl:cs.length=n*sz) (hvl:vs.length=m*sz) (hcur:cur.length=c*sz) (htk:cur.take (n*sz)=cs) {A1 A2:Array Value}
  (h1:A1=(cur.take ((i+m)*sz)++cs.drop (i*sz)++cur.drop ((i+m)*sz+(cs.drop (i*sz)).length)).toArray)
  (h2:A2=(A1.toList.take (i*sz)++vs++A1.toList.drop (i*sz+vs.length)).toArray) :
  A1.size=c*sz∧A2.size=c*sz∧A2.toList.take ((n+m)*sz)=cs.take (i*sz)++(vs++cs.drop (i*sz)):=by
 have e1:i*sz≤n*sz:=Nat.mul_le_mul_right _ (by omega)
 have e2:(i+m)*sz=i*sz+m*sz:=Nat.add_mul _ _ _
 have e3:(n+m)*sz=n*sz+m*sz:=Nat.add_mul _ _ _
 have e4:(n+m)*sz≤c*sz:=Nat.mul_le_mul_right _ hroom
 have hdl:(cs.drop (i*sz)).length=n*sz-i*sz:=by rw [qU,hcl]
 have s1:A1.size=c*sz:=by
  rw [h1]
  simp only [List.size_toArray,qE,qT,qU,hcur,hcl]
  omega
 have s2:A2.size=c*sz:=by
  rw [h2]
  simp only [List.size_toArray,qE,qT,qU,Array.length_toList,s1,hvl]
  omega
 refine ⟨s1,s2,?_⟩
 have l1:(cur.take ((i+m)*sz)).length=(i+m)*sz:=by rw [qT,hcur];omega
 have p1:A1.toList.take (i*sz)=cs.take (i*sz):=by
  rw [h1]
  simp only [qS]
  rw [List.take_append_of_le_length (by rw [l1];omega),List.take_take,←htk,List.take_take]
  congr 1;omega
 have p2:A1.toList.drop (i*sz+vs.length)=cs.drop (i*sz)++cur.drop ((i+m)*sz+(cs.drop (i*sz)).length):=by
  rw [h1]
  simp only [qS]
  rw [hvl,←e2]
  exact List.drop_left' l1
 rw [h2,p1,p2]
 simp only [qS]
 have l2:(cs.take (i*sz)++(vs++cs.drop (i*sz))).length=(n+m)*sz:=by
  simp only [qE,qT,hdl,hvl,hcl]
  omega
 rw [←qS vs,←qS (cs.take (i*sz)),←l2,List.take_left]
end Go.Sh
namespace Go.Sh
open Go Go.RowKit Go.Lib
end Go.Sh
namespace Go.Sh
class bP (n:Nat) (T:outParam Prop):Prop where
 pf:T
theorem nns {α:Type} {r:α} {p:Prop} (h:none=some r):p:=by cases h
theorem aO9 {α:Type} {b:Bool} {x y r:α} {G:Prop} (h:(if b=true then x else y)=r) (hb:b=true) (k:x=r→G):G:=k (cD hb h)
theorem aPc {α:Type} {b:Bool} {x y r:α} {G:Prop} (h:(if b=true then x else y)=r) (hb:b=false) (k:y=r→G):G:=k (bY hb h)
theorem aON {P:Program} {n:FuncId} {args:List (Bool×List D)} {T:Prop} {Q:List (Bool×List RC)→Prop} [c:bP n T] (h:T → ∃rs,jJ P n args rs∧Q rs) : ∃rs,jJ P n args rs∧Q rs:=h c.pf
def Hin (I:Nat→St→Prop):Prop:=True
theorem inv (I:Nat→St→Prop):Hin I:=trivial
def aI (x:Int):Bool×List D:=(false,[.int .i64 x])
def aB (x:Bool):Bool×List D:=(false,[.bool x])
def aS (x:ByteArray):Bool×List D:=(false,[.str x])
def aL {α:Type} (f:α→List D) (x:List α):Bool×List D:=(false,[.sl (List.map f x)])
def aX (x:List D):Bool×List D:=(true,x)
def cI (x:Int):SC:=.dat (.int .i64 x)
def cB (x:Bool):SC:=.dat (.bool x)
def cS (x:ByteArray):SC:=.dat (.str x)
def cL {α:Type} (f:α→List D) (x:List α):SC:=.dat (.sl (List.map f x))
def vI (x:Int):SV:=.v false [.dat (.int .i64 x)]
def vB (x:Bool):SV:=.v false [.dat (.bool x)]
def vS (x:ByteArray):SV:=.v false [.dat (.str x)]
def vL {α:Type} (f:α→List D) (x:List α):SV:=.v false [.dat (.sl (List.map f x))]
def vR (i ver:Nat):SV:=.v false [.row i ver]
def vP (i ver o:Nat):SV:=.v false [.bp i ver o]
def oX (t:TypeId) (l:List D):yK:=.box t (l.map .dat)
def oB (t:TypeId) (l:List SC):yK:=.box t l
def oW {α:Type} (e:TypeId) (z:Nat) (f:α→List D) (x:List α):yK:=.row e z (List.map f x) true
def rI (x:Int):Bool×List RC:=(false,[.ro (.int .i64 x)])
def rB (x:Bool):Bool×List RC:=(false,[.ro (.bool x)])
def rS (x:ByteArray):Bool×List RC:=(false,[.ro (.str x)])
def rW {α:Type} (e:TypeId) (z:Nat) (f:α→List D) (x:List α):Bool×List RC:=(false,[.own e z (List.map f x)])
section
variable {P:Program} {base N:Nat} {w0:W0} {Z:St→Prop} {k:List Fr} {s:St}
theorem lpI {c:Code} {I:Nat→St→Prop} (i:Hin I) (n:Nat) (h0:I n s) (h : ∀m s,I m s→SW P base w0 N c s (aft P base w0 N Z (.inv (fun s'=>∃m',m'<m∧I m' s')::k))):SW P base w0 N (.loop c) s (aft P base w0 N Z k):=wH I n h0 h
inductive Mv where
 | t (i K:Nat) (e:TypeId) (sz:Nat)
 | b (b c K:Nat) (e:TypeId) (sz:Nat)
def aSJ (ms:List Mv) (I:Nat→St→Prop):Prop:=True
theorem aBx (ms:List Mv) (I:Nat→St→Prop):aSJ ms I:=trivial
def GX (P:Program) (base:Nat) (w0:W0) (N:Nat) (ms:List Mv) (s:St) (Q:St→Prop):Prop:=∃s',Gho P base w0 N s s'∧Q s'
section
variable {ms:List Mv} {Q:St→Prop}
theorem gx0 (h:Q s):GX P base w0 N [] s Q:=⟨s,Gho.refl s,h⟩
theorem gx1 {m:Mv} {s':St} (hg:Gho P base w0 N s s') (h:GX P base w0 N ms s' Q):GX P base w0 N (m::ms) s Q:=by
 obtain ⟨t,h1,h2⟩:=h
 exact ⟨t,Gho.trans hg h1,h2⟩
theorem aHo {i K:Nat} {e:TypeId} {sz:Nat} (h:GX P base w0 N ms ((s.eE K ((s.h K).1+1,.row e sz [] true)).aBU i (.v false [.row K ((s.h K).1+1)])) Q) (h1:s.t i = .v false [.nil]):GX P base w0 N (.t i K e sz::ms) s Q:=gx1 (Gho.aQU e sz h1) h
theorem aH8 {i K j vj:Nat} {e e':TypeId} {sz sz':Nat} {xs:List (List D)} {dp:Bool} (h:GX P base w0 N ms (((s.eE j (vj,.none)).eE K ((s.h K).1+1,.row e' sz' xs dp)).aBU i (.v false [.row K ((s.h K).1+1)])) Q) (h1:s.t i = .v false [.row j vj]) (h2:s.h j=(vj,.row e' sz' xs dp)):GX P base w0 N (.t i K e sz::ms) s Q:=gx1 (Gho.aQG h1 h2) h
theorem aII {b vb c K:Nat} {t:TypeId} {cells:List SC} {e:TypeId} {sz:Nat} (h:GX P base w0 N ms ((s.eE K ((s.h K).1+1,.row e sz [] true)).eE b (vb,.box t (cells.set c (.row K ((s.h K).1+1))))) Q) (h0:s.h b=(vb,.box t cells)) (h1:cells[c]? = some .nil) (hk:b≠K):GX P base w0 N (.b b c K e sz::ms) s Q:=gx1 (Gho.aQN e sz h0 h1 hk) h
theorem aID {b vb c j K vj:Nat} {t:TypeId} {cells:List SC} {e e':TypeId} {sz sz':Nat} {xs:List (List D)} {dp:Bool} (h:GX P base w0 N ms (((s.eE j (vj,.none)).eE K ((s.h K).1+1,.row e' sz' xs dp)).eE b (vb,.box t (cells.set c (.row K ((s.h K).1+1))))) Q) (h0:s.h b=(vb,.box t cells)) (h1:cells[c]? = some (.row j vj)) (h2:s.h j=(vj,.row e' sz' xs dp)) (hk:b≠K):GX P base w0 N (.b b c K e sz::ms) s Q:=gx1 (Gho.aNP h0 h1 h2 hk) h
theorem lpM {c:Code} {I:Nat→St→Prop} (i:aSJ ms I) (n:Nat) (h0:GX P base w0 N ms s (I n)) (h : ∀m s,I m s→SW P base w0 N c s (aft P base w0 N Z (.inv (fun s'=>GX P base w0 N ms s' (fun s''=>∃m',m'<m∧I m' s''))::k))):SW P base w0 N (.loop c) s (aft P base w0 N Z k):=by
 obtain ⟨s',h1,h2⟩:=h0
 exact aER h1 (aCC I n h2 h)
theorem aPe {m:Nat} {I:Nat→St→Prop} (h:GX P base w0 N ms s (fun s''=>∃m',m'<m∧I m' s'')):aft P base w0 N Z (.inv (fun s'=>GX P base w0 N ms s' (fun s''=>∃m',m'<m∧I m' s''))::k) .normal s:=h
end
theorem rgK {id:Nat} {ops:Array Oper} (h : ∀K:St→Prop,(∀t,aft P base w0 N Z k .normal t→K t)→aAL P (jF P) N ops ops.toList s K):SW P base w0 N (.region id ops false) s (aft P base w0 N Z k):=aHI (h _ fun _ x=>x)
theorem rgD (hm:P.follows .mixedOrders=true) {id:Nat} {ops:Array Oper} (h : ∀K:St→Prop,(∀t,aft P base w0 N Z k .normal t→K t)→xQ P (jF P) N ops ops.toList s [] (fun t fps=>aGs ops fps∧K t)):SW P base w0 N (.region id ops true) s (aft P base w0 N Z k):=aKn hm (h (fun t=>aft P base w0 N Z k .normal t) fun _ x=>x)
theorem aO7 {α:Type} {b:Bool} {x y z:α} (h:(if b=true then x else y)=z):b=true∧x=z∨b=false∧y=z:=by
 cases b
 ·exact .inr ⟨rfl,by simpa using h⟩
 ·exact .inl ⟨rfl,by simpa using h⟩
theorem rz (h:Z s):aft P base w0 N Z [] .normal s:=h
def Yes (A:Prop) (b c:Bool):Prop:=b=c→A
theorem yes {A:Prop} {b c:Bool} (h:b=c→A):Yes A b c:=h
theorem cnd {t:Nat} {x y:Code} {b:Bool} (hb:s.t t = .v false [.dat (.bool b)]) (h1:Yes (SW P base w0 N x s (aft P base w0 N Z k)) b true) (h2:Yes (SW P base w0 N y s (aft P base w0 N Z k)) b false):SW P base w0 N (.cond (.tmp t) x y) s (aft P base w0 N Z k):=aHz hb h1 h2
end
theorem sgX {P:Program} {base N:Nat} {w0:W0} {c:Code} {s:St} {Q:Exit→St→Prop} (h:SW P base w0 N c s Q:=by
 repeat' (first
  | (with_reducible refine an ?_)
  | (with_reducible refine sq ?_)
  | (with_reducible refine bk ?_)
  | (with_reducible refine ab ?_)
  | (with_reducible refine sk ?_)
  | (with_reducible refine xt ?_)
  | (with_reducible refine wD ?_)
  | (with_reducible refine aAi ?_)
  | ((with_reducible refine vT ?_);(try dsimp only at h))
  | (with_reducible refine aQd (by decide) ?_)
  | ((with_reducible refine hK _ ?_);clear hK;clear K)
  | ((with_reducible refine rgK fun K hK => ?_);simp +decide only [E,reduceIte,Nat.reduceAdd,Nat.reduceMul,Int.reduceEq,Int.reduceLT,qB,qC,←List.map_take,←List.map_drop,Nat.sub_zero,wB,vV,L,TB,EN, *,-h,-hK])
  | ((with_reducible refine rgD mixed fun K hK => ?_);simp +decide only [E,reduceIte,Nat.reduceAdd,Nat.reduceMul,Int.reduceEq,Int.reduceLT,qB,qC,←List.map_take,←List.map_drop,Nat.sub_zero,wB,vV,L,TB,EN, *,-h,-hK])
  | ((with_reducible refine rt ?_);cases h;simp [aFF,Ret,TB,EN, *];done)
  | ((with_reducible refine rz ?_);cases h;simp [aFF,Ret,TB,EN, *];done)
  | (with_reducible refine And.intro (.mk (by decide +kernel)) ?_)
  | ((with_reducible refine iB ⟨_,Nat.lt_add_one _,?_⟩);(repeat (with_reducible apply Exists.intro));(with_reducible refine And.intro ?_ h);(repeat' (with_reducible refine And.intro ?_ ?_));(all_goals first | (simp +decide only [F,reduceIte,Nat.reduceAdd,qB,qC,EN, *,-h];done) | (simp +decide only [F,reduceIte,Nat.reduceAdd,qB,qC,EN, *,-h];rfl) | rfl))
  | ((with_reducible refine aPe ?_);(repeat (first | (refine aHo ?_ (by (simp +decide only [F,reduceIte,Nat.reduceAdd,qB,qC,EN, *,-h];rfl))) | (refine aH8 ?_ (by (simp +decide only [F,reduceIte,Nat.reduceAdd,qB,qC,EN, *,-h];rfl)) (by (simp +decide only [F,reduceIte,Nat.reduceAdd,qB,qC,EN, *,-h];rfl))) | (refine aII ?_ (by (simp +decide only [F,reduceIte,Nat.reduceAdd,qB,qC,EN, *,-h];rfl)) (by rfl) (by decide)) | (refine aID ?_ (by (simp +decide only [F,reduceIte,Nat.reduceAdd,qB,qC,EN, *,-h];rfl)) (by rfl) (by (simp +decide only [F,reduceIte,Nat.reduceAdd,qB,qC,EN, *,-h];rfl)) (by decide))));refine gx0 ⟨_,Nat.lt_add_one _,?_⟩;(repeat (with_reducible apply Exists.intro));(with_reducible refine And.intro ?_ h);(repeat' (with_reducible refine And.intro ?_ ?_));(all_goals first | (simp +decide only [F,reduceIte,Nat.reduceAdd,qB,qC,EN, *,-h];done) | (simp +decide only [F,reduceIte,Nat.reduceAdd,qB,qC,EN, *,-h];rfl) | rfl))
  | (refine cnd (b:=_) (by (simp +decide only [F,reduceIte,Nat.reduceAdd,qB,qC,EN, *,-h]);exact rfl) ?_ ?_)
  | ((with_reducible refine yes fun hb => ?_);(first | exact absurd hb (by decide) | (replace h:=cD hb h) | (replace h:=bY hb h) | clear hb))
  | ((with_reducible refine And.intro (by first | exact aG3 (rX (by assumption)).1 | exact (aG3 (rX (by assumption)).1).2) ?_);(try simp +decide only [E,reduceIte,Nat.reduceAdd,Nat.reduceMul,Int.reduceEq,Int.reduceLT,qB,qC,←List.map_take,←List.map_drop,Nat.sub_zero,wB,vV,L,TB,EN, *,-h,-hK]))
  | (with_reducible exact nns h)
  | (obtain ⟨x,hb,h⟩:=bind_some h;(first | (obtain ⟨q1,q2,q3⟩:=jG hb;simp +decide only [E,reduceIte,Nat.reduceAdd,Nat.reduceMul,Int.reduceEq,Int.reduceLT,qB,qC,←List.map_take,←List.map_drop,Nat.sub_zero,wB,vV,L,TB,EN, *,-h,-hK]) | (obtain ⟨q1,q2⟩:=aKG hb;simp +decide only [E,reduceIte,Nat.reduceAdd,Nat.reduceMul,Int.reduceEq,Int.reduceLT,qB,qC,←List.map_take,←List.map_drop,Nat.sub_zero,wB,vV,L,TB,EN, *,-h,-hK]) | (refine aON fun hC => ?_;(first | refine ⟨_,hC (h:=hb),?_⟩ | (have hc:=hC (h:=hb);simp only [List.map_append,List.map_cons,List.map_nil,List.map_set,EN] at hc;refine ⟨_,hc,?_⟩) | (have hc:=hC (h:=hb);simp only [List.map_append,List.map_cons,List.map_nil,List.map_set,EN, *,-h,-hK,-hC] at hc;refine ⟨_,hc,?_⟩));(try clear hC);(try simp +decide only [E,reduceIte,Nat.reduceAdd,Nat.reduceMul,Int.reduceEq,Int.reduceLT,qB,qC,←List.map_take,←List.map_drop,Nat.sub_zero,wB,vV,L,TB,EN, *,-h,-hK])) | (refine ⟨aNK hb,?_⟩;(try simp +decide only [E,reduceIte,Nat.reduceAdd,Nat.reduceMul,Int.reduceEq,Int.reduceLT,qB,qC,←List.map_take,←List.map_drop,Nat.sub_zero,wB,vV,L,TB,EN, *,-h,-hK])) | (refine ⟨aJa hb,?_⟩;(try simp +decide only [E,reduceIte,Nat.reduceAdd,Nat.reduceMul,Int.reduceEq,Int.reduceLT,qB,qC,←List.map_take,←List.map_drop,Nat.sub_zero,wB,vV,L,TB,EN, *,-h,-hK])) | (refine ⟨by (have hb:=oA hb;first | (simp [EN,qE,aQ] at hb ⊢ <;> omega) | (simp [EN,aIg,aL9,qE,aQ,←List.map_take,←List.map_drop,-List.map_take,-List.map_drop] at hb ⊢ <;> omega)),?_⟩;(try simp +decide only [E,reduceIte,Nat.reduceAdd,Nat.reduceMul,Int.reduceEq,Int.reduceLT,qB,qC,←List.map_take,←List.map_drop,Nat.sub_zero,wB,vV,L,TB,EN, *,-h,-hK])) | (refine ⟨by (have hb:=sU hb;simp [EN,qE,aQ] at hb ⊢ <;> omega),?_⟩;(try simp +decide only [E,reduceIte,Nat.reduceAdd,Nat.reduceMul,Int.reduceEq,Int.reduceLT,qB,qC,←List.map_take,←List.map_drop,Nat.sub_zero,wB,vV,L,TB,EN, *,-h,-hK])) | (have hb:=aMW hb;refine ⟨hb,?_⟩;(try simp +decide only [E,reduceIte,Nat.reduceAdd,Nat.reduceMul,Int.reduceEq,Int.reduceLT,qB,qC,←List.map_take,←List.map_drop,Nat.sub_zero,wB,vV,L,TB,EN, *,-h,-hK])) | (refine ⟨by first | exact aFX (fun _=>rfl) hb | exact aFO (fun _=>rfl) hb | exact aCf (fun _=>rfl) hb | exact And.right (aFX (fun _=>rfl) hb) | exact And.right (aFO (fun _=>rfl) hb) | exact And.right (aCf (fun _=>rfl) hb) | exact And.right (And.right (aCf (fun _=>rfl) hb)) | exact aEp hb | exact rX hb | exact (aEp hb).2 | exact (rX hb).2,?_⟩;(try simp +decide only [E,reduceIte,Nat.reduceAdd,Nat.reduceMul,Int.reduceEq,Int.reduceLT,qB,qC,←List.map_take,←List.map_drop,Nat.sub_zero,wB,vV,L,TB,EN, *,-h,-hK])) | (with_reducible refine And.intro (by first | (have hb:=aCZ hb;simp [EN,qE,aQ] at hb ⊢ <;> omega) | (have hb:=aCs hb;simp [EN,qE,aQ] at hb ⊢ <;> omega)) ?_;(try simp +decide only [E,reduceIte,Nat.reduceAdd,Nat.reduceMul,Int.reduceEq,Int.reduceLT,qB,qC,←List.map_take,←List.map_drop,Nat.sub_zero,wB,vV,L,TB,EN, *,-h,-hK])) | (refine aON fun hC => ?_;refine ⟨_,hC _,?_⟩;(try simp +decide only [E,reduceIte,Nat.reduceAdd,Nat.reduceMul,Int.reduceEq,Int.reduceLT,qB,qC,←List.map_take,←List.map_drop,Nat.sub_zero,wB,vV,L,TB,EN, *,-h,-hK]);with_reducible refine And.intro (by first | (have hb:=aCZ hb;simp [EN,qE,aQ] at hb ⊢ <;> omega) | (have hb:=aCs hb;simp [EN,qE,aQ] at hb ⊢ <;> omega)) ?_;(try simp +decide only [E,reduceIte,Nat.reduceAdd,Nat.reduceMul,Int.reduceEq,Int.reduceLT,qB,qC,←List.map_take,←List.map_drop,Nat.sub_zero,wB,vV,L,TB,EN, *,-h,-hK])) | ((first | have hb2:=aCs hb | have hb2:=aCZ hb);refine aON fun hC => ?_;refine ⟨_,hC _,?_⟩;simp +decide only [E,reduceIte,Nat.reduceAdd,Nat.reduceMul,Int.reduceEq,Int.reduceLT,qB,qC,←List.map_take,←List.map_drop,Nat.sub_zero,wB,vV,L,TB,EN, *,-h,-hK];clear hC;clear hb2)))
  | (refine aPc h ?_ fun h => ?_;focus (simp only [qB,qC, *,-h];done))
  | (refine aO9 h ?_ fun h => ?_;focus (simp only [qB,qC, *,-h];done))
  | (revert hK;intro hK;(rcases aO7 h with ⟨hb,h⟩ | ⟨hb,h⟩)<;>simp +decide only [E,reduceIte,Nat.reduceAdd,Nat.reduceMul,Int.reduceEq,Int.reduceLT,qB,qC,←List.map_take,←List.map_drop,Nat.sub_zero,wB,vV,L,TB,EN, *,-h,-hK])
  | ((with_reducible apply lpI (i1 ..) fuel);(· ((repeat (with_reducible apply Exists.intro));(with_reducible refine And.intro ?_ h);(repeat' (with_reducible refine And.intro ?_ ?_));(all_goals first | (simp +decide only [F,reduceIte,Nat.reduceAdd,qB,qC,EN, *,-h];done) | (simp +decide only [F,reduceIte,Nat.reduceAdd,qB,qC,EN, *,-h];rfl) | rfl)));clear i1;intro m s1 hI;clear h;(repeat (obtain ⟨v,hI⟩:=hI));have h:=hI;clear hI;rcases m with _ | m;(· cases (show none=some _ from h));(simp only [e1] at h))
  | ((with_reducible apply lpI (i2 ..) fuel);(· ((repeat (with_reducible apply Exists.intro));(with_reducible refine And.intro ?_ h);(repeat' (with_reducible refine And.intro ?_ ?_));(all_goals first | (simp +decide only [F,reduceIte,Nat.reduceAdd,qB,qC,EN, *,-h];done) | (simp +decide only [F,reduceIte,Nat.reduceAdd,qB,qC,EN, *,-h];rfl) | rfl)));clear i2;intro m s1 hI;clear h;(repeat (obtain ⟨v,hI⟩:=hI));have h:=hI;clear hI;rcases m with _ | m;(· cases (show none=some _ from h));(simp only [e2] at h))
  | ((with_reducible apply lpI (i3 ..) fuel);(· ((repeat (with_reducible apply Exists.intro));(with_reducible refine And.intro ?_ h);(repeat' (with_reducible refine And.intro ?_ ?_));(all_goals first | (simp +decide only [F,reduceIte,Nat.reduceAdd,qB,qC,EN, *,-h];done) | (simp +decide only [F,reduceIte,Nat.reduceAdd,qB,qC,EN, *,-h];rfl) | rfl)));clear i3;intro m s1 hI;clear h;(repeat (obtain ⟨v,hI⟩:=hI));have h:=hI;clear hI;rcases m with _ | m;(· cases (show none=some _ from h));(simp only [e3] at h))
  | ((with_reducible apply lpI (i4 ..) fuel);(· ((repeat (with_reducible apply Exists.intro));(with_reducible refine And.intro ?_ h);(repeat' (with_reducible refine And.intro ?_ ?_));(all_goals first | (simp +decide only [F,reduceIte,Nat.reduceAdd,qB,qC,EN, *,-h];done) | (simp +decide only [F,reduceIte,Nat.reduceAdd,qB,qC,EN, *,-h];rfl) | rfl)));clear i4;intro m s1 hI;clear h;(repeat (obtain ⟨v,hI⟩:=hI));have h:=hI;clear hI;rcases m with _ | m;(· cases (show none=some _ from h));(simp only [e4] at h))
  | ((with_reducible apply lpI (i5 ..) fuel);(· ((repeat (with_reducible apply Exists.intro));(with_reducible refine And.intro ?_ h);(repeat' (with_reducible refine And.intro ?_ ?_));(all_goals first | (simp +decide only [F,reduceIte,Nat.reduceAdd,qB,qC,EN, *,-h];done) | (simp +decide only [F,reduceIte,Nat.reduceAdd,qB,qC,EN, *,-h];rfl) | rfl)));clear i5;intro m s1 hI;clear h;(repeat (obtain ⟨v,hI⟩:=hI));have h:=hI;clear hI;rcases m with _ | m;(· cases (show none=some _ from h));(simp only [e5] at h))
  | ((with_reducible apply lpI (i6 ..) fuel);(· ((repeat (with_reducible apply Exists.intro));(with_reducible refine And.intro ?_ h);(repeat' (with_reducible refine And.intro ?_ ?_));(all_goals first | (simp +decide only [F,reduceIte,Nat.reduceAdd,qB,qC,EN, *,-h];done) | (simp +decide only [F,reduceIte,Nat.reduceAdd,qB,qC,EN, *,-h];rfl) | rfl)));clear i6;intro m s1 hI;clear h;(repeat (obtain ⟨v,hI⟩:=hI));have h:=hI;clear hI;rcases m with _ | m;(· cases (show none=some _ from h));(simp only [e6] at h))
  | ((with_reducible apply lpM (i1 ..) fuel);(· ((repeat (first | (refine aHo ?_ (by (simp +decide only [F,reduceIte,Nat.reduceAdd,qB,qC,EN, *,-h];rfl))) | (refine aH8 ?_ (by (simp +decide only [F,reduceIte,Nat.reduceAdd,qB,qC,EN, *,-h];rfl)) (by (simp +decide only [F,reduceIte,Nat.reduceAdd,qB,qC,EN, *,-h];rfl))) | (refine aII ?_ (by (simp +decide only [F,reduceIte,Nat.reduceAdd,qB,qC,EN, *,-h];rfl)) (by rfl) (by decide)) | (refine aID ?_ (by (simp +decide only [F,reduceIte,Nat.reduceAdd,qB,qC,EN, *,-h];rfl)) (by rfl) (by (simp +decide only [F,reduceIte,Nat.reduceAdd,qB,qC,EN, *,-h];rfl)) (by decide))));refine gx0 ?_;(repeat (with_reducible apply Exists.intro));(with_reducible refine And.intro ?_ h);(repeat' (with_reducible refine And.intro ?_ ?_));(all_goals first | (simp +decide only [F,reduceIte,Nat.reduceAdd,qB,qC,EN, *,-h];done) | (simp +decide only [F,reduceIte,Nat.reduceAdd,qB,qC,EN, *,-h];rfl) | rfl)));clear i1;intro m s1 hI;clear h;(repeat (obtain ⟨v,hI⟩:=hI));have h:=hI;clear hI;rcases m with _ | m;(· cases (show none=some _ from h));(simp only [e1] at h))
  | ((with_reducible apply lpM (i2 ..) fuel);(· ((repeat (first | (refine aHo ?_ (by (simp +decide only [F,reduceIte,Nat.reduceAdd,qB,qC,EN, *,-h];rfl))) | (refine aH8 ?_ (by (simp +decide only [F,reduceIte,Nat.reduceAdd,qB,qC,EN, *,-h];rfl)) (by (simp +decide only [F,reduceIte,Nat.reduceAdd,qB,qC,EN, *,-h];rfl))) | (refine aII ?_ (by (simp +decide only [F,reduceIte,Nat.reduceAdd,qB,qC,EN, *,-h];rfl)) (by rfl) (by decide)) | (refine aID ?_ (by (simp +decide only [F,reduceIte,Nat.reduceAdd,qB,qC,EN, *,-h];rfl)) (by rfl) (by (simp +decide only [F,reduceIte,Nat.reduceAdd,qB,qC,EN, *,-h];rfl)) (by decide))));refine gx0 ?_;(repeat (with_reducible apply Exists.intro));(with_reducible refine And.intro ?_ h);(repeat' (with_reducible refine And.intro ?_ ?_));(all_goals first | (simp +decide only [F,reduceIte,Nat.reduceAdd,qB,qC,EN, *,-h];done) | (simp +decide only [F,reduceIte,Nat.reduceAdd,qB,qC,EN, *,-h];rfl) | rfl)));clear i2;intro m s1 hI;clear h;(repeat (obtain ⟨v,hI⟩:=hI));have h:=hI;clear hI;rcases m with _ | m;(· cases (show none=some _ from h));(simp only [e2] at h))
  | ((with_reducible apply lpM (i3 ..) fuel);(· ((repeat (first | (refine aHo ?_ (by (simp +decide only [F,reduceIte,Nat.reduceAdd,qB,qC,EN, *,-h];rfl))) | (refine aH8 ?_ (by (simp +decide only [F,reduceIte,Nat.reduceAdd,qB,qC,EN, *,-h];rfl)) (by (simp +decide only [F,reduceIte,Nat.reduceAdd,qB,qC,EN, *,-h];rfl))) | (refine aII ?_ (by (simp +decide only [F,reduceIte,Nat.reduceAdd,qB,qC,EN, *,-h];rfl)) (by rfl) (by decide)) | (refine aID ?_ (by (simp +decide only [F,reduceIte,Nat.reduceAdd,qB,qC,EN, *,-h];rfl)) (by rfl) (by (simp +decide only [F,reduceIte,Nat.reduceAdd,qB,qC,EN, *,-h];rfl)) (by decide))));refine gx0 ?_;(repeat (with_reducible apply Exists.intro));(with_reducible refine And.intro ?_ h);(repeat' (with_reducible refine And.intro ?_ ?_));(all_goals first | (simp +decide only [F,reduceIte,Nat.reduceAdd,qB,qC,EN, *,-h];done) | (simp +decide only [F,reduceIte,Nat.reduceAdd,qB,qC,EN, *,-h];rfl) | rfl)));clear i3;intro m s1 hI;clear h;(repeat (obtain ⟨v,hI⟩:=hI));have h:=hI;clear hI;rcases m with _ | m;(· cases (show none=some _ from h));(simp only [e3] at h))
  | ((with_reducible apply lpM (i4 ..) fuel);(· ((repeat (first | (refine aHo ?_ (by (simp +decide only [F,reduceIte,Nat.reduceAdd,qB,qC,EN, *,-h];rfl))) | (refine aH8 ?_ (by (simp +decide only [F,reduceIte,Nat.reduceAdd,qB,qC,EN, *,-h];rfl)) (by (simp +decide only [F,reduceIte,Nat.reduceAdd,qB,qC,EN, *,-h];rfl))) | (refine aII ?_ (by (simp +decide only [F,reduceIte,Nat.reduceAdd,qB,qC,EN, *,-h];rfl)) (by rfl) (by decide)) | (refine aID ?_ (by (simp +decide only [F,reduceIte,Nat.reduceAdd,qB,qC,EN, *,-h];rfl)) (by rfl) (by (simp +decide only [F,reduceIte,Nat.reduceAdd,qB,qC,EN, *,-h];rfl)) (by decide))));refine gx0 ?_;(repeat (with_reducible apply Exists.intro));(with_reducible refine And.intro ?_ h);(repeat' (with_reducible refine And.intro ?_ ?_));(all_goals first | (simp +decide only [F,reduceIte,Nat.reduceAdd,qB,qC,EN, *,-h];done) | (simp +decide only [F,reduceIte,Nat.reduceAdd,qB,qC,EN, *,-h];rfl) | rfl)));clear i4;intro m s1 hI;clear h;(repeat (obtain ⟨v,hI⟩:=hI));have h:=hI;clear hI;rcases m with _ | m;(· cases (show none=some _ from h));(simp only [e4] at h))
  | ((with_reducible apply lpM (i5 ..) fuel);(· ((repeat (first | (refine aHo ?_ (by (simp +decide only [F,reduceIte,Nat.reduceAdd,qB,qC,EN, *,-h];rfl))) | (refine aH8 ?_ (by (simp +decide only [F,reduceIte,Nat.reduceAdd,qB,qC,EN, *,-h];rfl)) (by (simp +decide only [F,reduceIte,Nat.reduceAdd,qB,qC,EN, *,-h];rfl))) | (refine aII ?_ (by (simp +decide only [F,reduceIte,Nat.reduceAdd,qB,qC,EN, *,-h];rfl)) (by rfl) (by decide)) | (refine aID ?_ (by (simp +decide only [F,reduceIte,Nat.reduceAdd,qB,qC,EN, *,-h];rfl)) (by rfl) (by (simp +decide only [F,reduceIte,Nat.reduceAdd,qB,qC,EN, *,-h];rfl)) (by decide))));refine gx0 ?_;(repeat (with_reducible apply Exists.intro));(with_reducible refine And.intro ?_ h);(repeat' (with_reducible refine And.intro ?_ ?_));(all_goals first | (simp +decide only [F,reduceIte,Nat.reduceAdd,qB,qC,EN, *,-h];done) | (simp +decide only [F,reduceIte,Nat.reduceAdd,qB,qC,EN, *,-h];rfl) | rfl)));clear i5;intro m s1 hI;clear h;(repeat (obtain ⟨v,hI⟩:=hI));have h:=hI;clear hI;rcases m with _ | m;(· cases (show none=some _ from h));(simp only [e5] at h))
  | ((with_reducible apply lpM (i6 ..) fuel);(· ((repeat (first | (refine aHo ?_ (by (simp +decide only [F,reduceIte,Nat.reduceAdd,qB,qC,EN, *,-h];rfl))) | (refine aH8 ?_ (by (simp +decide only [F,reduceIte,Nat.reduceAdd,qB,qC,EN, *,-h];rfl)) (by (simp +decide only [F,reduceIte,Nat.reduceAdd,qB,qC,EN, *,-h];rfl))) | (refine aII ?_ (by (simp +decide only [F,reduceIte,Nat.reduceAdd,qB,qC,EN, *,-h];rfl)) (by rfl) (by decide)) | (refine aID ?_ (by (simp +decide only [F,reduceIte,Nat.reduceAdd,qB,qC,EN, *,-h];rfl)) (by rfl) (by (simp +decide only [F,reduceIte,Nat.reduceAdd,qB,qC,EN, *,-h];rfl)) (by decide))));refine gx0 ?_;(repeat (with_reducible apply Exists.intro));(with_reducible refine And.intro ?_ h);(repeat' (with_reducible refine And.intro ?_ ?_));(all_goals first | (simp +decide only [F,reduceIte,Nat.reduceAdd,qB,qC,EN, *,-h];done) | (simp +decide only [F,reduceIte,Nat.reduceAdd,qB,qC,EN, *,-h];rfl) | rfl)));clear i6;intro m s1 hI;clear h;(repeat (obtain ⟨v,hI⟩:=hI));have h:=hI;clear hI;rcases m with _ | m;(· cases (show none=some _ from h));(simp only [e6] at h)))):SW P base w0 N c s Q:=h
theorem sgo {P : Program} {f : FuncId} {fn : Func} {c : Code} {args : List (Bool × List D)} {rs : List (Bool × List RC)} (N : Nat) (vars : List ResultVar) (hf : P.funcs[f]? = some fn) (hb : fn.body = some c := by exact rfl) (hN : fn.ntmps = N := by exact rfl) (hv : fn.results.toList = vars := by exact rfl) (hnm : (fn.name == "runtime.NumGoroutine") = false := by decide +kernel) (hn : args.length ≤ N := by exact Nat.le_of_ble_eq_true rfl)
  (h : ∀(base:Nat) (w0:W0),SW P base w0 N c (init args) (aft P base w0 N (Ret (jF P) vars rs) []):=by
 intro base wd
 (try simp only [EN])
 exact sgX):jJ P f args rs:=aF4 hf hb hN hv hnm hn h
theorem sgn {P : Program} {f : FuncId} {fn : Func} {c : Code} {args : List (Bool × List D)} {rs : List (Bool × List RC)} (N : Nat) (vars : List ResultVar) (hf : P.funcs[f]? = some fn) (h : ∀ (base : Nat) (w0 : W0), SW P base w0 N c (init args) (aft P base w0 N (Ret (jF P) vars rs) [])) (hb : fn.body = some c := by exact rfl) (hN : fn.ntmps = N := by exact rfl) (hv : fn.results.toList = vars := by exact rfl) (hnm : (fn.name == "runtime.NumGoroutine") = false := by decide +kernel) (hn : args.length ≤ N := by exact Nat.le_of_ble_eq_true rfl) : jJ P f args rs := aF4 hf hb hN hv hnm hn h
theorem sgO {P : Program} {f : FuncId} {fn : Func} {c : Code} {args : List (Bool × List D)} {rs : List (Bool × List RC)} (N : Nat) (vars : List ResultVar) (hf : P.funcs[f]? = some fn) (h : ∀ (base : Nat) (wd : World × (Nat → Prop)), SW P base ⟨wd.1, ⟨wd.2, base, none, slP P⟩, noK, aHu⟩ N c (aJe base args) (aft P base ⟨wd.1, ⟨wd.2, base, none, slP P⟩, noK, aHu⟩ N (Ret (jF P) vars rs) [])) (hb : fn.body = some c := by exact rfl) (hN : fn.ntmps = N := by exact rfl) (hv : fn.results.toList = vars := by exact rfl) (hnm : (fn.name == "runtime.NumGoroutine") = false := by decide +kernel) (hn : args.length ≤ N := by exact Nat.le_of_ble_eq_true rfl) : jJ P f args rs := aOM hf hb hN hv hnm hn h
theorem sgB {P : Program} {f : FuncId} {fn : Func} {c : Code} {t : TypeId} {d0 : D} {ds es : List D} {rest : List (Bool × List D)} {rs : List (Bool × List RC)} (N : Nat) (vars : List ResultVar) (hf : P.funcs[f]? = some fn) (h : ∀ (base : Nat) (w0 : W0) (B : Nat) (v0 : Value), (B ≤ base ∧ w0.Q.L = slP P ∧ ∀ b, w0.K b → b < base) → SW P base w0 N c (aLg t B v0 d0 ds rest) (aft P base w0 N (aFF (jF P) vars t B v0 d0 es rs) [])) (hb : fn.body = some c := by exact rfl) (hN : fn.ntmps = N := by exact rfl) (hv : fn.results.toList = vars := by exact rfl) (hnm : (fn.name == "runtime.NumGoroutine") = false := by decide +kernel) (hn : rest.length + 1 ≤ N := by exact Nat.le_of_ble_eq_true rfl) (hrs : sL rs = false := by exact rfl) (hds : ds.all D.flat = true := by exact rfl) (hes : es.all D.flat = true := by exact rfl) (hl : es.length = ds.length := by exact rfl) : jJ P f ((false, [.ptr (d0 :: ds)]) :: rest) ((false, [.edit (.lend t es)]) :: rs) := aOa hf hb hN hv hnm hn hrs hds hes hl h
theorem sgN {P : Program} {f : FuncId} {fn : Func} {c : Code} {t : TypeId} {es : List D} {args : List (Bool × List D)} (N : Nat) (vars : List ResultVar) (hf : P.funcs[f]? = some fn) (h : ∀ (base : Nat) (w0 : W0), SW P base w0 N c (init args) (aft P base w0 N (aQx (jF P) vars t es) [])) (hb : fn.body = some c := by exact rfl) (hN : fn.ntmps = N := by exact rfl) (hv : fn.results.toList = vars := by exact rfl) (hnm : (fn.name == "runtime.NumGoroutine") = false := by decide +kernel) (hn : args.length ≤ N := by exact Nat.le_of_ble_eq_true rfl) : jJ P f args [(false, [.edit (.newb t es)])] := aNy hf hb hN hv hnm hn h
end Go.Sh
