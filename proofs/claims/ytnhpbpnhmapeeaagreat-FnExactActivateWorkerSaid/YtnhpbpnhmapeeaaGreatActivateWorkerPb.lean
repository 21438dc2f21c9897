/-
  Helper text. No conditions.
-/
import Derived.Test.YtnhpbpnhmapeeaaGreatActivateWorkerPa
namespace Go.Proofs.YtnhpbpnhmapeeaaGreat.gen
open Go Go.Sh
set_option linter.unusedVariables false
set_option linter.unusedSimpArgs false
def jH (x y:M.Key):Int:=if aH1 x=true∧aH1 y=true then (if x.Kind=y.Kind then (if x.N=y.N then (if Op.bytesLess x.Text.toList y.Text.toList=true then -1 else if (x.Text.toList==y.Text.toList)=true then 0 else 1) else if x.N<y.N then -1 else 1) else if x.Kind<y.Kind then -1 else 1) else 0
theorem aCL {x y:M.Key} (hx:x.ok) (hy:y.ok):kZ x y=some (jH x y):=by
 unfold kZ xW jH
 rw [aBf hx,aBf hy]
 simp only [Option.bind_some]
 cases h1:aH1 x
 ·simp
 cases h2:aH1 y
 ·simp
 simp only [Bool.not_true,Bool.false_eq_true,if_false,if_true,and_self,bne_iff_ne,ne_eq,decide_eq_true_eq,Bool.not_eq_true',Bool.or_eq_false_iff,ite_not,Option.bind_some]
 repeat' split
 all_goals first | rfl | (exfalso;omega) | (simp_all;done) | (simp_all;omega)
theorem aCJ {x y:M.Key} (hx:x.ok) (hy:y.ok):kU x y=some (jH x y):=by
 have key:Lib.compareBytes x.Text.data.toList y.Text.data.toList=if Op.bytesLess x.Text.toList y.Text.toList=true then -1 else if (x.Text.toList==y.Text.toList)=true then 0 else 1:=by
  rw [aDD,←ByteArray.toList_eq,←ByteArray.toList_eq]
 unfold kU oG xX jI jH
 rw [aBZ hx,aBZ hy]
 simp only [Option.bind_some,key]
 cases h1:aH1 x
 ·simp
 cases h2:aH1 y
 ·simp
 simp only [Bool.not_true,Bool.false_eq_true,if_false,if_true,and_self,bne_iff_ne,ne_eq,decide_eq_true_eq,Bool.not_eq_true',Bool.or_eq_false_iff,ite_not,Option.bind_some]
 repeat' split
 all_goals first | rfl | (exfalso;omega) | (simp_all;done) | (simp_all;omega)
end Go.Proofs.YtnhpbpnhmapeeaaGreat.gen
