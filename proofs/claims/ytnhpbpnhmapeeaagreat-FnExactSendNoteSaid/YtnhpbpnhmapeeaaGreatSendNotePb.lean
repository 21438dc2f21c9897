/-
  Helper text. No conditions.
-/
import Derived.Test.YtnhpbpnhmapeeaaGreatSendNotePa
namespace Go.Proofs.YtnhpbpnhmapeeaaGreat.gen
open Go Go.Sh
set_option linter.unusedVariables false
set_option linter.unusedSimpArgs false
def dU (x y:M.Key):Int:=if aDy x=true∧aDy y=true then (if x.Kind=y.Kind then (if x.N=y.N then (if Op.bytesLess x.Text.toList y.Text.toList=true then -1 else if (x.Text.toList==y.Text.toList)=true then 0 else 1) else if x.N<y.N then -1 else 1) else if x.Kind<y.Kind then -1 else 1) else 0
theorem aA6 {x y:M.Key} (hx:x.ok) (hy:y.ok):iP x y=some (dU x y):=by
 unfold iP xI dU
 rw [aAK hx,aAK hy]
 simp only [Option.bind_some]
 cases h1:aDy x
 ·simp
 cases h2:aDy y
 ·simp
 simp only [Bool.not_true,Bool.false_eq_true,if_false,if_true,and_self,bne_iff_ne,ne_eq,decide_eq_true_eq,Bool.not_eq_true',Bool.or_eq_false_iff,ite_not,Option.bind_some]
 repeat' split
 all_goals first | rfl | (exfalso;omega) | (simp_all;done) | (simp_all;omega)
theorem aAo {x y:M.Key} (hx:x.ok) (hy:y.ok):iO x y=some (dU x y):=by
 have key:Lib.compareBytes x.Text.data.toList y.Text.data.toList=if Op.bytesLess x.Text.toList y.Text.toList=true then -1 else if (x.Text.toList==y.Text.toList)=true then 0 else 1:=by
  rw [aC6,←ByteArray.toList_eq,←ByteArray.toList_eq]
 unfold iO oL xJ iY dU
 rw [aAB hx,aAB hy]
 simp only [Option.bind_some,key]
 cases h1:aDy x
 ·simp
 cases h2:aDy y
 ·simp
 simp only [Bool.not_true,Bool.false_eq_true,if_false,if_true,and_self,bne_iff_ne,ne_eq,decide_eq_true_eq,Bool.not_eq_true',Bool.or_eq_false_iff,ite_not,Option.bind_some]
 repeat' split
 all_goals first | rfl | (exfalso;omega) | (simp_all;done) | (simp_all;omega)
end Go.Proofs.YtnhpbpnhmapeeaaGreat.gen
