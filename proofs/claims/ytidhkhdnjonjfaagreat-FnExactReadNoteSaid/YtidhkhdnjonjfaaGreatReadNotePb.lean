/-
  Helper text. No conditions.
-/
import Derived.Test.YtidhkhdnjonjfaaGreatReadNotePa
set_option linter.unusedVariables false
set_option linter.unusedSimpArgs false
namespace Go.Proofs.YtidhkhdnjonjfaaGreat.gen
open Go Go.Sh
def aY (x y:M.Key):Int:=if wS x=true∧wS y=true then (if x.Kind=y.Kind then (if x.N=y.N then (if Op.bytesLess x.Text.toList y.Text.toList=true then -1 else if (x.Text.toList==y.Text.toList)=true then 0 else 1) else if x.N<y.N then -1 else 1) else if x.Kind<y.Kind then -1 else 1) else 0
theorem lF {x y:M.Key} (hx:x.ok) (hy:y.ok):aW x y=some (aY x y):=by
 unfold aW sB aY
 rw [gZ hx,gZ hy]
 simp only [qA]
 cases h1:wS x
 ·simp
 cases h2:wS y
 ·simp
 simp only [qB,qD,if_false,if_true,and_self,bne_iff_ne,ne_eq,qL,Bool.not_eq_true',Bool.or_eq_false_iff,ite_not,qA]
 repeat' split
 all_goals first | rfl | (exfalso;omega) | (simp_all;done) | (simp_all;omega)
theorem lD {x y:M.Key} (hx:x.ok) (hy:y.ok):cF x y=some (aY x y):=by
 have key:Lib.compareBytes x.Text.data.toList y.Text.data.toList=if Op.bytesLess x.Text.toList y.Text.toList=true then -1 else if (x.Text.toList==y.Text.toList)=true then 0 else 1:=by
  rw [aAX,←ByteArray.toList_eq,←ByteArray.toList_eq]
 unfold cF kQ sC fU aY
 rw [kM hx,kM hy]
 simp only [qA,key]
 cases h1:wS x
 ·simp
 cases h2:wS y
 ·simp
 simp only [qB,qD,if_false,if_true,and_self,bne_iff_ne,ne_eq,qL,Bool.not_eq_true',Bool.or_eq_false_iff,ite_not,qA]
 repeat' split
 all_goals first | rfl | (exfalso;omega) | (simp_all;done) | (simp_all;omega)
end Go.Proofs.YtidhkhdnjonjfaaGreat.gen
