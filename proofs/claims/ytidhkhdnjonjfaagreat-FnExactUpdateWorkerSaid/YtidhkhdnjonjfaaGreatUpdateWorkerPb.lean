/-
  Helper text. No conditions.
-/
import Derived.Test.YtidhkhdnjonjfaaGreatUpdateWorkerPa
set_option linter.unusedVariables false
set_option linter.unusedSimpArgs false
namespace Go.Proofs.YtidhkhdnjonjfaaGreat.gen
open Go Go.Sh
def kE (x y:M.Key):Int:=if aJn x=true∧aJn y=true then (if x.Kind=y.Kind then (if x.N=y.N then (if Op.bytesLess x.Text.toList y.Text.toList=true then -1 else if (x.Text.toList==y.Text.toList)=true then 0 else 1) else if x.N<y.N then -1 else 1) else if x.Kind<y.Kind then -1 else 1) else 0
theorem aDV {x y:M.Key} (hx:x.ok) (hy:y.ok):mC x y=some (kE x y):=by
 unfold mC aAO kE
 rw [aCl hx,aCl hy]
 simp only [qA]
 cases h1:aJn x
 ·simp
 cases h2:aJn y
 ·simp
 simp only [qB,qD,if_false,if_true,and_self,bne_iff_ne,ne_eq,qL,Bool.not_eq_true',Bool.or_eq_false_iff,ite_not,qA]
 repeat' split
 all_goals first | rfl | (exfalso;omega) | (simp_all;done) | (simp_all;omega)
theorem aDS {x y:M.Key} (hx:x.ok) (hy:y.ok):lX x y=some (kE x y):=by
 have key:Lib.compareBytes x.Text.data.toList y.Text.data.toList=if Op.bytesLess x.Text.toList y.Text.toList=true then -1 else if (x.Text.toList==y.Text.toList)=true then 0 else 1:=by
  rw [aEh,←ByteArray.toList_eq,←ByteArray.toList_eq]
 unfold lX pV aAP kF kE
 rw [aCd hx,aCd hy]
 simp only [qA,key]
 cases h1:aJn x
 ·simp
 cases h2:aJn y
 ·simp
 simp only [qB,qD,if_false,if_true,and_self,bne_iff_ne,ne_eq,qL,Bool.not_eq_true',Bool.or_eq_false_iff,ite_not,qA]
 repeat' split
 all_goals first | rfl | (exfalso;omega) | (simp_all;done) | (simp_all;omega)
end Go.Proofs.YtidhkhdnjonjfaaGreat.gen
