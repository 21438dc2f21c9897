/-
  Helper text. No conditions.
-/
import Derived.Test.YtimblbmbfdopgaaGreatOpenPagePa
set_option linter.unusedVariables false
set_option linter.unusedSimpArgs false
namespace Go.Proofs.YtimblbmbfdopgaaGreat.gen
open Go Go.Sh
def kB (x y:M.Key):Int:=if aJJ x=true∧aJJ y=true then (if x.Kind=y.Kind then (if x.N=y.N then (if Op.bytesLess x.Text.toList y.Text.toList=true then -1 else if (x.Text.toList==y.Text.toList)=true then 0 else 1) else if x.N<y.N then -1 else 1) else if x.Kind<y.Kind then -1 else 1) else 0
theorem aDS {x y:M.Key} (hx:x.ok) (hy:y.ok):lV x y=some (kB x y):=by
 unfold lV aAE kB
 rw [aCg hx,aCg hy]
 simp only [qA]
 cases h1:aJJ x
 ·simp
 cases h2:aJJ y
 ·simp
 simp only [qB,qD,if_false,if_true,and_self,bne_iff_ne,ne_eq,qL,Bool.not_eq_true',Bool.or_eq_false_iff,ite_not,qA]
 repeat' split
 all_goals first | rfl | (exfalso;omega) | (simp_all;done) | (simp_all;omega)
theorem aDO {x y:M.Key} (hx:x.ok) (hy:y.ok):lQ x y=some (kB x y):=by
 have key:Lib.compareBytes x.Text.data.toList y.Text.data.toList=if Op.bytesLess x.Text.toList y.Text.toList=true then -1 else if (x.Text.toList==y.Text.toList)=true then 0 else 1:=by
  rw [aEb,←ByteArray.toList_eq,←ByteArray.toList_eq]
 unfold lQ pL aAF kC kB
 rw [aCX hx,aCX hy]
 simp only [qA,key]
 cases h1:aJJ x
 ·simp
 cases h2:aJJ y
 ·simp
 simp only [qB,qD,if_false,if_true,and_self,bne_iff_ne,ne_eq,qL,Bool.not_eq_true',Bool.or_eq_false_iff,ite_not,qA]
 repeat' split
 all_goals first | rfl | (exfalso;omega) | (simp_all;done) | (simp_all;omega)
end Go.Proofs.YtimblbmbfdopgaaGreat.gen
