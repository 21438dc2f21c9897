/-
  Helper text. No conditions.
-/
import Derived.Test.YtjlnkcoeghonfaaGreatStepPagePa
set_option linter.all false
namespace Go.Proofs.YtjlnkcoeghonfaaGreat.gen
open Go Go.Sh
def bP(x y:M.Key):Int:=if Dp x=true/\Dp y=true then if x.aJr=y.aJr then if x.N=y.N then if Op.bytesLess x.aJ2.toList y.aJ2.toList=true then -1 else if(x.aJ2.toList==y.aJ2.toList)=true then 0 else 1 else if x.N<y.N then -1 else 1 else if x.aJr<y.aJr then -1 else 1 else 0
theorem vT{x y:M.Key}(j:x.ok)(C:y.ok):bO x y=some (bP x y):=by
 unfold bO BM bP
 rw[mB j,mB C]
 simp only[qA]
 cases h1:Dp x
 ·simp
 cases h2:Dp y
 ·simp
 simp only[qB,qD,if_false,if_true,and_self,bne_iff_ne,ne_eq,qL,Bool.not_eq_true',Bool.or_eq_false_iff,ite_not,qA]
 repeat' split
 all_goals first|rfl|(exfalso;omega)|(simp_all;done)|(simp_all;omega)
theorem vH{x y:M.Key}(j:x.ok)(C:y.ok):eF x y=some (bP x y):=by
 have key:Lib.compareBytes x.aJ2.data.toList y.aJ2.data.toList=if Op.bytesLess x.aJ2.toList y.aJ2.toList=true then -1 else if(x.aJ2.toList==y.aJ2.toList)=true then 0 else 1:=by rw[Ia,<-ByteArray.toList_eq,<-ByteArray.toList_eq]
 unfold eF uU BN nL bP
 rw[oS j,oS C]
 simp only[qA,key]
 cases h1:Dp x
 ·simp
 cases h2:Dp y
 ·simp
 simp only[qB,qD,if_false,if_true,and_self,bne_iff_ne,ne_eq,qL,Bool.not_eq_true',Bool.or_eq_false_iff,ite_not,qA]
 repeat' split
 all_goals first|rfl|(exfalso;omega)|(simp_all;done)|(simp_all;omega)
