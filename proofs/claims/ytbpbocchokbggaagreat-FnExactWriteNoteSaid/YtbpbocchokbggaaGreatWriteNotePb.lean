/-
  Helper text. No conditions.
-/
import Derived.Test.YtbpbocchokbggaaGreatWriteNotePa
set_option linter.all false
namespace Go.Proofs.YtbpbocchokbggaaGreat.gen
open Go Go.Sh
def bH(x y:M.Key):Int:=if Bn x=true/\Bn y=true then if x.aEc=y.aEc then if x.N=y.N then if Op.bytesLess x.aEj.toList y.aEj.toList=true then -1 else if(x.aEj.toList==y.aEj.toList)=true then 0 else 1 else if x.N<y.N then -1 else 1 else if x.aEc<y.aEc then -1 else 1 else 0
theorem rR{x y:M.Key}(j:x.ok)(C:y.ok):bF x y=some (bH x y):=by
 unfold bF zC bH
 rw[kC j,kC C]
 simp only[qA]
 cases h1:Bn x
 ·simp
 cases h2:Bn y
 ·simp
 simp only[qB,qD,if_false,if_true,and_self,bne_iff_ne,ne_eq,qL,Bool.not_eq_true',Bool.or_eq_false_iff,ite_not,qA]
 repeat' split
 all_goals first|rfl|(exfalso;omega)|(simp_all;done)|(simp_all;omega)
theorem rK{x y:M.Key}(j:x.ok)(C:y.ok):dI x y=some (bH x y):=by
 have key:Lib.compareBytes x.aEj.data.toList y.aEj.data.toList=if Op.bytesLess x.aEj.toList y.aEj.toList=true then -1 else if(x.aEj.toList==y.aEj.toList)=true then 0 else 1:=by rw[E5,<-ByteArray.toList_eq,<-ByteArray.toList_eq]
 unfold dI pW zD lD bH
 rw[lZ j,lZ C]
 simp only[qA,key]
 cases h1:Bn x
 ·simp
 cases h2:Bn y
 ·simp
 simp only[qB,qD,if_false,if_true,and_self,bne_iff_ne,ne_eq,qL,Bool.not_eq_true',Bool.or_eq_false_iff,ite_not,qA]
 repeat' split
 all_goals first|rfl|(exfalso;omega)|(simp_all;done)|(simp_all;omega)
