/-
  Helper text. No conditions.
-/
import Derived.Test.YtjlnkcoeghonfaaGreatRunPagePa
set_option linter.all false
namespace Go.Proofs.YtjlnkcoeghonfaaGreat.gen
open Go Go.Sh
def bP(x y:M.Key):Int:=if Dv x=true/\Dv y=true then if x.aJz=y.aJz then if x.N=y.N then if Op.bytesLess x.aKA.toList y.aKA.toList=true then -1 else if(x.aKA.toList==y.aKA.toList)=true then 0 else 1 else if x.N<y.N then -1 else 1 else if x.aJz<y.aJz then -1 else 1 else 0
theorem vW{x y:M.Key}(j:x.ok)(C:y.ok):bO x y=some (bP x y):=by
 unfold bO BQ bP
 rw[mD j,mD C]
 simp only[qA]
 cases h1:Dv x
 ·simp
 cases h2:Dv y
 ·simp
 simp only[qB,qD,if_false,if_true,and_self,bne_iff_ne,ne_eq,qL,Bool.not_eq_true',Bool.or_eq_false_iff,ite_not,qA]
 repeat' split
 all_goals first|rfl|(exfalso;omega)|(simp_all;done)|(simp_all;omega)
theorem vM{x y:M.Key}(j:x.ok)(C:y.ok):eF x y=some (bP x y):=by
 have key:Lib.compareBytes x.aKA.data.toList y.aKA.data.toList=if Op.bytesLess x.aKA.toList y.aKA.toList=true then -1 else if(x.aKA.toList==y.aKA.toList)=true then 0 else 1:=by rw[Ij,<-ByteArray.toList_eq,<-ByteArray.toList_eq]
 unfold eF uW BR nO bP
 rw[oZ j,oZ C]
 simp only[qA,key]
 cases h1:Dv x
 ·simp
 cases h2:Dv y
 ·simp
 simp only[qB,qD,if_false,if_true,and_self,bne_iff_ne,ne_eq,qL,Bool.not_eq_true',Bool.or_eq_false_iff,ite_not,qA]
 repeat' split
 all_goals first|rfl|(exfalso;omega)|(simp_all;done)|(simp_all;omega)
