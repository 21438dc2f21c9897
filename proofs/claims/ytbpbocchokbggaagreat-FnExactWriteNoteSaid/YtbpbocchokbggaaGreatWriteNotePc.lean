/-
  Helper text. No conditions.
-/
import Derived.Test.YtbpbocchokbggaaGreatWriteNotePb
set_option linter.all false
namespace Go.Proofs.YtbpbocchokbggaaGreat.gen
open Go Go.Sh
theorem Hj{p:M.aEJ->Option Bool}{f:M.aEJ->Bool}{xs:List M.aEJ}(j:xs.length<=maxLen)(C:∀x∈xs,p x=some (f x)):iB xs p=some (rY f xs):=by
 have I:=le_max j
 unfold iB
 rw[findAll (L:=cN xs p) (f:=f) (A:=λi=>some (i:Int)) (E:=some (-1)) j (λn k hk=>by
  simp only[cN]
  rw[if_pos (bL hk),aM hk,qA,C _ (qG hk),qA,bI jD]) (λn=>by
  simp only[cN]
  rw[if_neg jK]),B2]
theorem Hm{p:M.aEW->Option Bool}{f:M.aEW->Bool}{xs:List M.aEW}(j:xs.length<=maxLen)(C:∀x∈xs,p x=some (f x)):iG xs p=some (rY f xs):=by
 have I:=le_max j
 unfold iG
 rw[findAll (L:=cO xs p) (f:=f) (A:=λi=>some (i:Int)) (E:=some (-1)) j (λn k hk=>by
  simp only[cO]
  rw[if_pos (bL hk),aM hk,qA,C _ (qG hk),qA,bI jD]) (λn=>by
  simp only[cO]
  rw[if_neg jK]),B2]
theorem Ix{p:M.aC->Option Bool}{f:M.aC->Bool}{xs:List M.aC}(j:xs.length<=maxLen)(C:∀x∈xs,p x=some (f x)):jV xs p=some (rY f xs):=by
 have I:=le_max j
 unfold jV
 rw[findAll (L:=cY xs p) (f:=f) (A:=λi=>some (i:Int)) (E:=some (-1)) j (λn k hk=>by
  simp only[cY]
  rw[if_pos (bL hk),aM hk,qA,C _ (qG hk),qA,bI jD]) (λn=>by
  simp only[cY]
  rw[if_neg jK]),B2]
theorem ET{p:M.aES->Option Bool}{f:M.aES->Bool}{xs:List M.aES}(j:xs.length<=maxLen)(C:∀x∈xs,p x=some (f x)):gP xs p=some (rY f xs):=by
 have I:=le_max j
 unfold gP
 rw[findAll (L:=dC xs p) (f:=f) (A:=λi=>some (i:Int)) (E:=some (-1)) j (λn k hk=>by
  simp only[dC]
  rw[if_pos (bL hk),aM hk,qA,C _ (qG hk),qA,bI jD]) (λn=>by
  simp only[dC]
  rw[if_neg jK]),B2]
theorem Ec{p:M.Field->Option Bool}{f:M.Field->Bool}{xs:List M.Field}(j:xs.length<=maxLen)(C:∀x∈xs,p x=some (f x)):jZ xs p=some (rY f xs):=by
 have I:=le_max j
 unfold jZ
 rw[findAll (L:=cV xs p) (f:=f) (A:=λi=>some (i:Int)) (E:=some (-1)) j (λn k hk=>by
  simp only[cV]
  rw[if_pos (bL hk),aM hk,qA,C _ (qG hk),qA,bI jD]) (λn=>by
  simp only[cV]
  rw[if_neg jK]),B2]
def nAt(a b:ByteArray)(x:M.aEJ):Bool:=(x.aET.toList==a.toList)&&(x.Top.toList==b.toList)
theorem D2{s:M.aD}{a b:ByteArray}(j:s.ok):nZ s a b=some (rY (nAt a b) s.aEP):=by have C:=le_max j.aEP.1;unfold nZ;rw[findAll (L:=fD s a b) (f:=nAt a b) (A:=λi=>some (i:Int)) (E:=some (-1)) j.aEP.1 (λm k hk=> ?_) (λm=> ?_),B2];(simp only[fD];rw[if_pos (bL hk),aM hk,qA,bI jD,V3];rfl);·simp only[fD];rw[if_neg jK]
theorem Eo{s:M.aD}{a b:ByteArray}(j:s.ok):nR s a b=some (rY (nAt a b) s.aEP):=by unfold nR;rw[Hj (f:=nAt a b) j.aEP.1 (λx _=>by simp only[oG,fF];rfl),qA]
