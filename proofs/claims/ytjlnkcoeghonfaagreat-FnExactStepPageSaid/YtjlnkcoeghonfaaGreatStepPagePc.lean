/-
  Helper text. No conditions.
-/
import Derived.Test.YtjlnkcoeghonfaaGreatStepPagePb
set_option linter.all false
namespace Go.Proofs.YtjlnkcoeghonfaaGreat.gen
open Go Go.Sh
theorem Kh{p:M.aJa->Option Bool}{f:M.aJa->Bool}{xs:List M.aJa}(j:xs.length<=maxLen)(C:∀x∈xs,p x=some (f x)):kE xs p=some (mD f xs):=by
 have I:=le_max j
 unfold kE
 rw[findAll (L:=dB xs p) (f:=f) (A:=λi=>some (i:Int)) (E:=some (-1)) j (λn k hk=>by
  simp only[dB]
  rw[if_pos (bE hk),aH hk,qA,C _ (qG hk),qA,bG jD]) (λn=>by
  simp only[dB]
  rw[if_neg jK]),pB]
theorem MM{p:M.bD->Option Bool}{f:M.bD->Bool}{xs:List M.bD}(j:xs.length<=maxLen)(C:∀x∈xs,p x=some (f x)):mP xs p=some (mD f xs):=by
 have I:=le_max j
 unfold mP
 rw[findAll (L:=dX xs p) (f:=f) (A:=λi=>some (i:Int)) (E:=some (-1)) j (λn k hk=>by
  simp only[dX]
  rw[if_pos (bE hk),aH hk,qA,C _ (qG hk),qA,bG jD]) (λn=>by
  simp only[dX]
  rw[if_neg jK]),pB]
theorem Ly{p:M.aJs->Option Bool}{f:M.aJs->Bool}{xs:List M.aJs}(j:xs.length<=maxLen)(C:∀x∈xs,p x=some (f x)):lP xs p=some (mD f xs):=by
 have I:=le_max j
 unfold lP
 rw[findAll (L:=dM xs p) (f:=f) (A:=λi=>some (i:Int)) (E:=some (-1)) j (λn k hk=>by
  simp only[dM]
  rw[if_pos (bE hk),aH hk,qA,C _ (qG hk),qA,bG jD]) (λn=>by
  simp only[dM]
  rw[if_neg jK]),pB]
theorem Gm{p:M.aJo->Option Bool}{f:M.aJo->Bool}{xs:List M.aJo}(j:xs.length<=maxLen)(C:∀x∈xs,p x=some (f x)):kJ xs p=some (mD f xs):=by
 have I:=le_max j
 unfold kJ
 rw[findAll (L:=dC xs p) (f:=f) (A:=λi=>some (i:Int)) (E:=some (-1)) j (λn k hk=>by
  simp only[dC]
  rw[if_pos (bE hk),aH hk,qA,C _ (qG hk),qA,bG jD]) (λn=>by
  simp only[dC]
  rw[if_neg jK]),pB]
theorem Lx{p:M.aD->Option Bool}{f:M.aD->Bool}{xs:List M.aD}(j:xs.length<=maxLen)(C:∀x∈xs,p x=some (f x)):lR xs p=some (mD f xs):=by
 have I:=le_max j
 unfold lR
 rw[findAll (L:=dO xs p) (f:=f) (A:=λi=>some (i:Int)) (E:=some (-1)) j (λn k hk=>by
  simp only[dO]
  rw[if_pos (bE hk),aH hk,qA,C _ (qG hk),qA,bG jD]) (λn=>by
  simp only[dO]
  rw[if_neg jK]),pB]
theorem HR{p:M.aJl->Option Bool}{f:M.aJl->Bool}{xs:List M.aJl}(j:xs.length<=maxLen)(C:∀x∈xs,p x=some (f x)):iM xs p=some (mD f xs):=by
 have I:=le_max j
 unfold iM
 rw[findAll (L:=dW xs p) (f:=f) (A:=λi=>some (i:Int)) (E:=some (-1)) j (λn k hk=>by
  simp only[dW]
  rw[if_pos (bE hk),aH hk,qA,C _ (qG hk),qA,bG jD]) (λn=>by
  simp only[dW]
  rw[if_neg jK]),pB]
theorem GY{p:M.Field->Option Bool}{f:M.Field->Bool}{xs:List M.Field}(j:xs.length<=maxLen)(C:∀x∈xs,p x=some (f x)):lW xs p=some (mD f xs):=by
 have I:=le_max j
 unfold lW
 rw[findAll (L:=dL xs p) (f:=f) (A:=λi=>some (i:Int)) (E:=some (-1)) j (λn k hk=>by
  simp only[dL]
  rw[if_pos (bE hk),aH hk,qA,C _ (qG hk),qA,bG jD]) (λn=>by
  simp only[dL]
  rw[if_neg jK]),pB]
def nAt(a b:ByteArray)(x:M.aJa):Bool:=(x.aJj.toList==a.toList)&&(x.Top.toList==b.toList)
theorem rU{s:M.aC}{a b:ByteArray}(j:s.ok):fF s a b=some (mD (nAt a b) s.aJh):=by have C:=le_max j.aJh.1;unfold fF;rw[findAll (L:=gF s a b) (f:=nAt a b) (A:=λi=>some (i:Int)) (E:=some (-1)) j.aJh.1 (λm k hk=> ?_) (λm=> ?_),pB];(simp only[gF];rw[if_pos (bE hk),aH hk,qA,bG jD,XU];rfl);·simp only[gF];rw[if_neg jK]
theorem sH{s:M.aC}{a b:ByteArray}(j:s.ok):lL s a b=some (mD (nAt a b) s.aJh):=by unfold lL;rw[Kh (f:=nAt a b) j.aJh.1 (λx _=>by simp only[sL,bY];rfl),qA]
