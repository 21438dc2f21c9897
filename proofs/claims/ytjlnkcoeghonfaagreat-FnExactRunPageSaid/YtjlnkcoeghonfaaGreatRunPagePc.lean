/-
  Helper text. No conditions.
-/
import Derived.Test.YtjlnkcoeghonfaaGreatRunPagePb
set_option linter.all false
namespace Go.Proofs.YtjlnkcoeghonfaaGreat.gen
open Go Go.Sh
theorem Kn{p:M.aJi->Option Bool}{f:M.aJi->Bool}{xs:List M.aJi}(j:xs.length<=maxLen)(C:∀x∈xs,p x=some (f x)):kH xs p=some (mF f xs):=by
 have I:=le_max j
 unfold kH
 rw[findAll (L:=dC xs p) (f:=f) (A:=λi=>some (i:Int)) (E:=some (-1)) j (λn k hk=>by
  simp only[dC]
  rw[if_pos (bE hk),aH hk,qA,C _ (qG hk),qA,bG jD]) (λn=>by
  simp only[dC]
  rw[if_neg jK]),pG]
theorem MU{p:M.bD->Option Bool}{f:M.bD->Bool}{xs:List M.bD}(j:xs.length<=maxLen)(C:∀x∈xs,p x=some (f x)):mR xs p=some (mF f xs):=by
 have I:=le_max j
 unfold mR
 rw[findAll (L:=dZ xs p) (f:=f) (A:=λi=>some (i:Int)) (E:=some (-1)) j (λn k hk=>by
  simp only[dZ]
  rw[if_pos (bE hk),aH hk,qA,C _ (qG hk),qA,bG jD]) (λn=>by
  simp only[dZ]
  rw[if_neg jK]),pG]
theorem LH{p:M.aJ0->Option Bool}{f:M.aJ0->Bool}{xs:List M.aJ0}(j:xs.length<=maxLen)(C:∀x∈xs,p x=some (f x)):lR xs p=some (mF f xs):=by
 have I:=le_max j
 unfold lR
 rw[findAll (L:=dN xs p) (f:=f) (A:=λi=>some (i:Int)) (E:=some (-1)) j (λn k hk=>by
  simp only[dN]
  rw[if_pos (bE hk),aH hk,qA,C _ (qG hk),qA,bG jD]) (λn=>by
  simp only[dN]
  rw[if_neg jK]),pG]
theorem Gt{p:M.aJx->Option Bool}{f:M.aJx->Bool}{xs:List M.aJx}(j:xs.length<=maxLen)(C:∀x∈xs,p x=some (f x)):kM xs p=some (mF f xs):=by
 have I:=le_max j
 unfold kM
 rw[findAll (L:=dD xs p) (f:=f) (A:=λi=>some (i:Int)) (E:=some (-1)) j (λn k hk=>by
  simp only[dD]
  rw[if_pos (bE hk),aH hk,qA,C _ (qG hk),qA,bG jD]) (λn=>by
  simp only[dD]
  rw[if_neg jK]),pG]
theorem LG{p:M.aD->Option Bool}{f:M.aD->Bool}{xs:List M.aD}(j:xs.length<=maxLen)(C:∀x∈xs,p x=some (f x)):lT xs p=some (mF f xs):=by
 have I:=le_max j
 unfold lT
 rw[findAll (L:=dP xs p) (f:=f) (A:=λi=>some (i:Int)) (E:=some (-1)) j (λn k hk=>by
  simp only[dP]
  rw[if_pos (bE hk),aH hk,qA,C _ (qG hk),qA,bG jD]) (λn=>by
  simp only[dP]
  rw[if_neg jK]),pG]
theorem HX{p:M.aJt->Option Bool}{f:M.aJt->Bool}{xs:List M.aJt}(j:xs.length<=maxLen)(C:∀x∈xs,p x=some (f x)):iO xs p=some (mF f xs):=by
 have I:=le_max j
 unfold iO
 rw[findAll (L:=dY xs p) (f:=f) (A:=λi=>some (i:Int)) (E:=some (-1)) j (λn k hk=>by
  simp only[dY]
  rw[if_pos (bE hk),aH hk,qA,C _ (qG hk),qA,bG jD]) (λn=>by
  simp only[dY]
  rw[if_neg jK]),pG]
theorem G7{p:M.Field->Option Bool}{f:M.Field->Bool}{xs:List M.Field}(j:xs.length<=maxLen)(C:∀x∈xs,p x=some (f x)):lY xs p=some (mF f xs):=by
 have I:=le_max j
 unfold lY
 rw[findAll (L:=dM xs p) (f:=f) (A:=λi=>some (i:Int)) (E:=some (-1)) j (λn k hk=>by
  simp only[dM]
  rw[if_pos (bE hk),aH hk,qA,C _ (qG hk),qA,bG jD]) (λn=>by
  simp only[dM]
  rw[if_neg jK]),pG]
def nAt(a b:ByteArray)(x:M.aJi):Bool:=(x.aJr.toList==a.toList)&&(x.Top.toList==b.toList)
theorem rY{s:M.aA}{a b:ByteArray}(j:s.ok):fF s a b=some (mF (nAt a b) s.aJp):=by have C:=le_max j.aJp.1;unfold fF;rw[findAll (L:=gG s a b) (f:=nAt a b) (A:=λi=>some (i:Int)) (E:=some (-1)) j.aJp.1 (λm k hk=> ?_) (λm=> ?_),pG];(simp only[gG];rw[if_pos (bE hk),aH hk,qA,bG jD,X0];rfl);·simp only[gG];rw[if_neg jK]
theorem sK{s:M.aA}{a b:ByteArray}(j:s.ok):lN s a b=some (mF (nAt a b) s.aJp):=by unfold lN;rw[Kn (f:=nAt a b) j.aJp.1 (λx _=>by simp only[sO,bY];rfl),qA]
