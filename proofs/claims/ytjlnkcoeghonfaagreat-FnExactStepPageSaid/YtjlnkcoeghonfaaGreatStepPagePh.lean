/-
  Helper text. No conditions.
-/
import Derived.Test.YtjlnkcoeghonfaaGreatStepPagePg
set_option linter.all false
namespace Go.Proofs.YtjlnkcoeghonfaaGreat.gen
open Go Go.Sh
theorem E1(x:List Int)(j:x.length<=1073741824):dK x=some x:=by unfold dK;rw[JR j jD,qA]
theorem OI(x:M.aJg)(j:M.aJg.sz x<=1073741824):wA x=some x:=by simp only[M.aJg.sz]at j;unfold wA;rw[JR jD jD,qA]
theorem Jv(x:M.aJg)(j:M.aJg.sz x<=1073741824):kY x=some x:=by simp only[M.aJg.sz]at j;unfold kY;rw[E1 _ jD,qA]
theorem M8(x:M.aJs)(j:M.aJs.sz x<=1073741824):Bl x=some x:=by
 have C:x.aJt.length<=1073741824:=by simp only[M.aJs.sz]at j;omega
 unfold Bl
 exact Ci (xs:=x.aJt) (L:=mG x) (b:=88) (E:=λr=>some { x with aJt:=r }) C jD (λn r k hk=>by
  simp only[mG]
  rw[if_pos (bE hk),aH hk,qA,OI _ (by have:=eD (f:=M.aJo.sz) (qG hk);simp only[M.aJs.sz]at j;simp only[M.aJo.sz]at this;omega),qA,bG jD]) (λn r=>by
  simp only[mG]
  rw[if_neg jK])
theorem OM(x:M.aO)(j:M.aO.sz x<=1073741824):CN x=some x:=by
 have C:x.aJk.length<=1073741824:=by simp only[M.aO.sz]at j;omega
 unfold CN
 exact Ci (xs:=x.aJk) (L:=oM x) (b:=32) (E:=λr=>some { x with aJk:=r }) C jD (λn r k hk=>by
  simp only[oM]
  rw[if_pos (bE hk),aH hk,qA,M8 _ (by have:=eD (f:=M.aJs.sz) (qG hk);simp only[M.aO.sz]at j;omega),qA,bG jD]) (λn r=>by
  simp only[oM]
  rw[if_neg jK])
theorem JS(x:M.aO)(I:M.aO.sz x<=1073741824):sQ x=some x:=by
 have J:x.aJk.length<=1073741824:=by simp only[M.aO.sz]at I;omega
 unfold sQ
 exact Ci (xs:=x.aJk) (L:=eQ x) (b:=32) (E:=λr=>some { x with aJk:=r }) J jD (λn r k hk=>by
  have hz:=eD (f:=M.aJs.sz) (qG hk)
  simp only[M.aO.sz]at I
  have hz2:x.aJk[k].aJt.length+bA M.aJo.sz x.aJk[k].aJt<=M.aJs.sz x.aJk[k]:=by simp only[M.aJs.sz];omega
  simp only[eQ]
  rw[if_pos (bE hk),aH hk,qA,bG jD]
  exact Ci (xs:=x.aJk[k].aJt) (b:=88) (L:=gG x.aJk[k] (λ(v:Int) (q:List M.aJo)=>(app 32 r ([(⟨x.aJk[k].aJd,q⟩:M.aJs)])).bind λ_=>eQ x n ((k+1:Nat):Int) (r++[(⟨x.aJk[k].aJd,q⟩:M.aJs)]))) jD jD (λm q j C=>by
   have U:=eD (f:=M.aJo.sz) (qG C)
   simp only[gG]
   rw[if_pos (bE C),aH C,qA,Jv _ (by simp only[M.aJo.sz]at U;omega),qA,bG jD]) (λm q=>by
   simp only[gG]
   rw[if_neg jK])) (λn r=>by
  simp only[eQ]
  rw[if_neg jK])
theorem B1(x:M.aA)(j:M.aA.sz x<=1073741824):cD x=some x:=by simp only[M.aA.sz]at j;unfold cD;rw[JR jD jD,qA]
theorem HE(x:M.aJl)(j:M.aJl.sz x<=1073741824):yX x=some x:=by simp only[M.aJl.sz]at j;unfold yX;rw[B1 _ jD,qA]
theorem rJ(x:M.aD)(j:M.aD.sz x<=1073741824):dD x=some x:=by
 have C:x.aJe.length<=1073741824:=by simp only[M.aD.sz]at j;omega
 unfold dD
 exact Ci (xs:=x.aJe) (L:=rA x) (b:=56) (E:=λr=>some { x with aJe:=r }) C jD (λn r k hk=>by
  simp only[rA]
  rw[if_pos (bE hk),aH hk,qA,HE _ (by have:=eD (f:=M.aJl.sz) (qG hk);simp only[M.aD.sz]at j;omega),qA,bG jD]) (λn r=>by
  simp only[rA]
  rw[if_neg jK])
theorem Ea(x:M.aJb)(j:M.aJb.sz x<=1073741824):mK x=some x:=by
 have C:x.aJm.length<=1073741824:=by simp only[M.aJb.sz]at j;omega
 unfold mK
 rw[JR (by simp only[M.aJb.sz]at j;omega) jD,qA]
 exact Ci (xs:=x.aJm) (L:=rC x) (b:=48) (E:=λr=>some { x with aJm:=r }) C jD (λn r k hk=>by
  simp only[rC]
  rw[if_pos (bE hk),aH hk,qA,rJ _ (by have:=eD (f:=M.aD.sz) (qG hk);simp only[M.aJb.sz]at j;omega),qA,bG jD]) (λn r=>by
  simp only[rC]
  rw[if_neg jK])
theorem GH(x:M.bL)(j:M.bL.sz x<=1073741824):vX x=some x:=by simp only[M.bL.sz]at j;unfold vX;rw[Ea _ jD,qA,JR jD jD,qA]
theorem Jg(x:M.aM)(j:M.aM.sz x<=1073741824):wC x=some x:=by simp only[M.aM.sz]at j;unfold wC;rw[JR jD jD,qA]
theorem OH(x:M.aJx)(j:M.aJx.sz x<=1073741824):Cu x=some x:=by simp only[M.aJx.sz]at j;unfold Cu;rw[Jg _ jD,qA]
theorem GK(x:M.aE)(j:M.aE.sz x<=1073741824):wD x=some x:=by simp only[M.aE.sz]at j;unfold wD;rw[rJ _ jD,qA,OH _ jD,qA]
theorem AM(x:M.aJa)(j:M.aJa.sz x<=1073741824):gC x=some x:=by simp only[M.aJa.sz]at j;unfold gC;rw[OM _ jD,qA,GH _ jD,qA,GK _ jD,qA]
theorem sG(x:M.aA)(j:M.aA.sz x<=1073741824):bQ x=some x:=by simp only[M.aA.sz]at j;unfold bQ;rw[JR jD jD,qA]
theorem Iu(x:M.aJl)(j:M.aJl.sz x<=1073741824):yD x=some x:=by simp only[M.aJl.sz]at j;unfold yD;rw[sG _ jD,qA]
theorem iD(x:M.aD)(j:M.aD.sz x<=1073741824):aY x=some x:=by
 have C:x.aJe.length<=1073741824:=by simp only[M.aD.sz]at j;omega
 unfold aY
 exact Ci (xs:=x.aJe) (L:=kT x) (b:=56) (E:=λr=>some { x with aJe:=r }) C jD (λn r k hk=>by
  simp only[kT]
  rw[if_pos (bE hk),aH hk,qA,Iu _ (by have:=eD (f:=M.aJl.sz) (qG hk);simp only[M.aD.sz]at j;omega),qA,bG jD]) (λn r=>by
  simp only[kT]
  rw[if_neg jK])
theorem sI(x:M.aJb)(j:M.aJb.sz x<=1073741824):dN x=some x:=by
 have C:x.aJm.length<=1073741824:=by simp only[M.aJb.sz]at j;omega
 unfold dN
 rw[JR (by simp only[M.aJb.sz]at j;omega) jD,qA]
 exact Ci (xs:=x.aJm) (L:=gI x) (b:=48) (E:=λr=>some { x with aJm:=r }) C jD (λn r k hk=>by
  simp only[gI]
  rw[if_pos (bE hk),aH hk,qA,iD _ (by have:=eD (f:=M.aD.sz) (qG hk);simp only[M.aJb.sz]at j;omega),qA,bG jD]) (λn r=>by
  simp only[gI]
  rw[if_neg jK])
theorem Iy(x:M.bL)(j:M.bL.sz x<=1073741824):xF x=some x:=by simp only[M.bL.sz]at j;unfold xF;rw[sI _ jD,qA,E1 _ jD,qA]
theorem G4(x:M.aM)(j:M.aM.sz x<=1073741824):lZ x=some x:=by simp only[M.aM.sz]at j;unfold lZ;rw[JR jD jD,qA]
theorem N7(x:M.aJx)(j:M.aJx.sz x<=1073741824):Bu x=some x:=by simp only[M.aJx.sz]at j;unfold Bu;rw[G4 _ jD,qA]
theorem Gd(x:M.aE)(j:M.aE.sz x<=1073741824):pP x=some x:=by simp only[M.aE.sz]at j;unfold pP;rw[iD _ jD,qA,N7 _ jD,qA]
theorem yQ(x:M.aJa)(j:M.aJa.sz x<=1073741824):eB x=some x:=by simp only[M.aJa.sz]at j;unfold eB;rw[JS _ jD,qA,Iy _ jD,qA,Gd _ jD,qA]
theorem GI(x:M.aC)(j:M.aC.sz x<=1073741824):fH x=some x:=by
 have C:x.aJh.length<=1073741824:=by simp only[M.aC.sz]at j;omega
 unfold fH
 exact Ci (xs:=x.aJh) (L:=nR x) (b:=328) (E:=λr=>some { x with aJh:=r }) C jD (λn r k hk=>by
  simp only[nR]
  rw[if_pos (bE hk),aH hk,qA,AM _ (by have:=eD (f:=M.aJa.sz) (qG hk);simp only[M.aC.sz]at j;omega),qA,bG jD]) (λn r=>by
  simp only[nR]
  rw[if_neg jK])
theorem D8(x:M.aC)(j:M.aC.sz x<=1073741824):cN x=some x:=by
 have C:x.aJh.length<=1073741824:=by simp only[M.aC.sz]at j;omega
 unfold cN
 exact Ci (xs:=x.aJh) (L:=gU x) (b:=328) (E:=λr=>some { x with aJh:=r }) C jD (λn r k hk=>by
  simp only[gU]
  rw[if_pos (bE hk),aH hk,qA,yQ _ (by have:=eD (f:=M.aJa.sz) (qG hk);simp only[M.aC.sz]at j;omega),qA,bG jD]) (λn r=>by
  simp only[gU]
  rw[if_neg jK])
