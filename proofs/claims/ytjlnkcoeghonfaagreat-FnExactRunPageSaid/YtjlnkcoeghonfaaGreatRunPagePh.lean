/-
  Helper text. No conditions.
-/
import Derived.Test.YtjlnkcoeghonfaaGreatRunPagePg
set_option linter.all false
namespace Go.Proofs.YtjlnkcoeghonfaaGreat.gen
open Go Go.Sh
theorem E8(x:List Int)(j:x.length<=1073741824):dL x=some x:=by unfold dL;rw[JX j jD,qA]
theorem OM(x:M.aJo)(j:M.aJo.sz x<=1073741824):wD x=some x:=by simp only[M.aJo.sz]at j;unfold wD;rw[JX jD jD,qA]
theorem JB(x:M.aJo)(j:M.aJo.sz x<=1073741824):lA x=some x:=by simp only[M.aJo.sz]at j;unfold lA;rw[E8 _ jD,qA]
theorem Nf(x:M.aJ0)(j:M.aJ0.sz x<=1073741824):Bp x=some x:=by
 have C:x.aJ1.length<=1073741824:=by simp only[M.aJ0.sz]at j;omega
 unfold Bp
 exact Cm (xs:=x.aJ1) (L:=mI x) (b:=88) (E:=λr=>some { x with aJ1:=r }) C jD (λn r k hk=>by
  simp only[mI]
  rw[if_pos (bE hk),aH hk,qA,OM _ (by have:=dW (f:=M.aJx.sz) (qG hk);simp only[M.aJ0.sz]at j;simp only[M.aJx.sz]at this;omega),qA,bG jD]) (λn r=>by
  simp only[mI]
  rw[if_neg jK])
theorem OQ(x:M.aO)(j:M.aO.sz x<=1073741824):CT x=some x:=by
 have C:x.aJs.length<=1073741824:=by simp only[M.aO.sz]at j;omega
 unfold CT
 exact Cm (xs:=x.aJs) (L:=oQ x) (b:=32) (E:=λr=>some { x with aJs:=r }) C jD (λn r k hk=>by
  simp only[oQ]
  rw[if_pos (bE hk),aH hk,qA,Nf _ (by have:=dW (f:=M.aJ0.sz) (qG hk);simp only[M.aO.sz]at j;omega),qA,bG jD]) (λn r=>by
  simp only[oQ]
  rw[if_neg jK])
theorem JY(x:M.aO)(I:M.aO.sz x<=1073741824):sU x=some x:=by
 have J:x.aJs.length<=1073741824:=by simp only[M.aO.sz]at I;omega
 unfold sU
 exact Cm (xs:=x.aJs) (L:=eR x) (b:=32) (E:=λr=>some { x with aJs:=r }) J jD (λn r k hk=>by
  have hz:=dW (f:=M.aJ0.sz) (qG hk)
  simp only[M.aO.sz]at I
  have hz2:x.aJs[k].aJ1.length+bA M.aJx.sz x.aJs[k].aJ1<=M.aJ0.sz x.aJs[k]:=by simp only[M.aJ0.sz];omega
  simp only[eR]
  rw[if_pos (bE hk),aH hk,qA,bG jD]
  exact Cm (xs:=x.aJs[k].aJ1) (b:=88) (L:=gH x.aJs[k] (λ(v:Int) (q:List M.aJx)=>(app 32 r ([(⟨x.aJs[k].aJl,q⟩:M.aJ0)])).bind λ_=>eR x n ((k+1:Nat):Int) (r++[(⟨x.aJs[k].aJl,q⟩:M.aJ0)]))) jD jD (λm q j C=>by
   have U:=dW (f:=M.aJx.sz) (qG C)
   simp only[gH]
   rw[if_pos (bE C),aH C,qA,JB _ (by simp only[M.aJx.sz]at U;omega),qA,bG jD]) (λm q=>by
   simp only[gH]
   rw[if_neg jK])) (λn r=>by
  simp only[eR]
  rw[if_neg jK])
theorem B5(x:M.aC)(j:M.aC.sz x<=1073741824):cD x=some x:=by simp only[M.aC.sz]at j;unfold cD;rw[JX jD jD,qA]
theorem HK(x:M.aJt)(j:M.aJt.sz x<=1073741824):yZ x=some x:=by simp only[M.aJt.sz]at j;unfold yZ;rw[B5 _ jD,qA]
theorem rN(x:M.aD)(j:M.aD.sz x<=1073741824):dE x=some x:=by
 have C:x.aJm.length<=1073741824:=by simp only[M.aD.sz]at j;omega
 unfold dE
 exact Cm (xs:=x.aJm) (L:=rF x) (b:=56) (E:=λr=>some { x with aJm:=r }) C jD (λn r k hk=>by
  simp only[rF]
  rw[if_pos (bE hk),aH hk,qA,HK _ (by have:=dW (f:=M.aJt.sz) (qG hk);simp only[M.aD.sz]at j;omega),qA,bG jD]) (λn r=>by
  simp only[rF]
  rw[if_neg jK])
theorem Ei(x:M.aJj)(j:M.aJj.sz x<=1073741824):mM x=some x:=by
 have C:x.aJw.length<=1073741824:=by simp only[M.aJj.sz]at j;omega
 unfold mM
 rw[JX (by simp only[M.aJj.sz]at j;omega) jD,qA]
 exact Cm (xs:=x.aJw) (L:=rG x) (b:=48) (E:=λr=>some { x with aJw:=r }) C jD (λn r k hk=>by
  simp only[rG]
  rw[if_pos (bE hk),aH hk,qA,rN _ (by have:=dW (f:=M.aD.sz) (qG hk);simp only[M.aJj.sz]at j;omega),qA,bG jD]) (λn r=>by
  simp only[rG]
  rw[if_neg jK])
theorem GM(x:M.bL)(j:M.bL.sz x<=1073741824):wA x=some x:=by simp only[M.bL.sz]at j;unfold wA;rw[Ei _ jD,qA,JX jD jD,qA]
theorem Jn(x:M.aM)(j:M.aM.sz x<=1073741824):wF x=some x:=by simp only[M.aM.sz]at j;unfold wF;rw[JX jD jD,qA]
theorem OL(x:M.aJ7)(j:M.aJ7.sz x<=1073741824):Cz x=some x:=by simp only[M.aJ7.sz]at j;unfold Cz;rw[Jn _ jD,qA]
theorem GQ(x:M.aE)(j:M.aE.sz x<=1073741824):wG x=some x:=by simp only[M.aE.sz]at j;unfold wG;rw[rN _ jD,qA,OL _ jD,qA]
theorem AO(x:M.aJi)(j:M.aJi.sz x<=1073741824):gD x=some x:=by simp only[M.aJi.sz]at j;unfold gD;rw[OQ _ jD,qA,GM _ jD,qA,GQ _ jD,qA]
theorem sJ(x:M.aC)(j:M.aC.sz x<=1073741824):bQ x=some x:=by simp only[M.aC.sz]at j;unfold bQ;rw[JX jD jD,qA]
theorem IB(x:M.aJt)(j:M.aJt.sz x<=1073741824):yF x=some x:=by simp only[M.aJt.sz]at j;unfold yF;rw[sJ _ jD,qA]
theorem iF(x:M.aD)(j:M.aD.sz x<=1073741824):aZ x=some x:=by
 have C:x.aJm.length<=1073741824:=by simp only[M.aD.sz]at j;omega
 unfold aZ
 exact Cm (xs:=x.aJm) (L:=kV x) (b:=56) (E:=λr=>some { x with aJm:=r }) C jD (λn r k hk=>by
  simp only[kV]
  rw[if_pos (bE hk),aH hk,qA,IB _ (by have:=dW (f:=M.aJt.sz) (qG hk);simp only[M.aD.sz]at j;omega),qA,bG jD]) (λn r=>by
  simp only[kV]
  rw[if_neg jK])
theorem sL(x:M.aJj)(j:M.aJj.sz x<=1073741824):dO x=some x:=by
 have C:x.aJw.length<=1073741824:=by simp only[M.aJj.sz]at j;omega
 unfold dO
 rw[JX (by simp only[M.aJj.sz]at j;omega) jD,qA]
 exact Cm (xs:=x.aJw) (L:=gJ x) (b:=48) (E:=λr=>some { x with aJw:=r }) C jD (λn r k hk=>by
  simp only[gJ]
  rw[if_pos (bE hk),aH hk,qA,iF _ (by have:=dW (f:=M.aD.sz) (qG hk);simp only[M.aJj.sz]at j;omega),qA,bG jD]) (λn r=>by
  simp only[gJ]
  rw[if_neg jK])
theorem IG(x:M.bL)(j:M.bL.sz x<=1073741824):xH x=some x:=by simp only[M.bL.sz]at j;unfold xH;rw[sL _ jD,qA,E8 _ jD,qA]
theorem Ha(x:M.aM)(j:M.aM.sz x<=1073741824):mB x=some x:=by simp only[M.aM.sz]at j;unfold mB;rw[JX jD jD,qA]
theorem Oc(x:M.aJ7)(j:M.aJ7.sz x<=1073741824):Bz x=some x:=by simp only[M.aJ7.sz]at j;unfold Bz;rw[Ha _ jD,qA]
theorem Gk(x:M.aE)(j:M.aE.sz x<=1073741824):pU x=some x:=by simp only[M.aE.sz]at j;unfold pU;rw[iF _ jD,qA,Oc _ jD,qA]
theorem yS(x:M.aJi)(j:M.aJi.sz x<=1073741824):eC x=some x:=by simp only[M.aJi.sz]at j;unfold eC;rw[JY _ jD,qA,IG _ jD,qA,Gk _ jD,qA]
theorem GN(x:M.aA)(j:M.aA.sz x<=1073741824):fH x=some x:=by
 have C:x.aJp.length<=1073741824:=by simp only[M.aA.sz]at j;omega
 unfold fH
 exact Cm (xs:=x.aJp) (L:=nU x) (b:=328) (E:=λr=>some { x with aJp:=r }) C jD (λn r k hk=>by
  simp only[nU]
  rw[if_pos (bE hk),aH hk,qA,AO _ (by have:=dW (f:=M.aJi.sz) (qG hk);simp only[M.aA.sz]at j;omega),qA,bG jD]) (λn r=>by
  simp only[nU]
  rw[if_neg jK])
theorem Eg(x:M.aA)(j:M.aA.sz x<=1073741824):cN x=some x:=by
 have C:x.aJp.length<=1073741824:=by simp only[M.aA.sz]at j;omega
 unfold cN
 exact Cm (xs:=x.aJp) (L:=gV x) (b:=328) (E:=λr=>some { x with aJp:=r }) C jD (λn r k hk=>by
  simp only[gV]
  rw[if_pos (bE hk),aH hk,qA,yS _ (by have:=dW (f:=M.aJi.sz) (qG hk);simp only[M.aA.sz]at j;omega),qA,bG jD]) (λn r=>by
  simp only[gV]
  rw[if_neg jK])
