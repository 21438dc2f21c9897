/-
  Helper text. No conditions.
-/
import Derived.Test.YtbpbocchokbggaaGreatWriteNotePg
set_option linter.all false
namespace Go.Proofs.YtbpbocchokbggaaGreat.gen
open Go Go.Sh
theorem CY(x:List Int)(j:x.length<=1073741824):dG x=some x:=by unfold dG;rw[GN j jD,qA]
theorem K3(x:M.aEQ)(j:M.aEQ.sz x<=1073741824):Ax x=some x:=by simp only[M.aEQ.sz]at j;unfold Ax;rw[GN jD jD,qA]
theorem Gq(x:M.aEQ)(j:M.aEQ.sz x<=1073741824):oL x=some x:=by simp only[M.aEQ.sz]at j;unfold oL;rw[CY _ jD,qA]
theorem JT(x:M.aEZ)(j:M.aEZ.sz x<=1073741824):yJ x=some x:=by
 have C:x.aEa.length<=1073741824:=by simp only[M.aEZ.sz]at j;omega
 unfold yJ
 exact Ac (xs:=x.aEa) (L:=kF x) (b:=88) (E:=λr=>some { x with aEa:=r }) C jD (λn r k hk=>by
  simp only[kF]
  rw[if_pos (bL hk),aM hk,qA,K3 _ (by have:=gL (f:=M.aEW.sz) (qG hk);simp only[M.aEZ.sz]at j;simp only[M.aEW.sz]at this;omega),qA,bI jD]) (λn r=>by
  simp only[kF]
  rw[if_neg jK])
theorem K6(x:M.aP)(j:M.aP.sz x<=1073741824):AH x=some x:=by
 have C:x.aEV.length<=1073741824:=by simp only[M.aP.sz]at j;omega
 unfold AH
 exact Ac (xs:=x.aEV) (L:=lW x) (b:=32) (E:=λr=>some { x with aEV:=r }) C jD (λn r k hk=>by
  simp only[lW]
  rw[if_pos (bL hk),aM hk,qA,JT _ (by have:=gL (f:=M.aEZ.sz) (qG hk);simp only[M.aP.sz]at j;omega),qA,bI jD]) (λn r=>by
  simp only[lW]
  rw[if_neg jK])
theorem GO(x:M.aP)(I:M.aP.sz x<=1073741824):oK x=some x:=by
 have J:x.aEV.length<=1073741824:=by simp only[M.aP.sz]at I;omega
 unfold oK
 exact Ac (xs:=x.aEV) (L:=dR x) (b:=32) (E:=λr=>some { x with aEV:=r }) J jD (λn r k hk=>by
  have hz:=gL (f:=M.aEZ.sz) (qG hk)
  simp only[M.aP.sz]at I
  have hz2:x.aEV[k].aEa.length+aV M.aEW.sz x.aEV[k].aEa<=M.aEZ.sz x.aEV[k]:=by simp only[M.aEZ.sz];omega
  simp only[dR]
  rw[if_pos (bL hk),aM hk,qA,bI jD]
  exact Ac (xs:=x.aEV[k].aEa) (b:=88) (L:=fE x.aEV[k] (λ(v:Int) (q:List M.aEW)=>(app 32 r ([(⟨x.aEV[k].aER,q⟩:M.aEZ)])).bind λ_=>dR x n ((k+1:Nat):Int) (r++[(⟨x.aEV[k].aER,q⟩:M.aEZ)]))) jD jD (λm q j C=>by
   have U:=gL (f:=M.aEW.sz) (qG C)
   simp only[fE]
   rw[if_pos (bL C),aM C,qA,Gq _ (by simp only[M.aEW.sz]at U;omega),qA,bI jD]) (λm q=>by
   simp only[fE]
   rw[if_neg jK])) (λn r=>by
  simp only[dR]
  rw[if_neg jK])
theorem zP(x:M.aA)(j:M.aA.sz x<=1073741824):bY x=some x:=by simp only[M.aA.sz]at j;unfold bY;rw[GN jD jD,qA]
theorem EK(x:M.aES)(j:M.aES.sz x<=1073741824):uP x=some x:=by simp only[M.aES.sz]at j;unfold uP;rw[zP _ jD,qA]
theorem uX(x:M.aC)(j:M.aC.sz x<=1073741824):eR x=some x:=by
 have C:x.aEM.length<=1073741824:=by simp only[M.aC.sz]at j;omega
 unfold eR
 exact Ac (xs:=x.aEM) (L:=mU x) (b:=56) (E:=λr=>some { x with aEM:=r }) C jD (λn r k hk=>by
  simp only[mU]
  rw[if_pos (bL hk),aM hk,qA,EK _ (by have:=gL (f:=M.aES.sz) (qG hk);simp only[M.aC.sz]at j;omega),qA,bI jD]) (λn r=>by
  simp only[mU]
  rw[if_neg jK])
theorem Ca(x:M.aEK)(j:M.aEK.sz x<=1073741824):kK x=some x:=by
 have C:x.aEU.length<=1073741824:=by simp only[M.aEK.sz]at j;omega
 unfold kK
 rw[GN (by simp only[M.aEK.sz]at j;omega) jD,qA]
 exact Ac (xs:=x.aEU) (L:=mW x) (b:=48) (E:=λr=>some { x with aEU:=r }) C jD (λn r k hk=>by
  simp only[mW]
  rw[if_pos (bL hk),aM hk,qA,uX _ (by have:=gL (f:=M.aC.sz) (qG hk);simp only[M.aEK.sz]at j;omega),qA,bI jD]) (λn r=>by
  simp only[mW]
  rw[if_neg jK])
theorem DY(x:M.bK)(j:M.bK.sz x<=1073741824):rX x=some x:=by simp only[M.bK.sz]at j;unfold rX;rw[Ca _ jD,qA,GN jD jD,qA]
theorem KO(x:M.aU)(j:M.aU.sz x<=1073741824):AA x=some x:=by simp only[M.aU.sz]at j;unfold AA;rw[GN jD jD,qA]
theorem K2(x:M.aEf)(j:M.aEf.sz x<=1073741824):An x=some x:=by simp only[M.aEf.sz]at j;unfold An;rw[KO _ jD,qA]
theorem K0(x:M.aF)(j:M.aF.sz x<=1073741824):AG x=some x:=by simp only[M.aF.sz]at j;unfold AG;rw[uX _ jD,qA,K2 _ jD,qA]
theorem Az(x:M.aEJ)(j:M.aEJ.sz x<=1073741824):gH x=some x:=by simp only[M.aEJ.sz]at j;unfold gH;rw[K6 _ jD,qA,DY _ jD,qA,K0 _ jD,qA]
theorem oC(x:M.aA)(j:M.aA.sz x<=1073741824):bJ x=some x:=by simp only[M.aA.sz]at j;unfold bJ;rw[GN jD jD,qA]
theorem Fu(x:M.aES)(j:M.aES.sz x<=1073741824):tX x=some x:=by simp only[M.aES.sz]at j;unfold tX;rw[oC _ jD,qA]
theorem lA(x:M.aC)(j:M.aC.sz x<=1073741824):aW x=some x:=by
 have C:x.aEM.length<=1073741824:=by simp only[M.aC.sz]at j;omega
 unfold aW
 exact Ac (xs:=x.aEM) (L:=iL x) (b:=56) (E:=λr=>some { x with aEM:=r }) C jD (λn r k hk=>by
  simp only[iL]
  rw[if_pos (bL hk),aM hk,qA,Fu _ (by have:=gL (f:=M.aES.sz) (qG hk);simp only[M.aC.sz]at j;omega),qA,bI jD]) (λn r=>by
  simp only[iL]
  rw[if_neg jK])
theorem oE(x:M.aEK)(j:M.aEK.sz x<=1073741824):cX x=some x:=by
 have C:x.aEU.length<=1073741824:=by simp only[M.aEK.sz]at j;omega
 unfold cX
 rw[GN (by simp only[M.aEK.sz]at j;omega) jD,qA]
 exact Ac (xs:=x.aEU) (L:=fH x) (b:=48) (E:=λr=>some { x with aEU:=r }) C jD (λn r k hk=>by
  simp only[fH]
  rw[if_pos (bL hk),aM hk,qA,lA _ (by have:=gL (f:=M.aC.sz) (qG hk);simp only[M.aEK.sz]at j;omega),qA,bI jD]) (λn r=>by
  simp only[fH]
  rw[if_neg jK])
theorem Fx(x:M.bK)(j:M.bK.sz x<=1073741824):sZ x=some x:=by simp only[M.bK.sz]at j;unfold sZ;rw[oE _ jD,qA,CY _ jD,qA]
theorem Iw(x:M.aU)(j:M.aU.sz x<=1073741824):tY x=some x:=by simp only[M.aU.sz]at j;unfold tY;rw[GN jD jD,qA]
theorem Kz(x:M.aEf)(j:M.aEf.sz x<=1073741824):yP x=some x:=by simp only[M.aEf.sz]at j;unfold yP;rw[Iw _ jD,qA]
theorem G0(x:M.aF)(j:M.aF.sz x<=1073741824):rN x=some x:=by simp only[M.aF.sz]at j;unfold rN;rw[lA _ jD,qA,Kz _ jD,qA]
theorem uI(x:M.aEJ)(j:M.aEJ.sz x<=1073741824):dE x=some x:=by simp only[M.aEJ.sz]at j;unfold dE;rw[GO _ jD,qA,Fx _ jD,qA,G0 _ jD,qA]
theorem DZ(x:M.aD)(j:M.aD.sz x<=1073741824):eF x=some x:=by
 have C:x.aEP.length<=1073741824:=by simp only[M.aD.sz]at j;omega
 unfold eF
 exact Ac (xs:=x.aEP) (L:=lH x) (b:=328) (E:=λr=>some { x with aEP:=r }) C jD (λn r k hk=>by
  simp only[lH]
  rw[if_pos (bL hk),aM hk,qA,Az _ (by have:=gL (f:=M.aEJ.sz) (qG hk);simp only[M.aD.sz]at j;omega),qA,bI jD]) (λn r=>by
  simp only[lH]
  rw[if_neg jK])
theorem B8(x:M.aD)(j:M.aD.sz x<=1073741824):cE x=some x:=by
 have C:x.aEP.length<=1073741824:=by simp only[M.aD.sz]at j;omega
 unfold cE
 exact Ac (xs:=x.aEP) (L:=fU x) (b:=328) (E:=λr=>some { x with aEP:=r }) C jD (λn r k hk=>by
  simp only[fU]
  rw[if_pos (bL hk),aM hk,qA,uI _ (by have:=gL (f:=M.aEJ.sz) (qG hk);simp only[M.aD.sz]at j;omega),qA,bI jD]) (λn r=>by
  simp only[fU]
  rw[if_neg jK])
