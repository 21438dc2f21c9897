/-
  Helper text. No conditions.
-/
import Derived.Test.YtimblbmbfdopgaaGreatOpenPagePg
set_option linter.unusedVariables false
set_option linter.unusedSimpArgs false
namespace Go.Proofs.YtimblbmbfdopgaaGreat.gen
open Go Go.Sh
theorem aEN (x:List Int) (hs:x.length≤1073741824):iG x=some x:=by
 unfold iG
 rw [aHI hs (by omega),qA]
theorem aJD (x:M.Response) (hs:M.Response.sz x≤1073741824):rU x=some x:=by
 simp only [M.Response.sz] at hs
 unfold rU
 rw [aHI (by omega) (by omega),qA]
theorem aFU (x:M.Response) (hs:M.Response.sz x≤1073741824):iN x=some x:=by
 simp only [M.Response.sz] at hs
 unfold iN
 rw [aEN _ (by omega),qA]
theorem aIB (x:M.Cache) (hs:M.Cache.sz x≤1073741824):zG x=some x:=by
 have hl:x.Entries.length≤1073741824:=by simp only [M.Cache.sz] at hs;omega
 unfold zG
 exact aAO (xs:=x.Entries) (L:=jK x) (b:=88) (E:=fun r=>some { x with Entries:=r }) hl (by omega) (fun n r k hk=>by
  simp only [jK]
  rw [if_pos (bB hk),aN hk,qA,aJD _ (by have:=cF (f:=M.Cached.sz) (qG hk);simp only [M.Cache.sz] at hs;simp only [M.Cached.sz] at this;omega),qA,bF (by omega)]) (fun n r=>by
  simp only [jK]
  rw [if_neg (by rw [aP];simp)])
theorem aJH (x:M.aO) (hs:M.aO.sz x≤1073741824):aBC x=some x:=by
 have hl:x.Caches.length≤1073741824:=by simp only [M.aO.sz] at hs;omega
 unfold aBC
 exact aAO (xs:=x.Caches) (L:=kX x) (b:=32) (E:=fun r=>some { x with Caches:=r }) hl (by omega) (fun n r k hk=>by
  simp only [kX]
  rw [if_pos (bB hk),aN hk,qA,aIB _ (by have:=cF (f:=M.Cache.sz) (qG hk);simp only [M.aO.sz] at hs;omega),qA,bF (by omega)]) (fun n r=>by
  simp only [kX]
  rw [if_neg (by rw [aP];simp)])
theorem aFk (x:M.aO) (hs:M.aO.sz x≤1073741824):nY x=some x:=by
 have hl:x.Caches.length≤1073741824:=by simp only [M.aO.sz] at hs;omega
 unfold nY
 exact aAO (xs:=x.Caches) (L:=eA x) (b:=32) (E:=fun r=>some { x with Caches:=r }) hl (by omega) (fun n r k hk=>by
  have hz:=cF (f:=M.Cache.sz) (qG hk)
  simp only [M.aO.sz] at hs
  have hz2:x.Caches[k].Entries.length+aF M.Cached.sz x.Caches[k].Entries≤M.Cache.sz x.Caches[k]:=by simp only [M.Cache.sz];omega
  simp only [eA]
  rw [if_pos (bB hk),aN hk,qA,bF (by omega)]
  exact aAO (xs:=x.Caches[k].Entries) (b:=88) (L:=fS x.Caches[k] (fun (v:Int) (q:List M.Cached)=>(app 32 r ([(⟨x.Caches[k].Version,q⟩:M.Cache)])).bind fun _=>(eA x n ((k+1:Nat):Int) (r++[(⟨x.Caches[k].Version,q⟩:M.Cache)])))) (by omega) (by omega) (fun m q j hj=>by
   have hy:=cF (f:=M.Cached.sz) (qG hj)
   simp only [fS]
   rw [if_pos (bB hj),aN hj,qA,aFU _ (by simp only [M.Cached.sz] at hy;omega),qA,bF (by omega)]) (fun m q=>by
   simp only [fS]
   rw [if_neg (by rw [aP];simp)])) (fun n r=>by
  simp only [eA]
  rw [if_neg (by rw [aP];simp)])
theorem aJ9 (x:M.aW) (hs:M.aW.sz x≤1073741824):aBt x=some x:=by
 simp only [M.aW.sz] at hs
 unfold aBt
 rw [aHI (by omega) (by omega),qA]
theorem aGc (x:M.Item) (hs:M.Item.sz x≤1073741824):aAG x=some x:=by
 simp only [M.Item.sz] at hs
 unfold aAG
 rw [aJ9 _ (by omega),qA]
theorem aEE (x:M.aH) (hs:M.aH.sz x≤1073741824):uW x=some x:=by
 have hl:x.Items.length≤1073741824:=by simp only [M.aH.sz] at hs;omega
 unfold uW
 exact aAO (xs:=x.Items) (L:=mJ x) (b:=56) (E:=fun r=>some { x with Items:=r }) hl (by omega) (fun n r k hk=>by
  simp only [mJ]
  rw [if_pos (bB hk),aN hk,qA,aGc _ (by have:=cF (f:=M.Item.sz) (qG hk);simp only [M.aH.sz] at hs;omega),qA,bF (by omega)]) (fun n r=>by
  simp only [mJ]
  rw [if_neg (by rw [aP];simp)])
theorem aKJ (x:M.Database) (hs:M.Database.sz x≤1073741824):aBn x=some x:=by
 have hl:x.Stores.length≤1073741824:=by simp only [M.Database.sz] at hs;omega
 unfold aBn
 rw [aHI (by simp only [M.Database.sz] at hs;omega) (by omega),qA]
 exact aAO (xs:=x.Stores) (L:=mL x) (b:=48) (E:=fun r=>some { x with Stores:=r }) hl (by omega) (fun n r k hk=>by
  simp only [mL]
  rw [if_pos (bB hk),aN hk,qA,aEE _ (by have:=cF (f:=M.aH.sz) (qG hk);simp only [M.Database.sz] at hs;omega),qA,bF (by omega)]) (fun n r=>by
  simp only [mL]
  rw [if_neg (by rw [aP];simp)])
theorem aI2 (x:M.bC) (hs:M.bC.sz x≤1073741824):aAc x=some x:=by
 simp only [M.bC.sz] at hs
 unfold aAc
 rw [aKJ _ (by omega),qA,aHI (by omega) (by omega),qA]
theorem aIz (x:M.aR) (hs:M.aR.sz x≤1073741824):aA4 x=some x:=by
 simp only [M.aR.sz] at hs
 unfold aA4
 rw [aHI (by omega) (by omega),qA]
theorem aJC (x:M.Sync) (hs:M.Sync.sz x≤1073741824):aAk x=some x:=by
 simp only [M.Sync.sz] at hs
 unfold aAk
 rw [aIz _ (by omega),qA]
theorem aJA (x:M.aD) (hs:M.aD.sz x≤1073741824):aBA x=some x:=by
 simp only [M.aD.sz] at hs
 unfold aBA
 rw [aEE _ (by omega),qA,aJC _ (by omega),qA]
theorem aCV (x:M.aC) (hs:M.aC.sz x≤1073741824):jH x=some x:=by
 simp only [M.aC.sz] at hs
 unfold jH
 rw [aJH _ (by omega),qA,aI2 _ (by omega),qA,aJA _ (by omega),qA]
theorem aHK (x:M.aW) (hs:M.aW.sz x≤1073741824):tK x=some x:=by
 simp only [M.aW.sz] at hs
 unfold tK
 rw [aHI (by omega) (by omega),qA]
theorem aEi (x:M.Item) (hs:M.Item.sz x≤1073741824):uD x=some x:=by
 simp only [M.Item.sz] at hs
 unfold uD
 rw [aHK _ (by omega),qA]
theorem aCj (x:M.aH) (hs:M.aH.sz x≤1073741824):mK x=some x:=by
 have hl:x.Items.length≤1073741824:=by simp only [M.aH.sz] at hs;omega
 unfold mK
 exact aAO (xs:=x.Items) (L:=iK x) (b:=56) (E:=fun r=>some { x with Items:=r }) hl (by omega) (fun n r k hk=>by
  simp only [iK]
  rw [if_pos (bB hk),aN hk,qA,aEi _ (by have:=cF (f:=M.Item.sz) (qG hk);simp only [M.aH.sz] at hs;omega),qA,bF (by omega)]) (fun n r=>by
  simp only [iK]
  rw [if_neg (by rw [aP];simp)])
theorem aFX (x:M.Database) (hs:M.Database.sz x≤1073741824):oJ x=some x:=by
 have hl:x.Stores.length≤1073741824:=by simp only [M.Database.sz] at hs;omega
 unfold oJ
 rw [aHI (by simp only [M.Database.sz] at hs;omega) (by omega),qA]
 exact aAO (xs:=x.Stores) (L:=fU x) (b:=48) (E:=fun r=>some { x with Stores:=r }) hl (by omega) (fun n r k hk=>by
  simp only [fU]
  rw [if_pos (bB hk),aN hk,qA,aCj _ (by have:=cF (f:=M.aH.sz) (qG hk);simp only [M.Database.sz] at hs;omega),qA,bF (by omega)]) (fun n r=>by
  simp only [fU]
  rw [if_neg (by rw [aP];simp)])
theorem aIW (x:M.bC) (hs:M.bC.sz x≤1073741824):yV x=some x:=by
 simp only [M.bC.sz] at hs
 unfold yV
 rw [aFX _ (by omega),qA,aEN _ (by omega),qA]
theorem aG7 (x:M.aR) (hs:M.aR.sz x≤1073741824):uF x=some x:=by
 simp only [M.aR.sz] at hs
 unfold uF
 rw [aHI (by omega) (by omega),qA]
theorem aIn (x:M.Sync) (hs:M.Sync.sz x≤1073741824):zR x=some x:=by
 simp only [M.Sync.sz] at hs
 unfold zR
 rw [aG7 _ (by omega),qA]
theorem aFu (x:M.aD) (hs:M.aD.sz x≤1073741824):rE x=some x:=by
 simp only [M.aD.sz] at hs
 unfold rE
 rw [aCj _ (by omega),qA,aIn _ (by omega),qA]
theorem aCR (x:M.aC) (hs:M.aC.sz x≤1073741824):gP x=some x:=by
 simp only [M.aC.sz] at hs
 unfold gP
 rw [aFk _ (by omega),qA,aIW _ (by omega),qA,aFu _ (by omega),qA]
theorem aDX (x:M.aA) (hs:M.aA.sz x≤1073741824):eW x=some x:=by
 have hl:x.Buckets.length≤1073741824:=by simp only [M.aA.sz] at hs;omega
 unfold eW
 exact aAO (xs:=x.Buckets) (L:=kH x) (b:=328) (E:=fun r=>some { x with Buckets:=r }) hl (by omega) (fun n r k hk=>by
  simp only [kH]
  rw [if_pos (bB hk),aN hk,qA,aCV _ (by have:=cF (f:=M.aC.sz) (qG hk);simp only [M.aA.sz] at hs;omega),qA,bF (by omega)]) (fun n r=>by
  simp only [kH]
  rw [if_neg (by rw [aP];simp)])
theorem aCE (x:M.aA) (hs:M.aA.sz x≤1073741824):bT x=some x:=by
 have hl:x.Buckets.length≤1073741824:=by simp only [M.aA.sz] at hs;omega
 unfold bT
 exact aAO (xs:=x.Buckets) (L:=gF x) (b:=328) (E:=fun r=>some { x with Buckets:=r }) hl (by omega) (fun n r k hk=>by
  simp only [gF]
  rw [if_pos (bB hk),aN hk,qA,aCR _ (by have:=cF (f:=M.aC.sz) (qG hk);simp only [M.aA.sz] at hs;omega),qA,bF (by omega)]) (fun n r=>by
  simp only [gF]
  rw [if_neg (by rw [aP];simp)])
end Go.Proofs.YtimblbmbfdopgaaGreat.gen
