/-
  Helper text. No conditions.
-/
import Derived.Test.YtidhkhdnjonjfaaGreatUpdateWorkerPg
set_option linter.unusedVariables false
set_option linter.unusedSimpArgs false
namespace Go.Proofs.YtidhkhdnjonjfaaGreat.gen
open Go Go.Sh
theorem aER (x:List Int) (hs:x.length≤1073741824):kC x=some x:=by
 unfold kC
 rw [aHo hs (by omega),qA]
theorem aFY (x:M.Response) (hs:M.Response.sz x≤1073741824):yA x=some x:=by
 simp only [M.Response.sz] at hs
 unfold yA
 rw [aHo (by omega) (by omega),qA]
theorem aBN (x:M.Response) (hs:M.Response.sz x≤1073741824):iU x=some x:=by
 simp only [M.Response.sz] at hs
 unfold iU
 rw [aER _ (by omega),qA]
theorem aIZ (x:M.Cache) (hs:M.Cache.sz x≤1073741824):zP x=some x:=by
 have hl:x.Entries.length≤1073741824:=by simp only [M.Cache.sz] at hs;omega
 unfold zP
 exact aAW (xs:=x.Entries) (L:=jR x) (b:=88) (E:=fun r=>some { x with Entries:=r }) hl (by omega) (fun n r k hk=>by
  simp only [jR]
  rw [if_pos (aY hk),aM hk,qA,aFY _ (by have:=bO (f:=M.Cached.sz) (qG hk);simp only [M.Cache.sz] at hs;simp only [M.Cached.sz] at this;omega),qA,bC (by omega)]) (fun n r=>by
  simp only [jR]
  rw [if_neg (by rw [aO];simp)])
theorem nF (x:M.aA) (hs:M.aA.sz x≤1073741824):bH x=some x:=by
 have hl:x.Caches.length≤1073741824:=by simp only [M.aA.sz] at hs;omega
 unfold bH
 exact aAW (xs:=x.Caches) (L:=lA x) (b:=32) (E:=fun r=>some { x with Caches:=r }) hl (by omega) (fun n r k hk=>by
  simp only [lA]
  rw [if_pos (aY hk),aM hk,qA,aIZ _ (by have:=bO (f:=M.Cache.sz) (qG hk);simp only [M.aA.sz] at hs;omega),qA,bC (by omega)]) (fun n r=>by
  simp only [lA]
  rw [if_neg (by rw [aO];simp)])
theorem iY (x:M.aA) (hs:M.aA.sz x≤1073741824):bD x=some x:=by
 have hl:x.Caches.length≤1073741824:=by simp only [M.aA.sz] at hs;omega
 unfold bD
 exact aAW (xs:=x.Caches) (L:=eG x) (b:=32) (E:=fun r=>some { x with Caches:=r }) hl (by omega) (fun n r k hk=>by
  have hz:=bO (f:=M.Cache.sz) (qG hk)
  simp only [M.aA.sz] at hs
  have hz2:x.Caches[k].Entries.length+aF M.Cached.sz x.Caches[k].Entries≤M.Cache.sz x.Caches[k]:=by simp only [M.Cache.sz];omega
  simp only [eG]
  rw [if_pos (aY hk),aM hk,qA,bC (by omega)]
  exact aAW (xs:=x.Caches[k].Entries) (b:=88) (L:=gA x.Caches[k] (fun (v:Int) (q:List M.Cached)=>(app 32 r ([(⟨x.Caches[k].Version,q⟩:M.Cache)])).bind fun _=>(eG x n ((k+1:Nat):Int) (r++[(⟨x.Caches[k].Version,q⟩:M.Cache)])))) (by omega) (by omega) (fun m q j hj=>by
   have hy:=bO (f:=M.Cached.sz) (qG hj)
   simp only [gA]
   rw [if_pos (aY hj),aM hj,qA,aBN _ (by simp only [M.Cached.sz] at hy;omega),qA,bC (by omega)]) (fun m q=>by
   simp only [gA]
   rw [if_neg (by rw [aO];simp)])) (fun n r=>by
  simp only [eG]
  rw [if_neg (by rw [aO];simp)])
theorem aKh (x:M.aU) (hs:M.aU.sz x≤1073741824):aBw x=some x:=by
 simp only [M.aU.sz] at hs
 unfold aBw
 rw [aHo (by omega) (by omega),qA]
theorem aGl (x:M.Item) (hs:M.Item.sz x≤1073741824):aAQ x=some x:=by
 simp only [M.Item.sz] at hs
 unfold aAQ
 rw [aKh _ (by omega),qA]
theorem aEI (x:M.aJ) (hs:M.aJ.sz x≤1073741824):vA x=some x:=by
 have hl:x.Items.length≤1073741824:=by simp only [M.aJ.sz] at hs;omega
 unfold vA
 exact aAW (xs:=x.Items) (L:=mL x) (b:=56) (E:=fun r=>some { x with Items:=r }) hl (by omega) (fun n r k hk=>by
  simp only [mL]
  rw [if_pos (aY hk),aM hk,qA,aGl _ (by have:=bO (f:=M.Item.sz) (qG hk);simp only [M.aJ.sz] at hs;omega),qA,bC (by omega)]) (fun n r=>by
  simp only [mL]
  rw [if_neg (by rw [aO];simp)])
theorem aKt (x:M.Database) (hs:M.Database.sz x≤1073741824):aBo x=some x:=by
 have hl:x.Stores.length≤1073741824:=by simp only [M.Database.sz] at hs;omega
 unfold aBo
 rw [aHo (by simp only [M.Database.sz] at hs;omega) (by omega),qA]
 exact aAW (xs:=x.Stores) (L:=mP x) (b:=48) (E:=fun r=>some { x with Stores:=r }) hl (by omega) (fun n r k hk=>by
  simp only [mP]
  rw [if_pos (aY hk),aM hk,qA,aEI _ (by have:=bO (f:=M.aJ.sz) (qG hk);simp only [M.Database.sz] at hs;omega),qA,bC (by omega)]) (fun n r=>by
  simp only [mP]
  rw [if_neg (by rw [aO];simp)])
theorem aJY (x:M.bB) (hs:M.bB.sz x≤1073741824):aAh x=some x:=by
 simp only [M.bB.sz] at hs
 unfold aAh
 rw [aKt _ (by omega),qA,aHo (by omega) (by omega),qA]
theorem aJT (x:M.aV) (hs:M.aV.sz x≤1073741824):aBD x=some x:=by
 simp only [M.aV.sz] at hs
 unfold aBD
 rw [aHo (by omega) (by omega),qA]
theorem aJh (x:M.Sync) (hs:M.Sync.sz x≤1073741824):aAp x=some x:=by
 simp only [M.Sync.sz] at hs
 unfold aAp
 rw [aJT _ (by omega),qA]
theorem aJf (x:M.aE) (hs:M.aE.sz x≤1073741824):aBJ x=some x:=by
 simp only [M.aE.sz] at hs
 unfold aBJ
 rw [aEI _ (by omega),qA,aJh _ (by omega),qA]
theorem aBB (x:M.Bucket) (hs:M.Bucket.sz x≤1073741824):gV x=some x:=by
 simp only [M.Bucket.sz] at hs
 unfold gV
 rw [nF _ (by omega),qA,aJY _ (by omega),qA,aJf _ (by omega),qA]
theorem aHV (x:M.aU) (hs:M.aU.sz x≤1073741824):tU x=some x:=by
 simp only [M.aU.sz] at hs
 unfold tU
 rw [aHo (by omega) (by omega),qA]
theorem aEp (x:M.Item) (hs:M.Item.sz x≤1073741824):uF x=some x:=by
 simp only [M.Item.sz] at hs
 unfold uF
 rw [aHV _ (by omega),qA]
theorem aCo (x:M.aJ) (hs:M.aJ.sz x≤1073741824):mN x=some x:=by
 have hl:x.Items.length≤1073741824:=by simp only [M.aJ.sz] at hs;omega
 unfold mN
 exact aAW (xs:=x.Items) (L:=iP x) (b:=56) (E:=fun r=>some { x with Items:=r }) hl (by omega) (fun n r k hk=>by
  simp only [iP]
  rw [if_pos (aY hk),aM hk,qA,aEp _ (by have:=bO (f:=M.Item.sz) (qG hk);simp only [M.aJ.sz] at hs;omega),qA,bC (by omega)]) (fun n r=>by
  simp only [iP]
  rw [if_neg (by rw [aO];simp)])
theorem aFe (x:M.Database) (hs:M.Database.sz x≤1073741824):oO x=some x:=by
 have hl:x.Stores.length≤1073741824:=by simp only [M.Database.sz] at hs;omega
 unfold oO
 rw [aHo (by simp only [M.Database.sz] at hs;omega) (by omega),qA]
 exact aAW (xs:=x.Stores) (L:=gC x) (b:=48) (E:=fun r=>some { x with Stores:=r }) hl (by omega) (fun n r k hk=>by
  simp only [gC]
  rw [if_pos (aY hk),aM hk,qA,aCo _ (by have:=bO (f:=M.aJ.sz) (qG hk);simp only [M.Database.sz] at hs;omega),qA,bC (by omega)]) (fun n r=>by
  simp only [gC]
  rw [if_neg (by rw [aO];simp)])
theorem aIw (x:M.bB) (hs:M.bB.sz x≤1073741824):zG x=some x:=by
 simp only [M.bB.sz] at hs
 unfold zG
 rw [aFe _ (by omega),qA,aER _ (by omega),qA]
theorem aHK (x:M.aV) (hs:M.aV.sz x≤1073741824):uH x=some x:=by
 simp only [M.aV.sz] at hs
 unfold uH
 rw [aHo (by omega) (by omega),qA]
theorem aJK (x:M.Sync) (hs:M.Sync.sz x≤1073741824):aAC x=some x:=by
 simp only [M.Sync.sz] at hs
 unfold aAC
 rw [aHK _ (by omega),qA]
theorem aF2 (x:M.aE) (hs:M.aE.sz x≤1073741824):rR x=some x:=by
 simp only [M.aE.sz] at hs
 unfold rR
 rw [aCo _ (by omega),qA,aJK _ (by omega),qA]
theorem uT (x:M.Bucket) (hs:M.Bucket.sz x≤1073741824):dP x=some x:=by
 simp only [M.Bucket.sz] at hs
 unfold dP
 rw [iY _ (by omega),qA,aIw _ (by omega),qA,aF2 _ (by omega),qA]
theorem aDb (x:M.aC) (hs:M.aC.sz x≤1073741824):fD x=some x:=by
 have hl:x.Buckets.length≤1073741824:=by simp only [M.aC.sz] at hs;omega
 unfold fD
 exact aAW (xs:=x.Buckets) (L:=kK x) (b:=328) (E:=fun r=>some { x with Buckets:=r }) hl (by omega) (fun n r k hk=>by
  simp only [kK]
  rw [if_pos (aY hk),aM hk,qA,aBB _ (by have:=bO (f:=M.Bucket.sz) (qG hk);simp only [M.aC.sz] at hs;omega),qA,bC (by omega)]) (fun n r=>by
  simp only [kK]
  rw [if_neg (by rw [aO];simp)])
theorem aCJ (x:M.aC) (hs:M.aC.sz x≤1073741824):bU x=some x:=by
 have hl:x.Buckets.length≤1073741824:=by simp only [M.aC.sz] at hs;omega
 unfold bU
 exact aAW (xs:=x.Buckets) (L:=gP x) (b:=328) (E:=fun r=>some { x with Buckets:=r }) hl (by omega) (fun n r k hk=>by
  simp only [gP]
  rw [if_pos (aY hk),aM hk,qA,uT _ (by have:=bO (f:=M.Bucket.sz) (qG hk);simp only [M.aC.sz] at hs;omega),qA,bC (by omega)]) (fun n r=>by
  simp only [gP]
  rw [if_neg (by rw [aO];simp)])
end Go.Proofs.YtidhkhdnjonjfaaGreat.gen
