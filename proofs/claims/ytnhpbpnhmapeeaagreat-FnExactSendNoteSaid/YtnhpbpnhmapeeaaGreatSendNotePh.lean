/-
  Helper text. No conditions.
-/
import Derived.Test.YtnhpbpnhmapeeaaGreatSendNotePg
namespace Go.Proofs.YtnhpbpnhmapeeaaGreat.gen
open Go Go.Sh
set_option linter.unusedVariables false
set_option linter.unusedSimpArgs false
theorem aCw (x:List Int) (hs:x.length≤1073741824):iW x=some x:=by
 unfold iW
 rw [aE6 hs (by omega),Option.bind_some]
theorem aHZ (x:M.Response) (hs:M.Response.sz x≤1073741824):zC x=some x:=by
 simp only [M.Response.sz] at hs
 unfold zC
 rw [aE6 (by omega) (by omega),Option.bind_some]
theorem aD1 (x:M.Response) (hs:M.Response.sz x≤1073741824):nE x=some x:=by
 simp only [M.Response.sz] at hs
 unfold nE
 rw [aCw _ (by omega),Option.bind_some]
theorem aGa (x:M.Cache) (hs:M.Cache.sz x≤1073741824):wM x=some x:=by
 have hl:x.Entries.length≤1073741824:=by simp only [M.Cache.sz] at hs;omega
 unfold wM
 exact xX (xs:=x.Entries) (L:=iJ x) (b:=88) (E:=fun r=>some { x with Entries:=r }) hl (by omega) (fun n r k hk=>by
  simp only [iJ]
  rw [if_pos (bF hk),aQ hk,Option.bind_some,aHZ _ (by have:=cH (f:=M.Cached.sz) (List.getElem_mem hk);simp only [M.Cache.sz] at hs;simp only [M.Cached.sz] at this;omega),Option.bind_some,bH (by omega)]) (fun n r=>by
  simp only [iJ]
  rw [if_neg (by rw [aT];simp)])
theorem aHc (x:M.aU) (hs:M.aU.sz x≤1073741824):zT x=some x:=by
 have hl:x.Caches.length≤1073741824:=by simp only [M.aU.sz] at hs;omega
 unfold zT
 exact xX (xs:=x.Caches) (L:=jU x) (b:=32) (E:=fun r=>some { x with Caches:=r }) hl (by omega) (fun n r k hk=>by
  simp only [jU]
  rw [if_pos (bF hk),aQ hk,Option.bind_some,aGa _ (by have:=cH (f:=M.Cache.sz) (List.getElem_mem hk);simp only [M.aU.sz] at hs;omega),Option.bind_some,bH (by omega)]) (fun n r=>by
  simp only [jU]
  rw [if_neg (by rw [aT];simp)])
theorem aEH (x:M.aU) (hs:M.aU.sz x≤1073741824):mY x=some x:=by
 have hl:x.Caches.length≤1073741824:=by simp only [M.aU.sz] at hs;omega
 unfold mY
 exact xX (xs:=x.Caches) (L:=dV x) (b:=32) (E:=fun r=>some { x with Caches:=r }) hl (by omega) (fun n r k hk=>by
  have hz:=cH (f:=M.Cache.sz) (List.getElem_mem hk)
  simp only [M.aU.sz] at hs
  have hz2:x.Caches[k].Entries.length+aG M.Cached.sz x.Caches[k].Entries≤M.Cache.sz x.Caches[k]:=by simp only [M.Cache.sz];omega
  simp only [dV]
  rw [if_pos (bF hk),aQ hk,Option.bind_some,bH (by omega)]
  exact xX (xs:=x.Caches[k].Entries) (b:=88) (L:=fL x.Caches[k] (fun (v:Int) (q:List M.Cached)=>(app 32 r ([(⟨x.Caches[k].Version,q⟩:M.Cache)])).bind fun _=>(dV x n ((k+1:Nat):Int) (r++[(⟨x.Caches[k].Version,q⟩:M.Cache)])))) (by omega) (by omega) (fun m q j hj=>by
   have hy:=cH (f:=M.Cached.sz) (List.getElem_mem hj)
   simp only [fL]
   rw [if_pos (bF hj),aQ hj,Option.bind_some,aD1 _ (by simp only [M.Cached.sz] at hy;omega),Option.bind_some,bH (by omega)]) (fun m q=>by
   simp only [fL]
   rw [if_neg (by rw [aT];simp)])) (fun n r=>by
  simp only [dV]
  rw [if_neg (by rw [aT];simp)])
theorem aAp (x:M.aH) (hs:M.aH.sz x≤1073741824):bQ x=some x:=by
 simp only [M.aH.sz] at hs
 unfold bQ
 rw [aE6 (by omega) (by omega),Option.bind_some]
theorem aE4 (x:M.Item) (hs:M.Item.sz x≤1073741824):xL x=some x:=by
 simp only [M.Item.sz] at hs
 unfold xL
 rw [aAp _ (by omega),Option.bind_some]
theorem xW (x:M.aE) (hs:M.aE.sz x≤1073741824):eV x=some x:=by
 have hl:x.Items.length≤1073741824:=by simp only [M.aE.sz] at hs;omega
 unfold eV
 exact xX (xs:=x.Items) (L:=lA x) (b:=56) (E:=fun r=>some { x with Items:=r }) hl (by omega) (fun n r k hk=>by
  simp only [lA]
  rw [if_pos (bF hk),aQ hk,Option.bind_some,aE4 _ (by have:=cH (f:=M.Item.sz) (List.getElem_mem hk);simp only [M.aE.sz] at hs;omega),Option.bind_some,bH (by omega)]) (fun n r=>by
  simp only [lA]
  rw [if_neg (by rw [aT];simp)])
theorem aIf (x:M.Database) (hs:M.Database.sz x≤1073741824):aAc x=some x:=by
 have hl:x.Stores.length≤1073741824:=by simp only [M.Database.sz] at hs;omega
 unfold aAc
 rw [aE6 (by simp only [M.Database.sz] at hs;omega) (by omega),Option.bind_some]
 exact xX (xs:=x.Stores) (L:=lC x) (b:=48) (E:=fun r=>some { x with Stores:=r }) hl (by omega) (fun n r k hk=>by
  simp only [lC]
  rw [if_pos (bF hk),aQ hk,Option.bind_some,xW _ (by have:=cH (f:=M.aE.sz) (List.getElem_mem hk);simp only [M.Database.sz] at hs;omega),Option.bind_some,bH (by omega)]) (fun n r=>by
  simp only [lC]
  rw [if_neg (by rw [aT];simp)])
theorem aHT (x:M.bD) (hs:M.bD.sz x≤1073741824):yH x=some x:=by
 simp only [M.bD.sz] at hs
 unfold yH
 rw [aIf _ (by omega),Option.bind_some,aE6 (by omega) (by omega),Option.bind_some]
theorem aDp (x:M.aN) (hs:M.aN.sz x≤1073741824):pN x=some x:=by
 simp only [M.aN.sz] at hs
 unfold pN
 rw [aE6 (by omega) (by omega),Option.bind_some]
theorem aHY (x:M.Sync) (hs:M.Sync.sz x≤1073741824):yP x=some x:=by
 simp only [M.Sync.sz] at hs
 unfold yP
 rw [aDp _ (by omega),Option.bind_some]
theorem aCH (x:M.aC) (hs:M.aC.sz x≤1073741824):pO x=some x:=by
 simp only [M.aC.sz] at hs
 unfold pO
 rw [xW _ (by omega),Option.bind_some,aHY _ (by omega),Option.bind_some]
theorem zL (x:M.aA) (hs:M.aA.sz x≤1073741824):gE x=some x:=by
 simp only [M.aA.sz] at hs
 unfold gE
 rw [aHc _ (by omega),Option.bind_some,aHT _ (by omega),Option.bind_some,aCH _ (by omega),Option.bind_some]
theorem mN (x:M.aH) (hs:M.aH.sz x≤1073741824):bI x=some x:=by
 simp only [M.aH.sz] at hs
 unfold bI
 rw [aE6 (by omega) (by omega),Option.bind_some]
theorem aDB (x:M.Item) (hs:M.Item.sz x≤1073741824):rC x=some x:=by
 simp only [M.Item.sz] at hs
 unfold rC
 rw [mN _ (by omega),Option.bind_some]
theorem iV (x:M.aE) (hs:M.aE.sz x≤1073741824):bC x=some x:=by
 have hl:x.Items.length≤1073741824:=by simp only [M.aE.sz] at hs;omega
 unfold bC
 exact xX (xs:=x.Items) (L:=hO x) (b:=56) (E:=fun r=>some { x with Items:=r }) hl (by omega) (fun n r k hk=>by
  simp only [hO]
  rw [if_pos (bF hk),aQ hk,Option.bind_some,aDB _ (by have:=cH (f:=M.Item.sz) (List.getElem_mem hk);simp only [M.aE.sz] at hs;omega),Option.bind_some,bH (by omega)]) (fun n r=>by
  simp only [hO]
  rw [if_neg (by rw [aT];simp)])
theorem aD4 (x:M.Database) (hs:M.Database.sz x≤1073741824):nL x=some x:=by
 have hl:x.Stores.length≤1073741824:=by simp only [M.Database.sz] at hs;omega
 unfold nL
 rw [aE6 (by simp only [M.Database.sz] at hs;omega) (by omega),Option.bind_some]
 exact xX (xs:=x.Stores) (L:=fN x) (b:=48) (E:=fun r=>some { x with Stores:=r }) hl (by omega) (fun n r k hk=>by
  simp only [fN]
  rw [if_pos (bF hk),aQ hk,Option.bind_some,iV _ (by have:=cH (f:=M.aE.sz) (List.getElem_mem hk);simp only [M.Database.sz] at hs;omega),Option.bind_some,bH (by omega)]) (fun n r=>by
  simp only [fN]
  rw [if_neg (by rw [aT];simp)])
theorem aGx (x:M.bD) (hs:M.bD.sz x≤1073741824):wE x=some x:=by
 simp only [M.bD.sz] at hs
 unfold wE
 rw [aD4 _ (by omega),Option.bind_some,aCw _ (by omega),Option.bind_some]
theorem aCW (x:M.aN) (hs:M.aN.sz x≤1073741824):iI x=some x:=by
 simp only [M.aN.sz] at hs
 unfold iI
 rw [aE6 (by omega) (by omega),Option.bind_some]
theorem aHA (x:M.Sync) (hs:M.Sync.sz x≤1073741824):wX x=some x:=by
 simp only [M.Sync.sz] at hs
 unfold wX
 rw [aCW _ (by omega),Option.bind_some]
theorem aB3 (x:M.aC) (hs:M.aC.sz x≤1073741824):kT x=some x:=by
 simp only [M.aC.sz] at hs
 unfold kT
 rw [iV _ (by omega),Option.bind_some,aHA _ (by omega),Option.bind_some]
theorem rP (x:M.aA) (hs:M.aA.sz x≤1073741824):dE x=some x:=by
 simp only [M.aA.sz] at hs
 unfold dE
 rw [aEH _ (by omega),Option.bind_some,aGx _ (by omega),Option.bind_some,aB3 _ (by omega),Option.bind_some]
theorem aCG (x:M.aF) (hs:M.aF.sz x≤1073741824):eQ x=some x:=by
 have hl:x.Buckets.length≤1073741824:=by simp only [M.aF.sz] at hs;omega
 unfold eQ
 exact xX (xs:=x.Buckets) (L:=jH x) (b:=328) (E:=fun r=>some { x with Buckets:=r }) hl (by omega) (fun n r k hk=>by
  simp only [jH]
  rw [if_pos (bF hk),aQ hk,Option.bind_some,zL _ (by have:=cH (f:=M.aA.sz) (List.getElem_mem hk);simp only [M.aF.sz] at hs;omega),Option.bind_some,bH (by omega)]) (fun n r=>by
  simp only [jH]
  rw [if_neg (by rw [aT];simp)])
theorem aA3 (x:M.aF) (hs:M.aF.sz x≤1073741824):bR x=some x:=by
 have hl:x.Buckets.length≤1073741824:=by simp only [M.aF.sz] at hs;omega
 unfold bR
 exact xX (xs:=x.Buckets) (L:=fZ x) (b:=328) (E:=fun r=>some { x with Buckets:=r }) hl (by omega) (fun n r k hk=>by
  simp only [fZ]
  rw [if_pos (bF hk),aQ hk,Option.bind_some,rP _ (by have:=cH (f:=M.aA.sz) (List.getElem_mem hk);simp only [M.aF.sz] at hs;omega),Option.bind_some,bH (by omega)]) (fun n r=>by
  simp only [fZ]
  rw [if_neg (by rw [aT];simp)])
end Go.Proofs.YtnhpbpnhmapeeaaGreat.gen
