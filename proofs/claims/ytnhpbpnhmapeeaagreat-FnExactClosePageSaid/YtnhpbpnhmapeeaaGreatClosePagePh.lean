/-
  Helper text. No conditions.
-/
import Derived.Test.YtnhpbpnhmapeeaaGreatClosePagePg
namespace Go.Proofs.YtnhpbpnhmapeeaaGreat.gen
open Go Go.Sh
set_option linter.unusedVariables false
set_option linter.unusedSimpArgs false
theorem aCY (x:List Int) (hs:x.length≤1073741824):jB x=some x:=by
 unfold jB
 rw [aF7 hs (by omega),Option.bind_some]
theorem aHX (x:M.Response) (hs:M.Response.sz x≤1073741824):yX x=some x:=by
 simp only [M.Response.sz] at hs
 unfold yX
 rw [aF7 (by omega) (by omega),Option.bind_some]
theorem aDX (x:M.Response) (hs:M.Response.sz x≤1073741824):mT x=some x:=by
 simp only [M.Response.sz] at hs
 unfold mT
 rw [aCY _ (by omega),Option.bind_some]
theorem aGR (x:M.Cache) (hs:M.Cache.sz x≤1073741824):wE x=some x:=by
 have hl:x.Entries.length≤1073741824:=by simp only [M.Cache.sz] at hs;omega
 unfold wE
 exact xP (xs:=x.Entries) (L:=iM x) (b:=88) (E:=fun r=>some { x with Entries:=r }) hl (by omega) (fun n r k hk=>by
  simp only [iM]
  rw [if_pos (aZ hk),aO hk,Option.bind_some,aHX _ (by have:=dJ (f:=M.Cached.sz) (List.getElem_mem hk);simp only [M.Cache.sz] at hs;simp only [M.Cached.sz] at this;omega),Option.bind_some,bB (by omega)]) (fun n r=>by
  simp only [iM]
  rw [if_neg (by rw [aP];simp)])
theorem aHa (x:M.aT) (hs:M.aT.sz x≤1073741824):zQ x=some x:=by
 have hl:x.Caches.length≤1073741824:=by simp only [M.aT.sz] at hs;omega
 unfold zQ
 exact xP (xs:=x.Caches) (L:=jU x) (b:=32) (E:=fun r=>some { x with Caches:=r }) hl (by omega) (fun n r k hk=>by
  simp only [jU]
  rw [if_pos (aZ hk),aO hk,Option.bind_some,aGR _ (by have:=dJ (f:=M.Cache.sz) (List.getElem_mem hk);simp only [M.aT.sz] at hs;omega),Option.bind_some,bB (by omega)]) (fun n r=>by
  simp only [jU]
  rw [if_neg (by rw [aP];simp)])
theorem aDp (x:M.aT) (hs:M.aT.sz x≤1073741824):mQ x=some x:=by
 have hl:x.Caches.length≤1073741824:=by simp only [M.aT.sz] at hs;omega
 unfold mQ
 exact xP (xs:=x.Caches) (L:=eB x) (b:=32) (E:=fun r=>some { x with Caches:=r }) hl (by omega) (fun n r k hk=>by
  have hz:=dJ (f:=M.Cache.sz) (List.getElem_mem hk)
  simp only [M.aT.sz] at hs
  have hz2:x.Caches[k].Entries.length+aC M.Cached.sz x.Caches[k].Entries≤M.Cache.sz x.Caches[k]:=by simp only [M.Cache.sz];omega
  simp only [eB]
  rw [if_pos (aZ hk),aO hk,Option.bind_some,bB (by omega)]
  exact xP (xs:=x.Caches[k].Entries) (b:=88) (L:=fN x.Caches[k] (fun (v:Int) (q:List M.Cached)=>(app 32 r ([(⟨x.Caches[k].Version,q⟩:M.Cache)])).bind fun _=>(eB x n ((k+1:Nat):Int) (r++[(⟨x.Caches[k].Version,q⟩:M.Cache)])))) (by omega) (by omega) (fun m q j hj=>by
   have hy:=dJ (f:=M.Cached.sz) (List.getElem_mem hj)
   simp only [fN]
   rw [if_pos (aZ hj),aO hj,Option.bind_some,aDX _ (by simp only [M.Cached.sz] at hy;omega),Option.bind_some,bB (by omega)]) (fun m q=>by
   simp only [fN]
   rw [if_neg (by rw [aP];simp)])) (fun n r=>by
  simp only [eB]
  rw [if_neg (by rw [aP];simp)])
theorem aIQ (x:M.aU) (hs:M.aU.sz x≤1073741824):aAb x=some x:=by
 simp only [M.aU.sz] at hs
 unfold aAb
 rw [aF7 (by omega) (by omega),Option.bind_some]
theorem aEk (x:M.Item) (hs:M.Item.sz x≤1073741824):xI x=some x:=by
 simp only [M.Item.sz] at hs
 unfold xI
 rw [aIQ _ (by omega),Option.bind_some]
theorem aCQ (x:M.aH) (hs:M.aH.sz x≤1073741824):rP x=some x:=by
 have hl:x.Items.length≤1073741824:=by simp only [M.aH.sz] at hs;omega
 unfold rP
 exact xP (xs:=x.Items) (L:=lA x) (b:=56) (E:=fun r=>some { x with Items:=r }) hl (by omega) (fun n r k hk=>by
  simp only [lA]
  rw [if_pos (aZ hk),aO hk,Option.bind_some,aEk _ (by have:=dJ (f:=M.Item.sz) (List.getElem_mem hk);simp only [M.aH.sz] at hs;omega),Option.bind_some,bB (by omega)]) (fun n r=>by
  simp only [lA]
  rw [if_neg (by rw [aP];simp)])
theorem aIZ (x:M.Database) (hs:M.Database.sz x≤1073741824):aAS x=some x:=by
 have hl:x.Stores.length≤1073741824:=by simp only [M.Database.sz] at hs;omega
 unfold aAS
 rw [aF7 (by simp only [M.Database.sz] at hs;omega) (by omega),Option.bind_some]
 exact xP (xs:=x.Stores) (L:=lC x) (b:=48) (E:=fun r=>some { x with Stores:=r }) hl (by omega) (fun n r k hk=>by
  simp only [lC]
  rw [if_pos (aZ hk),aO hk,Option.bind_some,aCQ _ (by have:=dJ (f:=M.aH.sz) (List.getElem_mem hk);simp only [M.Database.sz] at hs;omega),Option.bind_some,bB (by omega)]) (fun n r=>by
  simp only [lC]
  rw [if_neg (by rw [aP];simp)])
theorem aHL (x:M.bE) (hs:M.bE.sz x≤1073741824):yA x=some x:=by
 simp only [M.bE.sz] at hs
 unfold yA
 rw [aIZ _ (by omega),Option.bind_some,aF7 (by omega) (by omega),Option.bind_some]
theorem aHH (x:M.aV) (hs:M.aV.sz x≤1073741824):zG x=some x:=by
 simp only [M.aV.sz] at hs
 unfold zG
 rw [aF7 (by omega) (by omega),Option.bind_some]
theorem aHV (x:M.Sync) (hs:M.Sync.sz x≤1073741824):yJ x=some x:=by
 simp only [M.Sync.sz] at hs
 unfold yJ
 rw [aHH _ (by omega),Option.bind_some]
theorem aHT (x:M.aD) (hs:M.aD.sz x≤1073741824):zO x=some x:=by
 simp only [M.aD.sz] at hs
 unfold zO
 rw [aCQ _ (by omega),Option.bind_some,aHV _ (by omega),Option.bind_some]
theorem aHU (x:M.aF) (hs:M.aF.sz x≤1073741824):xW x=some x:=by
 simp only [M.aF.sz] at hs
 unfold xW
 rw [aHa _ (by omega),Option.bind_some,aHL _ (by omega),Option.bind_some,aHT _ (by omega),Option.bind_some]
theorem aFN (x:M.aU) (hs:M.aU.sz x≤1073741824):qI x=some x:=by
 simp only [M.aU.sz] at hs
 unfold qI
 rw [aF7 (by omega) (by omega),Option.bind_some]
theorem aCm (x:M.Item) (hs:M.Item.sz x≤1073741824):qT x=some x:=by
 simp only [M.Item.sz] at hs
 unfold qT
 rw [aFN _ (by omega),Option.bind_some]
theorem aBK (x:M.aH) (hs:M.aH.sz x≤1073741824):lB x=some x:=by
 have hl:x.Items.length≤1073741824:=by simp only [M.aH.sz] at hs;omega
 unfold lB
 exact xP (xs:=x.Items) (L:=hY x) (b:=56) (E:=fun r=>some { x with Items:=r }) hl (by omega) (fun n r k hk=>by
  simp only [hY]
  rw [if_pos (aZ hk),aO hk,Option.bind_some,aCm _ (by have:=dJ (f:=M.Item.sz) (List.getElem_mem hk);simp only [M.aH.sz] at hs;omega),Option.bind_some,bB (by omega)]) (fun n r=>by
  simp only [hY]
  rw [if_neg (by rw [aP];simp)])
theorem aDZ (x:M.Database) (hs:M.Database.sz x≤1073741824):mZ x=some x:=by
 have hl:x.Stores.length≤1073741824:=by simp only [M.Database.sz] at hs;omega
 unfold mZ
 rw [aF7 (by simp only [M.Database.sz] at hs;omega) (by omega),Option.bind_some]
 exact xP (xs:=x.Stores) (L:=fP x) (b:=48) (E:=fun r=>some { x with Stores:=r }) hl (by omega) (fun n r k hk=>by
  simp only [fP]
  rw [if_pos (aZ hk),aO hk,Option.bind_some,aBK _ (by have:=dJ (f:=M.aH.sz) (List.getElem_mem hk);simp only [M.Database.sz] at hs;omega),Option.bind_some,bB (by omega)]) (fun n r=>by
  simp only [fP]
  rw [if_neg (by rw [aP];simp)])
theorem aGm (x:M.bE) (hs:M.bE.sz x≤1073741824):vW x=some x:=by
 simp only [M.bE.sz] at hs
 unfold vW
 rw [aDZ _ (by omega),Option.bind_some,aCY _ (by omega),Option.bind_some]
theorem aFE (x:M.aV) (hs:M.aV.sz x≤1073741824):qV x=some x:=by
 simp only [M.aV.sz] at hs
 unfold qV
 rw [aF7 (by omega) (by omega),Option.bind_some]
theorem aG5 (x:M.Sync) (hs:M.Sync.sz x≤1073741824):wT x=some x:=by
 simp only [M.Sync.sz] at hs
 unfold wT
 rw [aFE _ (by omega),Option.bind_some]
theorem aDz (x:M.aD) (hs:M.aD.sz x≤1073741824):oS x=some x:=by
 simp only [M.aD.sz] at hs
 unfold oS
 rw [aBK _ (by omega),Option.bind_some,aG5 _ (by omega),Option.bind_some]
theorem aFS (x:M.aF) (hs:M.aF.sz x≤1073741824):qD x=some x:=by
 simp only [M.aF.sz] at hs
 unfold qD
 rw [aDp _ (by omega),Option.bind_some,aGm _ (by omega),Option.bind_some,aDz _ (by omega),Option.bind_some]
theorem aHM (x:M.aM) (hs:M.aM.sz x≤1073741824):yI x=some x:=by
 have hl:x.Buckets.length≤1073741824:=by simp only [M.aM.sz] at hs;omega
 unfold yI
 exact xP (xs:=x.Buckets) (L:=jJ x) (b:=328) (E:=fun r=>some { x with Buckets:=r }) hl (by omega) (fun n r k hk=>by
  simp only [jJ]
  rw [if_pos (aZ hk),aO hk,Option.bind_some,aHU _ (by have:=dJ (f:=M.aF.sz) (List.getElem_mem hk);simp only [M.aM.sz] at hs;omega),Option.bind_some,bB (by omega)]) (fun n r=>by
  simp only [jJ]
  rw [if_neg (by rw [aP];simp)])
theorem aEZ (x:M.aM) (hs:M.aM.sz x≤1073741824):nU x=some x:=by
 have hl:x.Buckets.length≤1073741824:=by simp only [M.aM.sz] at hs;omega
 unfold nU
 exact xP (xs:=x.Buckets) (L:=gA x) (b:=328) (E:=fun r=>some { x with Buckets:=r }) hl (by omega) (fun n r k hk=>by
  simp only [gA]
  rw [if_pos (aZ hk),aO hk,Option.bind_some,aFS _ (by have:=dJ (f:=M.aF.sz) (List.getElem_mem hk);simp only [M.aM.sz] at hs;omega),Option.bind_some,bB (by omega)]) (fun n r=>by
  simp only [gA]
  rw [if_neg (by rw [aP];simp)])
end Go.Proofs.YtnhpbpnhmapeeaaGreat.gen
