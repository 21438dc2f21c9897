/-
  Helper text. No conditions.
-/
import Derived.Test.YtnhpbpnhmapeeaaGreatActivateWorkerPg
namespace Go.Proofs.YtnhpbpnhmapeeaaGreat.gen
open Go Go.Sh
set_option linter.unusedVariables false
set_option linter.unusedSimpArgs false
theorem aCz (x:List Int) (hs:x.length≤1073741824):jF x=some x:=by
 unfold jF
 rw [aF2 hs (by omega),Option.bind_some]
theorem aHx (x:M.Response) (hs:M.Response.sz x≤1073741824):zO x=some x:=by
 simp only [M.Response.sz] at hs
 unfold zO
 rw [aF2 (by omega) (by omega),Option.bind_some]
theorem aD2 (x:M.Response) (hs:M.Response.sz x≤1073741824):nA x=some x:=by
 simp only [M.Response.sz] at hs
 unfold nA
 rw [aCz _ (by omega),Option.bind_some]
theorem aGr (x:M.Cache) (hs:M.Cache.sz x≤1073741824):wU x=some x:=by
 have hl:x.Entries.length≤1073741824:=by simp only [M.Cache.sz] at hs;omega
 unfold wU
 exact yG (xs:=x.Entries) (L:=iV x) (b:=88) (E:=fun r=>some { x with Entries:=r }) hl (by omega) (fun n r k hk=>by
  simp only [iV]
  rw [if_pos (aZ hk),aO hk,Option.bind_some,aHx _ (by have:=cC (f:=M.Cached.sz) (List.getElem_mem hk);simp only [M.Cache.sz] at hs;simp only [M.Cached.sz] at this;omega),Option.bind_some,bD (by omega)]) (fun n r=>by
  simp only [iV]
  rw [if_neg (by rw [aP];simp)])
theorem aCR (x:M.aM) (hs:M.aM.sz x≤1073741824):pS x=some x:=by
 have hl:x.Caches.length≤1073741824:=by simp only [M.aM.sz] at hs;omega
 unfold pS
 exact yG (xs:=x.Caches) (L:=kA x) (b:=32) (E:=fun r=>some { x with Caches:=r }) hl (by omega) (fun n r k hk=>by
  simp only [kA]
  rw [if_pos (aZ hk),aO hk,Option.bind_some,aGr _ (by have:=cC (f:=M.Cache.sz) (List.getElem_mem hk);simp only [M.aM.sz] at hs;omega),Option.bind_some,bD (by omega)]) (fun n r=>by
  simp only [kA]
  rw [if_neg (by rw [aP];simp)])
theorem aCA (x:M.aM) (hs:M.aM.sz x≤1073741824):jR x=some x:=by
 have hl:x.Caches.length≤1073741824:=by simp only [M.aM.sz] at hs;omega
 unfold jR
 exact yG (xs:=x.Caches) (L:=eC x) (b:=32) (E:=fun r=>some { x with Caches:=r }) hl (by omega) (fun n r k hk=>by
  have hz:=cC (f:=M.Cache.sz) (List.getElem_mem hk)
  simp only [M.aM.sz] at hs
  have hz2:x.Caches[k].Entries.length+aF M.Cached.sz x.Caches[k].Entries≤M.Cache.sz x.Caches[k]:=by simp only [M.Cache.sz];omega
  simp only [eC]
  rw [if_pos (aZ hk),aO hk,Option.bind_some,bD (by omega)]
  exact yG (xs:=x.Caches[k].Entries) (b:=88) (L:=fP x.Caches[k] (fun (v:Int) (q:List M.Cached)=>(app 32 r ([(⟨x.Caches[k].Version,q⟩:M.Cache)])).bind fun _=>(eC x n ((k+1:Nat):Int) (r++[(⟨x.Caches[k].Version,q⟩:M.Cache)])))) (by omega) (by omega) (fun m q j hj=>by
   have hy:=cC (f:=M.Cached.sz) (List.getElem_mem hj)
   simp only [fP]
   rw [if_pos (aZ hj),aO hj,Option.bind_some,aD2 _ (by simp only [M.Cached.sz] at hy;omega),Option.bind_some,bD (by omega)]) (fun m q=>by
   simp only [fP]
   rw [if_neg (by rw [aP];simp)])) (fun n r=>by
  simp only [eC]
  rw [if_neg (by rw [aP];simp)])
theorem aIy (x:M.aU) (hs:M.aU.sz x≤1073741824):aAs x=some x:=by
 simp only [M.aU.sz] at hs
 unfold aAs
 rw [aF2 (by omega) (by omega),Option.bind_some]
theorem aFB (x:M.Item) (hs:M.Item.sz x≤1073741824):xY x=some x:=by
 simp only [M.Item.sz] at hs
 unfold xY
 rw [aIy _ (by omega),Option.bind_some]
theorem aCs (x:M.aH) (hs:M.aH.sz x≤1073741824):sG x=some x:=by
 have hl:x.Items.length≤1073741824:=by simp only [M.aH.sz] at hs;omega
 unfold sG
 exact yG (xs:=x.Items) (L:=lI x) (b:=56) (E:=fun r=>some { x with Items:=r }) hl (by omega) (fun n r k hk=>by
  simp only [lI]
  rw [if_pos (aZ hk),aO hk,Option.bind_some,aFB _ (by have:=cC (f:=M.Item.sz) (List.getElem_mem hk);simp only [M.aH.sz] at hs;omega),Option.bind_some,bD (by omega)]) (fun n r=>by
  simp only [lI]
  rw [if_neg (by rw [aP];simp)])
theorem aI9 (x:M.Database) (hs:M.Database.sz x≤1073741824):aAi x=some x:=by
 have hl:x.Stores.length≤1073741824:=by simp only [M.Database.sz] at hs;omega
 unfold aAi
 rw [aF2 (by simp only [M.Database.sz] at hs;omega) (by omega),Option.bind_some]
 exact yG (xs:=x.Stores) (L:=lL x) (b:=48) (E:=fun r=>some { x with Stores:=r }) hl (by omega) (fun n r k hk=>by
  simp only [lL]
  rw [if_pos (aZ hk),aO hk,Option.bind_some,aCs _ (by have:=cC (f:=M.aH.sz) (List.getElem_mem hk);simp only [M.Database.sz] at hs;omega),Option.bind_some,bD (by omega)]) (fun n r=>by
  simp only [lL]
  rw [if_neg (by rw [aP];simp)])
theorem aHn (x:M.bB) (hs:M.bB.sz x≤1073741824):yS x=some x:=by
 simp only [M.bB.sz] at hs
 unfold yS
 rw [aI9 _ (by omega),Option.bind_some,aF2 (by omega) (by omega),Option.bind_some]
theorem aHj (x:M.aV) (hs:M.aV.sz x≤1073741824):zY x=some x:=by
 simp only [M.aV.sz] at hs
 unfold zY
 rw [aF2 (by omega) (by omega),Option.bind_some]
theorem aHw (x:M.Sync) (hs:M.Sync.sz x≤1073741824):zA x=some x:=by
 simp only [M.Sync.sz] at hs
 unfold zA
 rw [aHj _ (by omega),Option.bind_some]
theorem aHv (x:M.aE) (hs:M.aE.sz x≤1073741824):aAE x=some x:=by
 simp only [M.aE.sz] at hs
 unfold aAE
 rw [aCs _ (by omega),Option.bind_some,aHw _ (by omega),Option.bind_some]
theorem zW (x:M.aA) (hs:M.aA.sz x≤1073741824):gK x=some x:=by
 simp only [M.aA.sz] at hs
 unfold gK
 rw [aCR _ (by omega),Option.bind_some,aHn _ (by omega),Option.bind_some,aHv _ (by omega),Option.bind_some]
theorem aFm (x:M.aU) (hs:M.aU.sz x≤1073741824):qS x=some x:=by
 simp only [M.aU.sz] at hs
 unfold qS
 rw [aF2 (by omega) (by omega),Option.bind_some]
theorem aDG (x:M.Item) (hs:M.Item.sz x≤1073741824):rF x=some x:=by
 simp only [M.Item.sz] at hs
 unfold rF
 rw [aFm _ (by omega),Option.bind_some]
theorem aBi (x:M.aH) (hs:M.aH.sz x≤1073741824):lK x=some x:=by
 have hl:x.Items.length≤1073741824:=by simp only [M.aH.sz] at hs;omega
 unfold lK
 exact yG (xs:=x.Items) (L:=iF x) (b:=56) (E:=fun r=>some { x with Items:=r }) hl (by omega) (fun n r k hk=>by
  simp only [iF]
  rw [if_pos (aZ hk),aO hk,Option.bind_some,aDG _ (by have:=cC (f:=M.Item.sz) (List.getElem_mem hk);simp only [M.aH.sz] at hs;omega),Option.bind_some,bD (by omega)]) (fun n r=>by
  simp only [iF]
  rw [if_neg (by rw [aP];simp)])
theorem aD4 (x:M.Database) (hs:M.Database.sz x≤1073741824):nG x=some x:=by
 have hl:x.Stores.length≤1073741824:=by simp only [M.Database.sz] at hs;omega
 unfold nG
 rw [aF2 (by simp only [M.Database.sz] at hs;omega) (by omega),Option.bind_some]
 exact yG (xs:=x.Stores) (L:=fR x) (b:=48) (E:=fun r=>some { x with Stores:=r }) hl (by omega) (fun n r k hk=>by
  simp only [fR]
  rw [if_pos (aZ hk),aO hk,Option.bind_some,aBi _ (by have:=cC (f:=M.aH.sz) (List.getElem_mem hk);simp only [M.Database.sz] at hs;omega),Option.bind_some,bD (by omega)]) (fun n r=>by
  simp only [fR]
  rw [if_neg (by rw [aP];simp)])
theorem aHB (x:M.bB) (hs:M.bB.sz x≤1073741824):wM x=some x:=by
 simp only [M.bB.sz] at hs
 unfold wM
 rw [aD4 _ (by omega),Option.bind_some,aCz _ (by omega),Option.bind_some]
theorem aFc (x:M.aV) (hs:M.aV.sz x≤1073741824):rH x=some x:=by
 simp only [M.aV.sz] at hs
 unfold rH
 rw [aF2 (by omega) (by omega),Option.bind_some]
theorem aHR (x:M.Sync) (hs:M.Sync.sz x≤1073741824):xL x=some x:=by
 simp only [M.Sync.sz] at hs
 unfold xL
 rw [aFc _ (by omega),Option.bind_some]
theorem aER (x:M.aE) (hs:M.aE.sz x≤1073741824):pG x=some x:=by
 simp only [M.aE.sz] at hs
 unfold pG
 rw [aBi _ (by omega),Option.bind_some,aHR _ (by omega),Option.bind_some]
theorem rU (x:M.aA) (hs:M.aA.sz x≤1073741824):dI x=some x:=by
 simp only [M.aA.sz] at hs
 unfold dI
 rw [aCA _ (by omega),Option.bind_some,aHB _ (by omega),Option.bind_some,aER _ (by omega),Option.bind_some]
theorem aCQ (x:M.aC) (hs:M.aC.sz x≤1073741824):eX x=some x:=by
 have hl:x.Buckets.length≤1073741824:=by simp only [M.aC.sz] at hs;omega
 unfold eX
 exact yG (xs:=x.Buckets) (L:=jN x) (b:=328) (E:=fun r=>some { x with Buckets:=r }) hl (by omega) (fun n r k hk=>by
  simp only [jN]
  rw [if_pos (aZ hk),aO hk,Option.bind_some,zW _ (by have:=cC (f:=M.aA.sz) (List.getElem_mem hk);simp only [M.aC.sz] at hs;omega),Option.bind_some,bD (by omega)]) (fun n r=>by
  simp only [jN]
  rw [if_neg (by rw [aP];simp)])
theorem aBE (x:M.aC) (hs:M.aC.sz x≤1073741824):bP x=some x:=by
 have hl:x.Buckets.length≤1073741824:=by simp only [M.aC.sz] at hs;omega
 unfold bP
 exact yG (xs:=x.Buckets) (L:=gC x) (b:=328) (E:=fun r=>some { x with Buckets:=r }) hl (by omega) (fun n r k hk=>by
  simp only [gC]
  rw [if_pos (aZ hk),aO hk,Option.bind_some,rU _ (by have:=cC (f:=M.aA.sz) (List.getElem_mem hk);simp only [M.aC.sz] at hs;omega),Option.bind_some,bD (by omega)]) (fun n r=>by
  simp only [gC]
  rw [if_neg (by rw [aP];simp)])
end Go.Proofs.YtnhpbpnhmapeeaaGreat.gen
