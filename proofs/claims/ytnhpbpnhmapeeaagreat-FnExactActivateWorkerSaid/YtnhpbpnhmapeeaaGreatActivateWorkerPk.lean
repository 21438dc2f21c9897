/-
  Helper text. No conditions.
-/
import Derived.Test.YtnhpbpnhmapeeaaGreatActivateWorkerPj
namespace Go.Proofs.YtnhpbpnhmapeeaaGreat.gen
open Go Go.Sh
set_option linter.unusedVariables false
set_option linter.unusedSimpArgs false
theorem aKA {α:Type} {f:α→Nat} {x:α} : ∀ {l:List α} {i:Nat},aF f (l.set i x)≤aF f l+f x
 | [],_=>by simp [aF]
 | y::l,0=>by simp only [List.set_cons_zero,aF];omega
 | y::l,i+1=>by have:=aKA (f:=f) (x:=x) (l:=l) (i:=i);simp only [List.set_cons_succ,aF];omega
theorem aCX {α:Type} {f:α→Nat} : ∀(l r:List α),aF f (l++r)=aF f l+aF f r
 | [],r=>by simp [aF]
 | y::l,r=>by simp only [List.cons_append,aF,aCX l r];omega
theorem aGY (x:List M.Instr) (hs:x.length≤1073741824):tV x=some x:=by
 unfold tV
 rw [aF2 hs (by omega),Option.bind_some]
theorem aHe (x:M.Machine) (hs:M.Machine.sz x≤1073741824):zL x=some x:=by
 simp only [M.Machine.sz] at hs
 unfold zL
 rw [aGY _ (by omega),Option.bind_some,aF2 (by omega) (by omega),Option.bind_some]
theorem aDt (x:M.bI) (hs:M.bI.sz x≤1073741824):vA x=some x:=by
 simp only [M.bI.sz] at hs
 unfold vA
 rw [aF2 (by omega) (by omega),Option.bind_some,aHe _ (by omega),Option.bind_some]
theorem aHq (x:M.aR) (hs:M.aR.sz x≤1073741824):vH x=some x:=by
 simp only [M.aR.sz] at hs
 unfold vH
 rw [aF2 (by omega) (by omega),Option.bind_some]
theorem aHs (x:M.Channel) (hs:M.Channel.sz x≤1073741824):vG x=some x:=by
 simp only [M.Channel.sz] at hs
 unfold vG
 rw [aF2 (by omega) (by omega),Option.bind_some]
theorem aHk (x:M.Site) (hs:M.Site.sz x≤1073741824):zP x=some x:=by
 simp only [M.Site.sz] at hs
 unfold zP
 rw [aF2 (by omega) (by omega),Option.bind_some]
theorem aHh (x:M.Server) (hs:M.Server.sz x≤1073741824):zE x=some x:=by
 simp only [M.Server.sz] at hs
 unfold zE
 rw [aCs _ (by omega),Option.bind_some,aF2 (by omega) (by omega),Option.bind_some,aF2 (by omega) (by omega),Option.bind_some]
theorem aEa (x:M.Machine) (hs:M.Machine.sz x≤1073741824):pB x=some x:=by
 simp only [M.Machine.sz] at hs
 unfold pB
 rw [aF2 (by omega) (by omega),Option.bind_some,aF2 (by omega) (by omega),Option.bind_some]
theorem aDN (x:M.bI) (hs:M.bI.sz x≤1073741824):rV x=some x:=by
 simp only [M.bI.sz] at hs
 unfold rV
 rw [aF2 (by omega) (by omega),Option.bind_some,aEa _ (by omega),Option.bind_some]
theorem aGW (x:M.aR) (hs:M.aR.sz x≤1073741824):sY x=some x:=by
 simp only [M.aR.sz] at hs
 unfold sY
 rw [aF2 (by omega) (by omega),Option.bind_some]
theorem aEo (x:M.Channel) (hs:M.Channel.sz x≤1073741824):pF x=some x:=by
 simp only [M.Channel.sz] at hs
 unfold pF
 rw [aF2 (by omega) (by omega),Option.bind_some]
theorem aHM (x:M.Site) (hs:M.Site.sz x≤1073741824):wY x=some x:=by
 simp only [M.Site.sz] at hs
 unfold wY
 rw [aF2 (by omega) (by omega),Option.bind_some]
theorem aFp (x:M.Server) (hs:M.Server.sz x≤1073741824):qP x=some x:=by
 simp only [M.Server.sz] at hs
 unfold qP
 rw [aBi _ (by omega),Option.bind_some,aF2 (by omega) (by omega),Option.bind_some,aF2 (by omega) (by omega),Option.bind_some]
theorem aGT (x:List M.bI) (hs:x.length+aF M.bI.sz x≤1073741824):sV x=some x:=by
 unfold sV
 exact yG (xs:=x) (b:=144) (L:=iH x) (E:=some) (by omega) (by omega) (fun n r k hk=>by
  have hy:=cC (f:=M.bI.sz) (List.getElem_mem hk)
  simp only [iH]
  rw [if_pos (aZ hk),aO hk,Option.bind_some,aDN _ (by omega),Option.bind_some,bD (by omega)]) (fun n r=>by
  simp only [iH]
  rw [if_neg (by rw [aP];simp)])
theorem aDu (w:M.World) (hs:M.World.sz w≤1073741824):pT w=some w:=by
 simp only [M.World.sz] at hs
 have e3:gT w w.aC w.Pages w.Locks w.Channel w.Sites fuel 0 ([]:List M.Server)=some w:=yG (xs:=w.Servers) (b:=96) (L:=gT w w.aC w.Pages w.Locks w.Channel w.Sites) (E:=fun r=>some { w with Servers:=r }) (by omega) (by omega) (fun n r k hk=>by
   have hy:=cC (f:=M.Server.sz) (List.getElem_mem hk)
   simp only [gT]
   rw [if_pos (aZ hk),aO hk,Option.bind_some,aHh _ (by omega),Option.bind_some,bD (by omega)]) (fun n r=>by
   simp only [gT]
   rw [if_neg (by rw [aP];simp)])
 have e2:gW w w.aC w.Pages w.Locks w.Channel fuel 0 ([]:List M.Site)=some w:=(yG (xs:=w.Sites) (b:=56) (L:=gW w w.aC w.Pages w.Locks w.Channel) (E:=fun r=>gT w w.aC w.Pages w.Locks w.Channel r fuel 0 ([]:List M.Server)) (by omega) (by omega) (fun n r k hk=>by
   have hy:=cC (f:=M.Site.sz) (List.getElem_mem hk)
   simp only [gW]
   rw [if_pos (aZ hk),aO hk,Option.bind_some,aHk _ (by omega),Option.bind_some,bD (by omega)]) (fun n r=>by
   simp only [gW]
   rw [if_neg (by rw [aP];simp)])).trans e3
 have e1:iP w w.aC fuel 0 ([]:List M.bI)=some w:=(yG (xs:=w.Pages) (b:=144) (L:=iP w w.aC) (E:=fun r=>(vH w.Locks).bind fun x=>(vG w.Channel).bind fun y=>gW w w.aC r x y fuel 0 ([]:List M.Site)) (by omega) (by omega) (fun n r k hk=>by
   have hy:=cC (f:=M.bI.sz) (List.getElem_mem hk)
   simp only [iP]
   rw [if_pos (aZ hk),aO hk,Option.bind_some,aDt _ (by omega),Option.bind_some,bD (by omega)]) (fun n r=>by
   simp only [iP]
   rw [if_neg (by rw [aP];simp)])).trans (by rw [aHq _ (by omega),Option.bind_some,aHs _ (by omega),Option.bind_some];exact e2)
 unfold pT
 rw [aCQ _ (by omega),Option.bind_some]
 exact e1
theorem aC3 (w:M.World) (hs:M.World.sz w≤1073741824):nS w=some w:=by
 simp only [M.World.sz] at hs
 have e3:fC w w.aC w.Pages w.Locks w.Channel w.Sites fuel 0 ([]:List M.Server)=some w:=yG (xs:=w.Servers) (b:=96) (L:=fC w w.aC w.Pages w.Locks w.Channel w.Sites) (E:=fun r=>some { w with Servers:=r }) (by omega) (by omega) (fun n r k hk=>by
   have hy:=cC (f:=M.Server.sz) (List.getElem_mem hk)
   simp only [fC]
   rw [if_pos (aZ hk),aO hk,Option.bind_some,aFp _ (by omega),Option.bind_some,bD (by omega)]) (fun n r=>by
   simp only [fC]
   rw [if_neg (by rw [aP];simp)])
 have e2:gI w w.aC w.Pages w.Locks w.Channel fuel 0 ([]:List M.Site)=some w:=(yG (xs:=w.Sites) (b:=56) (L:=gI w w.aC w.Pages w.Locks w.Channel) (E:=fun r=>fC w w.aC w.Pages w.Locks w.Channel r fuel 0 ([]:List M.Server)) (by omega) (by omega) (fun n r k hk=>by
   have hy:=cC (f:=M.Site.sz) (List.getElem_mem hk)
   simp only [gI]
   rw [if_pos (aZ hk),aO hk,Option.bind_some,aHM _ (by omega),Option.bind_some,bD (by omega)]) (fun n r=>by
   simp only [gI]
   rw [if_neg (by rw [aP];simp)])).trans e3
 unfold nS
 rw [aBE _ (by omega),Option.bind_some,aGT _ (by omega),Option.bind_some,aGW _ (by omega),Option.bind_some,aEo _ (by omega),Option.bind_some]
 exact e2
end Go.Proofs.YtnhpbpnhmapeeaaGreat.gen
