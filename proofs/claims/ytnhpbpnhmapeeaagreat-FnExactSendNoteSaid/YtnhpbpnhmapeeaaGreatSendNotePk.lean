/-
  Helper text. No conditions.
-/
import Derived.Test.YtnhpbpnhmapeeaaGreatSendNotePi
namespace Go.Proofs.YtnhpbpnhmapeeaaGreat.gen
open Go Go.Sh
set_option linter.unusedVariables false
set_option linter.unusedSimpArgs false
theorem aNh (x:Int):inI (IntKind.i64.wrap x):=by unfold inI;rw [IntKind.wrap_i64];omega
theorem aJo {α:Type} {f:α→Nat} {x:α} : ∀ {l:List α} {i:Nat},aG f (l.set i x)≤aG f l+f x
 | [],_=>by simp [aG]
 | y::l,0=>by simp only [List.set_cons_zero,aG];omega
 | y::l,i+1=>by have:=aJo (f:=f) (x:=x) (l:=l) (i:=i);simp only [List.set_cons_succ,aG];omega
theorem aC7 {α:Type} {f:α→Nat} : ∀(l r:List α),aG f (l++r)=aG f l+aG f r
 | [],r=>by simp [aG]
 | y::l,r=>by simp only [List.cons_append,aG,aC7 l r];omega
theorem aGD (x:List M.Instr) (hs:x.length≤1073741824):tM x=some x:=by
 unfold tM
 rw [aE6 hs (by omega),Option.bind_some]
theorem aHL (x:M.Machine) (hs:M.Machine.sz x≤1073741824):zA x=some x:=by
 simp only [M.Machine.sz] at hs
 unfold zA
 rw [aGD _ (by omega),Option.bind_some,aE6 (by omega) (by omega),Option.bind_some]
theorem aHS (x:M.bJ) (hs:M.bJ.sz x≤1073741824):yQ x=some x:=by
 simp only [M.bJ.sz] at hs
 unfold yQ
 rw [aE6 (by omega) (by omega),Option.bind_some,aHL _ (by omega),Option.bind_some]
theorem aHV (x:M.aW) (hs:M.aW.sz x≤1073741824):uU x=some x:=by
 simp only [M.aW.sz] at hs
 unfold uU
 rw [aE6 (by omega) (by omega),Option.bind_some]
theorem aHW (x:M.Channel) (hs:M.Channel.sz x≤1073741824):uT x=some x:=by
 simp only [M.Channel.sz] at hs
 unfold uT
 rw [aE6 (by omega) (by omega),Option.bind_some]
theorem aHQ (x:M.Site) (hs:M.Site.sz x≤1073741824):zD x=some x:=by
 simp only [M.Site.sz] at hs
 unfold zD
 rw [aE6 (by omega) (by omega),Option.bind_some]
theorem aHN (x:M.Server) (hs:M.Server.sz x≤1073741824):yU x=some x:=by
 simp only [M.Server.sz] at hs
 unfold yU
 rw [xW _ (by omega),Option.bind_some,aE6 (by omega) (by omega),Option.bind_some,aE6 (by omega) (by omega),Option.bind_some]
theorem aEW (x:M.Machine) (hs:M.Machine.sz x≤1073741824):pC x=some x:=by
 simp only [M.Machine.sz] at hs
 unfold pC
 rw [aE6 (by omega) (by omega),Option.bind_some,aE6 (by omega) (by omega),Option.bind_some]
theorem aG3 (x:M.bJ) (hs:M.bJ.sz x≤1073741824):xG x=some x:=by
 simp only [M.bJ.sz] at hs
 unfold xG
 rw [aE6 (by omega) (by omega),Option.bind_some,aEW _ (by omega),Option.bind_some]
theorem aGB (x:M.aW) (hs:M.aW.sz x≤1073741824):sS x=some x:=by
 simp only [M.aW.sz] at hs
 unfold sS
 rw [aE6 (by omega) (by omega),Option.bind_some]
theorem aEn (x:M.Channel) (hs:M.Channel.sz x≤1073741824):pF x=some x:=by
 simp only [M.Channel.sz] at hs
 unfold pF
 rw [aE6 (by omega) (by omega),Option.bind_some]
theorem aG8 (x:M.Site) (hs:M.Site.sz x≤1073741824):wO x=some x:=by
 simp only [M.Site.sz] at hs
 unfold wO
 rw [aE6 (by omega) (by omega),Option.bind_some]
theorem aFb (x:M.Server) (hs:M.Server.sz x≤1073741824):qM x=some x:=by
 simp only [M.Server.sz] at hs
 unfold qM
 rw [iV _ (by omega),Option.bind_some,aE6 (by omega) (by omega),Option.bind_some,aE6 (by omega) (by omega),Option.bind_some]
theorem aF8 (x:List M.bJ) (hs:x.length+aG M.bJ.sz x≤1073741824):sP x=some x:=by
 unfold sP
 exact xX (xs:=x) (b:=144) (L:=hU x) (E:=some) (by omega) (by omega) (fun n r k hk=>by
  have hy:=cH (f:=M.bJ.sz) (List.getElem_mem hk)
  simp only [hU]
  rw [if_pos (bF hk),aQ hk,Option.bind_some,aG3 _ (by omega),Option.bind_some,bH (by omega)]) (fun n r=>by
  simp only [hU]
  rw [if_neg (by rw [aT];simp)])
theorem aDu (w:M.World) (hs:M.World.sz w≤1073741824):uW w=some w:=by
 simp only [M.World.sz] at hs
 have e3:gL w w.aF w.Pages w.Locks w.Channel w.Sites fuel 0 ([]:List M.Server)=some w:=xX (xs:=w.Servers) (b:=96) (L:=gL w w.aF w.Pages w.Locks w.Channel w.Sites) (E:=fun r=>some { w with Servers:=r }) (by omega) (by omega) (fun n r k hk=>by
   have hy:=cH (f:=M.Server.sz) (List.getElem_mem hk)
   simp only [gL]
   rw [if_pos (bF hk),aQ hk,Option.bind_some,aHN _ (by omega),Option.bind_some,bH (by omega)]) (fun n r=>by
   simp only [gL]
   rw [if_neg (by rw [aT];simp)])
 have e2:gN w w.aF w.Pages w.Locks w.Channel fuel 0 ([]:List M.Site)=some w:=(xX (xs:=w.Sites) (b:=56) (L:=gN w w.aF w.Pages w.Locks w.Channel) (E:=fun r=>gL w w.aF w.Pages w.Locks w.Channel r fuel 0 ([]:List M.Server)) (by omega) (by omega) (fun n r k hk=>by
   have hy:=cH (f:=M.Site.sz) (List.getElem_mem hk)
   simp only [gN]
   rw [if_pos (bF hk),aQ hk,Option.bind_some,aHQ _ (by omega),Option.bind_some,bH (by omega)]) (fun n r=>by
   simp only [gN]
   rw [if_neg (by rw [aT];simp)])).trans e3
 have e1:iD w w.aF fuel 0 ([]:List M.bJ)=some w:=(xX (xs:=w.Pages) (b:=144) (L:=iD w w.aF) (E:=fun r=>(uU w.Locks).bind fun x=>(uT w.Channel).bind fun y=>gN w w.aF r x y fuel 0 ([]:List M.Site)) (by omega) (by omega) (fun n r k hk=>by
   have hy:=cH (f:=M.bJ.sz) (List.getElem_mem hk)
   simp only [iD]
   rw [if_pos (bF hk),aQ hk,Option.bind_some,aHS _ (by omega),Option.bind_some,bH (by omega)]) (fun n r=>by
   simp only [iD]
   rw [if_neg (by rw [aT];simp)])).trans (by rw [aHV _ (by omega),Option.bind_some,aHW _ (by omega),Option.bind_some];exact e2)
 unfold uW
 rw [aCG _ (by omega),Option.bind_some]
 exact e1
theorem aGA (w:M.World) (hs:M.World.sz w≤1073741824):tQ w=some w:=by
 simp only [M.World.sz] at hs
 have e3:eU w w.aF w.Pages w.Locks w.Channel w.Sites fuel 0 ([]:List M.Server)=some w:=xX (xs:=w.Servers) (b:=96) (L:=eU w w.aF w.Pages w.Locks w.Channel w.Sites) (E:=fun r=>some { w with Servers:=r }) (by omega) (by omega) (fun n r k hk=>by
   have hy:=cH (f:=M.Server.sz) (List.getElem_mem hk)
   simp only [eU]
   rw [if_pos (bF hk),aQ hk,Option.bind_some,aFb _ (by omega),Option.bind_some,bH (by omega)]) (fun n r=>by
   simp only [eU]
   rw [if_neg (by rw [aT];simp)])
 have e2:gD w w.aF w.Pages w.Locks w.Channel fuel 0 ([]:List M.Site)=some w:=(xX (xs:=w.Sites) (b:=56) (L:=gD w w.aF w.Pages w.Locks w.Channel) (E:=fun r=>eU w w.aF w.Pages w.Locks w.Channel r fuel 0 ([]:List M.Server)) (by omega) (by omega) (fun n r k hk=>by
   have hy:=cH (f:=M.Site.sz) (List.getElem_mem hk)
   simp only [gD]
   rw [if_pos (bF hk),aQ hk,Option.bind_some,aG8 _ (by omega),Option.bind_some,bH (by omega)]) (fun n r=>by
   simp only [gD]
   rw [if_neg (by rw [aT];simp)])).trans e3
 unfold tQ
 rw [aA3 _ (by omega),Option.bind_some,aF8 _ (by omega),Option.bind_some,aGB _ (by omega),Option.bind_some,aEn _ (by omega),Option.bind_some]
 exact e2
end Go.Proofs.YtnhpbpnhmapeeaaGreat.gen
