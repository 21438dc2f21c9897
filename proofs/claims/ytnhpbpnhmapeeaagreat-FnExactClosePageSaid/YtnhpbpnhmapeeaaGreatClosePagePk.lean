/-
  Helper text. No conditions.
-/
import Derived.Test.YtnhpbpnhmapeeaaGreatClosePagePj
namespace Go.Proofs.YtnhpbpnhmapeeaaGreat.gen
open Go Go.Sh
set_option linter.unusedVariables false
set_option linter.unusedSimpArgs false
theorem aGU {α:Type} {f:α→Nat} : ∀(l r:List α),aC f (l++r)=aC f l+aC f r
 | [],r=>by simp [aC]
 | y::l,r=>by simp only [List.cons_append,aC,aGU l r];omega
theorem aGB (x:List M.Instr) (hs:x.length≤1073741824):tC x=some x:=by
 unfold tC
 rw [aF7 hs (by omega),Option.bind_some]
theorem aHE (x:M.Machine) (hs:M.Machine.sz x≤1073741824):yV x=some x:=by
 simp only [M.Machine.sz] at hs
 unfold yV
 rw [aGB _ (by omega),Option.bind_some,aF7 (by omega) (by omega),Option.bind_some]
theorem aHJ (x:M.bG) (hs:M.bG.sz x≤1073741824):yK x=some x:=by
 simp only [M.bG.sz] at hs
 unfold yK
 rw [aF7 (by omega) (by omega),Option.bind_some,aHE _ (by omega),Option.bind_some]
theorem aDQ (x:M.aE) (hs:M.aE.sz x≤1073741824):pG x=some x:=by
 simp only [M.aE.sz] at hs
 unfold pG
 rw [aF7 (by omega) (by omega),Option.bind_some]
theorem aHP (x:M.Channel) (hs:M.Channel.sz x≤1073741824):uP x=some x:=by
 simp only [M.Channel.sz] at hs
 unfold uP
 rw [aF7 (by omega) (by omega),Option.bind_some]
theorem aHI (x:M.Site) (hs:M.Site.sz x≤1073741824):yY x=some x:=by
 simp only [M.Site.sz] at hs
 unfold yY
 rw [aF7 (by omega) (by omega),Option.bind_some]
theorem aHG (x:M.Server) (hs:M.Server.sz x≤1073741824):yO x=some x:=by
 simp only [M.Server.sz] at hs
 unfold yO
 rw [aCQ _ (by omega),Option.bind_some,aF7 (by omega) (by omega),Option.bind_some,aF7 (by omega) (by omega),Option.bind_some]
theorem aD8 (x:M.Machine) (hs:M.Machine.sz x≤1073741824):oO x=some x:=by
 simp only [M.Machine.sz] at hs
 unfold oO
 rw [aF7 (by omega) (by omega),Option.bind_some,aF7 (by omega) (by omega),Option.bind_some]
theorem aGt (x:M.bG) (hs:M.bG.sz x≤1073741824):xC x=some x:=by
 simp only [M.bG.sz] at hs
 unfold xC
 rw [aF7 (by omega) (by omega),Option.bind_some,aD8 _ (by omega),Option.bind_some]
theorem aBO (x:M.aE) (hs:M.aE.sz x≤1073741824):kW x=some x:=by
 simp only [M.aE.sz] at hs
 unfold kW
 rw [aF7 (by omega) (by omega),Option.bind_some]
theorem aBs (x:M.Channel) (hs:M.Channel.sz x≤1073741824):kT x=some x:=by
 simp only [M.Channel.sz] at hs
 unfold kT
 rw [aF7 (by omega) (by omega),Option.bind_some]
theorem aGz (x:M.Site) (hs:M.Site.sz x≤1073741824):wJ x=some x:=by
 simp only [M.Site.sz] at hs
 unfold wJ
 rw [aF7 (by omega) (by omega),Option.bind_some]
theorem aFR (x:M.Server) (hs:M.Server.sz x≤1073741824):qF x=some x:=by
 simp only [M.Server.sz] at hs
 unfold qF
 rw [aBK _ (by omega),Option.bind_some,aF7 (by omega) (by omega),Option.bind_some,aF7 (by omega) (by omega),Option.bind_some]
theorem aF2 (x:List M.bG) (hs:x.length+aC M.bG.sz x≤1073741824):sG x=some x:=by
 unfold sG
 exact xP (xs:=x) (b:=144) (L:=iA x) (E:=some) (by omega) (by omega) (fun n r k hk=>by
  have hy:=dJ (f:=M.bG.sz) (List.getElem_mem hk)
  simp only [iA]
  rw [if_pos (aZ hk),aO hk,Option.bind_some,aGt _ (by omega),Option.bind_some,bB (by omega)]) (fun n r=>by
  simp only [iA]
  rw [if_neg (by rw [aP];simp)])
theorem aHR (w:M.World) (hs:M.World.sz w≤1073741824):zR w=some w:=by
 simp only [M.World.sz] at hs
 have e3:gM w w.aM w.Pages w.Locks w.Channel w.Sites fuel 0 ([]:List M.Server)=some w:=xP (xs:=w.Servers) (b:=96) (L:=gM w w.aM w.Pages w.Locks w.Channel w.Sites) (E:=fun r=>some { w with Servers:=r }) (by omega) (by omega) (fun n r k hk=>by
   have hy:=dJ (f:=M.Server.sz) (List.getElem_mem hk)
   simp only [gM]
   rw [if_pos (aZ hk),aO hk,Option.bind_some,aHG _ (by omega),Option.bind_some,bB (by omega)]) (fun n r=>by
   simp only [gM]
   rw [if_neg (by rw [aP];simp)])
 have e2:gP w w.aM w.Pages w.Locks w.Channel fuel 0 ([]:List M.Site)=some w:=(xP (xs:=w.Sites) (b:=56) (L:=gP w w.aM w.Pages w.Locks w.Channel) (E:=fun r=>gM w w.aM w.Pages w.Locks w.Channel r fuel 0 ([]:List M.Server)) (by omega) (by omega) (fun n r k hk=>by
   have hy:=dJ (f:=M.Site.sz) (List.getElem_mem hk)
   simp only [gP]
   rw [if_pos (aZ hk),aO hk,Option.bind_some,aHI _ (by omega),Option.bind_some,bB (by omega)]) (fun n r=>by
   simp only [gP]
   rw [if_neg (by rw [aP];simp)])).trans e3
 have e1:iG w w.aM fuel 0 ([]:List M.bG)=some w:=(xP (xs:=w.Pages) (b:=144) (L:=iG w w.aM) (E:=fun r=>(pG w.Locks).bind fun x=>(uP w.Channel).bind fun y=>gP w w.aM r x y fuel 0 ([]:List M.Site)) (by omega) (by omega) (fun n r k hk=>by
   have hy:=dJ (f:=M.bG.sz) (List.getElem_mem hk)
   simp only [iG]
   rw [if_pos (aZ hk),aO hk,Option.bind_some,aHJ _ (by omega),Option.bind_some,bB (by omega)]) (fun n r=>by
   simp only [iG]
   rw [if_neg (by rw [aP];simp)])).trans (by rw [aDQ _ (by omega),Option.bind_some,aHP _ (by omega),Option.bind_some];exact e2)
 unfold zR
 rw [aHM _ (by omega),Option.bind_some]
 exact e1
theorem aF6 (w:M.World) (hs:M.World.sz w≤1073741824):tH w=some w:=by
 simp only [M.World.sz] at hs
 have e3:fA w w.aM w.Pages w.Locks w.Channel w.Sites fuel 0 ([]:List M.Server)=some w:=xP (xs:=w.Servers) (b:=96) (L:=fA w w.aM w.Pages w.Locks w.Channel w.Sites) (E:=fun r=>some { w with Servers:=r }) (by omega) (by omega) (fun n r k hk=>by
   have hy:=dJ (f:=M.Server.sz) (List.getElem_mem hk)
   simp only [fA]
   rw [if_pos (aZ hk),aO hk,Option.bind_some,aFR _ (by omega),Option.bind_some,bB (by omega)]) (fun n r=>by
   simp only [fA]
   rw [if_neg (by rw [aP];simp)])
 have e2:gD w w.aM w.Pages w.Locks w.Channel fuel 0 ([]:List M.Site)=some w:=(xP (xs:=w.Sites) (b:=56) (L:=gD w w.aM w.Pages w.Locks w.Channel) (E:=fun r=>fA w w.aM w.Pages w.Locks w.Channel r fuel 0 ([]:List M.Server)) (by omega) (by omega) (fun n r k hk=>by
   have hy:=dJ (f:=M.Site.sz) (List.getElem_mem hk)
   simp only [gD]
   rw [if_pos (aZ hk),aO hk,Option.bind_some,aGz _ (by omega),Option.bind_some,bB (by omega)]) (fun n r=>by
   simp only [gD]
   rw [if_neg (by rw [aP];simp)])).trans e3
 unfold tH
 rw [aEZ _ (by omega),Option.bind_some,aF2 _ (by omega),Option.bind_some,aBO _ (by omega),Option.bind_some,aBs _ (by omega),Option.bind_some]
 exact e2
theorem aMa {l:List M.bG} {f:Int} (hl:l.length≤maxLen):zI l f=some (aBj (fun p:M.bG=>p.Id==f) l):=by
 have hm:=le_max hl
 unfold zI
 rw [findAll (L:=jM l f) (f:=fun p:M.bG=>p.Id==f) (A:=fun i=>some (i:Int)) (E:=some (-1)) hl (fun m k hk => ?_) (fun m => ?_),tT]
 ·simp only [jM]
  rw [if_pos (aZ hk),aO hk,Option.bind_some,bB (by omega)]
 ·simp only [jM]
  rw [if_neg (by rw [aP];simp)]
def aNE (w:M.World) (f:Int):Int:=aBj (fun p:M.bG=>p.Id==f) w.Pages
theorem aFn {w:M.World} {f:Int} (hw:w.ok):tO w f=some (aNE w f):=by
 unfold tO
 rw [aMa hw.Pages.1,Option.bind_some]
 rfl
theorem aFt {w:M.World} {f:Int} (hw:w.ok):uG w f=some (aNE w f):=by
 unfold uG
 rw [aGA (p:=fun z0=>oU z0 f) (f:=fun p:M.bG=>p.Id==f) hw.Pages.1 (fun x _=>rfl),Option.bind_some]
 rfl
def aOS (x y:M.bF):Bool:=(y.Name.toList==x.Name.toList)&&(!y.Held||(!y.Shared || !x.Shared))
def aNm (l:List M.bF) (x:M.bF):Bool := !(l.any (aOS x))
theorem aNj {α:Type} (n a b c:Bool) (p q:α):(if n=true then (if (!a)=true then p else (if (!b)=true then p else (if (!c)=true then p else q))) else q)=if (n&&(!a||(!b || !c)))=true then p else q:=by
 cases n<;>cases a<;>cases b<;>cases c<;>rfl
theorem aLW {l:List M.bF} {n:Nat} {x:M.bF} (hl:l.length≤maxLen) (hn:n≤l.length):aAN l (n:Int) x=some (aNm (l.take n) x):=by
 have hm:=le_max hl
 have ht:(l.take n).length=n:=by simp;omega
 unfold aAN aNm
 rw [findAll (xs:=l.take n) (L:=iZ l (n:Int) x) (f:=aOS x) (A:=fun _=>some false) (E:=some true) (by rw [ht];omega) (fun m k hk => ?_) (fun m => ?_),aKl]
 ·cases (l.take n).any (aOS x)<;>rfl
 ·have hk':k<n:=by omega
  simp only [iZ]
  rw [if_pos (by simpa using hk'),aO (show k<l.length by omega),Option.bind_some,bB (by omega),aNj,List.getElem_take]
  rfl
 ·rw [ht]
  simp only [iZ]
  rw [if_neg (by simp)]
theorem aHN {t:M.aE} {i:Nat} (hl:t.Locks.length≤maxLen) (hi:i<t.Locks.length):zH t (i:Int)=some (aNm (t.Locks.take i) t.Locks[i]):=by
 have hm:=le_max hl
 have ht:(t.Locks.take i).length=i:=by simp;omega
 unfold zH aNm
 rw [aGh (by omega),Option.bind_some,findAll (xs:=t.Locks.take i) (L:=gO t (i:Int)) (f:=aOS t.Locks[i]) (A:=fun _=>some false) (E:=some true) (by rw [ht];omega) (fun m k hk => ?_) (fun m => ?_),aKl]
 ·cases (t.Locks.take i).any (aOS t.Locks[i])<;>rfl
 ·simp only [gO,Int.toNat_natCast]
  rw [if_pos (aZ hk),aO hk,Option.bind_some,aO hi,Option.bind_some,bB (by omega),aNj]
  rfl
 ·simp only [gO,Int.toNat_natCast]
  rw [if_neg (by rw [aP];simp)]
end Go.Proofs.YtnhpbpnhmapeeaaGreat.gen
