/-
  Helper text. No conditions.
-/
import Derived.Test.YtidhkhdnjonjfaaGreatUpdateWorkerPj
set_option linter.unusedVariables false
set_option linter.unusedSimpArgs false
namespace Go.Proofs.YtidhkhdnjonjfaaGreat.gen
open Go Go.Sh
theorem aLq {α:Type} {f:α→Nat} {x:α} : ∀ {l:List α} {i:Nat},aF f (l.set i x)≤aF f l+f x
 | [],_=>by simp [aF]
 | y::l,0=>by simp only [List.set_cons_zero,aF];omega
 | y::l,i+1=>by have:=aLq (f:=f) (x:=x) (l:=l) (i:=i);simp only [List.set_cons_succ,aF];omega
theorem aDk {α:Type} {f:α→Nat} : ∀(l r:List α),aF f (l++r)=aF f l+aF f r
 | [],r=>by simp [aF]
 | y::l,r=>by simp only [List.cons_append,aF,aDk l r];omega
theorem aHQ {a:ByteArray}:uQ a=some (aCq a):=by
 unfold uQ
 rw [show tK=some sN from rfl,qA]
 rw [findAll (L:=iB a sN) (f:=fun x:ByteArray=>x.toList==a.toList) (A:=fun i=>some (i:Int)) (E:=some (-1)) aJy (fun m k hk => ?_) (fun m => ?_),uE]
 ·rfl
 ·have hk3:k<3:=hk
  simp only [iB]
  rw [if_pos (aY hk),aM hk,qA,bC (by omega)]
 ·simp only [iB]
  rw [if_neg (by rw [aO];simp)]
theorem aIL (x:List M.Instr) (hs:x.length≤1073741824):wT x=some x:=by
 unfold wT
 rw [aHo hs (by omega),qA]
theorem aJQ (x:M.Machine) (hs:M.Machine.sz x≤1073741824):aA3 x=some x:=by
 simp only [M.Machine.sz] at hs
 unfold aA3
 rw [aIL _ (by omega),qA,aHo (by omega) (by omega),qA]
theorem aJW (x:M.bJ) (hs:M.bJ.sz x≤1073741824):aAr x=some x:=by
 simp only [M.bJ.sz] at hs
 unfold aAr
 rw [aHo (by omega) (by omega),qA,aJQ _ (by omega),qA]
theorem aJa (x:M.aP) (hs:M.aP.sz x≤1073741824):yE x=some x:=by
 simp only [M.aP.sz] at hs
 unfold yE
 rw [aHo (by omega) (by omega),qA]
theorem aJc (x:M.Channel) (hs:M.Channel.sz x≤1073741824):yD x=some x:=by
 simp only [M.Channel.sz] at hs
 unfold yD
 rw [aHo (by omega) (by omega),qA]
theorem aJU (x:M.Site) (hs:M.Site.sz x≤1073741824):aA5 x=some x:=by
 simp only [M.Site.sz] at hs
 unfold aA5
 rw [aHo (by omega) (by omega),qA]
theorem aJS (x:M.Server) (hs:M.Server.sz x≤1073741824):aAw x=some x:=by
 simp only [M.Server.sz] at hs
 unfold aAw
 rw [aEI _ (by omega),qA,aHo (by omega) (by omega),qA,aHo (by omega) (by omega),qA]
theorem aF9 (x:M.Machine) (hs:M.Machine.sz x≤1073741824):rN x=some x:=by
 simp only [M.Machine.sz] at hs
 unfold rN
 rw [aHo (by omega) (by omega),qA,aHo (by omega) (by omega),qA]
theorem aI4 (x:M.bJ) (hs:M.bJ.sz x≤1073741824):aAL x=some x:=by
 simp only [M.bJ.sz] at hs
 unfold aAL
 rw [aHo (by omega) (by omega),qA,aF9 _ (by omega),qA]
theorem aIH (x:M.aP) (hs:M.aP.sz x≤1073741824):vZ x=some x:=by
 simp only [M.aP.sz] at hs
 unfold vZ
 rw [aHo (by omega) (by omega),qA]
theorem aGN (x:M.Channel) (hs:M.Channel.sz x≤1073741824):rQ x=some x:=by
 simp only [M.Channel.sz] at hs
 unfold rQ
 rw [aHo (by omega) (by omega),qA]
theorem aJB (x:M.Site) (hs:M.Site.sz x≤1073741824):zT x=some x:=by
 simp only [M.Site.sz] at hs
 unfold zT
 rw [aHo (by omega) (by omega),qA]
theorem aHY (x:M.Server) (hs:M.Server.sz x≤1073741824):tQ x=some x:=by
 simp only [M.Server.sz] at hs
 unfold tQ
 rw [aCo _ (by omega),qA,aHo (by omega) (by omega),qA,aHo (by omega) (by omega),qA]
theorem aIE (x:List M.bJ) (hs:x.length+aF M.bJ.sz x≤1073741824):vW x=some x:=by
 unfold vW
 exact aAW (xs:=x) (b:=144) (L:=iX x) (E:=some) (by omega) (by omega) (fun n r k hk=>by
  have hy:=bO (f:=M.bJ.sz) (qG hk)
  simp only [iX]
  rw [if_pos (aY hk),aM hk,qA,aI4 _ (by omega),qA,bC (by omega)]) (fun n r=>by
  simp only [iX]
  rw [if_neg (by rw [aO];simp)])
theorem aFT (w:M.World) (hs:M.World.sz w≤1073741824):jQ w=some w:=by
 simp only [M.World.sz] at hs
 have e3:hD w w.aC w.Pages w.Locks w.Channel w.Sites fuel 0 ([]:List M.Server)=some w:=aAW (xs:=w.Servers) (b:=96) (L:=hD w w.aC w.Pages w.Locks w.Channel w.Sites) (E:=fun r=>some { w with Servers:=r }) (by omega) (by omega) (fun n r k hk=>by
   have hy:=bO (f:=M.Server.sz) (qG hk)
   simp only [hD]
   rw [if_pos (aY hk),aM hk,qA,aJS _ (by omega),qA,bC (by omega)]) (fun n r=>by
   simp only [hD]
   rw [if_neg (by rw [aO];simp)])
 have e2:hJ w w.aC w.Pages w.Locks w.Channel fuel 0 ([]:List M.Site)=some w:=(aAW (xs:=w.Sites) (b:=56) (L:=hJ w w.aC w.Pages w.Locks w.Channel) (E:=fun r=>hD w w.aC w.Pages w.Locks w.Channel r fuel 0 ([]:List M.Server)) (by omega) (by omega) (fun n r k hk=>by
   have hy:=bO (f:=M.Site.sz) (qG hk)
   simp only [hJ]
   rw [if_pos (aY hk),aM hk,qA,aJU _ (by omega),qA,bC (by omega)]) (fun n r=>by
   simp only [hJ]
   rw [if_neg (by rw [aO];simp)])).trans e3
 have e1:jJ w w.aC fuel 0 ([]:List M.bJ)=some w:=(aAW (xs:=w.Pages) (b:=144) (L:=jJ w w.aC) (E:=fun r=>(yE w.Locks).bind fun x=>(yD w.Channel).bind fun y=>hJ w w.aC r x y fuel 0 ([]:List M.Site)) (by omega) (by omega) (fun n r k hk=>by
   have hy:=bO (f:=M.bJ.sz) (qG hk)
   simp only [jJ]
   rw [if_pos (aY hk),aM hk,qA,aJW _ (by omega),qA,bC (by omega)]) (fun n r=>by
   simp only [jJ]
   rw [if_neg (by rw [aO];simp)])).trans (by rw [aJa _ (by omega),qA,aJc _ (by omega),qA];exact e2)
 unfold jQ
 rw [aDb _ (by omega),qA]
 exact e1
theorem aEX (w:M.World) (hs:M.World.sz w≤1073741824):pH w=some w:=by
 simp only [M.World.sz] at hs
 have e3:fL w w.aC w.Pages w.Locks w.Channel w.Sites fuel 0 ([]:List M.Server)=some w:=aAW (xs:=w.Servers) (b:=96) (L:=fL w w.aC w.Pages w.Locks w.Channel w.Sites) (E:=fun r=>some { w with Servers:=r }) (by omega) (by omega) (fun n r k hk=>by
   have hy:=bO (f:=M.Server.sz) (qG hk)
   simp only [fL]
   rw [if_pos (aY hk),aM hk,qA,aHY _ (by omega),qA,bC (by omega)]) (fun n r=>by
   simp only [fL]
   rw [if_neg (by rw [aO];simp)])
 have e2:gS w w.aC w.Pages w.Locks w.Channel fuel 0 ([]:List M.Site)=some w:=(aAW (xs:=w.Sites) (b:=56) (L:=gS w w.aC w.Pages w.Locks w.Channel) (E:=fun r=>fL w w.aC w.Pages w.Locks w.Channel r fuel 0 ([]:List M.Server)) (by omega) (by omega) (fun n r k hk=>by
   have hy:=bO (f:=M.Site.sz) (qG hk)
   simp only [gS]
   rw [if_pos (aY hk),aM hk,qA,aJB _ (by omega),qA,bC (by omega)]) (fun n r=>by
   simp only [gS]
   rw [if_neg (by rw [aO];simp)])).trans e3
 unfold pH
 rw [aCJ _ (by omega),qA,aIE _ (by omega),qA,aIH _ (by omega),qA,aGN _ (by omega),qA]
 exact e2
theorem aNS {a:ByteArray} (h : ¬aCq a<0) : ∃k:Nat,aCq a=(k:Int)∧k<3:=by
 obtain ⟨k,e,hk⟩:=vC (show ¬yK (fun x:ByteArray=>x.toList==a.toList) sN<0 from h)
 exact ⟨k,e,hk⟩
theorem aLC {w:M.World} (h:aEU w=true):w.Sites.length=3:=by
 unfold aEU at h
 rw [qM] at h
 simpa using h.1
end Go.Proofs.YtidhkhdnjonjfaaGreat.gen
