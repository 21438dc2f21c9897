/-
  Helper text. No conditions.
-/
import Derived.Test.YtidhkhdnjonjfaaGreatReadNotePg
set_option linter.unusedVariables false
set_option linter.unusedSimpArgs false
namespace Go.Proofs.YtidhkhdnjonjfaaGreat.gen
open Go Go.Sh
theorem sJ (x:M.aA) (hs:M.aA.sz x≤1073741824):bK x=some x:=by
 simp only [M.aA.sz] at hs
 unfold bK
 rw [aKx (by omega) (by omega),qA]
theorem aAQ (x:M.Item) (hs:M.Item.sz x≤1073741824):mY x=some x:=by
 simp only [M.Item.sz] at hs
 unfold mY
 rw [sJ _ (by omega),qA]
theorem wO (x:M.aC) (hs:M.aC.sz x≤1073741824):eB x=some x:=by
 have hl:x.Items.length≤1073741824:=by simp only [M.aC.sz] at hs;omega
 unfold eB
 exact aEP (xs:=x.Items) (L:=iP x) (b:=56) (E:=fun r=>some { x with Items:=r }) hl (by omega) (fun n r k hk=>by
  simp only [iP]
  rw [if_pos (bD hk),aF hk,qA,aAQ _ (by have:=eP (f:=M.Item.sz) (qG hk);simp only [M.aC.sz] at hs;omega),qA,bR (by omega)]) (fun n r=>by
  simp only [iP]
  rw [if_neg (by rw [aJ];simp)])
theorem yM (x:M.Database) (hs:M.Database.sz x≤1073741824):gU x=some x:=by
 have hl:x.Stores.length≤1073741824:=by simp only [M.Database.sz] at hs;omega
 unfold gU
 rw [aKx (by simp only [M.Database.sz] at hs;omega) (by omega),qA]
 exact aEP (xs:=x.Stores) (L:=iQ x) (b:=48) (E:=fun r=>some { x with Stores:=r }) hl (by omega) (fun n r k hk=>by
  simp only [iQ]
  rw [if_pos (bD hk),aF hk,qA,wO _ (by have:=eP (f:=M.aC.sz) (qG hk);simp only [M.Database.sz] at hs;omega),qA,bR (by omega)]) (fun n r=>by
  simp only [iQ]
  rw [if_neg (by rw [aJ];simp)])
theorem jL (x:M.aA) (hs:M.aA.sz x≤1073741824):aZ x=some x:=by
 simp only [M.aA.sz] at hs
 unfold aZ
 rw [aKx (by omega) (by omega),qA]
theorem aAi (x:M.Item) (hs:M.Item.sz x≤1073741824):mK x=some x:=by
 simp only [M.Item.sz] at hs
 unfold mK
 rw [jL _ (by omega),qA]
theorem kE (x:M.aC) (hs:M.aC.sz x≤1073741824):aP x=some x:=by
 have hl:x.Items.length≤1073741824:=by simp only [M.aC.sz] at hs;omega
 unfold aP
 exact aEP (xs:=x.Items) (L:=eS x) (b:=56) (E:=fun r=>some { x with Items:=r }) hl (by omega) (fun n r k hk=>by
  simp only [eS]
  rw [if_pos (bD hk),aF hk,qA,aAi _ (by have:=eP (f:=M.Item.sz) (qG hk);simp only [M.aC.sz] at hs;omega),qA,bR (by omega)]) (fun n r=>by
  simp only [eS]
  rw [if_neg (by rw [aJ];simp)])
theorem mV (x:M.Database) (hs:M.Database.sz x≤1073741824):cK x=some x:=by
 have hl:x.Stores.length≤1073741824:=by simp only [M.Database.sz] at hs;omega
 unfold cK
 rw [aKx (by simp only [M.Database.sz] at hs;omega) (by omega),qA]
 exact aEP (xs:=x.Stores) (L:=dL x) (b:=48) (E:=fun r=>some { x with Stores:=r }) hl (by omega) (fun n r k hk=>by
  simp only [dL]
  rw [if_pos (bD hk),aF hk,qA,kE _ (by have:=eP (f:=M.aC.sz) (qG hk);simp only [M.Database.sz] at hs;omega),qA,bR (by omega)]) (fun n r=>by
  simp only [dL]
  rw [if_neg (by rw [aJ];simp)])
end Go.Proofs.YtidhkhdnjonjfaaGreat.gen
