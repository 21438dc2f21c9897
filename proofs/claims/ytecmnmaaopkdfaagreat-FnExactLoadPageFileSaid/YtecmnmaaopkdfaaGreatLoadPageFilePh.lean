/-
  Helper text. No conditions.
-/
import Derived.Test.YtecmnmaaopkdfaaGreatLoadPageFilePg
namespace Go.Proofs.YtecmnmaaopkdfaaGreat.gen
open Go Go.Sh
set_option linter.unusedVariables false
set_option linter.unusedSimpArgs false
theorem aCy (x : List Int) (hs : x.length ≤ 1073741824) : hU x = some x := by
  unfold hU
  rw [aGC hs (by omega), Option.bind_some]
theorem aHy (x : M.Response) (hs : M.Response.sz x ≤ 1073741824) : pR x = some x := by
  simp only [M.Response.sz] at hs
  unfold pR
  rw [aGC (by omega) (by omega), Option.bind_some]
theorem aDz (x : M.Response) (hs : M.Response.sz x ≤ 1073741824) : iB x = some x := by
  simp only [M.Response.sz] at hs
  unfold iB
  rw [aCy _ (by omega), Option.bind_some]
theorem aHA (x : M.Cache) (hs : M.Cache.sz x ≤ 1073741824) : xM x = some x := by
  have hl : x.Entries.length ≤ 1073741824 := by simp only [M.Cache.sz] at hs; omega
  unfold xM
  exact yG (xs := x.Entries) (L := iT x) (b := 88) (E := fun r => some { x with Entries := r }) hl (by omega) (fun n r k hk => by
    simp only [iT]
    rw [if_pos (bA hk), aN hk, Option.bind_some, aHy _ (by have := cA (f := M.Cached.sz) (List.getElem_mem hk); simp only [M.Cache.sz] at hs; simp only [M.Cached.sz] at this; omega), Option.bind_some, bD (by omega)]) (fun n r => by
    simp only [iT]
    rw [if_neg (by rw [aO]; simp)])
theorem aHp (x : M.aP) (hs : M.aP.sz x ≤ 1073741824) : yM x = some x := by
  have hl : x.Caches.length ≤ 1073741824 := by simp only [M.aP.sz] at hs; omega
  unfold yM
  exact yG (xs := x.Caches) (L := jX x) (b := 32) (E := fun r => some { x with Caches := r }) hl (by omega) (fun n r k hk => by
    simp only [jX]
    rw [if_pos (bA hk), aN hk, Option.bind_some, aHA _ (by have := cA (f := M.Cache.sz) (List.getElem_mem hk); simp only [M.aP.sz] at hs; omega), Option.bind_some, bD (by omega)]) (fun n r => by
    simp only [jX]
    rw [if_neg (by rw [aO]; simp)])
theorem aD7 (x : M.aP) (hs : M.aP.sz x ≤ 1073741824) : mV x = some x := by
  have hl : x.Caches.length ≤ 1073741824 := by simp only [M.aP.sz] at hs; omega
  unfold mV
  exact yG (xs := x.Caches) (L := eA x) (b := 32) (E := fun r => some { x with Caches := r }) hl (by omega) (fun n r k hk => by
    have hz := cA (f := M.Cache.sz) (List.getElem_mem hk)
    simp only [M.aP.sz] at hs
    have hz2 : x.Caches[k].Entries.length + aD M.Cached.sz x.Caches[k].Entries ≤ M.Cache.sz x.Caches[k] := by simp only [M.Cache.sz]; omega
    simp only [eA]
    rw [if_pos (bA hk), aN hk, Option.bind_some, bD (by omega)]
    exact yG (xs := x.Caches[k].Entries) (b := 88) (L := fM x.Caches[k] (fun (v : Int) (q : List M.Cached) => (app 32 r ([(⟨x.Caches[k].Version, q⟩ : M.Cache)])).bind fun _ => (eA x n ((k + 1 : Nat) : Int) (r ++ [(⟨x.Caches[k].Version, q⟩ : M.Cache)])))) (by omega) (by omega) (fun m q j hj => by
      have hy := cA (f := M.Cached.sz) (List.getElem_mem hj)
      simp only [fM]
      rw [if_pos (bA hj), aN hj, Option.bind_some, aDz _ (by simp only [M.Cached.sz] at hy; omega), Option.bind_some, bD (by omega)]) (fun m q => by
      simp only [fM]
      rw [if_neg (by rw [aO]; simp)])) (fun n r => by
    simp only [eA]
    rw [if_neg (by rw [aO]; simp)])
theorem aIc (x : M.aU) (hs : M.aU.sz x ≤ 1073741824) : aBD x = some x := by
  simp only [M.aU.sz] at hs
  unfold aBD
  rw [aGC (by omega) (by omega), Option.bind_some]
theorem aET (x : M.Item) (hs : M.Item.sz x ≤ 1073741824) : yF x = some x := by
  simp only [M.Item.sz] at hs
  unfold yF
  rw [aIc _ (by omega), Option.bind_some]
theorem aCt (x : M.aG) (hs : M.aG.sz x ≤ 1073741824) : sG x = some x := by
  have hl : x.Items.length ≤ 1073741824 := by simp only [M.aG.sz] at hs; omega
  unfold sG
  exact yG (xs := x.Items) (L := lD x) (b := 56) (E := fun r => some { x with Items := r }) hl (by omega) (fun n r k hk => by
    simp only [lD]
    rw [if_pos (bA hk), aN hk, Option.bind_some, aET _ (by have := cA (f := M.Item.sz) (List.getElem_mem hk); simp only [M.aG.sz] at hs; omega), Option.bind_some, bD (by omega)]) (fun n r => by
    simp only [lD]
    rw [if_neg (by rw [aO]; simp)])
theorem aIh (x : M.Database) (hs : M.Database.sz x ≤ 1073741824) : aA8 x = some x := by
  have hl : x.Stores.length ≤ 1073741824 := by simp only [M.Database.sz] at hs; omega
  unfold aA8
  rw [aGC (by simp only [M.Database.sz] at hs; omega) (by omega), Option.bind_some]
  exact yG (xs := x.Stores) (L := lK x) (b := 48) (E := fun r => some { x with Stores := r }) hl (by omega) (fun n r k hk => by
    simp only [lK]
    rw [if_pos (bA hk), aN hk, Option.bind_some, aCt _ (by have := cA (f := M.aG.sz) (List.getElem_mem hk); simp only [M.Database.sz] at hs; omega), Option.bind_some, bD (by omega)]) (fun n r => by
    simp only [lK]
    rw [if_neg (by rw [aO]; simp)])
theorem aHd (x : M.bF) (hs : M.bF.sz x ≤ 1073741824) : zY x = some x := by
  simp only [M.bF.sz] at hs
  unfold zY
  rw [aIh _ (by omega), Option.bind_some, aGC (by omega) (by omega), Option.bind_some]
theorem aHh (x : M.aV) (hs : M.aV.sz x ≤ 1073741824) : aAB x = some x := by
  simp only [M.aV.sz] at hs
  unfold aAB
  rw [aGC (by omega) (by omega), Option.bind_some]
theorem aHr (x : M.Sync) (hs : M.Sync.sz x ≤ 1073741824) : aAE x = some x := by
  simp only [M.Sync.sz] at hs
  unfold aAE
  rw [aHh _ (by omega), Option.bind_some]
theorem aHu (x : M.aC) (hs : M.aC.sz x ≤ 1073741824) : zK x = some x := by
  simp only [M.aC.sz] at hs
  unfold zK
  rw [aCt _ (by omega), Option.bind_some, aHr _ (by omega), Option.bind_some]
theorem aHf (x : M.aE) (hs : M.aE.sz x ≤ 1073741824) : zP x = some x := by
  simp only [M.aE.sz] at hs
  unfold zP
  rw [aHp _ (by omega), Option.bind_some, aHd _ (by omega), Option.bind_some, aHu _ (by omega), Option.bind_some]
theorem aFN (x : M.aU) (hs : M.aU.sz x ≤ 1073741824) : rH x = some x := by
  simp only [M.aU.sz] at hs
  unfold rH
  rw [aGC (by omega) (by omega), Option.bind_some]
theorem aDL (x : M.Item) (hs : M.Item.sz x ≤ 1073741824) : qF x = some x := by
  simp only [M.Item.sz] at hs
  unfold qF
  rw [aFN _ (by omega), Option.bind_some]
theorem aBY (x : M.aG) (hs : M.aG.sz x ≤ 1073741824) : lC x = some x := by
  have hl : x.Items.length ≤ 1073741824 := by simp only [M.aG.sz] at hs; omega
  unfold lC
  exact yG (xs := x.Items) (L := iE x) (b := 56) (E := fun r => some { x with Items := r }) hl (by omega) (fun n r k hk => by
    simp only [iE]
    rw [if_pos (bA hk), aN hk, Option.bind_some, aDL _ (by have := cA (f := M.Item.sz) (List.getElem_mem hk); simp only [M.aG.sz] at hs; omega), Option.bind_some, bD (by omega)]) (fun n r => by
    simp only [iE]
    rw [if_neg (by rw [aO]; simp)])
theorem aD2 (x : M.Database) (hs : M.Database.sz x ≤ 1073741824) : mO x = some x := by
  have hl : x.Stores.length ≤ 1073741824 := by simp only [M.Database.sz] at hs; omega
  unfold mO
  rw [aGC (by simp only [M.Database.sz] at hs; omega) (by omega), Option.bind_some]
  exact yG (xs := x.Stores) (L := fL x) (b := 48) (E := fun r => some { x with Stores := r }) hl (by omega) (fun n r k hk => by
    simp only [fL]
    rw [if_pos (bA hk), aN hk, Option.bind_some, aBY _ (by have := cA (f := M.aG.sz) (List.getElem_mem hk); simp only [M.Database.sz] at hs; omega), Option.bind_some, bD (by omega)]) (fun n r => by
    simp only [fL]
    rw [if_neg (by rw [aO]; simp)])
theorem aHN (x : M.bF) (hs : M.bF.sz x ≤ 1073741824) : wR x = some x := by
  simp only [M.bF.sz] at hs
  unfold wR
  rw [aD2 _ (by omega), Option.bind_some, aCy _ (by omega), Option.bind_some]
theorem aFi (x : M.aV) (hs : M.aV.sz x ≤ 1073741824) : rZ x = some x := by
  simp only [M.aV.sz] at hs
  unfold rZ
  rw [aGC (by omega) (by omega), Option.bind_some]
theorem aGt (x : M.Sync) (hs : M.Sync.sz x ≤ 1073741824) : wO x = some x := by
  simp only [M.Sync.sz] at hs
  unfold wO
  rw [aFi _ (by omega), Option.bind_some]
theorem aEg (x : M.aC) (hs : M.aC.sz x ≤ 1073741824) : pF x = some x := by
  simp only [M.aC.sz] at hs
  unfold pF
  rw [aBY _ (by omega), Option.bind_some, aGt _ (by omega), Option.bind_some]
theorem aFF (x : M.aE) (hs : M.aE.sz x ≤ 1073741824) : qT x = some x := by
  simp only [M.aE.sz] at hs
  unfold qT
  rw [aD7 _ (by omega), Option.bind_some, aHN _ (by omega), Option.bind_some, aEg _ (by omega), Option.bind_some]
theorem aH7 (x : M.aK) (hs : M.aK.sz x ≤ 1073741824) : yU x = some x := by
  have hl : x.Buckets.length ≤ 1073741824 := by simp only [M.aK.sz] at hs; omega
  unfold yU
  exact yG (xs := x.Buckets) (L := jY x) (b := 328) (E := fun r => some { x with Buckets := r }) hl (by omega) (fun n r k hk => by
    simp only [jY]
    rw [if_pos (bA hk), aN hk, Option.bind_some, aHf _ (by have := cA (f := M.aE.sz) (List.getElem_mem hk); simp only [M.aK.sz] at hs; omega), Option.bind_some, bD (by omega)]) (fun n r => by
    simp only [jY]
    rw [if_neg (by rw [aO]; simp)])
theorem aEi (x : M.aK) (hs : M.aK.sz x ≤ 1073741824) : nY x = some x := by
  have hl : x.Buckets.length ≤ 1073741824 := by simp only [M.aK.sz] at hs; omega
  unfold nY
  exact yG (xs := x.Buckets) (L := fZ x) (b := 328) (E := fun r => some { x with Buckets := r }) hl (by omega) (fun n r k hk => by
    simp only [fZ]
    rw [if_pos (bA hk), aN hk, Option.bind_some, aFF _ (by have := cA (f := M.aE.sz) (List.getElem_mem hk); simp only [M.aK.sz] at hs; omega), Option.bind_some, bD (by omega)]) (fun n r => by
    simp only [fZ]
    rw [if_neg (by rw [aO]; simp)])
end Go.Proofs.YtecmnmaaopkdfaaGreat.gen
