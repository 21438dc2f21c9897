/-
  Helper text. No conditions.
-/
import Derived.Test.YtecmnmaaopkdfaaGreatReleaseSitePg
namespace Go.Proofs.YtecmnmaaopkdfaaGreat.gen
open Go Go.Sh
set_option linter.unusedVariables false
set_option linter.unusedSimpArgs false
theorem aB8 (x : List Int) (hs : x.length ≤ 1073741824) : iK x = some x := by
  unfold iK
  rw [aFM hs (by omega), Option.bind_some]
theorem aGT (x : M.Response) (hs : M.Response.sz x ≤ 1073741824) : xX x = some x := by
  simp only [M.Response.sz] at hs
  unfold xX
  rw [aFM (by omega) (by omega), Option.bind_some]
theorem aDD (x : M.Response) (hs : M.Response.sz x ≤ 1073741824) : lW x = some x := by
  simp only [M.Response.sz] at hs
  unfold lW
  rw [aB8 _ (by omega), Option.bind_some]
theorem aGL (x : M.Cache) (hs : M.Cache.sz x ≤ 1073741824) : uS x = some x := by
  have hl : x.Entries.length ≤ 1073741824 := by simp only [M.Cache.sz] at hs; omega
  unfold uS
  exact wM (xs := x.Entries) (L := iA x) (b := 88) (E := fun r => some { x with Entries := r }) hl (by omega) (fun n r k hk => by
    simp only [iA]
    rw [if_pos (bA hk), aN hk, Option.bind_some, aGT _ (by have := cO (f := M.Cached.sz) (List.getElem_mem hk); simp only [M.Cache.sz] at hs; simp only [M.Cached.sz] at this; omega), Option.bind_some, bE (by omega)]) (fun n r => by
    simp only [iA]
    rw [if_neg (by rw [aO]; simp)])
theorem aGY (x : M.aT) (hs : M.aT.sz x ≤ 1073741824) : wX x = some x := by
  have hl : x.Caches.length ≤ 1073741824 := by simp only [M.aT.sz] at hs; omega
  unfold wX
  exact wM (xs := x.Caches) (L := iR x) (b := 32) (E := fun r => some { x with Caches := r }) hl (by omega) (fun n r k hk => by
    simp only [iR]
    rw [if_pos (bA hk), aN hk, Option.bind_some, aGL _ (by have := cO (f := M.Cache.sz) (List.getElem_mem hk); simp only [M.aT.sz] at hs; omega), Option.bind_some, bE (by omega)]) (fun n r => by
    simp only [iR]
    rw [if_neg (by rw [aO]; simp)])
theorem aDG (x : M.aT) (hs : M.aT.sz x ≤ 1073741824) : lU x = some x := by
  have hl : x.Caches.length ≤ 1073741824 := by simp only [M.aT.sz] at hs; omega
  unfold lU
  exact wM (xs := x.Caches) (L := dS x) (b := 32) (E := fun r => some { x with Caches := r }) hl (by omega) (fun n r k hk => by
    have hz := cO (f := M.Cache.sz) (List.getElem_mem hk)
    simp only [M.aT.sz] at hs
    have hz2 : x.Caches[k].Entries.length + aD M.Cached.sz x.Caches[k].Entries ≤ M.Cache.sz x.Caches[k] := by simp only [M.Cache.sz]; omega
    simp only [dS]
    rw [if_pos (bA hk), aN hk, Option.bind_some, bE (by omega)]
    exact wM (xs := x.Caches[k].Entries) (b := 88) (L := fE x.Caches[k] (fun (v : Int) (q : List M.Cached) => (app 32 r ([(⟨x.Caches[k].Version, q⟩ : M.Cache)])).bind fun _ => (dS x n ((k + 1 : Nat) : Int) (r ++ [(⟨x.Caches[k].Version, q⟩ : M.Cache)])))) (by omega) (by omega) (fun m q j hj => by
      have hy := cO (f := M.Cached.sz) (List.getElem_mem hj)
      simp only [fE]
      rw [if_pos (bA hj), aN hj, Option.bind_some, aDD _ (by simp only [M.Cached.sz] at hy; omega), Option.bind_some, bE (by omega)]) (fun m q => by
      simp only [fE]
      rw [if_neg (by rw [aO]; simp)])) (fun n r => by
    simp only [dS]
    rw [if_neg (by rw [aO]; simp)])
theorem aHi (x : M.aU) (hs : M.aU.sz x ≤ 1073741824) : zV x = some x := by
  simp only [M.aU.sz] at hs
  unfold zV
  rw [aFM (by omega) (by omega), Option.bind_some]
theorem aDV (x : M.Item) (hs : M.Item.sz x ≤ 1073741824) : wG x = some x := by
  simp only [M.Item.sz] at hs
  unfold wG
  rw [aHi _ (by omega), Option.bind_some]
theorem aBt (x : M.aH) (hs : M.aH.sz x ≤ 1073741824) : qN x = some x := by
  have hl : x.Items.length ≤ 1073741824 := by simp only [M.aH.sz] at hs; omega
  unfold qN
  exact wM (xs := x.Items) (L := kE x) (b := 56) (E := fun r => some { x with Items := r }) hl (by omega) (fun n r k hk => by
    simp only [kE]
    rw [if_pos (bA hk), aN hk, Option.bind_some, aDV _ (by have := cO (f := M.Item.sz) (List.getElem_mem hk); simp only [M.aH.sz] at hs; omega), Option.bind_some, bE (by omega)]) (fun n r => by
    simp only [kE]
    rw [if_neg (by rw [aO]; simp)])
theorem aHj (x : M.Database) (hs : M.Database.sz x ≤ 1073741824) : zM x = some x := by
  have hl : x.Stores.length ≤ 1073741824 := by simp only [M.Database.sz] at hs; omega
  unfold zM
  rw [aFM (by simp only [M.Database.sz] at hs; omega) (by omega), Option.bind_some]
  exact wM (xs := x.Stores) (L := kD x) (b := 48) (E := fun r => some { x with Stores := r }) hl (by omega) (fun n r k hk => by
    simp only [kD]
    rw [if_pos (bA hk), aN hk, Option.bind_some, aBt _ (by have := cO (f := M.aH.sz) (List.getElem_mem hk); simp only [M.Database.sz] at hs; omega), Option.bind_some, bE (by omega)]) (fun n r => by
    simp only [kD]
    rw [if_neg (by rw [aO]; simp)])
theorem aGd (x : M.bC) (hs : M.bC.sz x ≤ 1073741824) : xP x = some x := by
  simp only [M.bC.sz] at hs
  unfold xP
  rw [aHj _ (by omega), Option.bind_some, aFM (by omega) (by omega), Option.bind_some]
theorem aGk (x : M.aV) (hs : M.aV.sz x ≤ 1073741824) : xU x = some x := by
  simp only [M.aV.sz] at hs
  unfold xU
  rw [aFM (by omega) (by omega), Option.bind_some]
theorem aGe (x : M.Sync) (hs : M.Sync.sz x ≤ 1073741824) : yD x = some x := by
  simp only [M.Sync.sz] at hs
  unfold yD
  rw [aGk _ (by omega), Option.bind_some]
theorem aGb (x : M.aC) (hs : M.aC.sz x ≤ 1073741824) : xE x = some x := by
  simp only [M.aC.sz] at hs
  unfold xE
  rw [aBt _ (by omega), Option.bind_some, aGe _ (by omega), Option.bind_some]
theorem aGO (x : M.aE) (hs : M.aE.sz x ≤ 1073741824) : yE x = some x := by
  simp only [M.aE.sz] at hs
  unfold yE
  rw [aGY _ (by omega), Option.bind_some, aGd _ (by omega), Option.bind_some, aGb _ (by omega), Option.bind_some]
theorem aEX (x : M.aU) (hs : M.aU.sz x ≤ 1073741824) : pE x = some x := by
  simp only [M.aU.sz] at hs
  unfold pE
  rw [aFM (by omega) (by omega), Option.bind_some]
theorem aCL (x : M.Item) (hs : M.Item.sz x ≤ 1073741824) : pG x = some x := by
  simp only [M.Item.sz] at hs
  unfold pG
  rw [aEX _ (by omega), Option.bind_some]
theorem aAq (x : M.aH) (hs : M.aH.sz x ≤ 1073741824) : kI x = some x := by
  have hl : x.Items.length ≤ 1073741824 := by simp only [M.aH.sz] at hs; omega
  unfold kI
  exact wM (xs := x.Items) (L := gW x) (b := 56) (E := fun r => some { x with Items := r }) hl (by omega) (fun n r k hk => by
    simp only [gW]
    rw [if_pos (bA hk), aN hk, Option.bind_some, aCL _ (by have := cO (f := M.Item.sz) (List.getElem_mem hk); simp only [M.aH.sz] at hs; omega), Option.bind_some, bE (by omega)]) (fun n r => by
    simp only [gW]
    rw [if_neg (by rw [aO]; simp)])
theorem aC4 (x : M.Database) (hs : M.Database.sz x ≤ 1073741824) : mA x = some x := by
  have hl : x.Stores.length ≤ 1073741824 := by simp only [M.Database.sz] at hs; omega
  unfold mA
  rw [aFM (by simp only [M.Database.sz] at hs; omega) (by omega), Option.bind_some]
  exact wM (xs := x.Stores) (L := fH x) (b := 48) (E := fun r => some { x with Stores := r }) hl (by omega) (fun n r k hk => by
    simp only [fH]
    rw [if_pos (bA hk), aN hk, Option.bind_some, aAq _ (by have := cO (f := M.aH.sz) (List.getElem_mem hk); simp only [M.Database.sz] at hs; omega), Option.bind_some, bE (by omega)]) (fun n r => by
    simp only [fH]
    rw [if_neg (by rw [aO]; simp)])
theorem aGM (x : M.bC) (hs : M.bC.sz x ≤ 1073741824) : vN x = some x := by
  simp only [M.bC.sz] at hs
  unfold vN
  rw [aC4 _ (by omega), Option.bind_some, aB8 _ (by omega), Option.bind_some]
theorem aEB (x : M.aV) (hs : M.aV.sz x ≤ 1073741824) : oV x = some x := by
  simp only [M.aV.sz] at hs
  unfold oV
  rw [aFM (by omega) (by omega), Option.bind_some]
theorem aFd (x : M.Sync) (hs : M.Sync.sz x ≤ 1073741824) : uQ x = some x := by
  simp only [M.Sync.sz] at hs
  unfold uQ
  rw [aEB _ (by omega), Option.bind_some]
theorem aDc (x : M.aC) (hs : M.aC.sz x ≤ 1073741824) : nY x = some x := by
  simp only [M.aC.sz] at hs
  unfold nY
  rw [aAq _ (by omega), Option.bind_some, aFd _ (by omega), Option.bind_some]
theorem aEG (x : M.aE) (hs : M.aE.sz x ≤ 1073741824) : pD x = some x := by
  simp only [M.aE.sz] at hs
  unfold pD
  rw [aDG _ (by omega), Option.bind_some, aGM _ (by omega), Option.bind_some, aDc _ (by omega), Option.bind_some]
theorem aGa (x : M.aK) (hs : M.aK.sz x ≤ 1073741824) : yL x = some x := by
  have hl : x.Buckets.length ≤ 1073741824 := by simp only [M.aK.sz] at hs; omega
  unfold yL
  exact wM (xs := x.Buckets) (L := jA x) (b := 328) (E := fun r => some { x with Buckets := r }) hl (by omega) (fun n r k hk => by
    simp only [jA]
    rw [if_pos (bA hk), aN hk, Option.bind_some, aGO _ (by have := cO (f := M.aE.sz) (List.getElem_mem hk); simp only [M.aK.sz] at hs; omega), Option.bind_some, bE (by omega)]) (fun n r => by
    simp only [jA]
    rw [if_neg (by rw [aO]; simp)])
theorem aD6 (x : M.aK) (hs : M.aK.sz x ≤ 1073741824) : mT x = some x := by
  have hl : x.Buckets.length ≤ 1073741824 := by simp only [M.aK.sz] at hs; omega
  unfold mT
  exact wM (xs := x.Buckets) (L := fR x) (b := 328) (E := fun r => some { x with Buckets := r }) hl (by omega) (fun n r k hk => by
    simp only [fR]
    rw [if_pos (bA hk), aN hk, Option.bind_some, aEG _ (by have := cO (f := M.aE.sz) (List.getElem_mem hk); simp only [M.aK.sz] at hs; omega), Option.bind_some, bE (by omega)]) (fun n r => by
    simp only [fR]
    rw [if_neg (by rw [aO]; simp)])
end Go.Proofs.YtecmnmaaopkdfaaGreat.gen
