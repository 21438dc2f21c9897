/-
  Helper text. No conditions.
-/
import Derived.Test.YtecmnmaaopkdfaaGreatPageLockPg
namespace Go.Proofs.YtecmnmaaopkdfaaGreat.gen
open Go Go.Sh
set_option linter.unusedVariables false
set_option linter.unusedSimpArgs false
theorem aCM (x : List Int) (hs : x.length ≤ 1073741824) : iT x = some x := by
  unfold iT
  rw [aFY hs (by omega), Option.bind_some]
theorem aG2 (x : M.Response) (hs : M.Response.sz x ≤ 1073741824) : xK x = some x := by
  simp only [M.Response.sz] at hs
  unfold xK
  rw [aFY (by omega) (by omega), Option.bind_some]
theorem aDD (x : M.Response) (hs : M.Response.sz x ≤ 1073741824) : mC x = some x := by
  simp only [M.Response.sz] at hs
  unfold mC
  rw [aCM _ (by omega), Option.bind_some]
theorem aF0 (x : M.Cache) (hs : M.Cache.sz x ≤ 1073741824) : wE x = some x := by
  have hl : x.Entries.length ≤ 1073741824 := by simp only [M.Cache.sz] at hs; omega
  unfold wE
  exact wZ (xs := x.Entries) (L := iE x) (b := 88) (E := fun r => some { x with Entries := r }) hl (by omega) (fun n r k hk => by
    simp only [iE]
    rw [if_pos (bA hk), aO hk, Option.bind_some, aG2 _ (by have := cQ (f := M.Cached.sz) (List.getElem_mem hk); simp only [M.Cache.sz] at hs; simp only [M.Cached.sz] at this; omega), Option.bind_some, bD (by omega)]) (fun n r => by
    simp only [iE]
    rw [if_neg (by rw [aP]; simp)])
theorem aG4 (x : M.aT) (hs : M.aT.sz x ≤ 1073741824) : xO x = some x := by
  have hl : x.Caches.length ≤ 1073741824 := by simp only [M.aT.sz] at hs; omega
  unfold xO
  exact wZ (xs := x.Caches) (L := jJ x) (b := 32) (E := fun r => some { x with Caches := r }) hl (by omega) (fun n r k hk => by
    simp only [jJ]
    rw [if_pos (bA hk), aO hk, Option.bind_some, aF0 _ (by have := cQ (f := M.Cache.sz) (List.getElem_mem hk); simp only [M.aT.sz] at hs; omega), Option.bind_some, bD (by omega)]) (fun n r => by
    simp only [jJ]
    rw [if_neg (by rw [aP]; simp)])
theorem aDI (x : M.aT) (hs : M.aT.sz x ≤ 1073741824) : lW x = some x := by
  have hl : x.Caches.length ≤ 1073741824 := by simp only [M.aT.sz] at hs; omega
  unfold lW
  exact wZ (xs := x.Caches) (L := dW x) (b := 32) (E := fun r => some { x with Caches := r }) hl (by omega) (fun n r k hk => by
    have hz := cQ (f := M.Cache.sz) (List.getElem_mem hk)
    simp only [M.aT.sz] at hs
    have hz2 : x.Caches[k].Entries.length + aD M.Cached.sz x.Caches[k].Entries ≤ M.Cache.sz x.Caches[k] := by simp only [M.Cache.sz]; omega
    simp only [dW]
    rw [if_pos (bA hk), aO hk, Option.bind_some, bD (by omega)]
    exact wZ (xs := x.Caches[k].Entries) (b := 88) (L := fN x.Caches[k] (fun (v : Int) (q : List M.Cached) => (app 32 r ([(⟨x.Caches[k].Version, q⟩ : M.Cache)])).bind fun _ => (dW x n ((k + 1 : Nat) : Int) (r ++ [(⟨x.Caches[k].Version, q⟩ : M.Cache)])))) (by omega) (by omega) (fun m q j hj => by
      have hy := cQ (f := M.Cached.sz) (List.getElem_mem hj)
      simp only [fN]
      rw [if_pos (bA hj), aO hj, Option.bind_some, aDD _ (by simp only [M.Cached.sz] at hy; omega), Option.bind_some, bD (by omega)]) (fun m q => by
      simp only [fN]
      rw [if_neg (by rw [aP]; simp)])) (fun n r => by
    simp only [dW]
    rw [if_neg (by rw [aP]; simp)])
theorem aHw (x : M.aU) (hs : M.aU.sz x ≤ 1073741824) : aAO x = some x := by
  simp only [M.aU.sz] at hs
  unfold aAO
  rw [aFY (by omega) (by omega), Option.bind_some]
theorem aD2 (x : M.Item) (hs : M.Item.sz x ≤ 1073741824) : wL x = some x := by
  simp only [M.Item.sz] at hs
  unfold wL
  rw [aHw _ (by omega), Option.bind_some]
theorem aB4 (x : M.aH) (hs : M.aH.sz x ≤ 1073741824) : rG x = some x := by
  have hl : x.Items.length ≤ 1073741824 := by simp only [M.aH.sz] at hs; omega
  unfold rG
  exact wZ (xs := x.Items) (L := kS x) (b := 56) (E := fun r => some { x with Items := r }) hl (by omega) (fun n r k hk => by
    simp only [kS]
    rw [if_pos (bA hk), aO hk, Option.bind_some, aD2 _ (by have := cQ (f := M.Item.sz) (List.getElem_mem hk); simp only [M.aH.sz] at hs; omega), Option.bind_some, bD (by omega)]) (fun n r => by
    simp only [kS]
    rw [if_neg (by rw [aP]; simp)])
theorem aHg (x : M.Database) (hs : M.Database.sz x ≤ 1073741824) : aAR x = some x := by
  have hl : x.Stores.length ≤ 1073741824 := by simp only [M.Database.sz] at hs; omega
  unfold aAR
  rw [aFY (by simp only [M.Database.sz] at hs; omega) (by omega), Option.bind_some]
  exact wZ (xs := x.Stores) (L := kP x) (b := 48) (E := fun r => some { x with Stores := r }) hl (by omega) (fun n r k hk => by
    simp only [kP]
    rw [if_pos (bA hk), aO hk, Option.bind_some, aB4 _ (by have := cQ (f := M.aH.sz) (List.getElem_mem hk); simp only [M.Database.sz] at hs; omega), Option.bind_some, bD (by omega)]) (fun n r => by
    simp only [kP]
    rw [if_neg (by rw [aP]; simp)])
theorem aGs (x : M.bE) (hs : M.bE.sz x ≤ 1073741824) : yQ x = some x := by
  simp only [M.bE.sz] at hs
  unfold yQ
  rw [aHg _ (by omega), Option.bind_some, aFY (by omega) (by omega), Option.bind_some]
theorem aG0 (x : M.aV) (hs : M.aV.sz x ≤ 1073741824) : yE x = some x := by
  simp only [M.aV.sz] at hs
  unfold yE
  rw [aFY (by omega) (by omega), Option.bind_some]
theorem aGm (x : M.Sync) (hs : M.Sync.sz x ≤ 1073741824) : xZ x = some x := by
  simp only [M.Sync.sz] at hs
  unfold xZ
  rw [aG0 _ (by omega), Option.bind_some]
theorem aGl (x : M.aC) (hs : M.aC.sz x ≤ 1073741824) : yU x = some x := by
  simp only [M.aC.sz] at hs
  unfold yU
  rw [aB4 _ (by omega), Option.bind_some, aGm _ (by omega), Option.bind_some]
theorem aGt (x : M.aE) (hs : M.aE.sz x ≤ 1073741824) : xE x = some x := by
  simp only [M.aE.sz] at hs
  unfold xE
  rw [aG4 _ (by omega), Option.bind_some, aGs _ (by omega), Option.bind_some, aGl _ (by omega), Option.bind_some]
theorem aET (x : M.aU) (hs : M.aU.sz x ≤ 1073741824) : qS x = some x := by
  simp only [M.aU.sz] at hs
  unfold qS
  rw [aFY (by omega) (by omega), Option.bind_some]
theorem aCR (x : M.Item) (hs : M.Item.sz x ≤ 1073741824) : pB x = some x := by
  simp only [M.Item.sz] at hs
  unfold pB
  rw [aET _ (by omega), Option.bind_some]
theorem aBA (x : M.aH) (hs : M.aH.sz x ≤ 1073741824) : kN x = some x := by
  have hl : x.Items.length ≤ 1073741824 := by simp only [M.aH.sz] at hs; omega
  unfold kN
  exact wZ (xs := x.Items) (L := hH x) (b := 56) (E := fun r => some { x with Items := r }) hl (by omega) (fun n r k hk => by
    simp only [hH]
    rw [if_pos (bA hk), aO hk, Option.bind_some, aCR _ (by have := cQ (f := M.Item.sz) (List.getElem_mem hk); simp only [M.aH.sz] at hs; omega), Option.bind_some, bD (by omega)]) (fun n r => by
    simp only [hH]
    rw [if_neg (by rw [aP]; simp)])
theorem aDJ (x : M.Database) (hs : M.Database.sz x ≤ 1073741824) : mD x = some x := by
  have hl : x.Stores.length ≤ 1073741824 := by simp only [M.Database.sz] at hs; omega
  unfold mD
  rw [aFY (by simp only [M.Database.sz] at hs; omega) (by omega), Option.bind_some]
  exact wZ (xs := x.Stores) (L := fH x) (b := 48) (E := fun r => some { x with Stores := r }) hl (by omega) (fun n r k hk => by
    simp only [fH]
    rw [if_pos (bA hk), aO hk, Option.bind_some, aBA _ (by have := cQ (f := M.aH.sz) (List.getElem_mem hk); simp only [M.Database.sz] at hs; omega), Option.bind_some, bD (by omega)]) (fun n r => by
    simp only [fH]
    rw [if_neg (by rw [aP]; simp)])
theorem aGT (x : M.bE) (hs : M.bE.sz x ≤ 1073741824) : wH x = some x := by
  simp only [M.bE.sz] at hs
  unfold wH
  rw [aDJ _ (by omega), Option.bind_some, aCM _ (by omega), Option.bind_some]
theorem aEX (x : M.aV) (hs : M.aV.sz x ≤ 1073741824) : pL x = some x := by
  simp only [M.aV.sz] at hs
  unfold pL
  rw [aFY (by omega) (by omega), Option.bind_some]
theorem aF7 (x : M.Sync) (hs : M.Sync.sz x ≤ 1073741824) : uZ x = some x := by
  simp only [M.Sync.sz] at hs
  unfold uZ
  rw [aEX _ (by omega), Option.bind_some]
theorem aEK (x : M.aC) (hs : M.aC.sz x ≤ 1073741824) : nB x = some x := by
  simp only [M.aC.sz] at hs
  unfold nB
  rw [aBA _ (by omega), Option.bind_some, aF7 _ (by omega), Option.bind_some]
theorem aEP (x : M.aE) (hs : M.aE.sz x ≤ 1073741824) : qJ x = some x := by
  simp only [M.aE.sz] at hs
  unfold qJ
  rw [aDI _ (by omega), Option.bind_some, aGT _ (by omega), Option.bind_some, aEK _ (by omega), Option.bind_some]
theorem aGi (x : M.aM) (hs : M.aM.sz x ≤ 1073741824) : xC x = some x := by
  have hl : x.Buckets.length ≤ 1073741824 := by simp only [M.aM.sz] at hs; omega
  unfold xC
  exact wZ (xs := x.Buckets) (L := jE x) (b := 328) (E := fun r => some { x with Buckets := r }) hl (by omega) (fun n r k hk => by
    simp only [jE]
    rw [if_pos (bA hk), aO hk, Option.bind_some, aGt _ (by have := cQ (f := M.aE.sz) (List.getElem_mem hk); simp only [M.aM.sz] at hs; omega), Option.bind_some, bD (by omega)]) (fun n r => by
    simp only [jE]
    rw [if_neg (by rw [aP]; simp)])
theorem aDk (x : M.aM) (hs : M.aM.sz x ≤ 1073741824) : nE x = some x := by
  have hl : x.Buckets.length ≤ 1073741824 := by simp only [M.aM.sz] at hs; omega
  unfold nE
  exact wZ (xs := x.Buckets) (L := fV x) (b := 328) (E := fun r => some { x with Buckets := r }) hl (by omega) (fun n r k hk => by
    simp only [fV]
    rw [if_pos (bA hk), aO hk, Option.bind_some, aEP _ (by have := cQ (f := M.aE.sz) (List.getElem_mem hk); simp only [M.aM.sz] at hs; omega), Option.bind_some, bD (by omega)]) (fun n r => by
    simp only [fV]
    rw [if_neg (by rw [aP]; simp)])
end Go.Proofs.YtecmnmaaopkdfaaGreat.gen
