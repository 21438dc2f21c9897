/-
  Helper text. No conditions.
-/
import Derived.Test.YtecmnmaaopkdfaaGreatPageSendPg
namespace Go.Proofs.YtecmnmaaopkdfaaGreat.gen
open Go Go.Sh
set_option linter.unusedVariables false
set_option linter.unusedSimpArgs false
theorem aCE (x : List Int) (hs : x.length ≤ 1073741824) : iR x = some x := by
  unfold iR
  rw [aFR hs (by omega), Option.bind_some]
theorem aGr (x : M.Response) (hs : M.Response.sz x ≤ 1073741824) : yQ x = some x := by
  simp only [M.Response.sz] at hs
  unfold yQ
  rw [aFR (by omega) (by omega), Option.bind_some]
theorem aDE (x : M.Response) (hs : M.Response.sz x ≤ 1073741824) : lT x = some x := by
  simp only [M.Response.sz] at hs
  unfold lT
  rw [aCE _ (by omega), Option.bind_some]
theorem aF8 (x : M.Cache) (hs : M.Cache.sz x ≤ 1073741824) : wH x = some x := by
  have hl : x.Entries.length ≤ 1073741824 := by simp only [M.Cache.sz] at hs; omega
  unfold wH
  exact wY (xs := x.Entries) (L := iI x) (b := 88) (E := fun r => some { x with Entries := r }) hl (by omega) (fun n r k hk => by
    simp only [iI]
    rw [if_pos (bA hk), aN hk, Option.bind_some, aGr _ (by have := dB (f := M.Cached.sz) (List.getElem_mem hk); simp only [M.Cache.sz] at hs; simp only [M.Cached.sz] at this; omega), Option.bind_some, bE (by omega)]) (fun n r => by
    simp only [iI]
    rw [if_neg (by rw [aO]; simp)])
theorem aG0 (x : M.aT) (hs : M.aT.sz x ≤ 1073741824) : zB x = some x := by
  have hl : x.Caches.length ≤ 1073741824 := by simp only [M.aT.sz] at hs; omega
  unfold zB
  exact wY (xs := x.Caches) (L := jC x) (b := 32) (E := fun r => some { x with Caches := r }) hl (by omega) (fun n r k hk => by
    simp only [jC]
    rw [if_pos (bA hk), aN hk, Option.bind_some, aF8 _ (by have := dB (f := M.Cache.sz) (List.getElem_mem hk); simp only [M.aT.sz] at hs; omega), Option.bind_some, bE (by omega)]) (fun n r => by
    simp only [jC]
    rw [if_neg (by rw [aO]; simp)])
theorem aDD (x : M.aT) (hs : M.aT.sz x ≤ 1073741824) : mC x = some x := by
  have hl : x.Caches.length ≤ 1073741824 := by simp only [M.aT.sz] at hs; omega
  unfold mC
  exact wY (xs := x.Caches) (L := dY x) (b := 32) (E := fun r => some { x with Caches := r }) hl (by omega) (fun n r k hk => by
    have hz := dB (f := M.Cache.sz) (List.getElem_mem hk)
    simp only [M.aT.sz] at hs
    have hz2 : x.Caches[k].Entries.length + aD M.Cached.sz x.Caches[k].Entries ≤ M.Cache.sz x.Caches[k] := by simp only [M.Cache.sz]; omega
    simp only [dY]
    rw [if_pos (bA hk), aN hk, Option.bind_some, bE (by omega)]
    exact wY (xs := x.Caches[k].Entries) (b := 88) (L := fN x.Caches[k] (fun (v : Int) (q : List M.Cached) => (app 32 r ([(⟨x.Caches[k].Version, q⟩ : M.Cache)])).bind fun _ => (dY x n ((k + 1 : Nat) : Int) (r ++ [(⟨x.Caches[k].Version, q⟩ : M.Cache)])))) (by omega) (by omega) (fun m q j hj => by
      have hy := dB (f := M.Cached.sz) (List.getElem_mem hj)
      simp only [fN]
      rw [if_pos (bA hj), aN hj, Option.bind_some, aDE _ (by simp only [M.Cached.sz] at hy; omega), Option.bind_some, bE (by omega)]) (fun m q => by
      simp only [fN]
      rw [if_neg (by rw [aO]; simp)])) (fun n r => by
    simp only [dY]
    rw [if_neg (by rw [aO]; simp)])
theorem aHf (x : M.aU) (hs : M.aU.sz x ≤ 1073741824) : zY x = some x := by
  simp only [M.aU.sz] at hs
  unfold zY
  rw [aFR (by omega) (by omega), Option.bind_some]
theorem aD1 (x : M.Item) (hs : M.Item.sz x ≤ 1073741824) : wK x = some x := by
  simp only [M.Item.sz] at hs
  unfold wK
  rw [aHf _ (by omega), Option.bind_some]
theorem aBv (x : M.aG) (hs : M.aG.sz x ≤ 1073741824) : qT x = some x := by
  have hl : x.Items.length ≤ 1073741824 := by simp only [M.aG.sz] at hs; omega
  unfold qT
  exact wY (xs := x.Items) (L := kK x) (b := 56) (E := fun r => some { x with Items := r }) hl (by omega) (fun n r k hk => by
    simp only [kK]
    rw [if_pos (bA hk), aN hk, Option.bind_some, aD1 _ (by have := dB (f := M.Item.sz) (List.getElem_mem hk); simp only [M.aG.sz] at hs; omega), Option.bind_some, bE (by omega)]) (fun n r => by
    simp only [kK]
    rw [if_neg (by rw [aO]; simp)])
theorem aHo (x : M.Database) (hs : M.Database.sz x ≤ 1073741824) : aAP x = some x := by
  have hl : x.Stores.length ≤ 1073741824 := by simp only [M.Database.sz] at hs; omega
  unfold aAP
  rw [aFR (by simp only [M.Database.sz] at hs; omega) (by omega), Option.bind_some]
  exact wY (xs := x.Stores) (L := kN x) (b := 48) (E := fun r => some { x with Stores := r }) hl (by omega) (fun n r k hk => by
    simp only [kN]
    rw [if_pos (bA hk), aN hk, Option.bind_some, aBv _ (by have := dB (f := M.aG.sz) (List.getElem_mem hk); simp only [M.Database.sz] at hs; omega), Option.bind_some, bE (by omega)]) (fun n r => by
    simp only [kN]
    rw [if_neg (by rw [aO]; simp)])
theorem aG6 (x : M.bG) (hs : M.bG.sz x ≤ 1073741824) : yH x = some x := by
  simp only [M.bG.sz] at hs
  unfold yH
  rw [aHo _ (by omega), Option.bind_some, aFR (by omega) (by omega), Option.bind_some]
theorem aGj (x : M.aV) (hs : M.aV.sz x ≤ 1073741824) : xZ x = some x := by
  simp only [M.aV.sz] at hs
  unfold xZ
  rw [aFR (by omega) (by omega), Option.bind_some]
theorem aGs (x : M.Sync) (hs : M.Sync.sz x ≤ 1073741824) : yD x = some x := by
  simp only [M.Sync.sz] at hs
  unfold yD
  rw [aGj _ (by omega), Option.bind_some]
theorem aG1 (x : M.aC) (hs : M.aC.sz x ≤ 1073741824) : yP x = some x := by
  simp only [M.aC.sz] at hs
  unfold yP
  rw [aBv _ (by omega), Option.bind_some, aGs _ (by omega), Option.bind_some]
theorem aGq (x : M.aE) (hs : M.aE.sz x ≤ 1073741824) : yF x = some x := by
  simp only [M.aE.sz] at hs
  unfold yF
  rw [aG0 _ (by omega), Option.bind_some, aG6 _ (by omega), Option.bind_some, aG1 _ (by omega), Option.bind_some]
theorem aEi (x : M.aU) (hs : M.aU.sz x ≤ 1073741824) : pR x = some x := by
  simp only [M.aU.sz] at hs
  unfold pR
  rw [aFR (by omega) (by omega), Option.bind_some]
theorem aCT (x : M.Item) (hs : M.Item.sz x ≤ 1073741824) : pU x = some x := by
  simp only [M.Item.sz] at hs
  unfold pU
  rw [aEi _ (by omega), Option.bind_some]
theorem aA3 (x : M.aG) (hs : M.aG.sz x ≤ 1073741824) : kO x = some x := by
  have hl : x.Items.length ≤ 1073741824 := by simp only [M.aG.sz] at hs; omega
  unfold kO
  exact wY (xs := x.Items) (L := hM x) (b := 56) (E := fun r => some { x with Items := r }) hl (by omega) (fun n r k hk => by
    simp only [hM]
    rw [if_pos (bA hk), aN hk, Option.bind_some, aCT _ (by have := dB (f := M.Item.sz) (List.getElem_mem hk); simp only [M.aG.sz] at hs; omega), Option.bind_some, bE (by omega)]) (fun n r => by
    simp only [hM]
    rw [if_neg (by rw [aO]; simp)])
theorem aC8 (x : M.Database) (hs : M.Database.sz x ≤ 1073741824) : lV x = some x := by
  have hl : x.Stores.length ≤ 1073741824 := by simp only [M.Database.sz] at hs; omega
  unfold lV
  rw [aFR (by simp only [M.Database.sz] at hs; omega) (by omega), Option.bind_some]
  exact wY (xs := x.Stores) (L := fL x) (b := 48) (E := fun r => some { x with Stores := r }) hl (by omega) (fun n r k hk => by
    simp only [fL]
    rw [if_pos (bA hk), aN hk, Option.bind_some, aA3 _ (by have := dB (f := M.aG.sz) (List.getElem_mem hk); simp only [M.Database.sz] at hs; omega), Option.bind_some, bE (by omega)]) (fun n r => by
    simp only [fL]
    rw [if_neg (by rw [aO]; simp)])
theorem aGE (x : M.bG) (hs : M.bG.sz x ≤ 1073741824) : vK x = some x := by
  simp only [M.bG.sz] at hs
  unfold vK
  rw [aC8 _ (by omega), Option.bind_some, aCE _ (by omega), Option.bind_some]
theorem aEQ (x : M.aV) (hs : M.aV.sz x ≤ 1073741824) : qL x = some x := by
  simp only [M.aV.sz] at hs
  unfold qL
  rw [aFR (by omega) (by omega), Option.bind_some]
theorem aGC (x : M.Sync) (hs : M.Sync.sz x ≤ 1073741824) : uS x = some x := by
  simp only [M.Sync.sz] at hs
  unfold uS
  rw [aEQ _ (by omega), Option.bind_some]
theorem aDV (x : M.aC) (hs : M.aC.sz x ≤ 1073741824) : nQ x = some x := by
  simp only [M.aC.sz] at hs
  unfold nQ
  rw [aA3 _ (by omega), Option.bind_some, aGC _ (by omega), Option.bind_some]
theorem aEa (x : M.aE) (hs : M.aE.sz x ≤ 1073741824) : oY x = some x := by
  simp only [M.aE.sz] at hs
  unfold oY
  rw [aDD _ (by omega), Option.bind_some, aGE _ (by omega), Option.bind_some, aDV _ (by omega), Option.bind_some]
theorem aGo (x : M.aK) (hs : M.aK.sz x ≤ 1073741824) : xH x = some x := by
  have hl : x.Buckets.length ≤ 1073741824 := by simp only [M.aK.sz] at hs; omega
  unfold xH
  exact wY (xs := x.Buckets) (L := jI x) (b := 328) (E := fun r => some { x with Buckets := r }) hl (by omega) (fun n r k hk => by
    simp only [jI]
    rw [if_pos (bA hk), aN hk, Option.bind_some, aGq _ (by have := dB (f := M.aE.sz) (List.getElem_mem hk); simp only [M.aK.sz] at hs; omega), Option.bind_some, bE (by omega)]) (fun n r => by
    simp only [jI]
    rw [if_neg (by rw [aO]; simp)])
theorem aD8 (x : M.aK) (hs : M.aK.sz x ≤ 1073741824) : nO x = some x := by
  have hl : x.Buckets.length ≤ 1073741824 := by simp only [M.aK.sz] at hs; omega
  unfold nO
  exact wY (xs := x.Buckets) (L := fX x) (b := 328) (E := fun r => some { x with Buckets := r }) hl (by omega) (fun n r k hk => by
    simp only [fX]
    rw [if_pos (bA hk), aN hk, Option.bind_some, aEa _ (by have := dB (f := M.aE.sz) (List.getElem_mem hk); simp only [M.aK.sz] at hs; omega), Option.bind_some, bE (by omega)]) (fun n r => by
    simp only [fX]
    rw [if_neg (by rw [aO]; simp)])
end Go.Proofs.YtecmnmaaopkdfaaGreat.gen
