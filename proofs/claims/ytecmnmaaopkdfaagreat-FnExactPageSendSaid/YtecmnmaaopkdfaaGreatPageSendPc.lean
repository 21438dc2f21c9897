/-
  Helper text. No conditions.
-/
import Derived.Test.YtecmnmaaopkdfaaGreatPageSendPb
namespace Go.Proofs.YtecmnmaaopkdfaaGreat.gen
open Go Go.Sh
set_option linter.unusedVariables false
set_option linter.unusedSimpArgs false
theorem aDU {p : M.aE → Option Bool} {f : M.aE → Bool} {xs : List M.aE} (hx : xs.length ≤ maxLen) (hp : ∀ x ∈ xs, p x = some (f x)) : gY xs p = some (aBO f xs) := by
  have hm := le_max hx
  unfold gY
  rw [findAll (L := bQ xs p) (f := f) (A := fun i => some (i : Int)) (E := some (-1)) hx (fun n k hk => by
    simp only [bQ]
    rw [if_pos (bA hk), aN hk, Option.bind_some, hp _ (List.getElem_mem hk), Option.bind_some, bE (by omega)]) (fun n => by
    simp only [bQ]
    rw [if_neg (by rw [aO]; simp)]), xL]
theorem aCG {p : M.bF → Option Bool} {f : M.bF → Bool} {xs : List M.bF} (hx : xs.length ≤ maxLen) (hp : ∀ x ∈ xs, p x = some (f x)) : fB xs p = some (aBO f xs) := by
  have hm := le_max hx
  unfold fB
  rw [findAll (L := bY xs p) (f := f) (A := fun i => some (i : Int)) (E := some (-1)) hx (fun n k hk => by
    simp only [bY]
    rw [if_pos (bA hk), aN hk, Option.bind_some, hp _ (List.getElem_mem hk), Option.bind_some, bE (by omega)]) (fun n => by
    simp only [bY]
    rw [if_neg (by rw [aO]; simp)]), xL]
theorem aDr {p : M.Cached → Option Bool} {f : M.Cached → Bool} {xs : List M.Cached} (hx : xs.length ≤ maxLen) (hp : ∀ x ∈ xs, p x = some (f x)) : gZ xs p = some (aBO f xs) := by
  have hm := le_max hx
  unfold gZ
  rw [findAll (L := bP xs p) (f := f) (A := fun i => some (i : Int)) (E := some (-1)) hx (fun n k hk => by
    simp only [bP]
    rw [if_pos (bA hk), aN hk, Option.bind_some, hp _ (List.getElem_mem hk), Option.bind_some, bE (by omega)]) (fun n => by
    simp only [bP]
    rw [if_neg (by rw [aO]; simp)]), xL]
theorem aEd {p : M.aG → Option Bool} {f : M.aG → Bool} {xs : List M.aG} (hx : xs.length ≤ maxLen) (hp : ∀ x ∈ xs, p x = some (f x)) : iF xs p = some (aBO f xs) := by
  have hm := le_max hx
  unfold iF
  rw [findAll (L := bU xs p) (f := f) (A := fun i => some (i : Int)) (E := some (-1)) hx (fun n k hk => by
    simp only [bU]
    rw [if_pos (bA hk), aN hk, Option.bind_some, hp _ (List.getElem_mem hk), Option.bind_some, bE (by omega)]) (fun n => by
    simp only [bU]
    rw [if_neg (by rw [aO]; simp)]), xL]
theorem aER {p : M.Field → Option Bool} {f : M.Field → Bool} {xs : List M.Field} (hx : xs.length ≤ maxLen) (hp : ∀ x ∈ xs, p x = some (f x)) : iB xs p = some (aBO f xs) := by
  have hm := le_max hx
  unfold iB
  rw [findAll (L := bV xs p) (f := f) (A := fun i => some (i : Int)) (E := some (-1)) hx (fun n k hk => by
    simp only [bV]
    rw [if_pos (bA hk), aN hk, Option.bind_some, hp _ (List.getElem_mem hk), Option.bind_some, bE (by omega)]) (fun n => by
    simp only [bV]
    rw [if_neg (by rw [aO]; simp)]), xL]
def nAt (a b : ByteArray) (x : M.aE) : Bool := (x.Site.toList == a.toList) && (x.Top.toList == b.toList)
theorem aEq {s : M.aK} {a b : ByteArray} (hs : s.ok) : lH s a b = some (aBO (nAt a b) s.Buckets) := by
  have hm := le_max hs.Buckets.1
  unfold lH
  rw [findAll (L := fF s a b) (f := nAt a b) (A := fun i => some (i : Int)) (E := some (-1)) hs.Buckets.1 (fun m k hk => ?_) (fun m => ?_), xL]
  · simp only [fF]
    rw [if_pos (bA hk), aN hk, Option.bind_some, bE (by omega), aMz]
    rfl
  · simp only [fF]
    rw [if_neg (by rw [aO]; simp)]
theorem aES {s : M.aK} {a b : ByteArray} (hs : s.ok) : lM s a b = some (aBO (nAt a b) s.Buckets) := by
  unfold lM
  rw [aDU (f := nAt a b) hs.Buckets.1 (fun x _ => by simp only [lY, bL]; rfl), Option.bind_some]
end Go.Proofs.YtecmnmaaopkdfaaGreat.gen
