/-
  Helper text. No conditions.
-/
import Derived.Test.YtecmnmaaopkdfaaGreatLoadPageFilePb
namespace Go.Proofs.YtecmnmaaopkdfaaGreat.gen
open Go Go.Sh
set_option linter.unusedVariables false
set_option linter.unusedSimpArgs false
theorem aE2 {p : M.aE → Option Bool} {f : M.aE → Bool} {xs : List M.aE} (hx : xs.length ≤ maxLen) (hp : ∀ x ∈ xs, p x = some (f x)) : hP xs p = some (aBa f xs) := by
  have hm := le_max hx
  unfold hP
  rw [findAll (L := bR xs p) (f := f) (A := fun i => some (i : Int)) (E := some (-1)) hx (fun n k hk => by
    simp only [bR]
    rw [if_pos (bA hk), aN hk, Option.bind_some, hp _ (List.getElem_mem hk), Option.bind_some, bD (by omega)]) (fun n => by
    simp only [bR]
    rw [if_neg (by rw [aO]; simp)]), mT]
theorem aGR {p : M.bG → Option Bool} {f : M.bG → Bool} {xs : List M.bG} (hx : xs.length ≤ maxLen) (hp : ∀ x ∈ xs, p x = some (f x)) : iV xs p = some (aBa f xs) := by
  have hm := le_max hx
  unfold iV
  rw [findAll (L := cE xs p) (f := f) (A := fun i => some (i : Int)) (E := some (-1)) hx (fun n k hk => by
    simp only [cE]
    rw [if_pos (bA hk), aN hk, Option.bind_some, hp _ (List.getElem_mem hk), Option.bind_some, bD (by omega)]) (fun n => by
    simp only [cE]
    rw [if_neg (by rw [aO]; simp)]), mT]
theorem aFD {p : M.Cache → Option Bool} {f : M.Cache → Bool} {xs : List M.Cache} (hx : xs.length ≤ maxLen) (hp : ∀ x ∈ xs, p x = some (f x)) : iQ xs p = some (aBa f xs) := by
  have hm := le_max hx
  unfold iQ
  rw [findAll (L := bX xs p) (f := f) (A := fun i => some (i : Int)) (E := some (-1)) hx (fun n k hk => by
    simp only [bX]
    rw [if_pos (bA hk), aN hk, Option.bind_some, hp _ (List.getElem_mem hk), Option.bind_some, bD (by omega)]) (fun n => by
    simp only [bX]
    rw [if_neg (by rw [aO]; simp)]), mT]
theorem aCA {p : M.Cached → Option Bool} {f : M.Cached → Bool} {xs : List M.Cached} (hx : xs.length ≤ maxLen) (hp : ∀ x ∈ xs, p x = some (f x)) : hM xs p = some (aBa f xs) := by
  have hm := le_max hx
  unfold hM
  rw [findAll (L := bQ xs p) (f := f) (A := fun i => some (i : Int)) (E := some (-1)) hx (fun n k hk => by
    simp only [bQ]
    rw [if_pos (bA hk), aN hk, Option.bind_some, hp _ (List.getElem_mem hk), Option.bind_some, bD (by omega)]) (fun n => by
    simp only [bQ]
    rw [if_neg (by rw [aO]; simp)]), mT]
theorem aFk {p : M.aG → Option Bool} {f : M.aG → Bool} {xs : List M.aG} (hx : xs.length ≤ maxLen) (hp : ∀ x ∈ xs, p x = some (f x)) : iN xs p = some (aBa f xs) := by
  have hm := le_max hx
  unfold iN
  rw [findAll (L := bZ xs p) (f := f) (A := fun i => some (i : Int)) (E := some (-1)) hx (fun n k hk => by
    simp only [bZ]
    rw [if_pos (bA hk), aN hk, Option.bind_some, hp _ (List.getElem_mem hk), Option.bind_some, bD (by omega)]) (fun n => by
    simp only [bZ]
    rw [if_neg (by rw [aO]; simp)]), mT]
theorem aFH {p : M.Field → Option Bool} {f : M.Field → Bool} {xs : List M.Field} (hx : xs.length ≤ maxLen) (hp : ∀ x ∈ xs, p x = some (f x)) : iK xs p = some (aBa f xs) := by
  have hm := le_max hx
  unfold iK
  rw [findAll (L := bW xs p) (f := f) (A := fun i => some (i : Int)) (E := some (-1)) hx (fun n k hk => by
    simp only [bW]
    rw [if_pos (bA hk), aN hk, Option.bind_some, hp _ (List.getElem_mem hk), Option.bind_some, bD (by omega)]) (fun n => by
    simp only [bW]
    rw [if_neg (by rw [aO]; simp)]), mT]
def nAt (a b : ByteArray) (x : M.aE) : Bool := (x.Site.toList == a.toList) && (x.Top.toList == b.toList)
theorem aCU {s : M.aK} {a b : ByteArray} (hs : s.ok) : jL s a b = some (aBa (nAt a b) s.Buckets) := by
  have hm := le_max hs.Buckets.1
  unfold jL
  rw [findAll (L := fJ s a b) (f := nAt a b) (A := fun i => some (i : Int)) (E := some (-1)) hs.Buckets.1 (fun m k hk => ?_) (fun m => ?_), mT]
  · simp only [fJ]
    rw [if_pos (bA hk), aN hk, Option.bind_some, bD (by omega), aN2]
    rfl
  · simp only [fJ]
    rw [if_neg (by rw [aO]; simp)]
theorem aCQ {s : M.aK} {a b : ByteArray} (hs : s.ok) : jI s a b = some (aBa (nAt a b) s.Buckets) := by
  unfold jI
  rw [aE2 (f := nAt a b) hs.Buckets.1 (fun x _ => by simp only [mY, bM]; rfl), Option.bind_some]
end Go.Proofs.YtecmnmaaopkdfaaGreat.gen
