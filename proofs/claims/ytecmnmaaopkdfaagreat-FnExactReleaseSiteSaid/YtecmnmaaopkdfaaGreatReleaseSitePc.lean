/-
  Helper text. No conditions.
-/
import Derived.Test.YtecmnmaaopkdfaaGreatReleaseSitePb
namespace Go.Proofs.YtecmnmaaopkdfaaGreat.gen
open Go Go.Sh
set_option linter.unusedVariables false
set_option linter.unusedSimpArgs false
theorem aD4 {p : M.aE → Option Bool} {f : M.aE → Bool} {xs : List M.aE} (hx : xs.length ≤ maxLen) (hp : ∀ x ∈ xs, p x = some (f x)) : gT xs p = some (aBx f xs) := by
  have hm := le_max hx
  unfold gT
  rw [findAll (L := bP xs p) (f := f) (A := fun i => some (i : Int)) (E := some (-1)) hx (fun n k hk => by
    simp only [bP]
    rw [if_pos (bA hk), aN hk, Option.bind_some, hp _ (List.getElem_mem hk), Option.bind_some, bE (by omega)]) (fun n => by
    simp only [bP]
    rw [if_neg (by rw [aO]; simp)]), zE]
theorem aDH {p : M.Cached → Option Bool} {f : M.Cached → Bool} {xs : List M.Cached} (hx : xs.length ≤ maxLen) (hp : ∀ x ∈ xs, p x = some (f x)) : gS xs p = some (aBx f xs) := by
  have hm := le_max hx
  unfold gS
  rw [findAll (L := bQ xs p) (f := f) (A := fun i => some (i : Int)) (E := some (-1)) hx (fun n k hk => by
    simp only [bQ]
    rw [if_pos (bA hk), aN hk, Option.bind_some, hp _ (List.getElem_mem hk), Option.bind_some, bE (by omega)]) (fun n => by
    simp only [bQ]
    rw [if_neg (by rw [aO]; simp)]), zE]
theorem aEf {p : M.aH → Option Bool} {f : M.aH → Bool} {xs : List M.aH} (hx : xs.length ≤ maxLen) (hp : ∀ x ∈ xs, p x = some (f x)) : hT xs p = some (aBx f xs) := by
  have hm := le_max hx
  unfold hT
  rw [findAll (L := bT xs p) (f := f) (A := fun i => some (i : Int)) (E := some (-1)) hx (fun n k hk => by
    simp only [bT]
    rw [if_pos (bA hk), aN hk, Option.bind_some, hp _ (List.getElem_mem hk), Option.bind_some, bE (by omega)]) (fun n => by
    simp only [bT]
    rw [if_neg (by rw [aO]; simp)]), zE]
theorem aEZ {p : M.Field → Option Bool} {f : M.Field → Bool} {xs : List M.Field} (hx : xs.length ≤ maxLen) (hp : ∀ x ∈ xs, p x = some (f x)) : hU xs p = some (aBx f xs) := by
  have hm := le_max hx
  unfold hU
  rw [findAll (L := bU xs p) (f := f) (A := fun i => some (i : Int)) (E := some (-1)) hx (fun n k hk => by
    simp only [bU]
    rw [if_pos (bA hk), aN hk, Option.bind_some, hp _ (List.getElem_mem hk), Option.bind_some, bE (by omega)]) (fun n => by
    simp only [bU]
    rw [if_neg (by rw [aO]; simp)]), zE]
def nAt (a b : ByteArray) (x : M.aE) : Bool := (x.Site.toList == a.toList) && (x.Top.toList == b.toList)
theorem aEP {s : M.aK} {a b : ByteArray} (hs : s.ok) : lG s a b = some (aBx (nAt a b) s.Buckets) := by
  have hm := le_max hs.Buckets.1
  unfold lG
  rw [findAll (L := fD s a b) (f := nAt a b) (A := fun i => some (i : Int)) (E := some (-1)) hs.Buckets.1 (fun m k hk => ?_) (fun m => ?_), zE]
  · simp only [fD]
    rw [if_pos (bA hk), aN hk, Option.bind_some, bE (by omega), aMg]
    rfl
  · simp only [fD]
    rw [if_neg (by rw [aO]; simp)]
theorem aEF {s : M.aK} {a b : ByteArray} (hs : s.ok) : lJ s a b = some (aBx (nAt a b) s.Buckets) := by
  unfold lJ
  rw [aD4 (f := nAt a b) hs.Buckets.1 (fun x _ => by simp only [lQ, bM]; rfl), Option.bind_some]
end Go.Proofs.YtecmnmaaopkdfaaGreat.gen
