/-
  Helper text. No conditions.
-/
import Derived.Test.YtecmnmaaopkdfaaGreatPageLockPb
namespace Go.Proofs.YtecmnmaaopkdfaaGreat.gen
open Go Go.Sh
set_option linter.unusedVariables false
set_option linter.unusedSimpArgs false
theorem aDV {p : M.aE → Option Bool} {f : M.aE → Bool} {xs : List M.aE} (hx : xs.length ≤ maxLen) (hp : ∀ x ∈ xs, p x = some (f x)) : gW xs p = some (aBo f xs) := by
  have hm := le_max hx
  unfold gW
  rw [findAll (L := bQ xs p) (f := f) (A := fun i => some (i : Int)) (E := some (-1)) hx (fun n k hk => by
    simp only [bQ]
    rw [if_pos (bA hk), aO hk, Option.bind_some, hp _ (List.getElem_mem hk), Option.bind_some, bD (by omega)]) (fun n => by
    simp only [bQ]
    rw [if_neg (by rw [aP]; simp)]), wD]
theorem aFK {p : M.bG → Option Bool} {f : M.bG → Bool} {xs : List M.bG} (hx : xs.length ≤ maxLen) (hp : ∀ x ∈ xs, p x = some (f x)) : iK xs p = some (aBo f xs) := by
  have hm := le_max hx
  unfold iK
  rw [findAll (L := cA xs p) (f := f) (A := fun i => some (i : Int)) (E := some (-1)) hx (fun n k hk => by
    simp only [cA]
    rw [if_pos (bA hk), aO hk, Option.bind_some, hp _ (List.getElem_mem hk), Option.bind_some, bD (by omega)]) (fun n => by
    simp only [cA]
    rw [if_neg (by rw [aP]; simp)]), wD]
theorem aDo {p : M.Cached → Option Bool} {f : M.Cached → Bool} {xs : List M.Cached} (hx : xs.length ≤ maxLen) (hp : ∀ x ∈ xs, p x = some (f x)) : gX xs p = some (aBo f xs) := by
  have hm := le_max hx
  unfold gX
  rw [findAll (L := bR xs p) (f := f) (A := fun i => some (i : Int)) (E := some (-1)) hx (fun n k hk => by
    simp only [bR]
    rw [if_pos (bA hk), aO hk, Option.bind_some, hp _ (List.getElem_mem hk), Option.bind_some, bD (by omega)]) (fun n => by
    simp only [bR]
    rw [if_neg (by rw [aP]; simp)]), wD]
theorem aEq {p : M.aH → Option Bool} {f : M.aH → Bool} {xs : List M.aH} (hx : xs.length ≤ maxLen) (hp : ∀ x ∈ xs, p x = some (f x)) : hT xs p = some (aBo f xs) := by
  have hm := le_max hx
  unfold hT
  rw [findAll (L := bW xs p) (f := f) (A := fun i => some (i : Int)) (E := some (-1)) hx (fun n k hk => by
    simp only [bW]
    rw [if_pos (bA hk), aO hk, Option.bind_some, hp _ (List.getElem_mem hk), Option.bind_some, bD (by omega)]) (fun n => by
    simp only [bW]
    rw [if_neg (by rw [aP]; simp)]), wD]
theorem aEv {p : M.Field → Option Bool} {f : M.Field → Bool} {xs : List M.Field} (hx : xs.length ≤ maxLen) (hp : ∀ x ∈ xs, p x = some (f x)) : iA xs p = some (aBo f xs) := by
  have hm := le_max hx
  unfold iA
  rw [findAll (L := bV xs p) (f := f) (A := fun i => some (i : Int)) (E := some (-1)) hx (fun n k hk => by
    simp only [bV]
    rw [if_pos (bA hk), aO hk, Option.bind_some, hp _ (List.getElem_mem hk), Option.bind_some, bD (by omega)]) (fun n => by
    simp only [bV]
    rw [if_neg (by rw [aP]; simp)]), wD]
theorem aFf {p : M.bK → Option Bool} {f : M.bK → Bool} {xs : List M.bK} (hx : xs.length ≤ maxLen) (hp : ∀ x ∈ xs, p x = some (f x)) : iL xs p = some (aBo f xs) := by
  have hm := le_max hx
  unfold iL
  rw [findAll (L := bZ xs p) (f := f) (A := fun i => some (i : Int)) (E := some (-1)) hx (fun n k hk => by
    simp only [bZ]
    rw [if_pos (bA hk), aO hk, Option.bind_some, hp _ (List.getElem_mem hk), Option.bind_some, bD (by omega)]) (fun n => by
    simp only [bZ]
    rw [if_neg (by rw [aP]; simp)]), wD]
theorem aDB {p : M.bK → Option Bool} {f : M.bK → Bool} {xs : List M.bK} (hx : xs.length ≤ maxLen) (hp : ∀ x ∈ xs, p x = some (f x)) : gM xs p = some (xs.any f) := by
  unfold gM
  rw [aFf hx hp, Option.bind_some, aFu]
def nAt (a b : ByteArray) (x : M.aE) : Bool := (x.Site.toList == a.toList) && (x.Top.toList == b.toList)
theorem aEV {s : M.aM} {a b : ByteArray} (hs : s.ok) : lE s a b = some (aBo (nAt a b) s.Buckets) := by
  have hm := le_max hs.Buckets.1
  unfold lE
  rw [findAll (L := fG s a b) (f := nAt a b) (A := fun i => some (i : Int)) (E := some (-1)) hs.Buckets.1 (fun m k hk => ?_) (fun m => ?_), wD]
  · simp only [fG]
    rw [if_pos (bA hk), aO hk, Option.bind_some, bD (by omega), aMz]
    rfl
  · simp only [fG]
    rw [if_neg (by rw [aP]; simp)]
theorem aEw {s : M.aM} {a b : ByteArray} (hs : s.ok) : lM s a b = some (aBo (nAt a b) s.Buckets) := by
  unfold lM
  rw [aDV (f := nAt a b) hs.Buckets.1 (fun x _ => by simp only [mE, bN]; rfl), Option.bind_some]
end Go.Proofs.YtecmnmaaopkdfaaGreat.gen
