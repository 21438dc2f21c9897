/-
  Helper text. No conditions.
-/
import Derived.Test.YtecmnmaaopkdfaaGreatLoadPageFilePf
namespace Go.Proofs.YtecmnmaaopkdfaaGreat.gen
open Go Go.Sh
set_option linter.unusedVariables false
set_option linter.unusedSimpArgs false
def aF2 (a : ByteArray) (x : M.aG) : Bool := x.Name.toList == a.toList
theorem aGI {d : M.Database} {a : ByteArray} (hd : d.ok) : tH d a = some (aBa (aF2 a) d.Stores) := by
  have hm := le_max hd.Stores.1
  unfold tH
  rw [findAll (L := iF d a) (f := aF2 a) (A := fun i => some (i : Int)) (E := some (-1)) hd.Stores.1 (fun m k hk => ?_) (fun m => ?_), mT]
  · simp only [iF]
    rw [if_pos (bA hk), aN hk, Option.bind_some, bD (by omega)]
    rfl
  · simp only [iF]
    rw [if_neg (by rw [aO]; simp)]
theorem aGL {d : M.Database} {a : ByteArray} (hd : d.ok) : uZ d a = some (aBa (aF2 a) d.Stores) := by
  unfold uZ
  rw [aFk (f := aF2 a) hd.Stores.1 (fun x _ => by simp only [nX]; rfl), Option.bind_some]
def aAs (a : ByteArray) (x : M.Field) : Bool := x.Name.toList == a.toList
def pC (r : M.aU) (a : ByteArray) : Int × Bool := match r.Fields.find? (aAs a) with | some x => (x.N, true) | none => (0, false)
theorem aFC {r : M.aU} {a : ByteArray} (hm : r.Fields.length ≤ 9223372036854775807) : ∀ (n k : Nat), r.Fields.length - k < n → k ≤ r.Fields.length → kK r a n (k : Int) = some (match (r.Fields.drop k).find? (aAs a) with | some x => (x.N, true) | none => (0, false))
  | 0, k, h, _ => by omega
  | n + 1, k, h, hk => by
    simp only [kK]
    rcases Nat.lt_or_ge k r.Fields.length with h1 | h1
    · rw [if_pos (bA h1), aN h1, Option.bind_some, bD (by omega), aFC hm n (k + 1) (by omega) h1, List.drop_eq_getElem_cons h1, List.find?_cons]
      cases e : aAs a r.Fields[k] with
      | true => rw [if_pos (show (r.Fields[k].Name.toList == a.toList) = true from e)]
      | false => rw [if_neg (by rw [show (r.Fields[k].Name.toList == a.toList) = false from e]; simp)]
    · have : k = r.Fields.length := by omega
      subst this
      rw [if_neg (by rw [aO]; simp), List.drop_length]
      rfl
theorem wK {r : M.aU} {a : ByteArray} (hr : r.ok) : kI r a = some (pC r a) := by
  have hm := le_max hr.Fields.1
  have := aFC (a := a) hm fuel 0 (by unfold fuel; omega) (by omega)
  exact this
theorem mU {r : M.aU} {a : ByteArray} (hr : r.ok) : iY r a = some (pC r a) := by
  unfold iY aBQ pC
  rw [aFH (f := aAs a) hr.Fields.1 (fun x _ => by simp only [uY]; rfl), Option.bind_some, Option.bind_some]
  by_cases h : aBa (aAs a) r.Fields < 0
  · rw [if_pos (by simpa using h)]
    have : r.Fields.find? (aAs a) = none := by
      have h2 := aGd (aAs a) r.Fields
      rw [decide_eq_false (by omega)] at h2
      rw [List.find?_eq_none]
      intro x hx hf
      have h3 : r.Fields.any (aAs a) = true := List.any_eq_true.2 ⟨x, hx, hf⟩
      rw [← h2] at h3
      cases h3
    rw [this]
  · obtain ⟨k, e, hk⟩ := aBo h
    rw [if_neg (by simpa using h), e, aN hk, Option.bind_some]
    have e2 : r.Fields.findIdx? (aAs a) = some k := by
      unfold aBa at e
      cases e3 : r.Fields.findIdx? (aAs a) with
      | none => rw [e3] at e; simp only at e; omega
      | some i => rw [e3] at e; simp only at e; congr 1; omega
    have e4 := List.findIdx?_eq_some_iff_getElem.1 e2
    have : r.Fields.find? (aAs a) = some r.Fields[k] := by
      rw [List.find?_eq_some_iff_getElem]
      exact ⟨e4.2.1, k, hk, rfl, fun j hj => by simpa using e4.2.2 j hj⟩
    rw [this]
def aD9 (a : ByteArray) (x y : M.Item) : Bool := decide ((pC x.aU a).1 < (pC y.aU a).1) || (((pC x.aU a).1 == (pC y.aU a).1) && decide (jE x.Key y.Key < 0))
theorem aIx {x y : M.Item} {a : ByteArray} (hx : x.ok) (hy : y.ok) : aAa x y a = some (aD9 a x y) := by
  unfold aAa aD9
  simp only [wK hx.aU, wK hy.aU, aCC hx.Key hy.Key, Option.bind_some, bM]
  cases decide ((pC x.aU a).1 < (pC y.aU a).1) <;> simp
theorem aE9 {x y : M.Item} {a : ByteArray} (hx : x.ok) (hy : y.ok) : oF x y a = some (aD9 a x y) := by
  unfold oF aD9
  simp only [mU hx.aU, mU hy.aU, aCE hx.Key hy.Key, Option.bind_some, bM]
  cases decide ((pC x.aU a).1 < (pC y.aU a).1) <;> simp
end Go.Proofs.YtecmnmaaopkdfaaGreat.gen
