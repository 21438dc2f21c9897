/-
  Helper text. No conditions.
-/
import Derived.Test.YtecmnmaaopkdfaaGreatPageLockPf
namespace Go.Proofs.YtecmnmaaopkdfaaGreat.gen
open Go Go.Sh
set_option linter.unusedVariables false
set_option linter.unusedSimpArgs false
def aE8 (a : ByteArray) (x : M.aH) : Bool := x.Name.toList == a.toList
theorem aFU {d : M.Database} {a : ByteArray} (hd : d.ok) : rR d a = some (aBo (aE8 a) d.Stores) := by
  have hm := le_max hd.Stores.1
  unfold rR
  rw [findAll (L := hD d a) (f := aE8 a) (A := fun i => some (i : Int)) (E := some (-1)) hd.Stores.1 (fun m k hk => ?_) (fun m => ?_), wD]
  · simp only [hD]
    rw [if_pos (bA hk), aO hk, Option.bind_some, bD (by omega)]
    rfl
  · simp only [hD]
    rw [if_neg (by rw [aP]; simp)]
theorem aFa {d : M.Database} {a : ByteArray} (hd : d.ok) : sM d a = some (aBo (aE8 a) d.Stores) := by
  unfold sM
  rw [aEq (f := aE8 a) hd.Stores.1 (fun x _ => by simp only [nS]; rfl), Option.bind_some]
def aAh (a : ByteArray) (x : M.Field) : Bool := x.Name.toList == a.toList
def nL (r : M.aU) (a : ByteArray) : Int × Bool := match r.Fields.find? (aAh a) with | some x => (x.N, true) | none => (0, false)
theorem aEJ {r : M.aU} {a : ByteArray} (hm : r.Fields.length ≤ 9223372036854775807) : ∀ (n k : Nat), r.Fields.length - k < n → k ≤ r.Fields.length → kJ r a n (k : Int) = some (match (r.Fields.drop k).find? (aAh a) with | some x => (x.N, true) | none => (0, false))
  | 0, k, h, _ => by omega
  | n + 1, k, h, hk => by
    simp only [kJ]
    rcases Nat.lt_or_ge k r.Fields.length with h1 | h1
    · rw [if_pos (bA h1), aO h1, Option.bind_some, bD (by omega), aEJ hm n (k + 1) (by omega) h1, List.drop_eq_getElem_cons h1, List.find?_cons]
      cases e : aAh a r.Fields[k] with
      | true => rw [if_pos (show (r.Fields[k].Name.toList == a.toList) = true from e)]
      | false => rw [if_neg (by rw [show (r.Fields[k].Name.toList == a.toList) = false from e]; simp)]
    · have : k = r.Fields.length := by omega
      subst this
      rw [if_neg (by rw [aP]; simp), List.drop_length]
      rfl
theorem uN {r : M.aU} {a : ByteArray} (hr : r.ok) : jQ r a = some (nL r a) := by
  have hm := le_max hr.Fields.1
  have := aEJ (a := a) hm fuel 0 (by unfold fuel; omega) (by omega)
  exact this
theorem lZ {r : M.aU} {a : ByteArray} (hr : r.ok) : iF r a = some (nL r a) := by
  unfold iF aAw nL
  rw [aEv (f := aAh a) hr.Fields.1 (fun x _ => by simp only [sL]; rfl), Option.bind_some, Option.bind_some]
  by_cases h : aBo (aAh a) r.Fields < 0
  · rw [if_pos (by simpa using h)]
    have : r.Fields.find? (aAh a) = none := by
      have h2 := aFu (aAh a) r.Fields
      rw [decide_eq_false (by omega)] at h2
      rw [List.find?_eq_none]
      intro x hx hf
      have h3 : r.Fields.any (aAh a) = true := List.any_eq_true.2 ⟨x, hx, hf⟩
      rw [← h2] at h3
      cases h3
    rw [this]
  · obtain ⟨k, e, hk⟩ := aDZ h
    rw [if_neg (by simpa using h), e, aO hk, Option.bind_some]
    have e2 : r.Fields.findIdx? (aAh a) = some k := by
      unfold aBo at e
      cases e3 : r.Fields.findIdx? (aAh a) with
      | none => rw [e3] at e; simp only at e; omega
      | some i => rw [e3] at e; simp only at e; congr 1; omega
    have e4 := List.findIdx?_eq_some_iff_getElem.1 e2
    have : r.Fields.find? (aAh a) = some r.Fields[k] := by
      rw [List.find?_eq_some_iff_getElem]
      exact ⟨e4.2.1, k, hk, rfl, fun j hj => by simpa using e4.2.2 j hj⟩
    rw [this]
def aDN (a : ByteArray) (x y : M.Item) : Bool := decide ((nL x.aU a).1 < (nL y.aU a).1) || (((nL x.aU a).1 == (nL y.aU a).1) && decide (iU x.Key y.Key < 0))
theorem aHa {x y : M.Item} {a : ByteArray} (hx : x.ok) (hy : y.ok) : aAW x y a = some (aDN a x y) := by
  unfold aAW aDN
  simp only [uN hx.aU, uN hy.aU, aBe hx.Key hy.Key, Option.bind_some, bN]
  cases decide ((nL x.aU a).1 < (nL y.aU a).1) <;> simp
theorem aDl {x y : M.Item} {a : ByteArray} (hx : x.ok) (hy : y.ok) : nF x y a = some (aDN a x y) := by
  unfold nF aDN
  simp only [lZ hx.aU, lZ hy.aU, aBb hx.Key hy.Key, Option.bind_some, bN]
  cases decide ((nL x.aU a).1 < (nL y.aU a).1) <;> simp
end Go.Proofs.YtecmnmaaopkdfaaGreat.gen
