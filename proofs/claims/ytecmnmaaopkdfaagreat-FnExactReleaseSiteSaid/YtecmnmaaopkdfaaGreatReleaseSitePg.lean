/-
  Helper text. No conditions.
-/
import Derived.Test.YtecmnmaaopkdfaaGreatReleaseSitePf
namespace Go.Proofs.YtecmnmaaopkdfaaGreat.gen
open Go Go.Sh
set_option linter.unusedVariables false
set_option linter.unusedSimpArgs false
def aEq (a : ByteArray) (x : M.aH) : Bool := x.Name.toList == a.toList
theorem aE4 {d : M.Database} {a : ByteArray} (hd : d.ok) : sG d a = some (aBx (aEq a) d.Stores) := by
  have hm := le_max hd.Stores.1
  unfold sG
  rw [findAll (L := gZ d a) (f := aEq a) (A := fun i => some (i : Int)) (E := some (-1)) hd.Stores.1 (fun m k hk => ?_) (fun m => ?_), zE]
  · simp only [gZ]
    rw [if_pos (bA hk), aN hk, Option.bind_some, bE (by omega)]
    rfl
  · simp only [gZ]
    rw [if_neg (by rw [aO]; simp)]
theorem aFB {d : M.Database} {a : ByteArray} (hd : d.ok) : rN d a = some (aBx (aEq a) d.Stores) := by
  unfold rN
  rw [aEf (f := aEq a) hd.Stores.1 (fun x _ => by simp only [nE]; rfl), Option.bind_some]
def zB (a : ByteArray) (x : M.Field) : Bool := x.Name.toList == a.toList
def mZ (r : M.aU) (a : ByteArray) : Int × Bool := match r.Fields.find? (zB a) with | some x => (x.N, true) | none => (0, false)
theorem aDo {r : M.aU} {a : ByteArray} (hm : r.Fields.length ≤ 9223372036854775807) : ∀ (n k : Nat), r.Fields.length - k < n → k ≤ r.Fields.length → jT r a n (k : Int) = some (match (r.Fields.drop k).find? (zB a) with | some x => (x.N, true) | none => (0, false))
  | 0, k, h, _ => by omega
  | n + 1, k, h, hk => by
    simp only [jT]
    rcases Nat.lt_or_ge k r.Fields.length with h1 | h1
    · rw [if_pos (bA h1), aN h1, Option.bind_some, bE (by omega), aDo hm n (k + 1) (by omega) h1, List.drop_eq_getElem_cons h1, List.find?_cons]
      cases e : zB a r.Fields[k] with
      | true => rw [if_pos (show (r.Fields[k].Name.toList == a.toList) = true from e)]
      | false => rw [if_neg (by rw [show (r.Fields[k].Name.toList == a.toList) = false from e]; simp)]
    · have : k = r.Fields.length := by omega
      subst this
      rw [if_neg (by rw [aO]; simp), List.drop_length]
      rfl
theorem uL {r : M.aU} {a : ByteArray} (hr : r.ok) : jI r a = some (mZ r a) := by
  have hm := le_max hr.Fields.1
  have := aDo (a := a) hm fuel 0 (by unfold fuel; omega) (by omega)
  exact this
theorem lZ {r : M.aU} {a : ByteArray} (hr : r.ok) : iB r a = some (mZ r a) := by
  unfold iB aAe mZ
  rw [aEZ (f := zB a) hr.Fields.1 (fun x _ => by simp only [rH]; rfl), Option.bind_some, Option.bind_some]
  by_cases h : aBx (zB a) r.Fields < 0
  · rw [if_pos (by simpa using h)]
    have : r.Fields.find? (zB a) = none := by
      have h2 := aHQ (zB a) r.Fields
      rw [decide_eq_false (by omega)] at h2
      rw [List.find?_eq_none]
      intro x hx hf
      have h3 : r.Fields.any (zB a) = true := List.any_eq_true.2 ⟨x, hx, hf⟩
      rw [← h2] at h3
      cases h3
    rw [this]
  · obtain ⟨k, e, hk⟩ := aD3 h
    rw [if_neg (by simpa using h), e, aN hk, Option.bind_some]
    have e2 : r.Fields.findIdx? (zB a) = some k := by
      unfold aBx at e
      cases e3 : r.Fields.findIdx? (zB a) with
      | none => rw [e3] at e; simp only at e; omega
      | some i => rw [e3] at e; simp only at e; congr 1; omega
    have e4 := List.findIdx?_eq_some_iff_getElem.1 e2
    have : r.Fields.find? (zB a) = some r.Fields[k] := by
      rw [List.find?_eq_some_iff_getElem]
      exact ⟨e4.2.1, k, hk, rfl, fun j hj => by simpa using e4.2.2 j hj⟩
    rw [this]
def aCv (a : ByteArray) (x y : M.Item) : Bool := decide ((mZ x.aU a).1 < (mZ y.aU a).1) || (((mZ x.aU a).1 == (mZ y.aU a).1) && decide (iL x.Key y.Key < 0))
theorem aHU {x y : M.Item} {a : ByteArray} (hx : x.ok) (hy : y.ok) : aAG x y a = some (aCv a x y) := by
  unfold aAG aCv
  simp only [uL hx.aU, uL hy.aU, aBS hx.Key hy.Key, Option.bind_some, bM]
  cases decide ((mZ x.aU a).1 < (mZ y.aU a).1) <;> simp
theorem aDj {x y : M.Item} {a : ByteArray} (hx : x.ok) (hy : y.ok) : nD x y a = some (aCv a x y) := by
  unfold nD aCv
  simp only [lZ hx.aU, lZ hy.aU, aBL hx.Key hy.Key, Option.bind_some, bM]
  cases decide ((mZ x.aU a).1 < (mZ y.aU a).1) <;> simp
end Go.Proofs.YtecmnmaaopkdfaaGreat.gen
