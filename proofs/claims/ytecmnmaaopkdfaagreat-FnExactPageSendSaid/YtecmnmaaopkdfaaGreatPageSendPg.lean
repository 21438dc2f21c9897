/-
  Helper text. No conditions.
-/
import Derived.Test.YtecmnmaaopkdfaaGreatPageSendPf
namespace Go.Proofs.YtecmnmaaopkdfaaGreat.gen
open Go Go.Sh
set_option linter.unusedVariables false
set_option linter.unusedSimpArgs false
def aFA (a : ByteArray) (x : M.aG) : Bool := x.Name.toList == a.toList
theorem aFP {d : M.Database} {a : ByteArray} (hd : d.ok) : tA d a = some (aBO (aFA a) d.Stores) := by
  have hm := le_max hd.Stores.1
  unfold tA
  rw [findAll (L := hT d a) (f := aFA a) (A := fun i => some (i : Int)) (E := some (-1)) hd.Stores.1 (fun m k hk => ?_) (fun m => ?_), xL]
  · simp only [hT]
    rw [if_pos (bA hk), aN hk, Option.bind_some, bE (by omega)]
    rfl
  · simp only [hT]
    rw [if_neg (by rw [aO]; simp)]
theorem aFM {d : M.Database} {a : ByteArray} (hd : d.ok) : sS d a = some (aBO (aFA a) d.Stores) := by
  unfold sS
  rw [aEd (f := aFA a) hd.Stores.1 (fun x _ => by simp only [nM]; rfl), Option.bind_some]
def zN (a : ByteArray) (x : M.Field) : Bool := x.Name.toList == a.toList
def nP (r : M.aU) (a : ByteArray) : Int × Bool := match r.Fields.find? (zN a) with | some x => (x.N, true) | none => (0, false)
theorem aDk {r : M.aU} {a : ByteArray} (hm : r.Fields.length ≤ 9223372036854775807) : ∀ (n k : Nat), r.Fields.length - k < n → k ≤ r.Fields.length → kD r a n (k : Int) = some (match (r.Fields.drop k).find? (zN a) with | some x => (x.N, true) | none => (0, false))
  | 0, k, h, _ => by omega
  | n + 1, k, h, hk => by
    simp only [kD]
    rcases Nat.lt_or_ge k r.Fields.length with h1 | h1
    · rw [if_pos (bA h1), aN h1, Option.bind_some, bE (by omega), aDk hm n (k + 1) (by omega) h1, List.drop_eq_getElem_cons h1, List.find?_cons]
      cases e : zN a r.Fields[k] with
      | true => rw [if_pos (show (r.Fields[k].Name.toList == a.toList) = true from e)]
      | false => rw [if_neg (by rw [show (r.Fields[k].Name.toList == a.toList) = false from e]; simp)]
    · have : k = r.Fields.length := by omega
      subst this
      rw [if_neg (by rw [aO]; simp), List.drop_length]
      rfl
theorem vT {r : M.aU} {a : ByteArray} (hr : r.ok) : jO r a = some (nP r a) := by
  have hm := le_max hr.Fields.1
  have := aDk (a := a) hm fuel 0 (by unfold fuel; omega) (by omega)
  exact this
theorem lR {r : M.aU} {a : ByteArray} (hr : r.ok) : iK r a = some (nP r a) := by
  unfold iK aAr nP
  rw [aER (f := zN a) hr.Fields.1 (fun x _ => by simp only [sR]; rfl), Option.bind_some, Option.bind_some]
  by_cases h : aBO (zN a) r.Fields < 0
  · rw [if_pos (by simpa using h)]
    have : r.Fields.find? (zN a) = none := by
      have h2 := aH6 (zN a) r.Fields
      rw [decide_eq_false (by omega)] at h2
      rw [List.find?_eq_none]
      intro x hx hf
      have h3 : r.Fields.any (zN a) = true := List.any_eq_true.2 ⟨x, hx, hf⟩
      rw [← h2] at h3
      cases h3
    rw [this]
  · obtain ⟨k, e, hk⟩ := aDS h
    rw [if_neg (by simpa using h), e, aN hk, Option.bind_some]
    have e2 : r.Fields.findIdx? (zN a) = some k := by
      unfold aBO at e
      cases e3 : r.Fields.findIdx? (zN a) with
      | none => rw [e3] at e; simp only at e; omega
      | some i => rw [e3] at e; simp only at e; congr 1; omega
    have e4 := List.findIdx?_eq_some_iff_getElem.1 e2
    have : r.Fields.find? (zN a) = some r.Fields[k] := by
      rw [List.find?_eq_some_iff_getElem]
      exact ⟨e4.2.1, k, hk, rfl, fun j hj => by simpa using e4.2.2 j hj⟩
    rw [this]
def aC5 (a : ByteArray) (x y : M.Item) : Bool := decide ((nP x.aU a).1 < (nP y.aU a).1) || (((nP x.aU a).1 == (nP y.aU a).1) && decide (iQ x.Key y.Key < 0))
theorem aH0 {x y : M.Item} {a : ByteArray} (hx : x.ok) (hy : y.ok) : aAJ x y a = some (aC5 a x y) := by
  unfold aAJ aC5
  simp only [vT hx.aU, vT hy.aU, aBZ hx.Key hy.Key, Option.bind_some, bL]
  cases decide ((nP x.aU a).1 < (nP y.aU a).1) <;> simp
theorem aDd {x y : M.Item} {a : ByteArray} (hx : x.ok) (hy : y.ok) : nZ x y a = some (aC5 a x y) := by
  unfold nZ aC5
  simp only [lR hx.aU, lR hy.aU, aBY hx.Key hy.Key, Option.bind_some, bL]
  cases decide ((nP x.aU a).1 < (nP y.aU a).1) <;> simp
end Go.Proofs.YtecmnmaaopkdfaaGreat.gen
