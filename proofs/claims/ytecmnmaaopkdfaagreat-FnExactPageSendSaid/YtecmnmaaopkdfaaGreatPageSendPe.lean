/-
  Helper text. No conditions.
-/
import Derived.Test.YtecmnmaaopkdfaaGreatPageSendPd
namespace Go.Proofs.YtecmnmaaopkdfaaGreat.gen
open Go Go.Sh
set_option linter.unusedVariables false
set_option linter.unusedSimpArgs false
theorem aHA {α : Type} {f : α → Bool} {xs : List α} {k : Nat} (hk : k < xs.length) (hf : f xs[k] = true) : (aBO f xs == (k : Int)) = (List.range k).all (fun j => !((xs[j]?).any f)) := by
  rw [Bool.eq_iff_iff]
  simp only [beq_iff_eq, List.all_eq_true, List.mem_range]
  constructor
  · intro h j hj
    unfold aBO at h
    cases e : xs.findIdx? f with
    | none => rw [e] at h; simp only at h; omega
    | some i =>
      rw [e] at h
      simp only at h
      have : i = k := by omega
      subst this
      have := (List.findIdx?_eq_some_iff_getElem.1 e).2.2 j hj
      rw [List.getElem?_eq_getElem (by omega)]
      simpa using this
  · intro h
    have e : xs.findIdx? f = some k := List.findIdx?_eq_some_iff_getElem.2 ⟨hk, hf, fun j hj => by
      have := h j hj
      rw [List.getElem?_eq_getElem (by omega)] at this
      simpa using this⟩
    unfold aBO
    rw [e]
def aCS (a b : ByteArray) (x : M.Cached) : Bool := (x.Site.toList == a.toList) && (x.Path.toList == b.toList)
theorem aCd {c : M.Cache} {a b : ByteArray} (hc : c.ok) : tW c a b = some (aBO (aCS a b) c.Entries) := by
  unfold tW
  rw [aDr (f := aCS a b) hc.Entries.1 (fun x _ => by simp only [rN, bL]; rfl), Option.bind_some]
def aDJ (r : M.Response) : Bool := inR r.Type_ 1 4 && (inR r.Status 0 999 && (inR r.Version 0 1000000000000 && decide ((List.length r.Body : Int) ≤ 60)))
theorem aEr (r : M.Response) : qG r = some (aDJ r) := by
  unfold qG aDJ
  simp only [dC, Option.bind_some, bL]
theorem aBn (r : M.Response) : lB r = some (aDJ r) := by
  unfold lB aDJ
  simp only [bO, Option.bind_some, bL]
def aL9 (l : List M.Cached) (k : Nat) (x : M.Cached) : Bool := (List.range k).all fun j => !((l[j]?).any (aCS x.Site x.Path))
def aBE (l : List M.Cached) (k : Nat) : Bool := (l[k]?).any fun x => oO x.Site && (oO x.Path && (aDJ x.Response && aL9 l k x))
def aCn (l : List M.Cached) : Bool := (List.range l.length).all (aBE l) && decide (l.length ≤ 12)
theorem aEe {l : List M.Cached} (hl : l.length ≤ maxLen ∧ ∀ x ∈ l, M.Cached.ok x) : lJ l = some (aCn l) := by
  have hm := le_max hl.1
  unfold lJ aCn
  rw [jJ (L := eF l) (g := aBE l) (F := some false) (E := some (decide (l.length ≤ 12))) hl.1 (fun n k hk => ?_) (fun n => ?_), bL]
  · have hf := hl.2 _ (List.getElem_mem hk)
    simp only [eF]
    rw [if_pos (bA hk), aN hk, Option.bind_some, bE (by omega), eC hf.Site, Option.bind_some, eC hf.Path, Option.bind_some, aEr, Option.bind_some]
    rw [jJ (N := k) (L := fG l (k : Int) l[k] (fun _ => eF l n ((k + 1 : Nat) : Int))) (g := fun j => !((l[j]?).any (aCS l[k].Site l[k].Path))) (F := some false) (E := eF l n ((k + 1 : Nat) : Int)) (by have := hl.1; omega) (fun n j hj => ?_) (fun n => ?_)]
    · unfold aBE aL9
      rw [List.getElem?_eq_getElem hk, Option.any_some]
      simp only [zR, aMz]
    · have hj2 : j < l.length := by omega
      simp only [fG]
      rw [if_pos (bA hj), aN hj2, Option.bind_some, bE (by omega), aMz, List.getElem?_eq_getElem hj2, Option.any_some, zR]
      rfl
    · simp only [fG]
      rw [if_neg (by rw [aO]; simp)]
  · simp only [eF]
    rw [if_neg (by rw [aO]; simp)]
    simp; omega
theorem aFN {c : M.Cache} {Z : Option Bool} (hc : c.ok) : eN c (fun _ => Z) fuel 0 = if (List.range c.Entries.length).all (aBE c.Entries) = true then Z else some false := by
  have hm := le_max hc.Entries.1
  refine jJ (L := eN c (fun _ => Z)) hc.Entries.1 (fun n k hk => ?_) (fun n => ?_)
  · have hf := hc.Entries.2 _ (List.getElem_mem hk)
    simp only [eN]
    rw [if_pos (bA hk), aN hk, Option.bind_some, bE (by omega), dI hf.Site, Option.bind_some, dI hf.Path, Option.bind_some, aCd hc, Option.bind_some, aBn, Option.bind_some, aB7, aHA hk (by simp [aCS])]
    unfold aBE aL9
    rw [List.getElem?_eq_getElem hk, Option.any_some]
    generalize eN c (fun _ => Z) n ((k + 1 : Nat) : Int) = Y
    generalize oO c.Entries[k].Site = a
    generalize oO c.Entries[k].Path = b
    generalize aDJ c.Entries[k].Response = d
    generalize (List.range k).all (fun j => !((c.Entries[j]?).any (aCS c.Entries[k].Site c.Entries[k].Path))) = e
    cases a <;> cases b <;> cases d <;> cases e <;> rfl
  · simp only [eN]
    rw [if_neg (by rw [aO]; simp)]
theorem aFX {c : M.Cache} {Z : Option Bool} (hc : c.ok) : eB c (fun _ => Z) fuel 0 = if (List.range c.Entries.length).all (aBE c.Entries) = true then Z else some false := by
  have hm := le_max hc.Entries.1
  refine jJ (L := eB c (fun _ => Z)) hc.Entries.1 (fun n k hk => ?_) (fun n => ?_)
  · have hf := hc.Entries.2 _ (List.getElem_mem hk)
    simp only [eB]
    rw [if_pos (bA hk), aN hk, Option.bind_some, bE (by omega), dI hf.Site, Option.bind_some, dI hf.Path, Option.bind_some, aCd hc, Option.bind_some, aBn, Option.bind_some, aB7, aHA hk (by simp [aCS])]
    unfold aBE aL9
    rw [List.getElem?_eq_getElem hk, Option.any_some]
    generalize eB c (fun _ => Z) n ((k + 1 : Nat) : Int) = Y
    generalize oO c.Entries[k].Site = a
    generalize oO c.Entries[k].Path = b
    generalize aDJ c.Entries[k].Response = d
    generalize (List.range k).all (fun j => !((c.Entries[j]?).any (aCS c.Entries[k].Site c.Entries[k].Path))) = e
    cases a <;> cases b <;> cases d <;> cases e <;> rfl
  · simp only [eB]
    rw [if_neg (by rw [aO]; simp)]
def aDf (l : List M.Cache) (k : Nat) : Bool := (l[k]?).any (fun c => inR c.Version 1 1000000000000 && aCn c.Entries) && (decide (k = 0) || (l[k - 1]?).any fun d => (l[k]?).any fun c => decide (d.Version < c.Version))
def aCP (s : M.aT) : Bool := (List.range s.Caches.length).all (aDf s.Caches) && decide (s.Caches.length ≤ 4)
theorem aEI {s : M.aT} (hs : s.ok) : pG s = some (aCP s) := by
  have hm := le_max hs.Caches.1
  unfold pG aCP
  rw [jJ (L := eA s) (g := aDf s.Caches) (F := some false) (E := some (decide (s.Caches.length ≤ 4))) hs.Caches.1 (fun n k hk => ?_) (fun n => ?_), bL]
  · have hf := hs.Caches.2 _ (List.getElem_mem hk)
    simp only [eA]
    rw [if_pos (bA hk), aN hk, Option.bind_some, bE (by omega), dC, Option.bind_some, aEe hf.Entries]
    simp only [Option.bind_some]
    unfold aDf
    rw [List.getElem?_eq_getElem hk]
    generalize eA s n ((k + 1 : Nat) : Int) = Z
    by_cases h0 : k = 0
    · subst h0
      simp only [Option.any_some]
      generalize inR s.Caches[0].Version 1 1000000000000 = a
      generalize aCn s.Caches[0].Entries = b
      cases a <;> cases b <;> simp
    · have e : IntKind.i64.wrap ((k : Int) - 1) = ((k - 1 : Nat) : Int) := by rw [iG (by omega) (by omega)]; omega
      have hk1 : k - 1 < s.Caches.length := by omega
      rw [if_pos (c := (decide ((k : Int) > 0)) = true) (by simp; omega), e, aN hk1, Option.bind_some, List.getElem?_eq_getElem hk1]
      simp only [Option.any_some, h0, decide_false, Bool.false_or]
      generalize inR s.Caches[k].Version 1 1000000000000 = a
      generalize aCn s.Caches[k].Entries = b
      by_cases hc : s.Caches[k - 1].Version < s.Caches[k].Version
      · rw [if_neg (c := (decide (s.Caches[k - 1].Version ≥ s.Caches[k].Version)) = true) (by simp; omega)]
        cases a <;> cases b <;> simp [hc]
      · rw [if_pos (c := (decide (s.Caches[k - 1].Version ≥ s.Caches[k].Version)) = true) (by simp; omega)]
        cases a <;> cases b <;> simp [hc]
  · simp only [eA]
    rw [if_neg (by rw [aO]; simp)]
    simp; omega
theorem aEW {s : M.aT} (hs : s.ok) : oS s = some (aCP s) := by
  have hm := le_max hs.Caches.1
  unfold oS aCP
  rw [jJ (L := eD s) (g := aDf s.Caches) (F := some false) (E := some (decide (s.Caches.length ≤ 4))) hs.Caches.1 (fun n k hk => ?_) (fun n => ?_), bL]
  · have hf := hs.Caches.2 _ (List.getElem_mem hk)
    simp only [eD]
    rw [if_pos (bA hk), aN hk, Option.bind_some, bE (by omega), bO, Option.bind_some, aFN hf, aFX hf]
    unfold aDf aCn
    rw [List.getElem?_eq_getElem hk]
    generalize eD s n ((k + 1 : Nat) : Int) = Z
    have h12 : (decide ((List.length s.Caches[k].Entries : Int) > 12)) = !decide (s.Caches[k].Entries.length ≤ 12) := by
      by_cases h : s.Caches[k].Entries.length ≤ 12
      · simp [h]; omega
      · simp [h]; omega
    rw [h12]
    by_cases h0 : k = 0
    · subst h0
      simp only [Option.any_some]
      generalize inR s.Caches[0].Version 1 1000000000000 = a
      generalize (List.range s.Caches[0].Entries.length).all (aBE s.Caches[0].Entries) = b
      generalize decide (s.Caches[0].Entries.length ≤ 12) = d
      cases a <;> cases b <;> cases d <;> simp
    · have e : IntKind.i64.wrap ((k : Int) - 1) = ((k - 1 : Nat) : Int) := by rw [iG (by omega) (by omega)]; omega
      have hk1 : k - 1 < s.Caches.length := by omega
      rw [if_pos (c := (decide ((k : Int) > 0)) = true) (by simp; omega), e, aN hk1, Option.bind_some, List.getElem?_eq_getElem hk1]
      simp only [Option.any_some, h0, decide_false, Bool.false_or]
      generalize inR s.Caches[k].Version 1 1000000000000 = a
      generalize (List.range s.Caches[k].Entries.length).all (aBE s.Caches[k].Entries) = b
      generalize decide (s.Caches[k].Entries.length ≤ 12) = d
      by_cases hc : s.Caches[k - 1].Version < s.Caches[k].Version
      · rw [if_neg (c := (decide (s.Caches[k].Version ≤ s.Caches[k - 1].Version)) = true) (by simp; omega)]
        cases a <;> cases b <;> cases d <;> simp [hc]
      · rw [if_pos (c := (decide (s.Caches[k].Version ≤ s.Caches[k - 1].Version)) = true) (by simp; omega)]
        cases a <;> cases b <;> cases d <;> simp [hc]
  · simp only [eD]
    rw [if_neg (by rw [aO]; simp)]
    simp; omega
end Go.Proofs.YtecmnmaaopkdfaaGreat.gen
