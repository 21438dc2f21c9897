/-
  Helper text. No conditions.
-/
import Derived.Test.YtecmnmaaopkdfaaGreatReleaseSitePd
namespace Go.Proofs.YtecmnmaaopkdfaaGreat.gen
open Go Go.Sh
set_option linter.unusedVariables false
set_option linter.unusedSimpArgs false
theorem aG6 {α : Type} {f : α → Bool} {xs : List α} {k : Nat} (hk : k < xs.length) (hf : f xs[k] = true) : (aBx f xs == (k : Int)) = (List.range k).all (fun j => !((xs[j]?).any f)) := by
  rw [Bool.eq_iff_iff]
  simp only [beq_iff_eq, List.all_eq_true, List.mem_range]
  constructor
  · intro h j hj
    unfold aBx at h
    cases e : xs.findIdx? f with
    | none => rw [e] at h; simp only at h; omega
    | some i =>
      rw [e] at h
      simp only at h
      have : i = k := by omega
      subst this
      have := (List.findIdx?_eq_some_iff_getElem.1 e).2.2 j hj
      rw [List.getElem?_eq_getElem (by omega)]
      simpa using this
  · intro h
    have e : xs.findIdx? f = some k := List.findIdx?_eq_some_iff_getElem.2 ⟨hk, hf, fun j hj => by
      have := h j hj
      rw [List.getElem?_eq_getElem (by omega)] at this
      simpa using this⟩
    unfold aBx
    rw [e]
def aCG (a b : ByteArray) (x : M.Cached) : Bool := (x.Site.toList == a.toList) && (x.Path.toList == b.toList)
theorem aCB {c : M.Cache} {a b : ByteArray} (hc : c.ok) : tN c a b = some (aBx (aCG a b) c.Entries) := by
  unfold tN
  rw [aDH (f := aCG a b) hc.Entries.1 (fun x _ => by simp only [sO, bM]; rfl), Option.bind_some]
def aCy (r : M.Response) : Bool := inR r.Type_ 1 4 && (inR r.Status 0 999 && (inR r.Version 0 1000000000000 && decide ((List.length r.Body : Int) ≤ 60)))
theorem aEI (r : M.Response) : pJ r = some (aCy r) := by
  unfold pJ aCy
  simp only [cZ, Option.bind_some, bM]
theorem aBg (r : M.Response) : lB r = some (aCy r) := by
  unfold lB aCy
  simp only [bO, Option.bind_some, bM]
def aL1 (l : List M.Cached) (k : Nat) (x : M.Cached) : Bool := (List.range k).all fun j => !((l[j]?).any (aCG x.Site x.Path))
def aA1 (l : List M.Cached) (k : Nat) : Bool := (l[k]?).any fun x => oI x.Site && (oI x.Path && (aCy x.Response && aL1 l k x))
def aCe (l : List M.Cached) : Bool := (List.range l.length).all (aA1 l) && decide (l.length ≤ 12)
theorem aEM {l : List M.Cached} (hl : l.length ≤ maxLen ∧ ∀ x ∈ l, M.Cached.ok x) : lC l = some (aCe l) := by
  have hm := le_max hl.1
  unfold lC aCe
  rw [jC (L := eA l) (g := aA1 l) (F := some false) (E := some (decide (l.length ≤ 12))) hl.1 (fun n k hk => ?_) (fun n => ?_), bM]
  · have hf := hl.2 _ (List.getElem_mem hk)
    simp only [eA]
    rw [if_pos (bA hk), aN hk, Option.bind_some, bE (by omega), eI hf.Site, Option.bind_some, eI hf.Path, Option.bind_some, aEI, Option.bind_some]
    rw [jC (N := k) (L := fC l (k : Int) l[k] (fun _ => eA l n ((k + 1 : Nat) : Int))) (g := fun j => !((l[j]?).any (aCG l[k].Site l[k].Path))) (F := some false) (E := eA l n ((k + 1 : Nat) : Int)) (by have := hl.1; omega) (fun n j hj => ?_) (fun n => ?_)]
    · unfold aA1 aL1
      rw [List.getElem?_eq_getElem hk, Option.any_some]
      simp only [aAW, aMg]
    · have hj2 : j < l.length := by omega
      simp only [fC]
      rw [if_pos (bA hj), aN hj2, Option.bind_some, bE (by omega), aMg, List.getElem?_eq_getElem hj2, Option.any_some, aAW]
      rfl
    · simp only [fC]
      rw [if_neg (by rw [aO]; simp)]
  · simp only [eA]
    rw [if_neg (by rw [aO]; simp)]
    simp; omega
theorem aFQ {c : M.Cache} {Z : Option Bool} (hc : c.ok) : eC c (fun _ => Z) fuel 0 = if (List.range c.Entries.length).all (aA1 c.Entries) = true then Z else some false := by
  have hm := le_max hc.Entries.1
  refine jC (L := eC c (fun _ => Z)) hc.Entries.1 (fun n k hk => ?_) (fun n => ?_)
  · have hf := hc.Entries.2 _ (List.getElem_mem hk)
    simp only [eC]
    rw [if_pos (bA hk), aN hk, Option.bind_some, bE (by omega), dF hf.Site, Option.bind_some, dF hf.Path, Option.bind_some, aCB hc, Option.bind_some, aBg, Option.bind_some, aBq, aG6 hk (by simp [aCG])]
    unfold aA1 aL1
    rw [List.getElem?_eq_getElem hk, Option.any_some]
    generalize eC c (fun _ => Z) n ((k + 1 : Nat) : Int) = Y
    generalize oI c.Entries[k].Site = a
    generalize oI c.Entries[k].Path = b
    generalize aCy c.Entries[k].Response = d
    generalize (List.range k).all (fun j => !((c.Entries[j]?).any (aCG c.Entries[k].Site c.Entries[k].Path))) = e
    cases a <;> cases b <;> cases d <;> cases e <;> rfl
  · simp only [eC]
    rw [if_neg (by rw [aO]; simp)]
theorem aFN {c : M.Cache} {Z : Option Bool} (hc : c.ok) : eE c (fun _ => Z) fuel 0 = if (List.range c.Entries.length).all (aA1 c.Entries) = true then Z else some false := by
  have hm := le_max hc.Entries.1
  refine jC (L := eE c (fun _ => Z)) hc.Entries.1 (fun n k hk => ?_) (fun n => ?_)
  · have hf := hc.Entries.2 _ (List.getElem_mem hk)
    simp only [eE]
    rw [if_pos (bA hk), aN hk, Option.bind_some, bE (by omega), dF hf.Site, Option.bind_some, dF hf.Path, Option.bind_some, aCB hc, Option.bind_some, aBg, Option.bind_some, aBq, aG6 hk (by simp [aCG])]
    unfold aA1 aL1
    rw [List.getElem?_eq_getElem hk, Option.any_some]
    generalize eE c (fun _ => Z) n ((k + 1 : Nat) : Int) = Y
    generalize oI c.Entries[k].Site = a
    generalize oI c.Entries[k].Path = b
    generalize aCy c.Entries[k].Response = d
    generalize (List.range k).all (fun j => !((c.Entries[j]?).any (aCG c.Entries[k].Site c.Entries[k].Path))) = e
    cases a <;> cases b <;> cases d <;> cases e <;> rfl
  · simp only [eE]
    rw [if_neg (by rw [aO]; simp)]
def aDN (l : List M.Cache) (k : Nat) : Bool := (l[k]?).any (fun c => inR c.Version 1 1000000000000 && aCe c.Entries) && (decide (k = 0) || (l[k - 1]?).any fun d => (l[k]?).any fun c => decide (d.Version < c.Version))
def aCE (s : M.aT) : Bool := (List.range s.Caches.length).all (aDN s.Caches) && decide (s.Caches.length ≤ 4)
theorem aEj {s : M.aT} (hs : s.ok) : pS s = some (aCE s) := by
  have hm := le_max hs.Caches.1
  unfold pS aCE
  rw [jC (L := dZ s) (g := aDN s.Caches) (F := some false) (E := some (decide (s.Caches.length ≤ 4))) hs.Caches.1 (fun n k hk => ?_) (fun n => ?_), bM]
  · have hf := hs.Caches.2 _ (List.getElem_mem hk)
    simp only [dZ]
    rw [if_pos (bA hk), aN hk, Option.bind_some, bE (by omega), cZ, Option.bind_some, aEM hf.Entries]
    simp only [Option.bind_some]
    unfold aDN
    rw [List.getElem?_eq_getElem hk]
    generalize dZ s n ((k + 1 : Nat) : Int) = Z
    by_cases h0 : k = 0
    · subst h0
      simp only [Option.any_some]
      generalize inR s.Caches[0].Version 1 1000000000000 = a
      generalize aCe s.Caches[0].Entries = b
      cases a <;> cases b <;> simp
    · have e : IntKind.i64.wrap ((k : Int) - 1) = ((k - 1 : Nat) : Int) := by rw [iN (by omega) (by omega)]; omega
      have hk1 : k - 1 < s.Caches.length := by omega
      rw [if_pos (c := (decide ((k : Int) > 0)) = true) (by simp; omega), e, aN hk1, Option.bind_some, List.getElem?_eq_getElem hk1]
      simp only [Option.any_some, h0, decide_false, Bool.false_or]
      generalize inR s.Caches[k].Version 1 1000000000000 = a
      generalize aCe s.Caches[k].Entries = b
      by_cases hc : s.Caches[k - 1].Version < s.Caches[k].Version
      · rw [if_neg (c := (decide (s.Caches[k - 1].Version ≥ s.Caches[k].Version)) = true) (by simp; omega)]
        cases a <;> cases b <;> simp [hc]
      · rw [if_pos (c := (decide (s.Caches[k - 1].Version ≥ s.Caches[k].Version)) = true) (by simp; omega)]
        cases a <;> cases b <;> simp [hc]
  · simp only [dZ]
    rw [if_neg (by rw [aO]; simp)]
    simp; omega
theorem aEJ {s : M.aT} (hs : s.ok) : pO s = some (aCE s) := by
  have hm := le_max hs.Caches.1
  unfold pO aCE
  rw [jC (L := eB s) (g := aDN s.Caches) (F := some false) (E := some (decide (s.Caches.length ≤ 4))) hs.Caches.1 (fun n k hk => ?_) (fun n => ?_), bM]
  · have hf := hs.Caches.2 _ (List.getElem_mem hk)
    simp only [eB]
    rw [if_pos (bA hk), aN hk, Option.bind_some, bE (by omega), bO, Option.bind_some, aFQ hf, aFN hf]
    unfold aDN aCe
    rw [List.getElem?_eq_getElem hk]
    generalize eB s n ((k + 1 : Nat) : Int) = Z
    have h12 : (decide ((List.length s.Caches[k].Entries : Int) > 12)) = !decide (s.Caches[k].Entries.length ≤ 12) := by
      by_cases h : s.Caches[k].Entries.length ≤ 12
      · simp [h]; omega
      · simp [h]; omega
    rw [h12]
    by_cases h0 : k = 0
    · subst h0
      simp only [Option.any_some]
      generalize inR s.Caches[0].Version 1 1000000000000 = a
      generalize (List.range s.Caches[0].Entries.length).all (aA1 s.Caches[0].Entries) = b
      generalize decide (s.Caches[0].Entries.length ≤ 12) = d
      cases a <;> cases b <;> cases d <;> simp
    · have e : IntKind.i64.wrap ((k : Int) - 1) = ((k - 1 : Nat) : Int) := by rw [iN (by omega) (by omega)]; omega
      have hk1 : k - 1 < s.Caches.length := by omega
      rw [if_pos (c := (decide ((k : Int) > 0)) = true) (by simp; omega), e, aN hk1, Option.bind_some, List.getElem?_eq_getElem hk1]
      simp only [Option.any_some, h0, decide_false, Bool.false_or]
      generalize inR s.Caches[k].Version 1 1000000000000 = a
      generalize (List.range s.Caches[k].Entries.length).all (aA1 s.Caches[k].Entries) = b
      generalize decide (s.Caches[k].Entries.length ≤ 12) = d
      by_cases hc : s.Caches[k - 1].Version < s.Caches[k].Version
      · rw [if_neg (c := (decide (s.Caches[k].Version ≤ s.Caches[k - 1].Version)) = true) (by simp; omega)]
        cases a <;> cases b <;> cases d <;> simp [hc]
      · rw [if_pos (c := (decide (s.Caches[k].Version ≤ s.Caches[k - 1].Version)) = true) (by simp; omega)]
        cases a <;> cases b <;> cases d <;> simp [hc]
  · simp only [eB]
    rw [if_neg (by rw [aO]; simp)]
    simp; omega
end Go.Proofs.YtecmnmaaopkdfaaGreat.gen
