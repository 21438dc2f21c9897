/-
  Helper text. No conditions.
-/
import Derived.Test.YtecmnmaaopkdfaaGreatLoadPageFilePd
namespace Go.Proofs.YtecmnmaaopkdfaaGreat.gen
open Go Go.Sh
set_option linter.unusedVariables false
set_option linter.unusedSimpArgs false
theorem aIJ {α : Type} {f : α → Bool} {xs : List α} {k : Nat} (hk : k < xs.length) (hf : f xs[k] = true) : (aBa f xs == (k : Int)) = (List.range k).all (fun j => !((xs[j]?).any f)) := by
  rw [Bool.eq_iff_iff]
  simp only [beq_iff_eq, List.all_eq_true, List.mem_range]
  constructor
  · intro h j hj
    unfold aBa at h
    cases e : xs.findIdx? f with
    | none => rw [e] at h; simp only at h; omega
    | some i =>
      rw [e] at h
      simp only at h
      have : i = k := by omega
      subst this
      have := (List.findIdx?_eq_some_iff_getElem.1 e).2.2 j hj
      rw [List.getElem?_eq_getElem (by omega)]
      simpa using this
  · intro h
    have e : xs.findIdx? f = some k := List.findIdx?_eq_some_iff_getElem.2 ⟨hk, hf, fun j hj => by
      have := h j hj
      rw [List.getElem?_eq_getElem (by omega)] at this
      simpa using this⟩
    unfold aBa
    rw [e]
def aC9 (a b : ByteArray) (x : M.Cached) : Bool := (x.Site.toList == a.toList) && (x.Path.toList == b.toList)
theorem aDM {c : M.Cache} {a b : ByteArray} (hc : c.ok) : kC c a b = some (aBa (aC9 a b) c.Entries) := by
  unfold kC
  rw [aCA (f := aC9 a b) hc.Entries.1 (fun x _ => by simp only [nI, bM]; rfl), Option.bind_some]
def aEG (r : M.Response) : Bool := inR r.Type_ 1 4 && (inR r.Status 0 999 && (inR r.Version 0 1000000000000 && decide ((List.length r.Body : Int) ≤ 60)))
theorem aFm (r : M.Response) : rC r = some (aEG r) := by
  unfold rC aEG
  simp only [dE, Option.bind_some, bM]
theorem aCX (r : M.Response) : mJ r = some (aEG r) := by
  unfold mJ aEG
  simp only [bP, Option.bind_some, bM]
def aNv (l : List M.Cached) (k : Nat) (x : M.Cached) : Bool := (List.range k).all fun j => !((l[j]?).any (aC9 x.Site x.Path))
def aBn (l : List M.Cached) (k : Nat) : Bool := (l[k]?).any fun x => pV x.Site && (pV x.Path && (aEG x.Response && aNv l k x))
def aDa (l : List M.Cached) : Bool := (List.range l.length).all (aBn l) && decide (l.length ≤ 12)
theorem aFW {l : List M.Cached} (hl : l.length ≤ maxLen ∧ ∀ x ∈ l, M.Cached.ok x) : mD l = some (aDa l) := by
  have hm := le_max hl.1
  unfold mD aDa
  rw [kB (L := eK l) (g := aBn l) (F := some false) (E := some (decide (l.length ≤ 12))) hl.1 (fun n k hk => ?_) (fun n => ?_), bM]
  · have hf := hl.2 _ (List.getElem_mem hk)
    simp only [eK]
    rw [if_pos (bA hk), aN hk, Option.bind_some, bD (by omega), eG hf.Site, Option.bind_some, eG hf.Path, Option.bind_some, aFm, Option.bind_some]
    rw [kB (N := k) (L := fI l (k : Int) l[k] (fun _ => eK l n ((k + 1 : Nat) : Int))) (g := fun j => !((l[j]?).any (aC9 l[k].Site l[k].Path))) (F := some false) (E := eK l n ((k + 1 : Nat) : Int)) (by have := hl.1; omega) (fun n j hj => ?_) (fun n => ?_)]
    · unfold aBn aNv
      rw [List.getElem?_eq_getElem hk, Option.any_some]
      simp only [aBA, aN2]
    · have hj2 : j < l.length := by omega
      simp only [fI]
      rw [if_pos (bA hj), aN hj2, Option.bind_some, bD (by omega), aN2, List.getElem?_eq_getElem hj2, Option.any_some, aBA]
      rfl
    · simp only [fI]
      rw [if_neg (by rw [aO]; simp)]
  · simp only [eK]
    rw [if_neg (by rw [aO]; simp)]
    simp; omega
theorem aGZ {c : M.Cache} {Z : Option Bool} (hc : c.ok) : eI c (fun _ => Z) fuel 0 = if (List.range c.Entries.length).all (aBn c.Entries) = true then Z else some false := by
  have hm := le_max hc.Entries.1
  refine kB (L := eI c (fun _ => Z)) hc.Entries.1 (fun n k hk => ?_) (fun n => ?_)
  · have hf := hc.Entries.2 _ (List.getElem_mem hk)
    simp only [eI]
    rw [if_pos (bA hk), aN hk, Option.bind_some, bD (by omega), dK hf.Site, Option.bind_some, dK hf.Path, Option.bind_some, aDM hc, Option.bind_some, aCX, Option.bind_some, aCd, aIJ hk (by simp [aC9])]
    unfold aBn aNv
    rw [List.getElem?_eq_getElem hk, Option.any_some]
    generalize eI c (fun _ => Z) n ((k + 1 : Nat) : Int) = Y
    generalize pV c.Entries[k].Site = a
    generalize pV c.Entries[k].Path = b
    generalize aEG c.Entries[k].Response = d
    generalize (List.range k).all (fun j => !((c.Entries[j]?).any (aC9 c.Entries[k].Site c.Entries[k].Path))) = e
    cases a <;> cases b <;> cases d <;> cases e <;> rfl
  · simp only [eI]
    rw [if_neg (by rw [aO]; simp)]
theorem aGQ {c : M.Cache} {Z : Option Bool} (hc : c.ok) : eB c (fun _ => Z) fuel 0 = if (List.range c.Entries.length).all (aBn c.Entries) = true then Z else some false := by
  have hm := le_max hc.Entries.1
  refine kB (L := eB c (fun _ => Z)) hc.Entries.1 (fun n k hk => ?_) (fun n => ?_)
  · have hf := hc.Entries.2 _ (List.getElem_mem hk)
    simp only [eB]
    rw [if_pos (bA hk), aN hk, Option.bind_some, bD (by omega), dK hf.Site, Option.bind_some, dK hf.Path, Option.bind_some, aDM hc, Option.bind_some, aCX, Option.bind_some, aCd, aIJ hk (by simp [aC9])]
    unfold aBn aNv
    rw [List.getElem?_eq_getElem hk, Option.any_some]
    generalize eB c (fun _ => Z) n ((k + 1 : Nat) : Int) = Y
    generalize pV c.Entries[k].Site = a
    generalize pV c.Entries[k].Path = b
    generalize aEG c.Entries[k].Response = d
    generalize (List.range k).all (fun j => !((c.Entries[j]?).any (aC9 c.Entries[k].Site c.Entries[k].Path))) = e
    cases a <;> cases b <;> cases d <;> cases e <;> rfl
  · simp only [eB]
    rw [if_neg (by rw [aO]; simp)]
def aEQ (l : List M.Cache) (k : Nat) : Bool := (l[k]?).any (fun c => inR c.Version 1 1000000000000 && aDa c.Entries) && (decide (k = 0) || (l[k - 1]?).any fun d => (l[k]?).any fun c => decide (d.Version < c.Version))
def aDG (s : M.aP) : Bool := (List.range s.Caches.length).all (aEQ s.Caches) && decide (s.Caches.length ≤ 4)
theorem aFK {s : M.aP} (hs : s.ok) : qW s = some (aDG s) := by
  have hm := le_max hs.Caches.1
  unfold qW aDG
  rw [kB (L := eN s) (g := aEQ s.Caches) (F := some false) (E := some (decide (s.Caches.length ≤ 4))) hs.Caches.1 (fun n k hk => ?_) (fun n => ?_), bM]
  · have hf := hs.Caches.2 _ (List.getElem_mem hk)
    simp only [eN]
    rw [if_pos (bA hk), aN hk, Option.bind_some, bD (by omega), dE, Option.bind_some, aFW hf.Entries]
    simp only [Option.bind_some]
    unfold aEQ
    rw [List.getElem?_eq_getElem hk]
    generalize eN s n ((k + 1 : Nat) : Int) = Z
    by_cases h0 : k = 0
    · subst h0
      simp only [Option.any_some]
      generalize inR s.Caches[0].Version 1 1000000000000 = a
      generalize aDa s.Caches[0].Entries = b
      cases a <;> cases b <;> simp
    · have e : IntKind.i64.wrap ((k : Int) - 1) = ((k - 1 : Nat) : Int) := by rw [eS (by omega) (by omega)]; omega
      have hk1 : k - 1 < s.Caches.length := by omega
      rw [if_pos (c := (decide ((k : Int) > 0)) = true) (by simp; omega), e, aN hk1, Option.bind_some, List.getElem?_eq_getElem hk1]
      simp only [Option.any_some, h0, decide_false, Bool.false_or]
      generalize inR s.Caches[k].Version 1 1000000000000 = a
      generalize aDa s.Caches[k].Entries = b
      by_cases hc : s.Caches[k - 1].Version < s.Caches[k].Version
      · rw [if_neg (c := (decide (s.Caches[k - 1].Version ≥ s.Caches[k].Version)) = true) (by simp; omega)]
        cases a <;> cases b <;> simp [hc]
      · rw [if_pos (c := (decide (s.Caches[k - 1].Version ≥ s.Caches[k].Version)) = true) (by simp; omega)]
        cases a <;> cases b <;> simp [hc]
  · simp only [eN]
    rw [if_neg (by rw [aO]; simp)]
    simp; omega
theorem aFp {s : M.aP} (hs : s.ok) : qU s = some (aDG s) := by
  have hm := le_max hs.Caches.1
  unfold qU aDG
  rw [kB (L := eM s) (g := aEQ s.Caches) (F := some false) (E := some (decide (s.Caches.length ≤ 4))) hs.Caches.1 (fun n k hk => ?_) (fun n => ?_), bM]
  · have hf := hs.Caches.2 _ (List.getElem_mem hk)
    simp only [eM]
    rw [if_pos (bA hk), aN hk, Option.bind_some, bD (by omega), bP, Option.bind_some, aGZ hf, aGQ hf]
    unfold aEQ aDa
    rw [List.getElem?_eq_getElem hk]
    generalize eM s n ((k + 1 : Nat) : Int) = Z
    have h12 : (decide ((List.length s.Caches[k].Entries : Int) > 12)) = !decide (s.Caches[k].Entries.length ≤ 12) := by
      by_cases h : s.Caches[k].Entries.length ≤ 12
      · simp [h]; omega
      · simp [h]; omega
    rw [h12]
    by_cases h0 : k = 0
    · subst h0
      simp only [Option.any_some]
      generalize inR s.Caches[0].Version 1 1000000000000 = a
      generalize (List.range s.Caches[0].Entries.length).all (aBn s.Caches[0].Entries) = b
      generalize decide (s.Caches[0].Entries.length ≤ 12) = d
      cases a <;> cases b <;> cases d <;> simp
    · have e : IntKind.i64.wrap ((k : Int) - 1) = ((k - 1 : Nat) : Int) := by rw [eS (by omega) (by omega)]; omega
      have hk1 : k - 1 < s.Caches.length := by omega
      rw [if_pos (c := (decide ((k : Int) > 0)) = true) (by simp; omega), e, aN hk1, Option.bind_some, List.getElem?_eq_getElem hk1]
      simp only [Option.any_some, h0, decide_false, Bool.false_or]
      generalize inR s.Caches[k].Version 1 1000000000000 = a
      generalize (List.range s.Caches[k].Entries.length).all (aBn s.Caches[k].Entries) = b
      generalize decide (s.Caches[k].Entries.length ≤ 12) = d
      by_cases hc : s.Caches[k - 1].Version < s.Caches[k].Version
      · rw [if_neg (c := (decide (s.Caches[k].Version ≤ s.Caches[k - 1].Version)) = true) (by simp; omega)]
        cases a <;> cases b <;> cases d <;> simp [hc]
      · rw [if_pos (c := (decide (s.Caches[k].Version ≤ s.Caches[k - 1].Version)) = true) (by simp; omega)]
        cases a <;> cases b <;> cases d <;> simp [hc]
  · simp only [eM]
    rw [if_neg (by rw [aO]; simp)]
    simp; omega
end Go.Proofs.YtecmnmaaopkdfaaGreat.gen
