/-
  Helper text. No conditions.
-/
import Derived.Test.YtecmnmaaopkdfaaGreatPageLockPd
namespace Go.Proofs.YtecmnmaaopkdfaaGreat.gen
open Go Go.Sh
set_option linter.unusedVariables false
set_option linter.unusedSimpArgs false
theorem aHO {α : Type} {f : α → Bool} {xs : List α} {k : Nat} (hk : k < xs.length) (hf : f xs[k] = true) : (aBo f xs == (k : Int)) = (List.range k).all (fun j => !((xs[j]?).any f)) := by
  rw [Bool.eq_iff_iff]
  simp only [beq_iff_eq, List.all_eq_true, List.mem_range]
  constructor
  · intro h j hj
    unfold aBo at h
    cases e : xs.findIdx? f with
    | none => rw [e] at h; simp only at h; omega
    | some i =>
      rw [e] at h
      simp only at h
      have : i = k := by omega
      subst this
      have := (List.findIdx?_eq_some_iff_getElem.1 e).2.2 j hj
      rw [List.getElem?_eq_getElem (by omega)]
      simpa using this
  · intro h
    have e : xs.findIdx? f = some k := List.findIdx?_eq_some_iff_getElem.2 ⟨hk, hf, fun j hj => by
      have := h j hj
      rw [List.getElem?_eq_getElem (by omega)] at this
      simpa using this⟩
    unfold aBo
    rw [e]
def aCi (a b : ByteArray) (x : M.Cached) : Bool := (x.Site.toList == a.toList) && (x.Path.toList == b.toList)
theorem aCh {c : M.Cache} {a b : ByteArray} (hc : c.ok) : tU c a b = some (aBo (aCi a b) c.Entries) := by
  unfold tU
  rw [aDo (f := aCi a b) hc.Entries.1 (fun x _ => by simp only [sJ, bN]; rfl), Option.bind_some]
def aDC (r : M.Response) : Bool := inR r.Type_ 1 4 && (inR r.Status 0 999 && (inR r.Version 0 1000000000000 && decide ((List.length r.Body : Int) ≤ 60)))
theorem aEL (r : M.Response) : qK r = some (aDC r) := by
  unfold qK aDC
  simp only [dB, Option.bind_some, bN]
theorem aBw (r : M.Response) : lS r = some (aDC r) := by
  unfold lS aDC
  simp only [bO, Option.bind_some, bN]
def aMB (l : List M.Cached) (k : Nat) (x : M.Cached) : Bool := (List.range k).all fun j => !((l[j]?).any (aCi x.Site x.Path))
def aBN (l : List M.Cached) (k : Nat) : Bool := (l[k]?).any fun x => oT x.Site && (oT x.Path && (aDC x.Response && aMB l k x))
def aCq (l : List M.Cached) : Bool := (List.range l.length).all (aBN l) && decide (l.length ≤ 12)
theorem aEr {l : List M.Cached} (hl : l.length ≤ maxLen ∧ ∀ x ∈ l, M.Cached.ok x) : lC l = some (aCq l) := by
  have hm := le_max hl.1
  unfold lC aCq
  rw [jN (L := eD l) (g := aBN l) (F := some false) (E := some (decide (l.length ≤ 12))) hl.1 (fun n k hk => ?_) (fun n => ?_), bN]
  · have hf := hl.2 _ (List.getElem_mem hk)
    simp only [eD]
    rw [if_pos (bA hk), aO hk, Option.bind_some, bD (by omega), eA hf.Site, Option.bind_some, eA hf.Path, Option.bind_some, aEL, Option.bind_some]
    rw [jN (N := k) (L := fE l (k : Int) l[k] (fun _ => eD l n ((k + 1 : Nat) : Int))) (g := fun j => !((l[j]?).any (aCi l[k].Site l[k].Path))) (F := some false) (E := eD l n ((k + 1 : Nat) : Int)) (by have := hl.1; omega) (fun n j hj => ?_) (fun n => ?_)]
    · unfold aBN aMB
      rw [List.getElem?_eq_getElem hk, Option.any_some]
      simp only [zN, aMz]
    · have hj2 : j < l.length := by omega
      simp only [fE]
      rw [if_pos (bA hj), aO hj2, Option.bind_some, bD (by omega), aMz, List.getElem?_eq_getElem hj2, Option.any_some, zN]
      rfl
    · simp only [fE]
      rw [if_neg (by rw [aP]; simp)]
  · simp only [eD]
    rw [if_neg (by rw [aP]; simp)]
    simp; omega
theorem aFd {c : M.Cache} {Z : Option Bool} (hc : c.ok) : eE c (fun _ => Z) fuel 0 = if (List.range c.Entries.length).all (aBN c.Entries) = true then Z else some false := by
  have hm := le_max hc.Entries.1
  refine jN (L := eE c (fun _ => Z)) hc.Entries.1 (fun n k hk => ?_) (fun n => ?_)
  · have hf := hc.Entries.2 _ (List.getElem_mem hk)
    simp only [eE]
    rw [if_pos (bA hk), aO hk, Option.bind_some, bD (by omega), dK hf.Site, Option.bind_some, dK hf.Path, Option.bind_some, aCh hc, Option.bind_some, aBw, Option.bind_some, aB2, aHO hk (by simp [aCi])]
    unfold aBN aMB
    rw [List.getElem?_eq_getElem hk, Option.any_some]
    generalize eE c (fun _ => Z) n ((k + 1 : Nat) : Int) = Y
    generalize oT c.Entries[k].Site = a
    generalize oT c.Entries[k].Path = b
    generalize aDC c.Entries[k].Response = d
    generalize (List.range k).all (fun j => !((c.Entries[j]?).any (aCi c.Entries[k].Site c.Entries[k].Path))) = e
    cases a <;> cases b <;> cases d <;> cases e <;> rfl
  · simp only [eE]
    rw [if_neg (by rw [aP]; simp)]
theorem aFS {c : M.Cache} {Z : Option Bool} (hc : c.ok) : dZ c (fun _ => Z) fuel 0 = if (List.range c.Entries.length).all (aBN c.Entries) = true then Z else some false := by
  have hm := le_max hc.Entries.1
  refine jN (L := dZ c (fun _ => Z)) hc.Entries.1 (fun n k hk => ?_) (fun n => ?_)
  · have hf := hc.Entries.2 _ (List.getElem_mem hk)
    simp only [dZ]
    rw [if_pos (bA hk), aO hk, Option.bind_some, bD (by omega), dK hf.Site, Option.bind_some, dK hf.Path, Option.bind_some, aCh hc, Option.bind_some, aBw, Option.bind_some, aB2, aHO hk (by simp [aCi])]
    unfold aBN aMB
    rw [List.getElem?_eq_getElem hk, Option.any_some]
    generalize dZ c (fun _ => Z) n ((k + 1 : Nat) : Int) = Y
    generalize oT c.Entries[k].Site = a
    generalize oT c.Entries[k].Path = b
    generalize aDC c.Entries[k].Response = d
    generalize (List.range k).all (fun j => !((c.Entries[j]?).any (aCi c.Entries[k].Site c.Entries[k].Path))) = e
    cases a <;> cases b <;> cases d <;> cases e <;> rfl
  · simp only [dZ]
    rw [if_neg (by rw [aP]; simp)]
def aEA (l : List M.Cache) (k : Nat) : Bool := (l[k]?).any (fun c => inR c.Version 1 1000000000000 && aCq c.Entries) && (decide (k = 0) || (l[k - 1]?).any fun d => (l[k]?).any fun c => decide (d.Version < c.Version))
def aCm (s : M.aT) : Bool := (List.range s.Caches.length).all (aEA s.Caches) && decide (s.Caches.length ≤ 4)
theorem aEe {s : M.aT} (hs : s.ok) : pK s = some (aCm s) := by
  have hm := le_max hs.Caches.1
  unfold pK aCm
  rw [jN (L := dY s) (g := aEA s.Caches) (F := some false) (E := some (decide (s.Caches.length ≤ 4))) hs.Caches.1 (fun n k hk => ?_) (fun n => ?_), bN]
  · have hf := hs.Caches.2 _ (List.getElem_mem hk)
    simp only [dY]
    rw [if_pos (bA hk), aO hk, Option.bind_some, bD (by omega), dB, Option.bind_some, aEr hf.Entries]
    simp only [Option.bind_some]
    unfold aEA
    rw [List.getElem?_eq_getElem hk]
    generalize dY s n ((k + 1 : Nat) : Int) = Z
    by_cases h0 : k = 0
    · subst h0
      simp only [Option.any_some]
      generalize inR s.Caches[0].Version 1 1000000000000 = a
      generalize aCq s.Caches[0].Entries = b
      cases a <;> cases b <;> simp
    · have e : IntKind.i64.wrap ((k : Int) - 1) = ((k - 1 : Nat) : Int) := by rw [iJ (by omega) (by omega)]; omega
      have hk1 : k - 1 < s.Caches.length := by omega
      rw [if_pos (c := (decide ((k : Int) > 0)) = true) (by simp; omega), e, aO hk1, Option.bind_some, List.getElem?_eq_getElem hk1]
      simp only [Option.any_some, h0, decide_false, Bool.false_or]
      generalize inR s.Caches[k].Version 1 1000000000000 = a
      generalize aCq s.Caches[k].Entries = b
      by_cases hc : s.Caches[k - 1].Version < s.Caches[k].Version
      · rw [if_neg (c := (decide (s.Caches[k - 1].Version ≥ s.Caches[k].Version)) = true) (by simp; omega)]
        cases a <;> cases b <;> simp [hc]
      · rw [if_pos (c := (decide (s.Caches[k - 1].Version ≥ s.Caches[k].Version)) = true) (by simp; omega)]
        cases a <;> cases b <;> simp [hc]
  · simp only [dY]
    rw [if_neg (by rw [aP]; simp)]
    simp; omega
theorem aEl {s : M.aT} (hs : s.ok) : qR s = some (aCm s) := by
  have hm := le_max hs.Caches.1
  unfold qR aCm
  rw [jN (L := eC s) (g := aEA s.Caches) (F := some false) (E := some (decide (s.Caches.length ≤ 4))) hs.Caches.1 (fun n k hk => ?_) (fun n => ?_), bN]
  · have hf := hs.Caches.2 _ (List.getElem_mem hk)
    simp only [eC]
    rw [if_pos (bA hk), aO hk, Option.bind_some, bD (by omega), bO, Option.bind_some, aFd hf, aFS hf]
    unfold aEA aCq
    rw [List.getElem?_eq_getElem hk]
    generalize eC s n ((k + 1 : Nat) : Int) = Z
    have h12 : (decide ((List.length s.Caches[k].Entries : Int) > 12)) = !decide (s.Caches[k].Entries.length ≤ 12) := by
      by_cases h : s.Caches[k].Entries.length ≤ 12
      · simp [h]; omega
      · simp [h]; omega
    rw [h12]
    by_cases h0 : k = 0
    · subst h0
      simp only [Option.any_some]
      generalize inR s.Caches[0].Version 1 1000000000000 = a
      generalize (List.range s.Caches[0].Entries.length).all (aBN s.Caches[0].Entries) = b
      generalize decide (s.Caches[0].Entries.length ≤ 12) = d
      cases a <;> cases b <;> cases d <;> simp
    · have e : IntKind.i64.wrap ((k : Int) - 1) = ((k - 1 : Nat) : Int) := by rw [iJ (by omega) (by omega)]; omega
      have hk1 : k - 1 < s.Caches.length := by omega
      rw [if_pos (c := (decide ((k : Int) > 0)) = true) (by simp; omega), e, aO hk1, Option.bind_some, List.getElem?_eq_getElem hk1]
      simp only [Option.any_some, h0, decide_false, Bool.false_or]
      generalize inR s.Caches[k].Version 1 1000000000000 = a
      generalize (List.range s.Caches[k].Entries.length).all (aBN s.Caches[k].Entries) = b
      generalize decide (s.Caches[k].Entries.length ≤ 12) = d
      by_cases hc : s.Caches[k - 1].Version < s.Caches[k].Version
      · rw [if_neg (c := (decide (s.Caches[k].Version ≤ s.Caches[k - 1].Version)) = true) (by simp; omega)]
        cases a <;> cases b <;> cases d <;> simp [hc]
      · rw [if_pos (c := (decide (s.Caches[k].Version ≤ s.Caches[k - 1].Version)) = true) (by simp; omega)]
        cases a <;> cases b <;> cases d <;> simp [hc]
  · simp only [eC]
    rw [if_neg (by rw [aP]; simp)]
    simp; omega
end Go.Proofs.YtecmnmaaopkdfaaGreat.gen
