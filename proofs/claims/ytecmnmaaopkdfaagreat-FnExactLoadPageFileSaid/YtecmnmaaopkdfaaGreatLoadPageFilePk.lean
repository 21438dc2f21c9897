/-
  Helper text. No conditions.
-/
import Derived.Test.YtecmnmaaopkdfaaGreatLoadPageFilePj
namespace Go.Proofs.YtecmnmaaopkdfaaGreat.gen
open Go Go.Sh
set_option linter.unusedVariables false
set_option linter.unusedSimpArgs false
theorem aJM {α : Type} {f : α → Nat} {x : α} : ∀ {l : List α} {i : Nat}, aD f (l.set i x) ≤ aD f l + f x
  | [], _ => by simp [aD]
  | y :: l, 0 => by simp only [List.set_cons_zero, aD]; omega
  | y :: l, i + 1 => by have := aJM (f := f) (x := x) (l := l) (i := i); simp only [List.set_cons_succ, aD]; omega
theorem aJm {α : Type} {f : α → Nat} : ∀ (l r : List α), aD f (l ++ r) = aD f l + aD f r
  | [], r => by simp [aD]
  | y :: l, r => by simp only [List.cons_append, aD, aJm l r]; omega
theorem aFj {a : ByteArray} : qM a = some (aD5 a) := by
  unfold qM
  rw [show rY = some pS from rfl, Option.bind_some]
  rw [findAll (L := gW a pS) (f := fun x : ByteArray => x.toList == a.toList) (A := fun i => some (i : Int)) (E := some (-1)) aIM (fun m k hk => ?_) (fun m => ?_), mT]
  · rfl
  · have hk3 : k < 3 := hk
    simp only [gW]
    rw [if_pos (bA hk), aN hk, Option.bind_some, bD (by omega)]
  · simp only [gW]
    rw [if_neg (by rw [aO]; simp)]
theorem aGY (x : List M.Instr) (hs : x.length ≤ 1073741824) : uA x = some x := by
  unfold uA
  rw [aGC hs (by omega), Option.bind_some]
theorem aHi (x : M.Machine) (hs : M.Machine.sz x ≤ 1073741824) : aAD x = some x := by
  simp only [M.Machine.sz] at hs
  unfold aAD
  rw [aGY _ (by omega), Option.bind_some, aGC (by omega) (by omega), Option.bind_some]
theorem aDo (x : M.bG) (hs : M.bG.sz x ≤ 1073741824) : iS x = some x := by
  simp only [M.bG.sz] at hs
  unfold iS
  rw [aGC (by omega) (by omega), Option.bind_some, aHi _ (by omega), Option.bind_some]
theorem aHx (x : M.aR) (hs : M.aR.sz x ≤ 1073741824) : vG x = some x := by
  simp only [M.aR.sz] at hs
  unfold vG
  rw [aGC (by omega) (by omega), Option.bind_some]
theorem aH5 (x : M.Channel) (hs : M.Channel.sz x ≤ 1073741824) : vJ x = some x := by
  simp only [M.Channel.sz] at hs
  unfold vJ
  rw [aGC (by omega) (by omega), Option.bind_some]
theorem aHw (x : M.Site) (hs : M.Site.sz x ≤ 1073741824) : yJ x = some x := by
  simp only [M.Site.sz] at hs
  unfold yJ
  rw [aGC (by omega) (by omega), Option.bind_some]
theorem aHo (x : M.Server) (hs : M.Server.sz x ≤ 1073741824) : aAF x = some x := by
  simp only [M.Server.sz] at hs
  unfold aAF
  rw [aCt _ (by omega), Option.bind_some, aGC (by omega) (by omega), Option.bind_some, aGC (by omega) (by omega), Option.bind_some]
theorem aEZ (x : M.Machine) (hs : M.Machine.sz x ≤ 1073741824) : nW x = some x := by
  simp only [M.Machine.sz] at hs
  unfold nW
  rw [aGC (by omega) (by omega), Option.bind_some, aGC (by omega) (by omega), Option.bind_some]
theorem aDK (x : M.bG) (hs : M.bG.sz x ≤ 1073741824) : hO x = some x := by
  simp only [M.bG.sz] at hs
  unfold hO
  rw [aGC (by omega) (by omega), Option.bind_some, aEZ _ (by omega), Option.bind_some]
theorem aGa (x : M.aR) (hs : M.aR.sz x ≤ 1073741824) : vA x = some x := by
  simp only [M.aR.sz] at hs
  unfold vA
  rw [aGC (by omega) (by omega), Option.bind_some]
theorem aE7 (x : M.Channel) (hs : M.Channel.sz x ≤ 1073741824) : oJ x = some x := by
  simp only [M.Channel.sz] at hs
  unfold oJ
  rw [aGC (by omega) (by omega), Option.bind_some]
theorem aG6 (x : M.Site) (hs : M.Site.sz x ≤ 1073741824) : wL x = some x := by
  simp only [M.Site.sz] at hs
  unfold wL
  rw [aGC (by omega) (by omega), Option.bind_some]
theorem aFh (x : M.Server) (hs : M.Server.sz x ≤ 1073741824) : qE x = some x := by
  simp only [M.Server.sz] at hs
  unfold qE
  rw [aBY _ (by omega), Option.bind_some, aGC (by omega) (by omega), Option.bind_some, aGC (by omega) (by omega), Option.bind_some]
theorem aGT (x : List M.bG) (hs : x.length + aD M.bG.sz x ≤ 1073741824) : vD x = some x := by
  unfold vD
  exact yG (xs := x) (b := 144) (L := iC x) (E := some) (by omega) (by omega) (fun n r k hk => by
    have hy := cA (f := M.bG.sz) (List.getElem_mem hk)
    simp only [iC]
    rw [if_pos (bA hk), aN hk, Option.bind_some, aDK _ (by omega), Option.bind_some, bD (by omega)]) (fun n r => by
    simp only [iC]
    rw [if_neg (by rw [aO]; simp)])
theorem aH6 (w : M.World) (hs : M.World.sz w ≤ 1073741824) : yP w = some w := by
  simp only [M.World.sz] at hs
  have e3 : gG w w.aK w.Pages w.Locks w.Channel w.Sites fuel 0 ([] : List M.Server) = some w := yG (xs := w.Servers) (b := 96) (L := gG w w.aK w.Pages w.Locks w.Channel w.Sites) (E := fun r => some { w with Servers := r }) (by omega) (by omega) (fun n r k hk => by
      have hy := cA (f := M.Server.sz) (List.getElem_mem hk)
      simp only [gG]
      rw [if_pos (bA hk), aN hk, Option.bind_some, aHo _ (by omega), Option.bind_some, bD (by omega)]) (fun n r => by
      simp only [gG]
      rw [if_neg (by rw [aO]; simp)])
  have e2 : gK w w.aK w.Pages w.Locks w.Channel fuel 0 ([] : List M.Site) = some w := (yG (xs := w.Sites) (b := 56) (L := gK w w.aK w.Pages w.Locks w.Channel) (E := fun r => gG w w.aK w.Pages w.Locks w.Channel r fuel 0 ([] : List M.Server)) (by omega) (by omega) (fun n r k hk => by
      have hy := cA (f := M.Site.sz) (List.getElem_mem hk)
      simp only [gK]
      rw [if_pos (bA hk), aN hk, Option.bind_some, aHw _ (by omega), Option.bind_some, bD (by omega)]) (fun n r => by
      simp only [gK]
      rw [if_neg (by rw [aO]; simp)])).trans e3
  have e1 : iR w w.aK fuel 0 ([] : List M.bG) = some w := (yG (xs := w.Pages) (b := 144) (L := iR w w.aK) (E := fun r => (vG w.Locks).bind fun x => (vJ w.Channel).bind fun y => gK w w.aK r x y fuel 0 ([] : List M.Site)) (by omega) (by omega) (fun n r k hk => by
      have hy := cA (f := M.bG.sz) (List.getElem_mem hk)
      simp only [iR]
      rw [if_pos (bA hk), aN hk, Option.bind_some, aDo _ (by omega), Option.bind_some, bD (by omega)]) (fun n r => by
      simp only [iR]
      rw [if_neg (by rw [aO]; simp)])).trans (by rw [aHx _ (by omega), Option.bind_some, aH5 _ (by omega), Option.bind_some]; exact e2)
  unfold yP
  rw [aH7 _ (by omega), Option.bind_some]
  exact e1
theorem aGH (w : M.World) (hs : M.World.sz w ≤ 1073741824) : tC w = some w := by
  simp only [M.World.sz] at hs
  have e3 : fF w w.aK w.Pages w.Locks w.Channel w.Sites fuel 0 ([] : List M.Server) = some w := yG (xs := w.Servers) (b := 96) (L := fF w w.aK w.Pages w.Locks w.Channel w.Sites) (E := fun r => some { w with Servers := r }) (by omega) (by omega) (fun n r k hk => by
      have hy := cA (f := M.Server.sz) (List.getElem_mem hk)
      simp only [fF]
      rw [if_pos (bA hk), aN hk, Option.bind_some, aFh _ (by omega), Option.bind_some, bD (by omega)]) (fun n r => by
      simp only [fF]
      rw [if_neg (by rw [aO]; simp)])
  have e2 : fY w w.aK w.Pages w.Locks w.Channel fuel 0 ([] : List M.Site) = some w := (yG (xs := w.Sites) (b := 56) (L := fY w w.aK w.Pages w.Locks w.Channel) (E := fun r => fF w w.aK w.Pages w.Locks w.Channel r fuel 0 ([] : List M.Server)) (by omega) (by omega) (fun n r k hk => by
      have hy := cA (f := M.Site.sz) (List.getElem_mem hk)
      simp only [fY]
      rw [if_pos (bA hk), aN hk, Option.bind_some, aG6 _ (by omega), Option.bind_some, bD (by omega)]) (fun n r => by
      simp only [fY]
      rw [if_neg (by rw [aO]; simp)])).trans e3
  unfold tC
  rw [aEi _ (by omega), Option.bind_some, aGT _ (by omega), Option.bind_some, aGa _ (by omega), Option.bind_some, aE7 _ (by omega), Option.bind_some]
  exact e2
theorem aLo {a : ByteArray} (h : ¬ aD5 a < 0) : ∃ k : Nat, aD5 a = (k : Int) ∧ k < 3 := by
  obtain ⟨k, e, hk⟩ := aBo (show ¬ aBa (fun x : ByteArray => x.toList == a.toList) pS < 0 from h)
  exact ⟨k, e, hk⟩
theorem aJ1 {w : M.World} (h : aF6 w = true) : w.Sites.length = 3 := by
  unfold aF6 at h
  rw [Bool.and_eq_true] at h
  simpa using h.1
theorem aMR {l : List M.bG} {f : Int} (hl : l.length ≤ maxLen) : zX l f = some (aBa (fun p : M.bG => p.Id == f) l) := by
  have hm := le_max hl
  unfold zX
  rw [findAll (L := jO l f) (f := fun p : M.bG => p.Id == f) (A := fun i => some (i : Int)) (E := some (-1)) hl (fun m k hk => ?_) (fun m => ?_), mT]
  · simp only [jO]
    rw [if_pos (bA hk), aN hk, Option.bind_some, bD (by omega)]
  · simp only [jO]
    rw [if_neg (by rw [aO]; simp)]
def aNb (w : M.World) (f : Int) : Int := aBa (fun p : M.bG => p.Id == f) w.Pages
theorem aGV {w : M.World} {f : Int} (hw : w.ok) : tM w f = some (aNb w f) := by
  unfold tM
  rw [aMR hw.Pages.1, Option.bind_some]
  rfl
theorem aGE {w : M.World} {f : Int} (hw : w.ok) : uQ w f = some (aNb w f) := by
  unfold uQ
  rw [aGR (p := fun z0 => pE z0 f) (f := fun p : M.bG => p.Id == f) hw.Pages.1 (fun x _ => rfl), Option.bind_some]
  rfl
theorem aGJ {s : M.aP} {v : Int} (hs : s.ok) : tF s v = some (aBa (fun c : M.Cache => c.Version == v) s.Caches) := by
  have hm := le_max hs.Caches.1
  unfold tF
  rw [findAll (L := iA s v) (f := fun c : M.Cache => c.Version == v) (A := fun i => some (i : Int)) (E := some (-1)) hs.Caches.1 (fun m k hk => ?_) (fun m => ?_), mT]
  · simp only [iA]
    rw [if_pos (bA hk), aN hk, Option.bind_some, bD (by omega)]
  · simp only [iA]
    rw [if_neg (by rw [aO]; simp)]
theorem aGS {s : M.aP} {v : Int} (hs : s.ok) : tK s v = some (aBa (fun c : M.Cache => c.Version == v) s.Caches) := by
  unfold tK
  rw [aFD (f := fun c : M.Cache => c.Version == v) hs.Caches.1 (fun x _ => by simp only [oL]), Option.bind_some]
def aJz (a b : ByteArray) (x : M.Cached) : Bool := (x.Site.toList == a.toList) && (x.Path.toList == b.toList)
theorem aHq {c : M.Cache} {a b : ByteArray} (hc : c.ok) : zQ c a b = some (aBa (aJz a b) c.Entries) := by
  have hm := le_max hc.Entries.1
  unfold zQ
  rw [findAll (L := iP c a b) (f := aJz a b) (A := fun i => some (i : Int)) (E := some (-1)) hc.Entries.1 (fun m k hk => ?_) (fun m => ?_), mT]
  · simp only [iP]
    rw [if_pos (bA hk), aN hk, Option.bind_some, bD (by omega), aN2]
    rfl
  · simp only [iP]
    rw [if_neg (by rw [aO]; simp)]
theorem aHm {c : M.Cache} {a b : ByteArray} (hc : c.ok) : kC c a b = some (aBa (aJz a b) c.Entries) := by
  unfold kC
  rw [aCA (f := aJz a b) hc.Entries.1 (fun x _ => by simp only [nI, bM]; rfl), Option.bind_some]
theorem aJu {s : M.aP} {v : Int} {a b : ByteArray} (hs : s.ok) (hz : s.sz ≤ 1048576) : ∃ r, qD s v a b = some r ∧ sB s v a b = some r ∧ M.Response.ok r.1 := by
  unfold qD sB bT bS
  rw [aGJ hs, aGS hs]
  simp only [Option.bind_some]
  have hnil : M.Response.ok (⟨4, 0, 0, ([] : List Int), false⟩ : M.Response) := ⟨by unfold inI; simp, by unfold inI; simp, by unfold inI; simp, ⟨by simp [maxLen], by simp⟩⟩
  by_cases h : aBa (fun c : M.Cache => c.Version == v) s.Caches < 0
  · simp only [h, decide_true, if_true]
    exact ⟨_, rfl, rfl, hnil⟩
  · obtain ⟨k, e, hk⟩ := aBo h
    simp only [h, decide_false, Bool.false_eq_true, if_false]
    rw [e, aN hk]
    have hc := hs.Caches.2 _ (List.getElem_mem hk)
    simp only [Option.bind_some]
    rw [aHq hc, aHm hc]
    simp only [Option.bind_some]
    by_cases h2 : aBa (aJz a b) s.Caches[k].Entries < 0
    · simp only [h2, decide_true, if_true]
      exact ⟨_, rfl, rfl, hnil⟩
    · obtain ⟨j, e2, hj⟩ := aBo h2
      simp only [h2, decide_false, Bool.false_eq_true, if_false]
      rw [e2, aN hj]
      have hx := hc.Entries.2 _ (List.getElem_mem hj)
      have z1 := cA (f := M.Cache.sz) (List.getElem_mem hk)
      have z2 := cA (f := M.Cached.sz) (List.getElem_mem hj)
      unfold M.aP.sz at hz
      have q1 : M.Cache.sz s.Caches[k] = s.Caches[k].Entries.length + aD M.Cached.sz s.Caches[k].Entries := rfl
      have q2 : M.Cached.sz s.Caches[k].Entries[j] = s.Caches[k].Entries[j].Site.size + (s.Caches[k].Entries[j].Path.size + s.Caches[k].Entries[j].Response.Body.length) := rfl
      have hb : (s.Caches[k].Entries[j].Response.Body).length ≤ 1048576 := by omega
      simp only [Option.bind_some, pR, iB, hU]
      rw [rF (by simp; omega)]
      exact ⟨_, rfl, rfl, hx.Response⟩
theorem aEP {l : List Int} (hl : l.length ≤ 1048576) : oM l = some ([(List.length l : Int)] ++ l.map IntKind.i64.wrap) := by
  unfold oM
  have := aKa (b := 8) (xs := l) (f := IntKind.i64.wrap) (L := gD l) (fun n k hk r => ?_) (fun n r => ?_) fuel 0 ([(List.length l : Int)]) (by unfold fuel; omega) (by omega) (by simp; omega)
  · simpa using this
  · simp only [gD]
    rw [if_pos (bA hk), aN hk, Option.bind_some, bD (by omega)]
  · simp only [gD]
    rw [if_neg (by rw [aO]; simp)]
theorem aEK {l : List Int} (hl : l.length ≤ 1048576) : oE l = some ([(List.length l : Int)] ++ l.map IntKind.i64.wrap) := by
  unfold oE
  have := aKa (b := 8) (xs := l) (f := IntKind.i64.wrap) (L := gB l) (fun n k hk r => ?_) (fun n r => ?_) fuel 0 ([(List.length l : Int)]) (by unfold fuel; omega) (by omega) (by simp; omega)
  · simpa using this
  · simp only [gB]
    rw [if_pos (bA hk), aN hk, Option.bind_some, bD (by omega)]
  · simp only [gB]
    rw [if_neg (by rw [aO]; simp)]
theorem aLT (x : Int) : aCV x 2147483647 = some (aKD x) := by
  have e : bH 2147483647 1 1000000000000 = some true := by decide
  unfold aCV
  rw [e, Option.bind_some, if_neg (by simp), if_neg (by simp), aNX]
theorem aLf (x : Int) : aCY x 2147483647 = some (aKD x) := by
  have e : aZ 2147483647 1 1000000000000 = some true := by decide
  unfold aCY
  rw [e, Option.bind_some, if_neg (by simp), if_neg (by simp), aND]
theorem aKU {l : List Int} (hl : l.length ≤ maxLen) : aB0 l = some (aFf l) := by
  have hm := le_max hl
  unfold aB0 aFf
  refine aDt (L := pN l) (E := some) hl (fun n v k hk => ?_) (fun n v => ?_) 11
  · simp only [pN]
    rw [if_pos (bA hk), aN hk, Option.bind_some, aLT, Option.bind_some, bD (by omega)]
    rfl
  · simp only [pN]
    rw [if_neg (by rw [aO]; simp)]
theorem aC4 {k : Int} {l : List Int} (hl : l.length ≤ 2000000) : nG k l = some (aFf (([k] ++ l) ++ [k])) := by
  unfold nG
  rw [rF (by simp; omega), Option.bind_some, rF (by simp; omega), Option.bind_some, aKU (by simp [maxLen]; omega), Option.bind_some]
theorem aKY {l : List Int} (hl : l.length ≤ maxLen) : aB2 l = some (aFf l) := by
  have hm := le_max hl
  unfold aB2 aFf
  refine aDt (L := pM l) (E := some) hl (fun n v k hk => ?_) (fun n v => ?_) 11
  · simp only [pM]
    rw [if_pos (bA hk), aN hk, Option.bind_some, aLf, Option.bind_some, bD (by omega)]
    rfl
  · simp only [pM]
    rw [if_neg (by rw [aO]; simp)]
theorem aCx {k : Int} {l : List Int} (hl : l.length ≤ 2000000) : nS k l = some (aFf (([k] ++ l) ++ [k])) := by
  unfold nS
  rw [rF (by simp; omega), Option.bind_some, rF (by simp; omega), Option.bind_some, aKY (by simp [maxLen]; omega), Option.bind_some]
def aC8 (k : Int) (s : ByteArray) : Int := if aFf (([k] ++ ([(List.length (fE s) : Int)] ++ (fE s).map IntKind.i64.wrap)) ++ [k]) = 0 then 1 else aFf (([k] ++ ([(List.length (fE s) : Int)] ++ (fE s).map IntKind.i64.wrap)) ++ [k])
theorem aFB {k : Int} {s : ByteArray} (hs : s.size ≤ 1048576) : gJ k s = some (aC8 k s) := by
  have hl := bB s
  unfold gJ aBu aC8
  rw [aEP (by omega), Option.bind_some, aC4 (by simp; omega), Option.bind_some]
  have := aMT (([k] ++ ([(List.length (fE s) : Int)] ++ (fE s).map IntKind.i64.wrap)) ++ [k])
  generalize aFf (([k] ++ ([(List.length (fE s) : Int)] ++ (fE s).map IntKind.i64.wrap)) ++ [k]) = h at *
  by_cases h0 : h = 0
  · rw [if_neg (by simp; omega), if_pos h0]; rfl
  · rw [if_neg h0]
    by_cases h1 : h = 1
    · rw [if_neg (by simp; omega), h1]; rfl
    · rw [if_pos (by simp; omega)]; rfl
theorem aE0 {k : Int} {s : ByteArray} (hs : s.size ≤ 1048576) : gO k s = some (aC8 k s) := by
  have hl := bB s
  unfold gO aC8
  rw [aEK (by omega), Option.bind_some, aCx (by simp; omega), Option.bind_some]
  generalize aFf (([k] ++ ([(List.length (fE s) : Int)] ++ (fE s).map IntKind.i64.wrap)) ++ [k]) = h
  by_cases h0 : h = 0
  · rw [if_pos (by simp [h0]), if_pos h0]
  · rw [if_neg (by simp [h0]), if_neg h0]
theorem aJB {x : Int} (h0 : 0 ≤ x) (h1 : x < 2147483647) : ∀ (n : Nat) (v : Int) (r : List Int), lI x n v r = dG x n v r
  | 0, _, _ => rfl
  | n + 1, v, r => by
    simp only [lI, dG, aOQ h0 h1, aJB h0 h1 n]
theorem aOY (x : Int) : ∃ l, dG x fuel 5 ([] : List Int) = some l ∧ okB l := by
  have st : ∀ n (v : Nat) r, r.length ≤ 7 → (∀ y ∈ r, 0 ≤ y ∧ y ≤ 255) → v ≤ 5 → ∃ y : Int, (0 ≤ y ∧ y ≤ 255) ∧ dG x (n + 1) (v : Int) r = dG x n ((v : Int) - 1) (r ++ [y]) := by
    intro n v r hr hy hv
    refine ⟨IntKind.u8.wrap (Int.fdiv x (2 ^ (min (IntKind.i64.wrap (8 * (v : Int))).toNat IntKind.i64.bits))), by rw [wrap_u8]; omega, ?_⟩
    simp only [dG]
    rw [if_pos (by simp), if_pos (by rw [eS (by omega) (by omega)]; simp; omega), rF (by simp; omega), Option.bind_some, eS (n := (v : Int) - 1) (by omega) (by omega)]
  have e7 : ∀ n r, dG x (n + 1) (-1) r = some r := by
    intro n r
    simp only [dG]
    rw [if_neg (by decide)]
  rw [aON]
  obtain ⟨x1, b1, e1⟩ := st (18446744073709551609 + 6) 5 [] (by simp) (by simp) (by simp)
  obtain ⟨x2, b2, e2⟩ := st (18446744073709551609 + 5) 4 ([] ++ [x1]) (by simp) (by simpa using b1) (by simp)
  obtain ⟨x3, b3, e3⟩ := st (18446744073709551609 + 4) 3 ([] ++ [x1] ++ [x2]) (by simp) (by simpa using ⟨b1, b2⟩) (by simp)
  obtain ⟨x4, b4, e4⟩ := st (18446744073709551609 + 3) 2 ([] ++ [x1] ++ [x2] ++ [x3]) (by simp) (by simpa using ⟨b1, b2, b3⟩) (by simp)
  obtain ⟨x5, b5, e5⟩ := st (18446744073709551609 + 2) 1 ([] ++ [x1] ++ [x2] ++ [x3] ++ [x4]) (by simp) (by simpa using ⟨b1, b2, b3, b4⟩) (by simp)
  obtain ⟨x6, b6, e6⟩ := st (18446744073709551609 + 1) 0 ([] ++ [x1] ++ [x2] ++ [x3] ++ [x4] ++ [x5]) (by simp) (by simpa using ⟨b1, b2, b3, b4, b5⟩) (by simp)
  exact ⟨_, (e1.trans (e2.trans (e3.trans (e4.trans (e5.trans (e6.trans (e7 _ _))))))), by simp [maxLen], by simpa using ⟨b1, b2, b3, b4, b5, b6⟩⟩
theorem aNN {t : M.Site} {f : ByteArray} {v : Int} (h1 : t.Name.size ≤ 1048576) (h2 : f.size ≤ 1048576) : ∃ l, aA7 t f v = some l ∧ aAY t f v = some l ∧ okB l := by
  unfold aA7 aAY
  rw [aFB h1, aE0 h1, Option.bind_some, Option.bind_some, aFB h2, aE0 h2, Option.bind_some, Option.bind_some, aC4 (by simp), aCx (by simp), Option.bind_some, Option.bind_some]
  have hb := aMT (([IntKind.i64.wrap (1 + v)] ++ [103, aC8 107 t.Name, aC8 109 f]) ++ [IntKind.i64.wrap (1 + v)])
  rw [aJB hb.1 hb.2]
  obtain ⟨l, e, hl⟩ := aOY (aFf (([IntKind.i64.wrap (1 + v)] ++ [103, aC8 107 t.Name, aC8 109 f]) ++ [IntKind.i64.wrap (1 + v)]))
  exact ⟨l, e, e, hl⟩
theorem aJb {s : M.Site} (h : aHL s = true) : 1 ≤ s.Version ∧ s.Version ≤ 1000000000000 := by
  simp only [aHL, Bool.and_eq_true, inR, decide_eq_true_eq] at h
  exact h.2.2.1
def aGp (s : M.Site) (v : Int) : Bool := aHL s && (decide (v > s.Version - 2) && (decide (v ≤ s.Version) && decide (v ≥ 1)))
theorem aIa {s : M.Site} {v : Int} (hs : s.ok) : lM s v = some (aGp s v) := by
  unfold lM aGp
  rw [aCr hs, Option.bind_some]
  cases hn : aHL s with
  | false => simp
  | true =>
    have hv := aJb hn
    rw [if_pos rfl, eS (n := s.Version - 2) (by omega) (by omega), eS (by omega) (by omega)]
    unfold aBu bH
    by_cases h : s.Version - 2 + 1 > 1
    · rw [if_pos (by simpa using h), Option.bind_some]
      by_cases h1 : v ≥ s.Version - 2 + 1
      · rw [if_pos (by simpa using h1), Option.bind_some]
        have e1 : decide (v > s.Version - 2) = true := by simp; omega
        have e2 : decide (v ≥ 1) = true := by simp; omega
        rw [e1, e2]; simp
      · rw [if_neg (by simpa using h1), Option.bind_some]
        have e1 : decide (v > s.Version - 2) = false := by simp; omega
        rw [e1]; simp
    · rw [if_neg (by simpa using h), Option.bind_some]
      by_cases h1 : v ≥ 1
      · rw [if_pos (by simpa using h1), Option.bind_some]
        have e1 : decide (v > s.Version - 2) = true := by simp; omega
        have e2 : decide (v ≥ 1) = true := by simpa using h1
        rw [e1, e2]; simp
      · rw [if_neg (by simpa using h1), Option.bind_some]
        have e2 : decide (v ≥ 1) = false := by simpa using h1
        rw [e2]; simp
theorem aIr {s : M.Site} {v : Int} (hs : s.ok) : lP s v = some (aGp s v) := by
  unfold lP aGp
  rw [aCf hs, Option.bind_some]
  cases hn : aHL s with
  | false => simp
  | true =>
    have hv := aJb hn
    rw [if_pos rfl, eS (n := s.Version - 2) (by omega) (by omega)]
    cases decide (v > s.Version - 2) <;> cases decide (v ≤ s.Version) <;> simp
def aOx (s : M.Site) (f : ByteArray) : Bool := s.Files.any fun x => x.toList == f.toList
theorem aH1 {s : M.Site} {f : ByteArray} (hs : s.ok) : zJ s f = some (aOx s f) := by
  have hm := le_max hs.Files.1
  unfold zJ aOx
  rw [findAll (L := kA s f) (f := fun x : ByteArray => x.toList == f.toList) (A := fun _ => some true) (E := some false) hs.Files.1 (fun m k hk => ?_) (fun m => ?_), aNd]
  · cases s.Files.any (fun x => x.toList == f.toList) <;> rfl
  · simp only [kA]
    rw [if_pos (bA hk), aN hk, Option.bind_some, bD (by omega)]
  · simp only [kA]
    rw [if_neg (by rw [aO]; simp)]
theorem aHk {s : M.Site} {f : ByteArray} (hs : s.ok) : zI s f = some (aOx s f) := by
  have hm := le_max hs.Files.1
  unfold zI kS iI aOx
  rw [findAll (L := bO s.Files f) (f := fun x : ByteArray => x.toList == f.toList) (A := fun i => some (i : Int)) (E := some (-1)) hs.Files.1 (fun m k hk => ?_) (fun m => ?_), mT, Option.bind_some, Option.bind_some, aGd]
  · simp only [bO]
    rw [if_pos (bA hk), aN hk, Option.bind_some, bD (by omega), Bool.beq_comm]
  · simp only [bO]
    rw [if_neg (by rw [aO]; simp)]
theorem aLJ : M.Response.ok (⟨4, 0, 0, ([] : List Int), false⟩ : M.Response) := ⟨by unfold inI; simp, by unfold inI; simp, by unfold inI; simp, ⟨by simp [maxLen], by simp⟩⟩
theorem aKL {s : M.Site} {f : ByteArray} {v : Int} (hs : s.ok) (hv : inI v) (zs : M.Site.sz s ≤ 1048576) (zf : f.size ≤ 1048576) : ∃ r, vC s f v = some r ∧ uW s f v = some r ∧ M.Response.ok r := by
  have hn : s.Name.size ≤ 1048576 := by simp only [M.Site.sz] at zs; omega
  obtain ⟨l, e1, e2, hl⟩ := aNN (t := s) (f := f) (v := v) hn zf
  unfold vC uW bT bS
  rw [aCr hs, aCf hs, aIa hs, aIr hs, aH1 hs, aHk hs, e1, e2]
  have n404 : M.Response.ok (⟨1, 404, s.Version, ([] : List Int), false⟩ : M.Response) := ⟨by unfold inI; simp, by unfold inI; simp, hs.Version, ⟨by simp [maxLen], by simp⟩⟩
  simp only [Option.bind_some]
  cases aHL s
  · exact ⟨_, rfl, rfl, aLJ⟩
  · cases aGp s v
    · exact ⟨_, rfl, rfl, n404⟩
    · cases aOx s f
      · exact ⟨_, rfl, rfl, n404⟩
      · exact ⟨_, rfl, rfl, ⟨by unfold inI; simp, by unfold inI; simp, hv, hl⟩⟩
theorem aI2 {c : M.aP} {s : M.Site} {f : ByteArray} {v : Int} {o : Bool} (hc : c.ok) (hs : s.ok) (hv : inI v) (zc : c.sz ≤ 1048576) (zs : M.Site.sz s ≤ 1048576) (zf : f.size ≤ 1048576) : ∃ r, oU c s v f o = some r ∧ oK c s v f o = some r ∧ M.Response.ok r := by
  obtain ⟨x, e1, e2, hx⟩ := aJu (s := c) (v := v) (a := s.Name) (b := f) hc zc
  obtain ⟨y, e3, e4, hy⟩ := aKL (f := f) hs hv zs zf
  unfold oU oK bT bS
  rw [e1, e2, e3, e4]
  simp only [Option.bind_some]
  cases x.2
  · cases o
    · exact ⟨_, rfl, rfl, aLJ⟩
    · exact ⟨_, rfl, rfl, hy⟩
  · exact ⟨_, rfl, rfl, hx⟩
theorem aNh {w : M.World} {p : M.bG} {f : ByteArray} (hw : w.ok) (hp : p.ok) (hn : aF6 w = true) (hz : M.World.sz w ≤ 1048576) (zf : f.size ≤ 1048576) : ∃ r, tT w p f = some r ∧ wM w p f = some r ∧ M.Response.ok r := by
  have hz' := hz
  simp only [M.World.sz, M.aK.sz] at hz'
  unfold tT wM aAq aBp bT bS
  rw [aCU hw.aK, aCQ hw.aK, aFj, aCS]
  simp only [Option.bind_some]
  by_cases h : aBa (nAt p.Site p.Top) w.aK.Buckets < 0
  · simp only [h, decide_true, if_true, Option.bind_some, Bool.not_false]
    exact ⟨_, rfl, rfl, aLJ⟩
  · obtain ⟨j, ej, hj⟩ := aBo h
    simp only [h, decide_false, Bool.false_eq_true, if_false]
    rw [ej, aN hj]
    simp only [Option.bind_some, Bool.not_true, Bool.false_eq_true, if_false]
    by_cases h2 : aD5 p.Site < 0
    · simp only [h2, decide_true, if_true]
      exact ⟨_, rfl, rfl, aLJ⟩
    · obtain ⟨k, ek, hk⟩ := aLo h2
      have hk' : k < w.Sites.length := by rw [aJ1 hn]; exact hk
      have h3 : ¬ ((k : Int) ≥ (w.Sites.length : Int)) := by omega
      simp only [h2, decide_false, Bool.false_eq_true, if_false]
      rw [ek, aN hk']
      simp only [h3, decide_false, Bool.false_eq_true, if_false, Option.bind_some]
      have hb := hw.aK.Buckets.2 _ (List.getElem_mem hj)
      have z1 := cA (f := M.aE.sz) (List.getElem_mem hj)
      have z2 := cA (f := M.Site.sz) (List.getElem_mem hk')
      have z3 : M.aP.sz w.aK.Buckets[j].Caches ≤ M.aE.sz w.aK.Buckets[j] := by simp only [M.aE.sz]; omega
      obtain ⟨r, e1, e2, e3⟩ := aI2 (o := w.Online) (f := f) hb.Caches (hw.Sites.2 _ (List.getElem_mem hk')) hp.Version (by omega) (by omega) zf
      rw [e1, e2]
      exact ⟨r, rfl, rfl, e3⟩
def aDC (p : M.bG) (f : ByteArray) (v : Int) : M.bG := (⟨p.Id, p.Site, p.Top, p.Version, p.aJ ++ [(⟨f, v⟩ : M.aJ)], p.Machine⟩ : M.bG)
def aEe (p : M.bG) (f : ByteArray) (x : M.Response) : M.bG × Bool := if (x.Status != 200) = true then (p, false) else if (x.Version != p.Version) = true then (p, false) else if aDU p = true then (if aDU (aDC p f x.Version) = true then (aDC p f x.Version, true) else (p, false)) else (p, false)
theorem aGr {p : M.bG} {f : ByteArray} {v : Int} (hp : p.ok) (hl : p.aJ.length ≤ 4194304) (hf : f.size ≤ maxLen) (hv : inI v) : (aDC p f v).ok :=
  ⟨hp.Id, hp.Site, hp.Top, hp.Version, ⟨by show (p.aJ ++ _).length ≤ maxLen; unfold maxLen; simp; omega, fun y hy => by
    have hy' : y ∈ p.aJ ++ [(⟨f, v⟩ : M.aJ)] := hy
    simp only [List.mem_append, List.mem_cons, List.not_mem_nil, or_false] at hy'
    rcases hy' with hy | rfl
    · exact hp.aJ.2 y hy
    · exact ⟨hf, hv⟩⟩, hp.Machine⟩
theorem aNT {p : M.bG} {f : ByteArray} {x : M.Response} (hp : p.ok) (hl : p.aJ.length ≤ 4194304) (hf : f.size ≤ maxLen) (hv : inI x.Version) : (aEe p f x).1.ok := by
  unfold aEe
  split
  · exact hp
  · split
    · exact hp
    · split
      · split
        · exact aGr hp hl hf hv
        · exact hp
      · exact hp
theorem aNC (p : M.bG) (f : ByteArray) (x : M.Response) : M.bG.sz (aEe p f x).1 ≤ M.bG.sz p + f.size + 1 := by
  have h : M.bG.sz (aDC p f x.Version) = M.bG.sz p + f.size + 1 := by
    simp only [aDC, M.bG.sz, List.length_append, List.length_cons, List.length_nil, aJm, aD, M.aJ.sz]
    omega
  unfold aEe
  split
  · show M.bG.sz p ≤ _; omega
  · split
    · show M.bG.sz p ≤ _; omega
    · split
      · split
        · show M.bG.sz (aDC p f x.Version) ≤ _; omega
        · show M.bG.sz p ≤ _; omega
      · show M.bG.sz p ≤ _; omega
theorem aLq {p : M.bG} {f : ByteArray} {x : M.Response} (h : (aEe p f x).2 = false) : (aEe p f x).1 = p := by
  unfold aEe at h ⊢
  by_cases h1 : (x.Status != 200) = true
  · rw [if_pos h1]
  · rw [if_neg h1] at h ⊢
    by_cases h2 : (x.Version != p.Version) = true
    · rw [if_pos h2]
    · rw [if_neg h2] at h ⊢
      by_cases h3 : aDU p = true
      · rw [if_pos h3] at h ⊢
        by_cases h4 : aDU (aDC p f x.Version) = true
        · rw [if_pos h4] at h; cases h
        · rw [if_neg h4]
      · rw [if_neg h3]
theorem aHJ {p : M.bG} {f : ByteArray} {x : M.Response} (hp : p.ok) (hl : p.aJ.length ≤ 4194304) (hz : M.bG.sz p ≤ 1073741824) (hf : f.size ≤ maxLen) (hv : inI x.Version) : wW p f x = some (aEe p f x) := by
  have e := aCm (aGr hp hl hf hv)
  unfold aDC at e
  unfold wW aEe
  rw [aDo p hz, Option.bind_some, rF (by simp only [List.length_cons, List.length_nil]; omega), Option.bind_some, aCm hp, Option.bind_some, e, Option.bind_some]
  unfold aDC
  cases (x.Status != 200)
  · cases (x.Version != p.Version)
    · cases aDU p
      · simp
      · cases aDU (⟨p.Id, p.Site, p.Top, p.Version, p.aJ ++ [(⟨f, x.Version⟩ : M.aJ)], p.Machine⟩ : M.bG) <;> simp
    · simp
  · simp
theorem aGs {p : M.bG} {f : ByteArray} {x : M.Response} (hp : p.ok) (hl : p.aJ.length ≤ 4194304) (hz : M.bG.sz p ≤ 1073741824) (hf : f.size ≤ maxLen) (hv : inI x.Version) : wJ p f x = some (aEe p f x) := by
  have e := aCj (aGr hp hl hf hv)
  unfold aDC at e
  unfold wJ aEe
  rw [aDK p hz, Option.bind_some, rF (by simp only [List.length_cons, List.length_nil]; omega), Option.bind_some, aCj hp, Option.bind_some, e, Option.bind_some]
  unfold aDC
  cases (x.Status != 200)
  · cases (x.Version != p.Version)
    · cases aDU p
      · simp
      · cases aDU (⟨p.Id, p.Site, p.Top, p.Version, p.aJ ++ [(⟨f, x.Version⟩ : M.aJ)], p.Machine⟩ : M.bG) <;> simp
    · simp
  · simp
theorem aH0 {w : M.World} {i : Int} {f : ByteArray} (hw : w.ok) (hf : f.size ≤ 1048576) (hz : M.World.sz w ≤ 1048576) : ∃ R : M.World × Int, mX w i f = some R ∧ jQ w i f = some R ∧ R.1.ok ∧ M.World.sz R.1 ≤ 16777216 := by
  have hz' := hz
  simp only [M.World.sz] at hz'
  unfold mX jQ
  rw [aH6 w (by omega), aGH w (by omega), Option.bind_some, Option.bind_some, aGV hw, aGE hw, Option.bind_some, Option.bind_some, aHj hw hz, aHe hw hz, Option.bind_some, Option.bind_some]
  cases hn : aF6 w with
  | false => exact ⟨(w, -1), by simp, by simp, hw, by show M.World.sz w ≤ _; omega⟩
  | true =>
    simp only [Bool.not_true, Bool.false_eq_true, if_false]
    by_cases h : aNb w i < 0
    · simp only [h, decide_true, if_true]
      exact ⟨(w, -1), rfl, rfl, hw, by show M.World.sz w ≤ _; omega⟩
    · obtain ⟨k, e, hk⟩ := aBo (show ¬ aBa (fun p : M.bG => p.Id == i) w.Pages < 0 from h)
      simp only [h, decide_false, Bool.false_eq_true, if_false]
      have hy := cA (f := M.bG.sz) (List.getElem_mem hk)
      have hy2 : w.Pages[k].aJ.length ≤ M.bG.sz w.Pages[k] := by simp only [M.bG.sz]; omega
      have hp := hw.Pages.2 _ (List.getElem_mem hk)
      have hfm : f.size ≤ maxLen := by unfold maxLen; omega
      obtain ⟨r, e1, e2, e3⟩ := aNh (f := f) hw hp hn hz hf
      rw [show aNb w i = (k : Int) from e, aN hk]
      simp only [Option.bind_some]
      rw [e1, e2, Option.bind_some, Option.bind_some, aHJ hp (by omega) (by omega) hfm e3.Version, aGs hp (by omega) (by omega) hfm e3.Version, Option.bind_some, Option.bind_some, Int.toNat_natCast]
      have ok := aNT (x := r) hp (by omega) hfm e3.Version
      have sz := aNC w.Pages[k] f r
      have hq := aJM (f := M.bG.sz) (x := (aEe w.Pages[k] f r).1) (l := w.Pages) (i := k)
      refine ⟨(⟨w.Now, w.Online, w.Device, w.aK, w.Pages.set k (aEe w.Pages[k] f r).1, w.NextPage, w.Locks, w.Channel, w.Sites, w.Servers⟩, r.Status), ?_, rfl, ⟨hw.Now, hw.Device, hw.aK, ⟨by simpa using hw.Pages.1, fun y hy => ?_⟩, hw.NextPage, hw.Locks, hw.Channel, hw.Sites, hw.Servers⟩, by simp only [M.World.sz, List.length_set]; omega⟩
      · cases hb : (aEe w.Pages[k] f r).2 with
        | true => rfl
        | false => rw [aLq hb, List.set_getElem_self]; rfl
      · rcases List.mem_or_eq_of_mem_set hy with hy | rfl
        · exact hw.Pages.2 _ hy
        · exact ok
end Go.Proofs.YtecmnmaaopkdfaaGreat.gen
