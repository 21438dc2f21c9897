/-
  Helper text. No conditions.
-/
import Derived.Test.YtecmnmaaopkdfaaGreatReleaseSitePj
namespace Go.Proofs.YtecmnmaaopkdfaaGreat.gen
open Go Go.Sh
set_option linter.unusedVariables false
set_option linter.unusedSimpArgs false
theorem aL6 (x : Int) : inI (IntKind.i64.wrap x) := by unfold inI; rw [IntKind.wrap_i64]; omega
theorem aH0 {α : Type} {f : α → Nat} {x : α} : ∀ {l : List α} {i : Nat}, aD f (l.set i x) ≤ aD f l + f x
  | [], _ => by simp [aD]
  | y :: l, 0 => by simp only [List.set_cons_zero, aD]; omega
  | y :: l, i + 1 => by have := aH0 (f := f) (x := x) (l := l) (i := i); simp only [List.set_cons_succ, aD]; omega
theorem aEY {a : ByteArray} : pK a = some (aC0 a) := by
  unfold pK
  rw [show qK = some oG from rfl, Option.bind_some]
  rw [findAll (L := gJ a oG) (f := fun x : ByteArray => x.toList == a.toList) (A := fun i => some (i : Int)) (E := some (-1)) aHB (fun m k hk => ?_) (fun m => ?_), zE]
  · rfl
  · have hk3 : k < 3 := hk
    simp only [gJ]
    rw [if_pos (bA hk), aN hk, Option.bind_some, bE (by omega)]
  · simp only [gJ]
    rw [if_neg (by rw [aO]; simp)]
theorem aE8 (x : List M.Instr) (hs : x.length ≤ 1073741824) : sN x = some x := by
  unfold sN
  rw [aFM hs (by omega), Option.bind_some]
theorem aGc (x : M.Machine) (hs : M.Machine.sz x ≤ 1073741824) : yC x = some x := by
  simp only [M.Machine.sz] at hs
  unfold yC
  rw [aE8 _ (by omega), Option.bind_some, aFM (by omega) (by omega), Option.bind_some]
theorem aGZ (x : M.bJ) (hs : M.bJ.sz x ≤ 1073741824) : wT x = some x := by
  simp only [M.bJ.sz] at hs
  unfold wT
  rw [aFM (by omega) (by omega), Option.bind_some, aGc _ (by omega), Option.bind_some]
theorem aGi (x : M.aQ) (hs : M.aQ.sz x ≤ 1073741824) : tJ x = some x := by
  simp only [M.aQ.sz] at hs
  unfold tJ
  rw [aFM (by omega) (by omega), Option.bind_some]
theorem aGR (x : M.Channel) (hs : M.Channel.sz x ≤ 1073741824) : tO x = some x := by
  simp only [M.Channel.sz] at hs
  unfold tO
  rw [aFM (by omega) (by omega), Option.bind_some]
theorem aCo (x : M.Site) (hs : M.Site.sz x ≤ 1073741824) : kS x = some x := by
  simp only [M.Site.sz] at hs
  unfold kS
  rw [aFM (by omega) (by omega), Option.bind_some]
theorem aGg (x : M.Server) (hs : M.Server.sz x ≤ 1073741824) : wN x = some x := by
  simp only [M.Server.sz] at hs
  unfold wN
  rw [aBt _ (by omega), Option.bind_some, aFM (by omega) (by omega), Option.bind_some, aFM (by omega) (by omega), Option.bind_some]
theorem aDk (x : M.Machine) (hs : M.Machine.sz x ≤ 1073741824) : nO x = some x := by
  simp only [M.Machine.sz] at hs
  unfold nO
  rw [aFM (by omega) (by omega), Option.bind_some, aFM (by omega) (by omega), Option.bind_some]
theorem aFy (x : M.bJ) (hs : M.bJ.sz x ≤ 1073741824) : uT x = some x := by
  simp only [M.bJ.sz] at hs
  unfold uT
  rw [aFM (by omega) (by omega), Option.bind_some, aDk _ (by omega), Option.bind_some]
theorem aFI (x : M.aQ) (hs : M.aQ.sz x ≤ 1073741824) : rL x = some x := by
  simp only [M.aQ.sz] at hs
  unfold rL
  rw [aFM (by omega) (by omega), Option.bind_some]
theorem aDO (x : M.Channel) (hs : M.Channel.sz x ≤ 1073741824) : nX x = some x := by
  simp only [M.Channel.sz] at hs
  unfold nX
  rw [aFM (by omega) (by omega), Option.bind_some]
theorem aCF (x : M.Site) (hs : M.Site.sz x ≤ 1073741824) : jJ x = some x := by
  simp only [M.Site.sz] at hs
  unfold jJ
  rw [aFM (by omega) (by omega), Option.bind_some]
theorem aEE (x : M.Server) (hs : M.Server.sz x ≤ 1073741824) : qD x = some x := by
  simp only [M.Server.sz] at hs
  unfold qD
  rw [aAq _ (by omega), Option.bind_some, aFM (by omega) (by omega), Option.bind_some, aFM (by omega) (by omega), Option.bind_some]
theorem aFC (x : List M.bJ) (hs : x.length + aD M.bJ.sz x ≤ 1073741824) : sZ x = some x := by
  unfold sZ
  exact wM (xs := x) (b := 144) (L := hD x) (E := some) (by omega) (by omega) (fun n r k hk => by
    have hy := cO (f := M.bJ.sz) (List.getElem_mem hk)
    simp only [hD]
    rw [if_pos (bA hk), aN hk, Option.bind_some, aFy _ (by omega), Option.bind_some, bE (by omega)]) (fun n r => by
    simp only [hD]
    rw [if_neg (by rw [aO]; simp)])
theorem aGm (w : M.World) (hs : M.World.sz w ≤ 1073741824) : xN w = some w := by
  simp only [M.World.sz] at hs
  have e3 : fZ w w.aK w.Pages w.Locks w.Channel w.Sites fuel 0 ([] : List M.Server) = some w := wM (xs := w.Servers) (b := 96) (L := fZ w w.aK w.Pages w.Locks w.Channel w.Sites) (E := fun r => some { w with Servers := r }) (by omega) (by omega) (fun n r k hk => by
      have hy := cO (f := M.Server.sz) (List.getElem_mem hk)
      simp only [fZ]
      rw [if_pos (bA hk), aN hk, Option.bind_some, aGg _ (by omega), Option.bind_some, bE (by omega)]) (fun n r => by
      simp only [fZ]
      rw [if_neg (by rw [aO]; simp)])
  have e2 : gE w w.aK w.Pages w.Locks w.Channel fuel 0 ([] : List M.Site) = some w := (wM (xs := w.Sites) (b := 56) (L := gE w w.aK w.Pages w.Locks w.Channel) (E := fun r => fZ w w.aK w.Pages w.Locks w.Channel r fuel 0 ([] : List M.Server)) (by omega) (by omega) (fun n r k hk => by
      have hy := cO (f := M.Site.sz) (List.getElem_mem hk)
      simp only [gE]
      rw [if_pos (bA hk), aN hk, Option.bind_some, aCo _ (by omega), Option.bind_some, bE (by omega)]) (fun n r => by
      simp only [gE]
      rw [if_neg (by rw [aO]; simp)])).trans e3
  have e1 : hP w w.aK fuel 0 ([] : List M.bJ) = some w := (wM (xs := w.Pages) (b := 144) (L := hP w w.aK) (E := fun r => (tJ w.Locks).bind fun x => (tO w.Channel).bind fun y => gE w w.aK r x y fuel 0 ([] : List M.Site)) (by omega) (by omega) (fun n r k hk => by
      have hy := cO (f := M.bJ.sz) (List.getElem_mem hk)
      simp only [hP]
      rw [if_pos (bA hk), aN hk, Option.bind_some, aGZ _ (by omega), Option.bind_some, bE (by omega)]) (fun n r => by
      simp only [hP]
      rw [if_neg (by rw [aO]; simp)])).trans (by rw [aGi _ (by omega), Option.bind_some, aGR _ (by omega), Option.bind_some]; exact e2)
  unfold xN
  rw [aGa _ (by omega), Option.bind_some]
  exact e1
theorem aFF (w : M.World) (hs : M.World.sz w ≤ 1073741824) : rK w = some w := by
  simp only [M.World.sz] at hs
  have e3 : eT w w.aK w.Pages w.Locks w.Channel w.Sites fuel 0 ([] : List M.Server) = some w := wM (xs := w.Servers) (b := 96) (L := eT w w.aK w.Pages w.Locks w.Channel w.Sites) (E := fun r => some { w with Servers := r }) (by omega) (by omega) (fun n r k hk => by
      have hy := cO (f := M.Server.sz) (List.getElem_mem hk)
      simp only [eT]
      rw [if_pos (bA hk), aN hk, Option.bind_some, aEE _ (by omega), Option.bind_some, bE (by omega)]) (fun n r => by
      simp only [eT]
      rw [if_neg (by rw [aO]; simp)])
  have e2 : fS w w.aK w.Pages w.Locks w.Channel fuel 0 ([] : List M.Site) = some w := (wM (xs := w.Sites) (b := 56) (L := fS w w.aK w.Pages w.Locks w.Channel) (E := fun r => eT w w.aK w.Pages w.Locks w.Channel r fuel 0 ([] : List M.Server)) (by omega) (by omega) (fun n r k hk => by
      have hy := cO (f := M.Site.sz) (List.getElem_mem hk)
      simp only [fS]
      rw [if_pos (bA hk), aN hk, Option.bind_some, aCF _ (by omega), Option.bind_some, bE (by omega)]) (fun n r => by
      simp only [fS]
      rw [if_neg (by rw [aO]; simp)])).trans e3
  unfold rK
  rw [aD6 _ (by omega), Option.bind_some, aFC _ (by omega), Option.bind_some, aFI _ (by omega), Option.bind_some, aDO _ (by omega), Option.bind_some]
  exact e2
theorem aJ7 {a : ByteArray} (h : ¬ aC0 a < 0) : ∃ k : Nat, aC0 a = (k : Int) ∧ k < 3 := by
  obtain ⟨k, e, hk⟩ := aD3 (show ¬ aBx (fun x : ByteArray => x.toList == a.toList) oG < 0 from h)
  exact ⟨k, e, hk⟩
theorem aIE {w : M.World} (h : aFs w = true) : w.Sites.length = 3 := by
  unfold aFs at h
  rw [Bool.and_eq_true] at h
  simpa using h.1
def aIS (s : M.Site) : M.Site := (⟨s.Name, IntKind.i64.wrap (s.Version + 1), s.Files, s.Shared⟩ : M.Site)
def aIt (s : M.Site) : M.Site × Bool := if aCl s = true then (if aCl (aIS s) = true then (aIS s, true) else (s, false)) else (s, false)
theorem aKo {s : M.Site} (h : aCl s = true) : 1 ≤ s.Version ∧ s.Version ≤ 1000000000000 := by
  simp only [aCl, Bool.and_eq_true, inR, decide_eq_true_eq] at h
  exact h.2.2.1
theorem aHR {s : M.Site} (hs : s.ok) : (aIS s).ok := ⟨hs.Name, aL6 _, hs.Files⟩
theorem aMm {s : M.Site} (hs : s.ok) : (aIt s).1.ok := by
  unfold aIt
  split
  · split
    · exact aHR hs
    · exact hs
  · exact hs
theorem aMv (s : M.Site) : M.Site.sz (aIt s).1 = M.Site.sz s := by
  unfold aIt
  split
  · split <;> rfl
  · rfl
theorem aKa {s : M.Site} (h : (aIt s).2 = false) : (aIt s).1 = s := by
  unfold aIt at h ⊢
  by_cases h1 : aCl s = true
  · rw [if_pos h1] at h ⊢
    by_cases h2 : aCl (aIS s) = true
    · rw [if_pos h2] at h; cases h
    · rw [if_neg h2]
  · rw [if_neg h1]
theorem aGW {s : M.Site} (hs : s.ok) (hz : M.Site.sz s ≤ 1048576) : yA s = some (aIt s) := by
  have e : ∃ v, aAI s.Version = some v ∧ (aCl s = true → v = IntKind.i64.wrap (s.Version + 1)) := by
    unfold aAI
    by_cases h : s.Version > 1000000000000
    · exact ⟨_, if_pos (by simpa using h), fun hn => absurd (aKo hn).2 (by omega)⟩
    · exact ⟨_, if_neg (by simpa using h), fun _ => rfl⟩
  obtain ⟨v, e1, e2⟩ := e
  unfold yA aIt
  rw [aCo s (by omega), Option.bind_some, e1, Option.bind_some, aBy hs, Option.bind_some]
  cases hn : aCl s with
  | false => simp
  | true =>
    rw [e2 hn, if_neg (by simp), if_pos rfl, show (⟨s.Name, IntKind.i64.wrap (s.Version + 1), s.Files, s.Shared⟩ : M.Site) = aIS s from rfl, aBy (aHR hs), Option.bind_some, Option.bind_some]
    cases aCl (aIS s) <;> simp
theorem aGS {s : M.Site} (hs : s.ok) (hz : M.Site.sz s ≤ 1048576) : yF s = some (aIt s) := by
  unfold yF aIt
  rw [aCF s (by omega), Option.bind_some, aBw hs, Option.bind_some]
  cases hn : aCl s with
  | false => simp
  | true =>
    rw [if_neg (by simp), if_pos rfl, show (⟨s.Name, IntKind.i64.wrap (s.Version + 1), s.Files, s.Shared⟩ : M.Site) = aIS s from rfl, aBw (aHR hs), Option.bind_some, Option.bind_some]
    cases aCl (aIS s) <;> simp
theorem aHJ {w : M.World} {a : ByteArray} (hw : w.ok) (hz : M.World.sz w ≤ 1048576) : ∃ R : M.World × Bool, nG w a = some R ∧ kC w a = some R ∧ R.1.ok ∧ M.World.sz R.1 ≤ 4194304 := by
  have hz' := hz
  simp only [M.World.sz] at hz'
  unfold nG kC
  rw [aGm w (by omega), aFF w (by omega), Option.bind_some, Option.bind_some, aEY, aBZ, Option.bind_some, Option.bind_some, aGh hw hz, aGn hw hz, Option.bind_some, Option.bind_some]
  cases hn : aFs w with
  | false => exact ⟨(w, false), by simp, by simp, hw, by show M.World.sz w ≤ _; omega⟩
  | true =>
    simp only [Bool.not_true, Bool.false_eq_true, if_false]
    by_cases h : aC0 a < 0
    · simp only [h, decide_true, if_true]
      exact ⟨(w, false), rfl, rfl, hw, by show M.World.sz w ≤ _; omega⟩
    · obtain ⟨k, e, hk⟩ := aJ7 h
      have hk' : k < w.Sites.length := by rw [aIE hn]; exact hk
      have hs := hw.Sites.2 _ (List.getElem_mem hk')
      have hy := cO (f := M.Site.sz) (List.getElem_mem hk')
      simp only [h, decide_false, Bool.false_eq_true, if_false]
      rw [e, aN hk', Option.bind_some, Option.bind_some, aGW hs (by omega), aGS hs (by omega), Option.bind_some, Option.bind_some, Option.bind_some, Option.bind_some, Int.toNat_natCast]
      have ok : M.World.ok (⟨w.Now, w.Online, w.Device, w.aK, w.Pages, w.NextPage, w.Locks, w.Channel, w.Sites.set k (aIt w.Sites[k]).1, w.Servers⟩ : M.World) := by
        refine ⟨hw.Now, hw.Device, hw.aK, hw.Pages, hw.NextPage, hw.Locks, hw.Channel, ⟨by simpa using hw.Sites.1, fun y hy => ?_⟩, hw.Servers⟩
        rcases List.mem_or_eq_of_mem_set hy with hy | rfl
        · exact hw.Sites.2 _ hy
        · exact aMm hs
      have hq := aH0 (f := M.Site.sz) (x := (aIt w.Sites[k]).1) (l := w.Sites) (i := k)
      have hr := aMv w.Sites[k]
      refine ⟨(⟨w.Now, w.Online, w.Device, w.aK, w.Pages, w.NextPage, w.Locks, w.Channel, w.Sites.set k (aIt w.Sites[k]).1, w.Servers⟩, (aIt w.Sites[k]).2), rfl, ?_, ok, by simp only [M.World.sz, List.length_set]; omega⟩
      cases hb : (aIt w.Sites[k]).2 with
      | true => simp
      | false => rw [aKa hb, List.set_getElem_self]; rfl
end Go.Proofs.YtecmnmaaopkdfaaGreat.gen
