/-
  Helper text. No conditions.
-/
import Derived.Test.YtecmnmaaopkdfaaGreatPageSendPj
namespace Go.Proofs.YtecmnmaaopkdfaaGreat.gen
open Go Go.Sh
set_option linter.unusedVariables false
set_option linter.unusedSimpArgs false
theorem aFH (x : List M.Instr) (hs : x.length ≤ 1073741824) : sJ x = some x := by
  unfold sJ
  rw [aFR hs (by omega), Option.bind_some]
theorem aGn (x : M.Machine) (hs : M.Machine.sz x ≤ 1073741824) : xE x = some x := by
  simp only [M.Machine.sz] at hs
  unfold xE
  rw [aFH _ (by omega), Option.bind_some, aFR (by omega) (by omega), Option.bind_some]
theorem aGl (x : M.bF) (hs : M.bF.sz x ≤ 1073741824) : yK x = some x := by
  simp only [M.bF.sz] at hs
  unfold yK
  rw [aFR (by omega) (by omega), Option.bind_some, aGn _ (by omega), Option.bind_some]
theorem aG8 (x : M.aQ) (hs : M.aQ.sz x ≤ 1073741824) : tU x = some x := by
  simp only [M.aQ.sz] at hs
  unfold tU
  rw [aFR (by omega) (by omega), Option.bind_some]
theorem aGv (x : M.Channel) (hs : M.Channel.sz x ≤ 1073741824) : jK x = some x := by
  simp only [M.Channel.sz] at hs
  unfold jK
  rw [aFR (by omega) (by omega), Option.bind_some]
theorem aGx (x : M.Site) (hs : M.Site.sz x ≤ 1073741824) : xK x = some x := by
  simp only [M.Site.sz] at hs
  unfold xK
  rw [aFR (by omega) (by omega), Option.bind_some]
theorem aG7 (x : M.Server) (hs : M.Server.sz x ≤ 1073741824) : xN x = some x := by
  simp only [M.Server.sz] at hs
  unfold xN
  rw [aBv _ (by omega), Option.bind_some, aFR (by omega) (by omega), Option.bind_some, aFR (by omega) (by omega), Option.bind_some]
theorem aEA (x : M.Machine) (hs : M.Machine.sz x ≤ 1073741824) : nS x = some x := by
  simp only [M.Machine.sz] at hs
  unfold nS
  rw [aFR (by omega) (by omega), Option.bind_some, aFR (by omega) (by omega), Option.bind_some]
theorem aFu (x : M.bF) (hs : M.bF.sz x ≤ 1073741824) : wJ x = some x := by
  simp only [M.bF.sz] at hs
  unfold wJ
  rw [aFR (by omega) (by omega), Option.bind_some, aEA _ (by omega), Option.bind_some]
theorem aFL (x : M.aQ) (hs : M.aQ.sz x ≤ 1073741824) : tK x = some x := by
  simp only [M.aQ.sz] at hs
  unfold tK
  rw [aFR (by omega) (by omega), Option.bind_some]
theorem aDn (x : M.Channel) (hs : M.Channel.sz x ≤ 1073741824) : gV x = some x := by
  simp only [M.Channel.sz] at hs
  unfold gV
  rw [aFR (by omega) (by omega), Option.bind_some]
theorem aFx (x : M.Site) (hs : M.Site.sz x ≤ 1073741824) : vY x = some x := by
  simp only [M.Site.sz] at hs
  unfold vY
  rw [aFR (by omega) (by omega), Option.bind_some]
theorem aEu (x : M.Server) (hs : M.Server.sz x ≤ 1073741824) : pK x = some x := by
  simp only [M.Server.sz] at hs
  unfold pK
  rw [aA3 _ (by omega), Option.bind_some, aFR (by omega) (by omega), Option.bind_some, aFR (by omega) (by omega), Option.bind_some]
theorem aFZ (x : List M.bF) (hs : x.length + aD M.bF.sz x ≤ 1073741824) : sH x = some x := by
  unfold sH
  exact wY (xs := x) (b := 144) (L := hO x) (E := some) (by omega) (by omega) (fun n r k hk => by
    have hy := dB (f := M.bF.sz) (List.getElem_mem hk)
    simp only [hO]
    rw [if_pos (bA hk), aN hk, Option.bind_some, aFu _ (by omega), Option.bind_some, bE (by omega)]) (fun n r => by
    simp only [hO]
    rw [if_neg (by rw [aO]; simp)])
theorem aGk (w : M.World) (hs : M.World.sz w ≤ 1073741824) : yX w = some w := by
  simp only [M.World.sz] at hs
  have e3 : gJ w w.aK w.Pages w.Locks w.Channel w.Sites fuel 0 ([] : List M.Server) = some w := wY (xs := w.Servers) (b := 96) (L := gJ w w.aK w.Pages w.Locks w.Channel w.Sites) (E := fun r => some { w with Servers := r }) (by omega) (by omega) (fun n r k hk => by
      have hy := dB (f := M.Server.sz) (List.getElem_mem hk)
      simp only [gJ]
      rw [if_pos (bA hk), aN hk, Option.bind_some, aG7 _ (by omega), Option.bind_some, bE (by omega)]) (fun n r => by
      simp only [gJ]
      rw [if_neg (by rw [aO]; simp)])
  have e2 : gE w w.aK w.Pages w.Locks w.Channel fuel 0 ([] : List M.Site) = some w := (wY (xs := w.Sites) (b := 56) (L := gE w w.aK w.Pages w.Locks w.Channel) (E := fun r => gJ w w.aK w.Pages w.Locks w.Channel r fuel 0 ([] : List M.Server)) (by omega) (by omega) (fun n r k hk => by
      have hy := dB (f := M.Site.sz) (List.getElem_mem hk)
      simp only [gE]
      rw [if_pos (bA hk), aN hk, Option.bind_some, aGx _ (by omega), Option.bind_some, bE (by omega)]) (fun n r => by
      simp only [gE]
      rw [if_neg (by rw [aO]; simp)])).trans e3
  have e1 : iD w w.aK fuel 0 ([] : List M.bF) = some w := (wY (xs := w.Pages) (b := 144) (L := iD w w.aK) (E := fun r => (tU w.Locks).bind fun x => (jK w.Channel).bind fun y => gE w w.aK r x y fuel 0 ([] : List M.Site)) (by omega) (by omega) (fun n r k hk => by
      have hy := dB (f := M.bF.sz) (List.getElem_mem hk)
      simp only [iD]
      rw [if_pos (bA hk), aN hk, Option.bind_some, aGl _ (by omega), Option.bind_some, bE (by omega)]) (fun n r => by
      simp only [iD]
      rw [if_neg (by rw [aO]; simp)])).trans (by rw [aG8 _ (by omega), Option.bind_some, aGv _ (by omega), Option.bind_some]; exact e2)
  unfold yX
  rw [aGo _ (by omega), Option.bind_some]
  exact e1
theorem aFO (w : M.World) (hs : M.World.sz w ≤ 1073741824) : rX w = some w := by
  simp only [M.World.sz] at hs
  have e3 : eX w w.aK w.Pages w.Locks w.Channel w.Sites fuel 0 ([] : List M.Server) = some w := wY (xs := w.Servers) (b := 96) (L := eX w w.aK w.Pages w.Locks w.Channel w.Sites) (E := fun r => some { w with Servers := r }) (by omega) (by omega) (fun n r k hk => by
      have hy := dB (f := M.Server.sz) (List.getElem_mem hk)
      simp only [eX]
      rw [if_pos (bA hk), aN hk, Option.bind_some, aEu _ (by omega), Option.bind_some, bE (by omega)]) (fun n r => by
      simp only [eX]
      rw [if_neg (by rw [aO]; simp)])
  have e2 : fW w w.aK w.Pages w.Locks w.Channel fuel 0 ([] : List M.Site) = some w := (wY (xs := w.Sites) (b := 56) (L := fW w w.aK w.Pages w.Locks w.Channel) (E := fun r => eX w w.aK w.Pages w.Locks w.Channel r fuel 0 ([] : List M.Server)) (by omega) (by omega) (fun n r k hk => by
      have hy := dB (f := M.Site.sz) (List.getElem_mem hk)
      simp only [fW]
      rw [if_pos (bA hk), aN hk, Option.bind_some, aFx _ (by omega), Option.bind_some, bE (by omega)]) (fun n r => by
      simp only [fW]
      rw [if_neg (by rw [aO]; simp)])).trans e3
  unfold rX
  rw [aD8 _ (by omega), Option.bind_some, aFZ _ (by omega), Option.bind_some, aFL _ (by omega), Option.bind_some, aDn _ (by omega), Option.bind_some]
  exact e2
theorem aGe {x : M.Channel} {p : Int} (hx : x.Mails.length ≤ 4194304) : vU x p = some (x.Mails.filter fun m => m.To == p) := by
  unfold vU
  refine aFs (L := gS x p) (b := 24) (E := some) (by unfold maxLen; omega) (by omega) (fun n r k hk => ?_) (fun n r => ?_)
  · simp only [gS]
    rw [if_pos (bA hk), aN hk, Option.bind_some, bE (by omega)]
  · simp only [gS]
    rw [if_neg (by rw [aO]; simp)]
theorem aGH {x : M.Channel} {p : Int} (hx : x.Mails.length ≤ 4194304) : uV x p = some (x.Mails.filter fun m => m.To == p) := by
  unfold uV
  refine aFs (L := gU x p) (b := 24) (E := some) (by unfold maxLen; omega) (by omega) (fun n r k hk => ?_) (fun n r => ?_)
  · simp only [gU]
    rw [if_pos (bA hk), aN hk, Option.bind_some, bE (by omega)]
  · simp only [gU]
    rw [if_neg (by rw [aO]; simp)]
def aK2 (a b : M.bF) : Bool := (a.Site.toList == b.Site.toList) && ((a.Top.toList == b.Top.toList) && (a.Id != b.Id))
def aDI (a : M.bF) (f n : Int) (s : Int × List M.cN) (p : M.bF) : Int × List M.cN :=
  if aK2 a p && decide (((s.2.filter fun m => m.To == p.Id).length : Int) < 5) then (s.1 + 1, s.2 ++ [⟨p.Id, f, n⟩]) else s
theorem aRG {α : Type} (a b : Bool) (x y : α) : (if a = true then (if b = true then x else y) else y) = if (a && b) = true then x else y := by cases a <;> cases b <;> rfl
theorem aG4 (a b : M.bF) : yC a b = some (aK2 a b) := by unfold yC aK2; rw [bL, bL]
theorem aG2 (a b : M.bF) : xM a b = some (aK2 a b) := by unfold xM aK2; rw [bL, bL]
def aDy (x : M.Channel) (l : List M.bF) (f n : Int) : M.Channel × Int :=
  match l[(aBO (fun p : M.bF => p.Id == f) l).toNat]? with
  | some a => if aBO (fun p : M.bF => p.Id == f) l < 0 then (x, 0) else (⟨(l.foldl (aDI a f n) (0, x.Mails)).2⟩, (l.foldl (aDI a f n) (0, x.Mails)).1)
  | none => (x, 0)
def aK8 (m0 : Nat) (f n : Int) (l : List M.bF) (k : Nat) (s : Int × List M.cN) : Prop := 0 ≤ s.1 ∧ s.1 ≤ k ∧ s.2.length ≤ m0 + k ∧ ∀ m ∈ s.2, M.cN.ok m
theorem aHB {m0 : Nat} {f n : Int} {l : List M.bF} (hf : inI f) (hn : inI n) (hl : ∀ p ∈ l, M.bF.ok p) (a : M.bF) : ∀ s (k : Nat) (hk : k < l.length), aK8 m0 f n l k s → aK8 m0 f n l (k + 1) (aDI a f n s l[k]) := by
  rintro s k hk ⟨h1, h2, h3, h4⟩
  unfold aDI
  split
  · refine ⟨by simp only; omega, by simp only; omega, by simp only [List.length_append, List.length_cons, List.length_nil]; omega, ?_⟩
    intro m hm
    rcases List.mem_append.1 hm with hm | hm
    · exact h4 m hm
    · simp at hm
      subst hm
      exact ⟨(hl _ (List.getElem_mem hk)).Id, hf, hn⟩
  · exact ⟨h1, by omega, by omega, h4⟩
theorem aKu {x : M.Channel} {l : List M.bF} {f n : Int} (hx : x.ok) (hl : l.length ≤ maxLen ∧ ∀ p ∈ l, M.bF.ok p) (hf : inI f) (hn : inI n) (hs : x.Mails.length + l.length ≤ 2097152) {j : Nat} {a : M.bF} (hj : l[j]? = some a) :
    dS l f n (j : Int) fuel 0 0 x.Mails = some ((⟨(l.foldl (aDI a f n) (0, x.Mails)).2⟩ : M.Channel), (l.foldl (aDI a f n) (0, x.Mails)).1) ∧ aK8 x.Mails.length f n l l.length (l.foldl (aDI a f n) (0, x.Mails)) := by
  have key := aIr (L := fun n' k (s : Int × List M.cN) => dS l f n (j : Int) n' s.1 k s.2) (xs := l) (step := aDI a f n) (I := aK8 x.Mails.length f n l) (E := fun s => some ((⟨s.2⟩ : M.Channel), s.1)) hl.1
    (aHB hf hn hl.2 a) (fun m s k hk hi => ?_) (fun m s hi => ?_) (0, x.Mails) ⟨by simp, by simp, by simp, hx.Mails.2⟩
  · exact key
  · obtain ⟨h1, h2, h3, h4⟩ := hi
    simp only [dS]
    rw [if_pos (bA hk), yN hj, Option.bind_some, aN hk, Option.bind_some, aG4, Option.bind_some, aGe (by simp only; omega), Option.bind_some, wW (by simp only [List.length_cons, List.length_nil]; omega), Option.bind_some, iG (by omega) (by omega), bE (by omega), aRG]
    unfold aDI
    split <;> rfl
  · simp only [dS]
    rw [if_neg (by rw [aO]; simp)]
theorem aK3 {x : M.Channel} {l : List M.bF} {f n : Int} (hx : x.ok) (hl : l.length ≤ maxLen ∧ ∀ p ∈ l, M.bF.ok p) (hf : inI f) (hn : inI n) (hs : x.Mails.length + l.length ≤ 2097152) {j : Nat} {a : M.bF} (hj : l[j]? = some a) :
    cP l f n (j : Int) fuel 0 0 x.Mails = some ((⟨(l.foldl (aDI a f n) (0, x.Mails)).2⟩ : M.Channel), (l.foldl (aDI a f n) (0, x.Mails)).1) := by
  have key := aIr (L := fun n' k (s : Int × List M.cN) => cP l f n (j : Int) n' s.1 k s.2) (xs := l) (step := aDI a f n) (I := aK8 x.Mails.length f n l) (E := fun s => some ((⟨s.2⟩ : M.Channel), s.1)) hl.1
    (aHB hf hn hl.2 a) (fun m s k hk hi => ?_) (fun m s hi => ?_) (0, x.Mails) ⟨by simp, by simp, by simp, hx.Mails.2⟩
  · exact key.1
  · obtain ⟨h1, h2, h3, h4⟩ := hi
    simp only [cP]
    rw [if_pos (bA hk), aN hk, Option.bind_some, yN hj, Option.bind_some, aG2, Option.bind_some, aGH (by simp only; omega), Option.bind_some, wW (by simp only [List.length_cons, List.length_nil]; omega), Option.bind_some, iG (by omega) (by omega), bE (by omega), aRG]
    unfold aDI
    split <;> rfl
  · simp only [cP]
    rw [if_neg (by rw [aO]; simp)]
theorem aIK {l : List M.bF} {f : Int} (hl : l.length ≤ maxLen) : tS l f = some (aBO (fun p : M.bF => p.Id == f) l) := by
  have hm := le_max hl
  unfold tS
  rw [findAll (L := jH l f) (f := fun p : M.bF => p.Id == f) (A := fun i => some (i : Int)) (E := some (-1)) hl (fun m k hk => ?_) (fun m => ?_), xL]
  · simp only [jH]
    rw [if_pos (bA hk), aN hk, Option.bind_some, bE (by omega)]
  · simp only [jH]
    rw [if_neg (by rw [aO]; simp)]
theorem aC9 {x : M.Channel} {l : List M.bF} {f n : Int} (hx : x.ok) (hl : l.length ≤ maxLen ∧ ∀ p ∈ l, M.bF.ok p) (hf : inI f) (hn : inI n) (hs : x.Mails.length + l.length ≤ 2097152) :
    tJ x l f n = some (aDy x l f n) ∧ tQ x l f n = some (aDy x l f n) ∧ M.Channel.ok (aDy x l f n).1 ∧ (aDy x l f n).1.Mails.length ≤ 2097152 := by
  have hm := le_max hl.1
  have hc : jK x = some x := by unfold jK; rw [wW (by simp; omega), Option.bind_some]
  have hd : gV x = some x := by unfold gV; rw [wW (by simp; omega), Option.bind_some]
  have hi : fB l (fun z0 => nW z0 f) = some (aBO (fun p : M.bF => p.Id == f) l) := aCG hl.1 (fun x _ => rfl)
  unfold tJ tQ
  rw [hc, hd, Option.bind_some, Option.bind_some, aIK hl.1, hi, Option.bind_some, Option.bind_some]
  unfold aDy
  by_cases h : aBO (fun p : M.bF => p.Id == f) l < 0
  · rw [if_pos (by simpa using h), if_pos (by simpa using h)]
    have e : (match l[(aBO (fun p : M.bF => p.Id == f) l).toNat]? with
      | some a => if aBO (fun p : M.bF => p.Id == f) l < 0 then (x, 0) else (⟨(l.foldl (aDI a f n) (0, x.Mails)).2⟩, (l.foldl (aDI a f n) (0, x.Mails)).1)
      | none => ((x, 0) : M.Channel × Int)) = (x, 0) := by
      split
      · rw [if_pos h]
      · rfl
    rw [e]
    exact ⟨rfl, rfl, hx, by simp only; omega⟩
  · rw [if_neg (by simpa using h), if_neg (by simpa using h)]
    obtain ⟨j, hj, hlt⟩ := aDS h
    have hg : l[j]? = some l[j] := List.getElem?_eq_getElem hlt
    obtain ⟨k1, k2⟩ := aKu hx hl hf hn hs hg
    have k3 := aK3 hx hl hf hn hs hg
    rw [hj, Int.toNat_natCast, hg]
    simp only
    rw [if_neg (by omega), k1, k3]
    obtain ⟨i1, i2, i3, i4⟩ := k2
    exact ⟨rfl, rfl, ⟨⟨Nat.le_trans i3 (by unfold maxLen; omega), i4⟩⟩, Nat.le_trans i3 (by omega)⟩
def aLe (w : M.World) (f : Int) : Int := aBO (fun p : M.bF => p.Id == f) w.Pages
theorem aFT {w : M.World} {f : Int} (hw : w.ok) : rZ w f = some (aLe w f) := by
  unfold rZ
  rw [aIK hw.Pages.1, Option.bind_some]
  rfl
theorem aFV {w : M.World} {f : Int} (hw : w.ok) : sU w f = some (aLe w f) := by
  unfold sU
  rw [aCG (p := fun z0 => nX z0 f) (f := fun p : M.bF => p.Id == f) hw.Pages.1 (fun x _ => rfl), Option.bind_some]
  rfl
def aF1 (w : M.World) (i n : Int) : M.World × Int := if aGU w = true then (if aLe w i < 0 then (w, 0) else ({ w with Channel := (aDy w.Channel w.Pages i n).1 }, (aDy w.Channel w.Pages i n).2)) else (w, 0)
theorem aGS {w : M.World} {i n : Int} (hw : w.ok) (hi : inI i) (hn : inI n) (hz : M.World.sz w ≤ 1048576) : vD w i n = some (aF1 w i n) := by
  have hz' := hz
  simp only [M.World.sz, M.Channel.sz] at hz'
  obtain ⟨e1, e2, _⟩ := aC9 (x := w.Channel) (l := w.Pages) hw.Channel hw.Pages hi hn (by omega)
  unfold vD aF1
  rw [aGk w (by omega), Option.bind_some, aGz hw hz, Option.bind_some]
  cases aGU w with
  | false => simp
  | true =>
    rw [if_neg (by simp), aFT hw, Option.bind_some, if_pos rfl]
    by_cases h : aLe w i < 0
    · rw [if_pos (by simpa using h), if_pos h]
    · rw [if_neg (by simpa using h), if_neg h, e1, Option.bind_some]
theorem aGf {w : M.World} {i n : Int} (hw : w.ok) (hi : inI i) (hn : inI n) (hz : M.World.sz w ≤ 1048576) : pE w i n = some (aF1 w i n) := by
  have hz' := hz
  simp only [M.World.sz, M.Channel.sz] at hz'
  obtain ⟨e1, e2, _⟩ := aC9 (x := w.Channel) (l := w.Pages) hw.Channel hw.Pages hi hn (by omega)
  unfold pE aF1
  rw [aFO w (by omega), Option.bind_some, aGp hw hz, Option.bind_some]
  cases aGU w with
  | false => simp
  | true =>
    rw [if_neg (by simp), aFV hw, Option.bind_some, if_pos rfl]
    by_cases h : aLe w i < 0
    · rw [if_pos (by simpa using h), if_pos h]
    · rw [if_neg (by simpa using h), if_neg h, e2, Option.bind_some]
theorem aMj {w : M.World} {i n : Int} (hw : w.ok) (hi : inI i) (hn : inI n) (hz : M.World.sz w ≤ 1048576) : M.World.ok (aF1 w i n).1 ∧ M.World.aKn (aF1 w i n).1 ≤ 200000000 := by
  have hz' := hz
  simp only [M.World.sz, M.Channel.sz] at hz'
  obtain ⟨_, _, e3, e4⟩ := aC9 (x := w.Channel) (l := w.Pages) hw.Channel hw.Pages hi hn (by omega)
  have hc := M.World.aMm w
  have hm : aD M.cN.cnt (aDy w.Channel w.Pages i n).1.Mails ≤ 83886080 := by
    have := aB0 (c := M.cN.cnt) (A := 40) (xs := (aDy w.Channel w.Pages i n).1.Mails) (fun x _ => by unfold M.cN.cnt; omega)
    omega
  unfold aF1
  split
  · split
    · exact ⟨hw, by show M.World.aKn w ≤ _; omega⟩
    · refine ⟨⟨hw.Now, hw.Device, hw.aK, hw.Pages, hw.NextPage, hw.Locks, e3, hw.Sites, hw.Servers⟩, ?_⟩
      simp only [M.World.aKn] at hc ⊢
      omega
  · exact ⟨hw, by show M.World.aKn w ≤ _; omega⟩
end Go.Proofs.YtecmnmaaopkdfaaGreat.gen
