/-
  Helper text. No conditions.
-/
import Derived.Test.YtecmnmaaopkdfaaGreatPageLockPj
namespace Go.Proofs.YtecmnmaaopkdfaaGreat.gen
open Go Go.Sh
set_option linter.unusedVariables false
set_option linter.unusedSimpArgs false
theorem aIw {α : Type} {f : α → Nat} : ∀ (l r : List α), aD f (l ++ r) = aD f l + aD f r
  | [], r => by simp [aD]
  | y :: l, r => by simp only [List.cons_append, aD, aIw l r]; omega
theorem aFb (x : List M.Instr) (hs : x.length ≤ 1073741824) : sB x = some x := by
  unfold sB
  rw [aFY hs (by omega), Option.bind_some]
theorem aGz (x : M.Machine) (hs : M.Machine.sz x ≤ 1073741824) : yK x = some x := by
  simp only [M.Machine.sz] at hs
  unfold yK
  rw [aFb _ (by omega), Option.bind_some, aFY (by omega) (by omega), Option.bind_some]
theorem aG8 (x : M.bG) (hs : M.bG.sz x ≤ 1073741824) : yV x = some x := by
  simp only [M.bG.sz] at hs
  unfold yV
  rw [aFY (by omega) (by omega), Option.bind_some, aGz _ (by omega), Option.bind_some]
theorem aC4 (x : M.aF) (hs : M.aF.sz x ≤ 1073741824) : jO x = some x := by
  simp only [M.aF.sz] at hs
  unfold jO
  rw [aFY (by omega) (by omega), Option.bind_some]
theorem aGw (x : M.Channel) (hs : M.Channel.sz x ≤ 1073741824) : tX x = some x := by
  simp only [M.Channel.sz] at hs
  unfold tX
  rw [aFY (by omega) (by omega), Option.bind_some]
theorem aGp (x : M.Site) (hs : M.Site.sz x ≤ 1073741824) : yS x = some x := by
  simp only [M.Site.sz] at hs
  unfold yS
  rw [aFY (by omega) (by omega), Option.bind_some]
theorem aGu (x : M.Server) (hs : M.Server.sz x ≤ 1073741824) : yJ x = some x := by
  simp only [M.Server.sz] at hs
  unfold yJ
  rw [aB4 _ (by omega), Option.bind_some, aFY (by omega) (by omega), Option.bind_some, aFY (by omega) (by omega), Option.bind_some]
theorem aDq (x : M.Machine) (hs : M.Machine.sz x ≤ 1073741824) : oE x = some x := by
  simp only [M.Machine.sz] at hs
  unfold oE
  rw [aFY (by omega) (by omega), Option.bind_some, aFY (by omega) (by omega), Option.bind_some]
theorem aFx (x : M.bG) (hs : M.bG.sz x ≤ 1073741824) : vO x = some x := by
  simp only [M.bG.sz] at hs
  unfold vO
  rw [aFY (by omega) (by omega), Option.bind_some, aDq _ (by omega), Option.bind_some]
theorem aCJ (x : M.aF) (hs : M.aF.sz x ≤ 1073741824) : iV x = some x := by
  simp only [M.aF.sz] at hs
  unfold iV
  rw [aFY (by omega) (by omega), Option.bind_some]
theorem aD9 (x : M.Channel) (hs : M.Channel.sz x ≤ 1073741824) : nH x = some x := by
  simp only [M.Channel.sz] at hs
  unfold nH
  rw [aFY (by omega) (by omega), Option.bind_some]
theorem aGc (x : M.Site) (hs : M.Site.sz x ≤ 1073741824) : wF x = some x := by
  simp only [M.Site.sz] at hs
  unfold wF
  rw [aFY (by omega) (by omega), Option.bind_some]
theorem aEf (x : M.Server) (hs : M.Server.sz x ≤ 1073741824) : pU x = some x := by
  simp only [M.Server.sz] at hs
  unfold pU
  rw [aBA _ (by omega), Option.bind_some, aFY (by omega) (by omega), Option.bind_some, aFY (by omega) (by omega), Option.bind_some]
theorem aFP (x : List M.bG) (hs : x.length + aD M.bG.sz x ≤ 1073741824) : sV x = some x := by
  unfold sV
  exact wZ (xs := x) (b := 144) (L := hO x) (E := some) (by omega) (by omega) (fun n r k hk => by
    have hy := cQ (f := M.bG.sz) (List.getElem_mem hk)
    simp only [hO]
    rw [if_pos (bA hk), aO hk, Option.bind_some, aFx _ (by omega), Option.bind_some, bD (by omega)]) (fun n r => by
    simp only [hO]
    rw [if_neg (by rw [aP]; simp)])
theorem aG3 (w : M.World) (hs : M.World.sz w ≤ 1073741824) : zB w = some w := by
  simp only [M.World.sz] at hs
  have e3 : gC w w.aM w.Pages w.Locks w.Channel w.Sites fuel 0 ([] : List M.Server) = some w := wZ (xs := w.Servers) (b := 96) (L := gC w w.aM w.Pages w.Locks w.Channel w.Sites) (E := fun r => some { w with Servers := r }) (by omega) (by omega) (fun n r k hk => by
      have hy := cQ (f := M.Server.sz) (List.getElem_mem hk)
      simp only [gC]
      rw [if_pos (bA hk), aO hk, Option.bind_some, aGu _ (by omega), Option.bind_some, bD (by omega)]) (fun n r => by
      simp only [gC]
      rw [if_neg (by rw [aP]; simp)])
  have e2 : gE w w.aM w.Pages w.Locks w.Channel fuel 0 ([] : List M.Site) = some w := (wZ (xs := w.Sites) (b := 56) (L := gE w w.aM w.Pages w.Locks w.Channel) (E := fun r => gC w w.aM w.Pages w.Locks w.Channel r fuel 0 ([] : List M.Server)) (by omega) (by omega) (fun n r k hk => by
      have hy := cQ (f := M.Site.sz) (List.getElem_mem hk)
      simp only [gE]
      rw [if_pos (bA hk), aO hk, Option.bind_some, aGp _ (by omega), Option.bind_some, bD (by omega)]) (fun n r => by
      simp only [gE]
      rw [if_neg (by rw [aP]; simp)])).trans e3
  have e1 : iB w w.aM fuel 0 ([] : List M.bG) = some w := (wZ (xs := w.Pages) (b := 144) (L := iB w w.aM) (E := fun r => (jO w.Locks).bind fun x => (tX w.Channel).bind fun y => gE w w.aM r x y fuel 0 ([] : List M.Site)) (by omega) (by omega) (fun n r k hk => by
      have hy := cQ (f := M.bG.sz) (List.getElem_mem hk)
      simp only [iB]
      rw [if_pos (bA hk), aO hk, Option.bind_some, aG8 _ (by omega), Option.bind_some, bD (by omega)]) (fun n r => by
      simp only [iB]
      rw [if_neg (by rw [aP]; simp)])).trans (by rw [aC4 _ (by omega), Option.bind_some, aGw _ (by omega), Option.bind_some]; exact e2)
  unfold zB
  rw [aGi _ (by omega), Option.bind_some]
  exact e1
theorem aFe (w : M.World) (hs : M.World.sz w ≤ 1073741824) : tH w = some w := by
  simp only [M.World.sz] at hs
  have e3 : eU w w.aM w.Pages w.Locks w.Channel w.Sites fuel 0 ([] : List M.Server) = some w := wZ (xs := w.Servers) (b := 96) (L := eU w w.aM w.Pages w.Locks w.Channel w.Sites) (E := fun r => some { w with Servers := r }) (by omega) (by omega) (fun n r k hk => by
      have hy := cQ (f := M.Server.sz) (List.getElem_mem hk)
      simp only [eU]
      rw [if_pos (bA hk), aO hk, Option.bind_some, aEf _ (by omega), Option.bind_some, bD (by omega)]) (fun n r => by
      simp only [eU]
      rw [if_neg (by rw [aP]; simp)])
  have e2 : fX w w.aM w.Pages w.Locks w.Channel fuel 0 ([] : List M.Site) = some w := (wZ (xs := w.Sites) (b := 56) (L := fX w w.aM w.Pages w.Locks w.Channel) (E := fun r => eU w w.aM w.Pages w.Locks w.Channel r fuel 0 ([] : List M.Server)) (by omega) (by omega) (fun n r k hk => by
      have hy := cQ (f := M.Site.sz) (List.getElem_mem hk)
      simp only [fX]
      rw [if_pos (bA hk), aO hk, Option.bind_some, aGc _ (by omega), Option.bind_some, bD (by omega)]) (fun n r => by
      simp only [fX]
      rw [if_neg (by rw [aP]; simp)])).trans e3
  unfold tH
  rw [aDk _ (by omega), Option.bind_some, aFP _ (by omega), Option.bind_some, aCJ _ (by omega), Option.bind_some, aD9 _ (by omega), Option.bind_some]
  exact e2
theorem aLt {l : List M.bG} {f : Int} (hl : l.length ≤ maxLen) : xR l f = some (aBo (fun p : M.bG => p.Id == f) l) := by
  have hm := le_max hl
  unfold xR
  rw [findAll (L := jD l f) (f := fun p : M.bG => p.Id == f) (A := fun i => some (i : Int)) (E := some (-1)) hl (fun m k hk => ?_) (fun m => ?_), wD]
  · simp only [jD]
    rw [if_pos (bA hk), aO hk, Option.bind_some, bD (by omega)]
  · simp only [jD]
    rw [if_neg (by rw [aP]; simp)]
def aL8 (w : M.World) (f : Int) : Int := aBo (fun p : M.bG => p.Id == f) w.Pages
theorem aFI {w : M.World} {f : Int} (hw : w.ok) : sG w f = some (aL8 w f) := by
  unfold sG
  rw [aLt hw.Pages.1, Option.bind_some]
  rfl
theorem aFL {w : M.World} {f : Int} (hw : w.ok) : tT w f = some (aL8 w f) := by
  unfold tT
  rw [aFK (p := fun z0 => oD z0 f) (f := fun p : M.bG => p.Id == f) hw.Pages.1 (fun x _ => rfl), Option.bind_some]
  rfl
def aOG (x y : M.bK) : Bool := (y.Name.toList == x.Name.toList) && (!y.Held || (!y.Shared || !x.Shared))
def aMv (l : List M.bK) (x : M.bK) : Bool := !(l.any (aOG x))
theorem aMt {α : Type} (n a b c : Bool) (p q : α) : (if n = true then (if (!a) = true then p else (if (!b) = true then p else (if (!c) = true then p else q))) else q) = if (n && (!a || (!b || !c))) = true then p else q := by
  cases n <;> cases a <;> cases b <;> cases c <;> rfl
theorem aKb {l : List M.bK} {n : Nat} {x : M.bK} (hl : l.length ≤ maxLen) (hn : n ≤ l.length) : zV l (n : Int) x = some (aMv (l.take n) x) := by
  have hm := le_max hl
  have ht : (l.take n).length = n := by simp; omega
  unfold zV aMv
  rw [findAll (xs := l.take n) (L := iS l (n : Int) x) (f := aOG x) (A := fun _ => some false) (E := some true) (by rw [ht]; omega) (fun m k hk => ?_) (fun m => ?_), aHm]
  · cases (l.take n).any (aOG x) <;> rfl
  · have hk' : k < n := by omega
    simp only [iS]
    rw [if_pos (by simpa using hk'), aO (show k < l.length by omega), Option.bind_some, bD (by omega), aMt, List.getElem_take]
    rfl
  · rw [ht]
    simp only [iS]
    rw [if_neg (by simp)]
theorem aG9 {t : M.aF} {i : Nat} (hl : t.Locks.length ≤ maxLen) (hi : i < t.Locks.length) : yZ t (i : Int) = some (aMv (t.Locks.take i) t.Locks[i]) := by
  have hm := le_max hl
  have ht : (t.Locks.take i).length = i := by simp; omega
  unfold yZ aMv
  rw [aHz (by omega), Option.bind_some, findAll (xs := t.Locks.take i) (L := gH t (i : Int)) (f := aOG t.Locks[i]) (A := fun _ => some false) (E := some true) (by rw [ht]; omega) (fun m k hk => ?_) (fun m => ?_), aHm]
  · cases (t.Locks.take i).any (aOG t.Locks[i]) <;> rfl
  · simp only [gH, Int.toNat_natCast]
    rw [if_pos (bA hk), aO hk, Option.bind_some, aO hi, Option.bind_some, bD (by omega), aMt]
    rfl
  · simp only [gH, Int.toNat_natCast]
    rw [if_neg (by rw [aP]; simp)]
def aGo (t : M.aF) (a : ByteArray) (p : Int) (s : Bool) : List M.bK := t.Locks ++ [(⟨a, p, s, aMv t.Locks (⟨a, p, s, false⟩ : M.bK)⟩ : M.bK)]
def aMa (t : M.aF) (a : ByteArray) (p : Int) (s : Bool) : M.aF × Bool := if aBW t = true then (if aBW (⟨aGo t a p s⟩ : M.aF) = true then ((⟨aGo t a p s⟩ : M.aF), true) else (t, false)) else (t, false)
theorem aHp {t : M.aF} {a : ByteArray} {p : Int} {s : Bool} (ht : t.ok) (hl : t.Locks.length ≤ 4194304) (ha : a.size ≤ maxLen) (hp : inI p) : M.aF.ok (⟨aGo t a p s⟩ : M.aF) :=
  ⟨⟨by show (aGo t a p s).length ≤ maxLen; unfold aGo maxLen; simp; omega, fun y hy => by
    have hy' : y ∈ t.Locks ++ [(⟨a, p, s, aMv t.Locks (⟨a, p, s, false⟩ : M.bK)⟩ : M.bK)] := hy
    simp only [List.mem_append, List.mem_cons, List.not_mem_nil, or_false] at hy'
    rcases hy' with hy | rfl
    · exact ht.Locks.2 y hy
    · exact ⟨ha, hp⟩⟩⟩
theorem aNT {t : M.aF} {a : ByteArray} {p : Int} {s : Bool} (ht : t.ok) (hl : t.Locks.length ≤ 4194304) (ha : a.size ≤ maxLen) (hp : inI p) : M.aF.ok (aMa t a p s).1 := by
  unfold aMa
  split
  · split
    · exact aHp ht hl ha hp
    · exact ht
  · exact ht
theorem aNM (t : M.aF) (a : ByteArray) (p : Int) (s : Bool) : M.aF.sz (aMa t a p s).1 ≤ M.aF.sz t + a.size + 1 := by
  unfold aMa
  split
  · split
    · simp only [M.aF.sz, aGo, List.length_append, List.length_cons, List.length_nil, aIw, aD, M.bK.sz]
      omega
    · simp only; omega
  · simp only; omega
theorem aEC {t : M.aF} {a : ByteArray} {p : Int} {s : Bool} (ht : t.ok) (hl : t.Locks.length ≤ 4194304) (ha : a.size ≤ maxLen) (hp : inI p) (hz : M.aF.sz t ≤ 1073741824) : nN t a p s = some (aMa t a p s) := by
  unfold nN aMa
  rw [aC4 t hz, Option.bind_some, aKb ht.Locks.1 (Nat.le_refl _), Option.bind_some, List.take_length, zG (by simp only [List.length_cons, List.length_nil]; omega), Option.bind_some, aAM ht, Option.bind_some]
  cases aBW t with
  | false => simp
  | true =>
    have e := aAM (aHp (s := s) ht hl ha hp)
    unfold aGo at e
    simp only [Bool.not_true, Bool.false_eq_true, if_false, if_true]
    rw [e, Option.bind_some]
    unfold aGo
    cases aBW (⟨t.Locks ++ [(⟨a, p, s, aMv t.Locks (⟨a, p, s, false⟩ : M.bK)⟩ : M.bK)]⟩ : M.aF) <;> simp
theorem aDd {t : M.aF} {a : ByteArray} {p : Int} {s : Bool} (ht : t.ok) (hl : t.Locks.length ≤ 4194304) (ha : a.size ≤ maxLen) (hp : inI p) (hz : M.aF.sz t ≤ 1073741824) : oJ t a p s = some (aMa t a p s) := by
  have e0 : IntKind.i64.wrap (((t.Locks ++ [(⟨a, p, s, false⟩ : M.bK)]).length : Int) - 1) = (t.Locks.length : Int) := by
    rw [iJ (by simp only [List.length_append, List.length_cons, List.length_nil]; omega) (by simp only [List.length_append, List.length_cons, List.length_nil]; omega)]
    simp
  have hlt : t.Locks.length < (t.Locks ++ [(⟨a, p, s, false⟩ : M.bK)]).length := by simp
  have e1 := aG9 (t := (⟨t.Locks ++ [(⟨a, p, s, false⟩ : M.bK)]⟩ : M.aF)) (i := t.Locks.length) (by simp only [List.length_append, List.length_cons, List.length_nil]; unfold maxLen; omega) hlt
  simp only [List.take_left', List.getElem_concat_length] at e1
  unfold oJ aMa
  rw [aCJ t hz, Option.bind_some, zG (by simp only [List.length_cons, List.length_nil]; omega), Option.bind_some, e0, e1, Option.bind_some, aO hlt, Option.bind_some, aAa ht, Option.bind_some]
  simp only [List.getElem_concat_length, Int.toNat_natCast]
  have e2 : ∀ z : M.bK, (t.Locks ++ [(⟨a, p, s, false⟩ : M.bK)]).set t.Locks.length z = t.Locks ++ [z] := fun z => by rw [List.set_append_right _ _ (Nat.le_refl _)]; simp
  rw [e2]
  cases aBW t with
  | false => simp
  | true =>
    have e := aAa (aHp (s := s) ht hl ha hp)
    unfold aGo at e
    simp only [Bool.not_true, Bool.false_eq_true, if_false, if_true]
    rw [e, Option.bind_some]
    unfold aGo
    cases aBW (⟨t.Locks ++ [(⟨a, p, s, aMv t.Locks (⟨a, p, s, false⟩ : M.bK)⟩ : M.bK)]⟩ : M.aF) <;> simp
def aEm (a : ByteArray) (p : Int) (x : M.bK) : Bool := x.Held && ((x.Name.toList == a.toList) && (x.bG == p))
theorem aNR {α : Type} (a b c : Bool) (p q : α) : (if a = true then (if b = true then (if c = true then p else q) else q) else q) = if (a && (b && c)) = true then p else q := by cases a <;> cases b <;> cases c <;> rfl
theorem aFM {t : M.aF} {a : ByteArray} {p : Int} (hl : t.Locks.length ≤ maxLen) : tQ t a p = some (t.Locks.any (aEm a p)) := by
  have hm := le_max hl
  unfold tQ
  rw [findAll (L := eT t a p) (f := aEm a p) (A := fun _ => some true) (E := some false) hl (fun m k hk => ?_) (fun m => ?_), aHm]
  · cases t.Locks.any (aEm a p) <;> rfl
  · simp only [eT]
    rw [if_pos (bA hk), aO hk, Option.bind_some, bD (by omega), aNR]
    rfl
  · simp only [eT]
    rw [if_neg (by rw [aP]; simp)]
theorem aFT {t : M.aF} {a : ByteArray} {p : Int} (hl : t.Locks.length ≤ maxLen) : tE t a p = some (t.Locks.any (aEm a p)) := by
  unfold tE
  rw [aDB (f := aEm a p) hl (fun x _ => by unfold nQ aEm; cases x.Held <;> cases (x.Name.toList == a.toList) <;> simp), Option.bind_some]
theorem aL9 {x y : ByteArray} (h : x.size + y.size ≤ 1073741824) : cat x y = some (x ++ y) := by unfold cat; rw [if_pos (by omega)]
theorem aKM {w : M.World} {i : Int} {a : ByteArray} {s : Bool} (hw : w.ok) (hi : inI i) (ha : a.size ≤ 1048576) (hz : M.World.sz w ≤ 1048576) : ∃ R : M.World × Bool, uW w i a s = some R ∧ pY w i a s = some R ∧ R.1.ok ∧ M.World.sz R.1 ≤ 16777216 := by
  have hz' := hz
  simp only [M.World.sz] at hz'
  have hzl : w.Locks.Locks.length ≤ M.aF.sz w.Locks := by simp only [M.aF.sz]; omega
  unfold uW pY
  rw [aG3 w (by omega), aFe w (by omega), Option.bind_some, Option.bind_some, aFI hw, aFL hw, Option.bind_some, Option.bind_some, aGx hw hz, aGk hw hz, Option.bind_some, Option.bind_some]
  cases hn : aI5 w with
  | false => exact ⟨(w, false), by simp, by simp, hw, by show M.World.sz w ≤ _; omega⟩
  | true =>
    simp only [Bool.not_true, Bool.false_eq_true, if_false]
    by_cases h : aL8 w i < 0
    · simp only [h, decide_true, if_true]
      exact ⟨(w, false), rfl, rfl, hw, by show M.World.sz w ≤ _; omega⟩
    · obtain ⟨k, e, hk⟩ := aDZ (show ¬ aBo (fun p : M.bG => p.Id == i) w.Pages < 0 from h)
      simp only [h, decide_false, Bool.false_eq_true, if_false]
      have hy := cQ (f := M.bG.sz) (List.getElem_mem hk)
      have hy2 : w.Pages[k].Site.size + w.Pages[k].Top.size ≤ M.bG.sz w.Pages[k] := by simp only [M.bG.sz]; omega
      have h1 : (⟨#[47]⟩ : ByteArray).size = 1 := rfl
      generalize hg : (((w.Pages[k].Site ++ (⟨#[47]⟩ : ByteArray)) ++ w.Pages[k].Top) ++ (⟨#[47]⟩ : ByteArray)) ++ a = g
      have hgs : g.size ≤ 2097200 := by rw [← hg]; simp only [ByteArray.size_append, h1]; omega
      have hgm : g.size ≤ maxLen := by unfold maxLen; omega
      rw [show aL8 w i = (k : Int) from e, aO hk]
      simp only [Option.bind_some]
      rw [aL9 (by rw [h1]; omega), Option.bind_some, Option.bind_some, aL9 (by simp only [ByteArray.size_append, h1]; omega), Option.bind_some, Option.bind_some, aL9 (by simp only [ByteArray.size_append, h1]; omega), Option.bind_some, Option.bind_some, aL9 (by simp only [ByteArray.size_append, h1]; omega), Option.bind_some, Option.bind_some, hg,
        aEC hw.Locks (by omega) hgm hi (by omega), aDd hw.Locks (by omega) hgm hi (by omega), Option.bind_some, Option.bind_some]
      have ok := aNT (s := s) hw.Locks (by omega) hgm hi
      have sz := aNM w.Locks g i s
      cases hq : (aMa w.Locks g i s).2 with
      | false => exact ⟨(w, false), by simp, by simp, hw, by show M.World.sz w ≤ _; omega⟩
      | true =>
        simp only [Bool.not_true, Bool.false_eq_true, if_false]
        rw [aFM ok.Locks.1, aFT ok.Locks.1, Option.bind_some]
        exact ⟨_, rfl, rfl, ⟨hw.Now, hw.Device, hw.aM, hw.Pages, hw.NextPage, ok, hw.Channel, hw.Sites, hw.Servers⟩, by simp only [M.World.sz]; omega⟩
end Go.Proofs.YtecmnmaaopkdfaaGreat.gen
