/-
  Helper text. No conditions.
-/
import Derived.Test.YtecmnmaaopkdfaaGreatPageSendPi
namespace Go.Proofs.YtecmnmaaopkdfaaGreat.gen
open Go Go.Sh
set_option linter.unusedVariables false
set_option linter.unusedSimpArgs false
def tO : List ByteArray := [(⟨#[98, 97, 110, 107]⟩ : ByteArray), (⟨#[110, 101, 119, 115]⟩ : ByteArray), (⟨#[115, 104, 111, 112]⟩ : ByteArray)]
def aJY (a : ByteArray) : Int := aBO (fun x : ByteArray => x.toList == a.toList) tO
theorem aKe : tO.length ≤ maxLen := by unfold tO maxLen; simp
theorem aEl {a : ByteArray} : pY a = some (aJY a) := by
  unfold pY oF
  rw [← tO.eq_1]
  rw [findAll (L := eO tO a) (f := fun x : ByteArray => x.toList == a.toList) (A := fun i => some (i : Int)) (E := some (-1)) aKe (fun m k hk => ?_) (fun m => ?_), xL]
  · rfl
  · have hk3 : k < 3 := hk
    simp only [eO]
    rw [if_pos (bA hk), aN hk, Option.bind_some, bE (by omega), Bool.beq_comm]
  · simp only [eO]
    rw [if_neg (by rw [aO]; simp)]
def aF9 (l : List ByteArray) (k : Nat) : Bool := (l[k]?).any oO && (decide (k = 0) || (l[k - 1]?).any fun y => (l[k]?).any fun x => Op.bytesLess y.toList x.toList)
def aLO (s : M.Site) : Bool := (List.range s.Files.length).all (aF9 s.Files) && (oO s.Name && (inR s.Version 1 1000000000000 && inR (s.Files.length : Int) 1 6))
theorem aH8 {s : M.Site} (hs : s.ok) : zQ s = some (aLO s) := by
  have hm := le_max hs.Files.1
  unfold zQ aLO
  rw [jJ (L := hH s) (g := aF9 s.Files) (F := some false) (E := some (oO s.Name && (inR s.Version 1 1000000000000 && inR (s.Files.length : Int) 1 6))) hs.Files.1 (fun n k hk => ?_) (fun n => ?_), bL]
  · have hf := hs.Files.2 _ (List.getElem_mem hk)
    simp only [hH]
    rw [if_pos (bA hk), aN hk, Option.bind_some, bE (by omega), eC hf, Option.bind_some]
    unfold aF9
    rw [List.getElem?_eq_getElem hk]
    generalize hH s n ((k + 1 : Nat) : Int) = Z
    by_cases h0 : k = 0
    · subst h0
      simp only [Option.any_some]
      cases oO s.Files[0] <;> simp
    · have e : IntKind.i64.wrap ((k : Int) - 1) = ((k - 1 : Nat) : Int) := by rw [iG (by omega) (by omega)]; omega
      have hk1 : k - 1 < s.Files.length := by omega
      rw [if_pos (c := (decide ((k : Int) > 0)) = true) (by simp; omega), e, aN hk1, Option.bind_some, List.getElem?_eq_getElem hk1]
      simp only [Option.any_some, h0, decide_false, Bool.false_or]
      cases oO s.Files[k] <;> cases Op.bytesLess s.Files[k - 1].toList s.Files[k].toList <;> simp
  · simp only [hH]
    rw [if_neg (by rw [aO]; simp), eC hs.Name, Option.bind_some, dC, Option.bind_some, dC, Option.bind_some, bL, bL]
theorem aH9 {s : M.Site} (hs : s.ok) : zW s = some (aLO s) := by
  have hm := le_max hs.Files.1
  unfold zW aLO
  rw [jJ (L := hD s) (g := aF9 s.Files) (F := some false) (E := some (oO s.Name && (inR s.Version 1 1000000000000 && inR (s.Files.length : Int) 1 6))) hs.Files.1 (fun n k hk => ?_) (fun n => ?_), bL]
  · have hf := hs.Files.2 _ (List.getElem_mem hk)
    simp only [hD]
    rw [if_pos (bA hk), aN hk, Option.bind_some, bE (by omega), dI hf, Option.bind_some]
    unfold aF9
    rw [List.getElem?_eq_getElem hk]
    generalize hD s n ((k + 1 : Nat) : Int) = Z
    by_cases h0 : k = 0
    · subst h0
      simp only [Option.any_some]
      cases oO s.Files[0] <;> simp
    · have e : IntKind.i64.wrap ((k : Int) - 1) = ((k - 1 : Nat) : Int) := by rw [iG (by omega) (by omega)]; omega
      have hk1 : k - 1 < s.Files.length := by omega
      rw [if_pos (c := (decide ((k : Int) > 0)) = true) (by simp; omega), e, aN hk1, Option.bind_some, List.getElem?_eq_getElem hk1, aJ4]
      simp only [Option.any_some, h0, decide_false, Bool.false_or]
      cases oO s.Files[k] <;> cases Op.bytesLess s.Files[k - 1].toList s.Files[k].toList <;> simp
  · simp only [hD]
    rw [if_neg (by rw [aO]; simp), dI hs.Name, Option.bind_some, bO, Option.bind_some, bO, Option.bind_some, bL, bL]
def aBt (l : List M.aH) (k : Nat) : Bool := (l[k]?).any (fun x => inR x.Device 1 1000000 && inR x.Seq 0 1000000) && (decide (k = 0) || (l[k - 1]?).any fun y => (l[k]?).any fun x => decide (y.Device < x.Device))
def aCe (l : List M.aW) (k : Nat) : Bool := (l[k]?).any aEM
def aFq (s : M.Server) : Bool := (List.range s.aH.length).all (aBt s.aH) && ((List.range s.Changes.length).all (aCe s.Changes) && (aBr s.aG && ((s.aG.Name.toList == (⟨#[110, 111, 116, 101, 115]⟩ : ByteArray).toList) && decide ((s.aH.length : Int) ≤ 60))))
theorem aFv {s : M.Server} (hs : s.ok) : wI s = some (aFq s) := by
  have hm := le_max hs.aH.1
  have hm2 := le_max hs.Changes.1
  unfold wI aFq
  rw [jJ (L := fP s) (g := aBt s.aH) (F := some false) (E := gW s fuel 0) hs.aH.1 (fun n k hk => ?_) (fun n => ?_),
    jJ (L := gW s) (g := aCe s.Changes) (F := some false) (E := some (aBr s.aG && ((s.aG.Name.toList == (⟨#[110, 111, 116, 101, 115]⟩ : ByteArray).toList) && decide ((s.aH.length : Int) ≤ 60)))) hs.Changes.1 (fun n k hk => ?_) (fun n => ?_), bL, bL]
  · have hf := hs.Changes.2 _ (List.getElem_mem hk)
    simp only [gW]
    rw [if_pos (bA hk), aN hk, Option.bind_some, bE (by omega), aBC hf, Option.bind_some, zR]
    unfold aCe
    rw [List.getElem?_eq_getElem hk, Option.any_some]
  · simp only [gW]
    rw [if_neg (by rw [aO]; simp), aBi hs.aG, Option.bind_some, bL, bL]
  · simp only [fP]
    rw [if_pos (bA hk), aN hk, Option.bind_some, bE (by omega), dC, Option.bind_some, dC, Option.bind_some]
    unfold aBt
    rw [List.getElem?_eq_getElem hk]
    generalize fP s n ((k + 1 : Nat) : Int) = Z
    by_cases h0 : k = 0
    · subst h0
      simp only [Option.any_some]
      cases inR s.aH[0].Device 1 1000000 <;> cases inR s.aH[0].Seq 0 1000000 <;> simp
    · have e : IntKind.i64.wrap ((k : Int) - 1) = ((k - 1 : Nat) : Int) := by rw [iG (by omega) (by omega)]; omega
      have hk1 : k - 1 < s.aH.length := by omega
      have ed : decide (s.aH[k - 1].Device ≥ s.aH[k].Device) = !decide (s.aH[k - 1].Device < s.aH[k].Device) := by rw [Bool.eq_iff_iff]; simp
      rw [if_pos (c := (decide ((k : Int) > 0)) = true) (by simp; omega), e, aN hk1, Option.bind_some, List.getElem?_eq_getElem hk1, ed]
      simp only [Option.any_some, h0, decide_false, Bool.false_or]
      cases inR s.aH[k].Device 1 1000000 <;> cases inR s.aH[k].Seq 0 1000000 <;> cases decide (s.aH[k - 1].Device < s.aH[k].Device) <;> simp
  · simp only [fP]
    rw [if_neg (by rw [aO]; simp)]
theorem aGA {s : M.Server} (hs : s.ok) : vC s = some (aFq s) := by
  have hm := le_max hs.aH.1
  have hm2 := le_max hs.Changes.1
  unfold vC aFq
  rw [jJ (L := fQ s) (g := aBt s.aH) (F := some false) (E := gR s fuel 0) hs.aH.1 (fun n k hk => ?_) (fun n => ?_),
    jJ (L := gR s) (g := aCe s.Changes) (F := some false) (E := some (aBr s.aG && ((s.aG.Name.toList == (⟨#[110, 111, 116, 101, 115]⟩ : ByteArray).toList) && decide ((s.aH.length : Int) ≤ 60)))) hs.Changes.1 (fun n k hk => ?_) (fun n => ?_), bL, bL]
  · have hf := hs.Changes.2 _ (List.getElem_mem hk)
    simp only [gR]
    rw [if_pos (bA hk), aN hk, Option.bind_some, bE (by omega), aBA hf, Option.bind_some, zR]
    unfold aCe
    rw [List.getElem?_eq_getElem hk, Option.any_some]
  · simp only [gR]
    rw [if_neg (by rw [aO]; simp), aBj hs.aG, Option.bind_some, bL, bL]
  · simp only [fQ]
    rw [if_pos (bA hk), aN hk, Option.bind_some, bE (by omega), bO, Option.bind_some, bO, Option.bind_some]
    unfold aBt
    rw [List.getElem?_eq_getElem hk]
    generalize fQ s n ((k + 1 : Nat) : Int) = Z
    by_cases h0 : k = 0
    · subst h0
      simp only [Option.any_some]
      cases inR s.aH[0].Device 1 1000000 <;> cases inR s.aH[0].Seq 0 1000000 <;> simp
    · have e : IntKind.i64.wrap ((k : Int) - 1) = ((k - 1 : Nat) : Int) := by rw [iG (by omega) (by omega)]; omega
      have hk1 : k - 1 < s.aH.length := by omega
      have ed : decide (s.aH[k].Device ≤ s.aH[k - 1].Device) = !decide (s.aH[k - 1].Device < s.aH[k].Device) := by rw [Bool.eq_iff_iff]; simp
      rw [if_pos (c := (decide ((k : Int) > 0)) = true) (by simp; omega), e, aN hk1, Option.bind_some, List.getElem?_eq_getElem hk1, ed]
      simp only [Option.any_some, h0, decide_false, Bool.false_or]
      cases inR s.aH[k].Device 1 1000000 <;> cases inR s.aH[k].Seq 0 1000000 <;> cases decide (s.aH[k - 1].Device < s.aH[k].Device) <;> simp
  · simp only [fQ]
    rw [if_neg (by rw [aO]; simp)]
def aCi (p : M.bF) (k : Nat) : Bool := (p.aM[k]?).any fun x => oO x.Path && (x.Version == p.Version)
def aHn (p : M.bF) : Bool := (List.range p.aM.length).all (aCi p) && (inR p.Id 1 1000000000000 && (oO p.Site && (oO p.Top && (inR p.Version 1 1000000000000 && decide ((p.aM.length : Int) ≤ 8)))))
theorem aHh {p : M.bF} (hp : p.ok) : aAH p = some (aHn p) := by
  have hm := le_max hp.aM.1
  unfold aAH aHn
  rw [jJ (L := kM p) (g := aCi p) (F := some false) (E := some (inR p.Id 1 1000000000000 && (oO p.Site && (oO p.Top && (inR p.Version 1 1000000000000 && decide ((p.aM.length : Int) ≤ 8)))))) hp.aM.1 (fun n k hk => ?_) (fun n => ?_), bL]
  · have hf := hp.aM.2 _ (List.getElem_mem hk)
    simp only [kM]
    rw [if_pos (bA hk), aN hk, Option.bind_some, bE (by omega), eC hf.Path, Option.bind_some]
    unfold aCi
    rw [List.getElem?_eq_getElem hk, Option.any_some]
    simp only [aB7, zR, aMz]
  · simp only [kM]
    rw [if_neg (by rw [aO]; simp)]
    simp only [eC hp.Site, eC hp.Top, dC, Option.bind_some, bL]
theorem aHm {p : M.bF} (hp : p.ok) : aAM p = some (aHn p) := by
  have hm := le_max hp.aM.1
  unfold aAM aHn
  rw [jJ (L := kJ p) (g := aCi p) (F := some false) (E := some (inR p.Id 1 1000000000000 && (oO p.Site && (oO p.Top && (inR p.Version 1 1000000000000 && decide ((p.aM.length : Int) ≤ 8)))))) hp.aM.1 (fun n k hk => ?_) (fun n => ?_), bL]
  · have hf := hp.aM.2 _ (List.getElem_mem hk)
    simp only [kJ]
    rw [if_pos (bA hk), aN hk, Option.bind_some, bE (by omega), dI hf.Path, Option.bind_some]
    unfold aCi
    rw [List.getElem?_eq_getElem hk, Option.any_some]
    simp only [aB7, zR, aMz]
  · simp only [kJ]
    rw [if_neg (by rw [aO]; simp)]
    simp only [dI hp.Site, dI hp.Top, bO, Option.bind_some, bL]
theorem aEb {s : ByteArray} (hs : s.size ≤ maxLen) : pX s = some (aIX s 30 true) := by
  have hm := le_max hs
  unfold pX aIX
  rw [aDs (L := cX s) (g := aE8 true) (F := some false) (E := some (inR (s.size : Int) 1 30)) hs (fun n k hk => ?_) (fun n => ?_), bL]
  · simp only [cX]
    rw [if_pos (bA hk), aDT hk, Option.bind_some, bE (by omega)]
    generalize s[k] = b
    unfold aE8
    generalize cX s n ((k + 1 : Nat) : Int) = Z
    simp only [Bool.or_eq_true, Bool.and_eq_true, decide_eq_true_eq, Bool.not_eq_true', decide_eq_false_iff_not, Bool.true_and, bne_iff_ne, ne_eq]
    repeat' split
    all_goals first | rfl | (exfalso; omega)
  · simp only [cX]
    rw [if_neg (by rw [aO]; simp), dC, Option.bind_some]
theorem aEK {s : ByteArray} (hs : s.size ≤ maxLen) : pH s = some (aIX s 30 true) := by
  unfold pH
  rw [aDb hs, Option.bind_some]
def aIT (x y : M.bZ) : Bool := x.Held && ((y.Name.toList == x.Name.toList) && (!y.Held || (!x.Shared || !y.Shared)))
def aD0 (l : List M.bZ) (k : Nat) (x : M.bZ) : Bool := (List.range k).all fun j => !((l[j]?).any (aIT x))
def aGa (l : List M.bZ) (k : Nat) : Bool := (l[k]?).any fun x => aIX x.Name 30 true && (inR x.bF 1 1000000000000 && aD0 l k x)
def aEC (t : M.aQ) : Bool := (List.range t.Locks.length).all (aGa t.Locks) && decide ((t.Locks.length : Int) ≤ 12)
theorem aKm {t : M.aQ} {x : M.bZ} {k : Nat} {K : Int → Option Bool} (hm : t.Locks.length ≤ maxLen) (hk : k ≤ t.Locks.length) : bT t (k : Int) x K fuel 0 = if aD0 t.Locks k x = true then K (k : Int) else some false := by
  have hm' := le_max hm
  refine jJ (L := bT t (k : Int) x K) (g := fun j => !((t.Locks[j]?).any (aIT x))) (F := some false) (E := K (k : Int)) (Nat.le_trans hk hm) (fun n j hj => ?_) (fun n => ?_)
  · have hj' : j < t.Locks.length := by omega
    simp only [bT]
    rw [if_pos (bA hj), aN hj', Option.bind_some, bE (by omega), List.getElem?_eq_getElem hj', Option.any_some]
    unfold aIT
    generalize bT t (k : Int) x K n ((j + 1 : Nat) : Int) = Z
    cases x.Held <;> cases (t.Locks[j].Name.toList == x.Name.toList) <;> cases t.Locks[j].Held <;> cases x.Shared <;> cases t.Locks[j].Shared <;> simp
  · simp only [bT]
    rw [if_neg (by rw [aO]; simp)]
theorem aKY {t : M.aQ} {x : M.bZ} {k : Nat} {Z0 : Option Bool} (hm : t.Locks.length ≤ maxLen) (hk : k ≤ t.Locks.length) : bM t (k : Int) x (fun _ => Z0) fuel 0 = if aD0 t.Locks k x = true then Z0 else some false := by
  have hm' := le_max hm
  have hl : (t.Locks.take k).length = k := by rw [List.length_take]; omega
  have := jJ (N := k) (L := bM t (k : Int) x (fun _ => Z0)) (g := fun j => !((t.Locks[j]?).any (aIT x))) (F := some false) (E := Z0) (Nat.le_trans hk hm) (fun n j hj => ?_) (fun n => ?_)
  · exact this
  · have hj' : j < t.Locks.length := by omega
    simp only [bM, Int.toNat_natCast, hl]
    rw [if_pos (bA hj), aN (by rw [hl]; exact hj), Option.bind_some, bE (by omega), List.getElem?_eq_getElem hj', Option.any_some, List.getElem_take]
    unfold aIT
    generalize bM t (k : Int) x (fun _ => Z0) n ((j + 1 : Nat) : Int) = Z
    cases x.Held <;> cases (t.Locks[j].Name.toList == x.Name.toList) <;> cases t.Locks[j].Held <;> cases x.Shared <;> cases t.Locks[j].Shared <;> simp
  · simp only [bM, Int.toNat_natCast, hl]
    rw [if_neg (by rw [aO]; simp)]
theorem aD6 {t : M.aQ} (ht : t.ok) : nC t = some (aEC t) := by
  have hm := le_max ht.Locks.1
  unfold nC aEC
  rw [jJ (L := eT t) (g := aGa t.Locks) (F := some false) (E := some (decide ((t.Locks.length : Int) ≤ 12))) ht.Locks.1 (fun n k hk => ?_) (fun n => ?_), bL]
  · have hf := ht.Locks.2 _ (List.getElem_mem hk)
    simp only [eT]
    rw [if_pos (bA hk), aN hk, Option.bind_some, bE (by omega), aEb hf.Name, Option.bind_some, dC, Option.bind_some, aKm ht.Locks.1 (by omega)]
    unfold aGa
    rw [List.getElem?_eq_getElem hk, Option.any_some]
    generalize eT t n ((k + 1 : Nat) : Int) = Z
    cases aIX t.Locks[k].Name 30 true <;> cases inR t.Locks[k].bF 1 1000000000000 <;> cases aD0 t.Locks k t.Locks[k] <;> simp
  · simp only [eT]
    rw [if_neg (by rw [aO]; simp)]
theorem aED {t : M.aQ} (ht : t.ok) : oC t = some (aEC t) := by
  have hm := le_max ht.Locks.1
  unfold oC aEC
  rw [jJ (L := dK t) (g := aGa t.Locks) (F := some false) (E := some (decide ((t.Locks.length : Int) ≤ 12))) ht.Locks.1 (fun n k hk => ?_) (fun n => ?_), bL]
  · have hf := ht.Locks.2 _ (List.getElem_mem hk)
    simp only [dK]
    rw [if_pos (bA hk), aN hk, Option.bind_some, bE (by omega), aEK hf.Name, Option.bind_some, bO, Option.bind_some, aJT (by omega), Option.bind_some, aKY ht.Locks.1 (by omega)]
    unfold aGa
    rw [List.getElem?_eq_getElem hk, Option.any_some]
    generalize dK t n ((k + 1 : Nat) : Int) = Z
    cases aIX t.Locks[k].Name 30 true <;> cases inR t.Locks[k].bF 1 1000000000000 <;> cases aD0 t.Locks k t.Locks[k] <;> simp
  · simp only [dK]
    rw [if_neg (by rw [aO]; simp)]
theorem aJH : tO.length = 3 := rfl
theorem aKy {a : ByteArray} {k : Nat} (hk : k < tO.length) : (aJY a == (k : Int)) = (a.toList == (tO[k]).toList) := by
  have d : ∀ i j : Nat, (hi : i < tO.length) → (hj : j < tO.length) → (tO[i]).toList = (tO[j]).toList → i = j := by
    intro i j hi hj h
    have e0 : (⟨#[98, 97, 110, 107]⟩ : ByteArray).toList = [98, 97, 110, 107] := by rw [ByteArray.toList_eq]
    have e1 : (⟨#[110, 101, 119, 115]⟩ : ByteArray).toList = [110, 101, 119, 115] := by rw [ByteArray.toList_eq]
    have e2 : (⟨#[115, 104, 111, 112]⟩ : ByteArray).toList = [115, 104, 111, 112] := by rw [ByteArray.toList_eq]
    rw [aJH] at hi hj
    rcases i with _ | _ | _ | i <;> rcases j with _ | _ | _ | j <;> first | rfl | (exfalso; omega) | (exfalso; simp [tO, e0, e1, e2] at h)
  have hf := aDS (f := fun x : ByteArray => x.toList == a.toList) (xs := tO)
  have ha := aH6 (fun x : ByteArray => x.toList == a.toList) tO
  unfold aJY
  rw [Bool.eq_iff_iff, beq_iff_eq, beq_iff_eq]
  constructor
  · intro h
    have h2 : tO.findIdx? (fun x : ByteArray => x.toList == a.toList) = some k := by
      unfold aBO at h
      cases e : tO.findIdx? (fun x : ByteArray => x.toList == a.toList) with
      | none => rw [e] at h; simp only at h; omega
      | some i => rw [e] at h; simp only at h; congr 1; omega
    have := (List.findIdx?_eq_some_iff_getElem.1 h2).2.1
    exact (eq_of_beq this).symm
  · intro h
    have hex : tO.any (fun x : ByteArray => x.toList == a.toList) = true := List.any_eq_true.2 ⟨tO[k], List.getElem_mem hk, by rw [h]; exact beq_self_eq_true _⟩
    rw [hex] at ha
    obtain ⟨j, e, hj⟩ := hf (by have := of_decide_eq_true ha; omega)
    rw [e]
    have h2 : tO.findIdx? (fun x : ByteArray => x.toList == a.toList) = some j := by
      unfold aBO at e
      cases e2 : tO.findIdx? (fun x : ByteArray => x.toList == a.toList) with
      | none => rw [e2] at e; simp only at e; omega
      | some i => rw [e2] at e; simp only at e; congr 1; omega
    have := (List.findIdx?_eq_some_iff_getElem.1 h2).2.1
    rw [d j k hj hk (by rw [eq_of_beq this, h])]
def aB2 (w : M.World) (k : Nat) : Bool := (w.Pages[k]?).any fun x => aHn x && (decide (x.Id < w.NextPage) && ((decide (k = 0) || (w.Pages[k - 1]?).any fun y => decide (y.Id < x.Id)) && decide (0 ≤ aBO (nAt x.Site x.Top) w.aK.Buckets)))
def aDA (w : M.World) (k : Nat) : Bool := (w.Sites[k]?).any fun x => aLO x && ((tO[k]?).any (fun nm => x.Name.toList == nm.toList) && (w.Servers[k]?).any aFq)
def aGU (w : M.World) : Bool := decide (w.Sites.length = 3) && (decide (w.Servers.length = 3) && (decide (w.Pages.length ≤ 6) && ((List.range 3).all (aDA w) && ((List.range w.Pages.length).all (aB2 w) && (inR w.Now 0 999999990000 && (inR w.Device 1 1000000 && (aAg w.aK && (inR w.NextPage 1 1000000000000 && aEC w.Locks))))))))
theorem aIy {w : M.World} (hz : M.World.sz w ≤ 1048576) : M.aK.sz w.aK ≤ 1048576 := by
  simp only [M.World.sz] at hz
  omega
theorem aKZ {w : M.World} (hw : w.ok) {E : Option Bool} (hE : ∀ n, dE w (n + 1) (w.Pages.length : Int) = E) : dE w fuel 0 = if (List.range w.Pages.length).all (aB2 w) = true then E else some false := by
  have hm := le_max hw.Pages.1
  refine jJ (L := dE w) (g := aB2 w) (F := some false) (E := E) hw.Pages.1 (fun n k hk => ?_) hE
  have hf := hw.Pages.2 _ (List.getElem_mem hk)
  simp only [dE]
  rw [if_pos (bA hk), aN hk, Option.bind_some, bE (by omega), aHh hf, Option.bind_some, aEq hw.aK, Option.bind_some]
  unfold aB2
  rw [List.getElem?_eq_getElem hk, Option.any_some]
  generalize dE w n ((k + 1 : Nat) : Int) = Z
  have e1 : decide (w.Pages[k].Id ≥ w.NextPage) = !decide (w.Pages[k].Id < w.NextPage) := by rw [Bool.eq_iff_iff]; simp
  have e2 : decide (aBO (nAt w.Pages[k].Site w.Pages[k].Top) w.aK.Buckets < 0) = !decide (0 ≤ aBO (nAt w.Pages[k].Site w.Pages[k].Top) w.aK.Buckets) := by rw [Bool.eq_iff_iff]; simp
  rw [e1]
  simp only [e2]
  by_cases h0 : k = 0
  · subst h0
    cases aHn w.Pages[0] <;> cases decide (w.Pages[0].Id < w.NextPage) <;> cases decide (0 ≤ aBO (nAt w.Pages[0].Site w.Pages[0].Top) w.aK.Buckets) <;> simp
  · have e : IntKind.i64.wrap ((k : Int) - 1) = ((k - 1 : Nat) : Int) := by rw [iG (by omega) (by omega)]; omega
    have hk1 : k - 1 < w.Pages.length := by omega
    have e3 : decide (w.Pages[k - 1].Id ≥ w.Pages[k].Id) = !decide (w.Pages[k - 1].Id < w.Pages[k].Id) := by rw [Bool.eq_iff_iff]; simp
    rw [if_pos (c := (decide ((k : Int) > 0)) = true) (by simp; omega), e, aN hk1, Option.bind_some, List.getElem?_eq_getElem hk1, e3]
    simp only [Option.any_some, h0, decide_false, Bool.false_or]
    cases aHn w.Pages[k] <;> cases decide (w.Pages[k].Id < w.NextPage) <;> cases decide (w.Pages[k - 1].Id < w.Pages[k].Id) <;> cases decide (0 ≤ aBO (nAt w.Pages[k].Site w.Pages[k].Top) w.aK.Buckets) <;> simp
theorem aKW {w : M.World} (hw : w.ok) {E : Option Bool} (hE : ∀ n, eP w (n + 1) (w.Pages.length : Int) = E) : eP w fuel 0 = if (List.range w.Pages.length).all (aB2 w) = true then E else some false := by
  have hm := le_max hw.Pages.1
  refine jJ (L := eP w) (g := aB2 w) (F := some false) (E := E) hw.Pages.1 (fun n k hk => ?_) hE
  have hf := hw.Pages.2 _ (List.getElem_mem hk)
  simp only [eP]
  rw [if_pos (bA hk), aN hk, Option.bind_some, bE (by omega), aHm hf, Option.bind_some, aES hw.aK, Option.bind_some]
  unfold aB2
  rw [List.getElem?_eq_getElem hk, Option.any_some]
  generalize eP w n ((k + 1 : Nat) : Int) = Z
  have e1 : decide (w.Pages[k].Id ≥ w.NextPage) = !decide (w.Pages[k].Id < w.NextPage) := by rw [Bool.eq_iff_iff]; simp
  have e2 : decide (aBO (nAt w.Pages[k].Site w.Pages[k].Top) w.aK.Buckets < 0) = !decide (0 ≤ aBO (nAt w.Pages[k].Site w.Pages[k].Top) w.aK.Buckets) := by rw [Bool.eq_iff_iff]; simp
  rw [e1]
  simp only [e2]
  by_cases h0 : k = 0
  · subst h0
    cases aHn w.Pages[0] <;> cases decide (w.Pages[0].Id < w.NextPage) <;> cases decide (0 ≤ aBO (nAt w.Pages[0].Site w.Pages[0].Top) w.aK.Buckets) <;> simp
  · have e : IntKind.i64.wrap ((k : Int) - 1) = ((k - 1 : Nat) : Int) := by rw [iG (by omega) (by omega)]; omega
    have hk1 : k - 1 < w.Pages.length := by omega
    have e3 : decide (w.Pages[k].Id ≤ w.Pages[k - 1].Id) = !decide (w.Pages[k - 1].Id < w.Pages[k].Id) := by rw [Bool.eq_iff_iff]; simp
    rw [if_pos (c := (decide ((k : Int) > 0)) = true) (by simp; omega), e, aN hk1, Option.bind_some, List.getElem?_eq_getElem hk1, e3]
    simp only [Option.any_some, h0, decide_false, Bool.false_or]
    cases aHn w.Pages[k] <;> cases decide (w.Pages[k].Id < w.NextPage) <;> cases decide (w.Pages[k - 1].Id < w.Pages[k].Id) <;> cases decide (0 ≤ aBO (nAt w.Pages[k].Site w.Pages[k].Top) w.aK.Buckets) <;> simp
theorem aGz {w : M.World} (hw : w.ok) (hz : M.World.sz w ≤ 1048576) : xJ w = some (aGU w) := by
  unfold xJ aGU
  by_cases h1 : w.Sites.length = 3
  · by_cases h2 : w.Servers.length = 3
    · have e3 : decide ((w.Pages.length : Int) > 6) = !decide (w.Pages.length ≤ 6) := by rw [Bool.eq_iff_iff]; simp; omega
      rw [if_neg (by rw [h1]; simp), if_neg (by rw [h2]; simp), e3, decide_eq_true h1, decide_eq_true h2]
      rw [jJ (N := 3) (L := hY w) (g := aDA w) (F := some false) (E := dE w fuel 0) (by unfold maxLen; omega) (fun n k hk => ?_) (fun n => ?_),
        aKZ hw (E := some (inR w.Now 0 999999990000 && (inR w.Device 1 1000000 && (aAg w.aK && (inR w.NextPage 1 1000000000000 && aEC w.Locks))))) (fun n => ?_)]
      · cases decide (w.Pages.length ≤ 6) <;> cases (List.range 3).all (aDA w) <;> cases (List.range w.Pages.length).all (aB2 w) <;> simp
      · simp only [dE]
        rw [if_neg (by rw [aO]; simp)]
        simp only [dC, aFF hw.aK (aIy hz), aD6 hw.Locks, Option.bind_some, bL]
      · have hk1 : k < w.Sites.length := by omega
        have hk2 : k < w.Servers.length := by omega
        have hk3 : k < tO.length := by rw [aJH]; exact hk
        have hn : aAD = some tO := rfl
        simp only [hY, hn, Option.bind_some]
        rw [if_pos (by simp; omega), aN hk1, Option.bind_some, bE (by omega), aH8 (hw.Sites.2 _ (List.getElem_mem hk1)), Option.bind_some, aN hk3, Option.bind_some, aN hk2, Option.bind_some, aFv (hw.Servers.2 _ (List.getElem_mem hk2)), Option.bind_some]
        unfold aDA
        rw [List.getElem?_eq_getElem hk1, List.getElem?_eq_getElem hk2, List.getElem?_eq_getElem hk3]
        simp only [Option.any_some]
        generalize hY w n ((k + 1 : Nat) : Int) = Z
        have gen : ∀ (a b c : Bool), (if (!a) = true then some false else if (!b) = true then some false else if (!c) = true then some false else Z) = if (a && (b && c)) = true then Z else some false := by
          intro a b c; cases a <;> cases b <;> cases c <;> rfl
        exact gen _ _ _
      · simp only [hY]
        rw [if_neg (by simp)]
    · rw [if_neg (by rw [h1]; simp), if_pos (by simp; omega), decide_eq_false h2]
      simp
  · rw [if_pos (by simp; omega), decide_eq_false h1]
    simp
theorem aGp {w : M.World} (hw : w.ok) (hz : M.World.sz w ≤ 1048576) : xA w = some (aGU w) := by
  unfold xA aGU
  have e3 : decide ((w.Pages.length : Int) > 6) = !decide (w.Pages.length ≤ 6) := by rw [Bool.eq_iff_iff]; simp; omega
  have e1 : ((w.Sites.length : Int) != 3) = !decide (w.Sites.length = 3) := by rw [Bool.eq_iff_iff]; simp; omega
  have e2 : ((w.Servers.length : Int) != 3) = !decide (w.Servers.length = 3) := by rw [Bool.eq_iff_iff]; simp; omega
  simp only [bO, aFQ hw.aK (aIy hz), aED hw.Locks, Option.bind_some, e1, e2, e3]
  by_cases h1 : w.Sites.length = 3
  · by_cases h2 : w.Servers.length = 3
    · rw [aKW hw (E := gI w fuel 0) (fun n => by
          simp only [eP]
          rw [if_neg (by rw [aO]; simp)]),
        jJ (N := 3) (L := gI w) (g := aDA w) (F := some false) (E := some true) (by unfold maxLen; omega) (fun n k hk => ?_) (fun n => ?_)]
      · rw [decide_eq_true h1, decide_eq_true h2]
        cases inR w.Now 0 999999990000 <;> cases inR w.Device 1 1000000 <;> cases aAg w.aK <;> cases decide (w.Pages.length ≤ 6) <;> cases inR w.NextPage 1 1000000000000 <;> cases aEC w.Locks <;> cases (List.range 3).all (aDA w) <;> cases (List.range w.Pages.length).all (aB2 w) <;> rfl
      · have hk1 : k < w.Sites.length := by omega
        have hk2 : k < w.Servers.length := by omega
        have hk3 : k < tO.length := by rw [aJH]; exact hk
        simp only [gI]
        rw [if_pos (bA hk1), aN hk1, Option.bind_some, bE (by omega), aH9 (hw.Sites.2 _ (List.getElem_mem hk1)), Option.bind_some, aEl, Option.bind_some, aN hk2, Option.bind_some, aGA (hw.Servers.2 _ (List.getElem_mem hk2)), Option.bind_some, aB7, aKy hk3]
        unfold aDA
        rw [List.getElem?_eq_getElem hk1, List.getElem?_eq_getElem hk2, List.getElem?_eq_getElem hk3]
        simp only [Option.any_some]
        generalize gI w n ((k + 1 : Nat) : Int) = Z
        have gen : ∀ (a b c : Bool), (if (!a) = true then some false else if b = true then (if (!c) = true then some false else Z) else some false) = if (a && (b && c)) = true then Z else some false := by
          intro a b c; cases a <;> cases b <;> cases c <;> rfl
        exact gen _ _ _
      · simp only [gI]
        rw [if_neg (by rw [h1]; simp)]
    · rw [decide_eq_true h1, decide_eq_false h2]
      cases inR w.Now 0 999999990000 <;> cases inR w.Device 1 1000000 <;> cases aAg w.aK <;> cases decide (w.Pages.length ≤ 6) <;> cases inR w.NextPage 1 1000000000000 <;> cases aEC w.Locks <;> rfl
  · rw [decide_eq_false h1]
    cases inR w.Now 0 999999990000 <;> cases inR w.Device 1 1000000 <;> cases aAg w.aK <;> cases decide (w.Pages.length ≤ 6) <;> cases inR w.NextPage 1 1000000000000 <;> cases aEC w.Locks <;> rfl
end Go.Proofs.YtecmnmaaopkdfaaGreat.gen
