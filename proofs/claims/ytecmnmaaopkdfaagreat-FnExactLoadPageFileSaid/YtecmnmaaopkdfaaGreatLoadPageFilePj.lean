/-
  Helper text. No conditions.
-/
import Derived.Test.YtecmnmaaopkdfaaGreatLoadPageFilePi
namespace Go.Proofs.YtecmnmaaopkdfaaGreat.gen
open Go Go.Sh
set_option linter.unusedVariables false
set_option linter.unusedSimpArgs false
def pS : List ByteArray := [(⟨#[98, 97, 110, 107]⟩ : ByteArray), (⟨#[110, 101, 119, 115]⟩ : ByteArray), (⟨#[115, 104, 111, 112]⟩ : ByteArray)]
def aD5 (a : ByteArray) : Int := aBa (fun x : ByteArray => x.toList == a.toList) pS
theorem aIM : pS.length ≤ maxLen := by unfold pS maxLen; simp
theorem aCS {a : ByteArray} : jV a = some (aD5 a) := by
  unfold jV iI
  rw [← pS.eq_1]
  rw [findAll (L := bO pS a) (f := fun x : ByteArray => x.toList == a.toList) (A := fun i => some (i : Int)) (E := some (-1)) aIM (fun m k hk => ?_) (fun m => ?_), mT]
  · rfl
  · have hk3 : k < 3 := hk
    simp only [bO]
    rw [if_pos (bA hk), aN hk, Option.bind_some, bD (by omega), Bool.beq_comm]
  · simp only [bO]
    rw [if_neg (by rw [aO]; simp)]
def aHX (l : List ByteArray) (k : Nat) : Bool := (l[k]?).any pV && (decide (k = 0) || (l[k - 1]?).any fun y => (l[k]?).any fun x => Op.bytesLess y.toList x.toList)
def aHL (s : M.Site) : Bool := (List.range s.Files.length).all (aHX s.Files) && (pV s.Name && (inR s.Version 1 1000000000000 && inR (s.Files.length : Int) 1 6))
theorem aCr {s : M.Site} (hs : s.ok) : sQ s = some (aHL s) := by
  have hm := le_max hs.Files.1
  unfold sQ aHL
  rw [kB (L := hY s) (g := aHX s.Files) (F := some false) (E := some (pV s.Name && (inR s.Version 1 1000000000000 && inR (s.Files.length : Int) 1 6))) hs.Files.1 (fun n k hk => ?_) (fun n => ?_), bM]
  · have hf := hs.Files.2 _ (List.getElem_mem hk)
    simp only [hY]
    rw [if_pos (bA hk), aN hk, Option.bind_some, bD (by omega), eG hf, Option.bind_some]
    unfold aHX
    rw [List.getElem?_eq_getElem hk]
    generalize hY s n ((k + 1 : Nat) : Int) = Z
    by_cases h0 : k = 0
    · subst h0
      simp only [Option.any_some]
      cases pV s.Files[0] <;> simp
    · have e : IntKind.i64.wrap ((k : Int) - 1) = ((k - 1 : Nat) : Int) := by rw [eS (by omega) (by omega)]; omega
      have hk1 : k - 1 < s.Files.length := by omega
      rw [if_pos (c := (decide ((k : Int) > 0)) = true) (by simp; omega), e, aN hk1, Option.bind_some, List.getElem?_eq_getElem hk1]
      simp only [Option.any_some, h0, decide_false, Bool.false_or]
      cases pV s.Files[k] <;> cases Op.bytesLess s.Files[k - 1].toList s.Files[k].toList <;> simp
  · simp only [hY]
    rw [if_neg (by rw [aO]; simp), eG hs.Name, Option.bind_some, dE, Option.bind_some, dE, Option.bind_some, bM, bM]
theorem aCf {s : M.Site} (hs : s.ok) : sP s = some (aHL s) := by
  have hm := le_max hs.Files.1
  unfold sP aHL
  rw [kB (L := hT s) (g := aHX s.Files) (F := some false) (E := some (pV s.Name && (inR s.Version 1 1000000000000 && inR (s.Files.length : Int) 1 6))) hs.Files.1 (fun n k hk => ?_) (fun n => ?_), bM]
  · have hf := hs.Files.2 _ (List.getElem_mem hk)
    simp only [hT]
    rw [if_pos (bA hk), aN hk, Option.bind_some, bD (by omega), dK hf, Option.bind_some]
    unfold aHX
    rw [List.getElem?_eq_getElem hk]
    generalize hT s n ((k + 1 : Nat) : Int) = Z
    by_cases h0 : k = 0
    · subst h0
      simp only [Option.any_some]
      cases pV s.Files[0] <;> simp
    · have e : IntKind.i64.wrap ((k : Int) - 1) = ((k - 1 : Nat) : Int) := by rw [eS (by omega) (by omega)]; omega
      have hk1 : k - 1 < s.Files.length := by omega
      rw [if_pos (c := (decide ((k : Int) > 0)) = true) (by simp; omega), e, aN hk1, Option.bind_some, List.getElem?_eq_getElem hk1, aKx]
      simp only [Option.any_some, h0, decide_false, Bool.false_or]
      cases pV s.Files[k] <;> cases Op.bytesLess s.Files[k - 1].toList s.Files[k].toList <;> simp
  · simp only [hT]
    rw [if_neg (by rw [aO]; simp), dK hs.Name, Option.bind_some, bP, Option.bind_some, bP, Option.bind_some, bM, bM]
def aCW (l : List M.aH) (k : Nat) : Bool := (l[k]?).any (fun x => inR x.Device 1 1000000 && inR x.Seq 0 1000000) && (decide (k = 0) || (l[k - 1]?).any fun y => (l[k]?).any fun x => decide (y.Device < x.Device))
def aDD (l : List M.aW) (k : Nat) : Bool := (l[k]?).any aFI
def aHM (s : M.Server) : Bool := (List.range s.aH.length).all (aCW s.aH) && ((List.range s.Changes.length).all (aDD s.Changes) && (aCc s.aG && ((s.aG.Name.toList == (⟨#[110, 111, 116, 101, 115]⟩ : ByteArray).toList) && decide ((s.aH.length : Int) ≤ 60))))
theorem aHO {s : M.Server} (hs : s.ok) : xC s = some (aHM s) := by
  have hm := le_max hs.aH.1
  have hm2 := le_max hs.Changes.1
  unfold xC aHM
  rw [kB (L := fS s) (g := aCW s.aH) (F := some false) (E := hH s fuel 0) hs.aH.1 (fun n k hk => ?_) (fun n => ?_),
    kB (L := hH s) (g := aDD s.Changes) (F := some false) (E := some (aCc s.aG && ((s.aG.Name.toList == (⟨#[110, 111, 116, 101, 115]⟩ : ByteArray).toList) && decide ((s.aH.length : Int) ≤ 60)))) hs.Changes.1 (fun n k hk => ?_) (fun n => ?_), bM, bM]
  · have hf := hs.Changes.2 _ (List.getElem_mem hk)
    simp only [hH]
    rw [if_pos (bA hk), aN hk, Option.bind_some, bD (by omega), aBh hf, Option.bind_some, aBA]
    unfold aDD
    rw [List.getElem?_eq_getElem hk, Option.any_some]
  · simp only [hH]
    rw [if_neg (by rw [aO]; simp), aCN hs.aG, Option.bind_some, bM, bM]
  · simp only [fS]
    rw [if_pos (bA hk), aN hk, Option.bind_some, bD (by omega), dE, Option.bind_some, dE, Option.bind_some]
    unfold aCW
    rw [List.getElem?_eq_getElem hk]
    generalize fS s n ((k + 1 : Nat) : Int) = Z
    by_cases h0 : k = 0
    · subst h0
      simp only [Option.any_some]
      cases inR s.aH[0].Device 1 1000000 <;> cases inR s.aH[0].Seq 0 1000000 <;> simp
    · have e : IntKind.i64.wrap ((k : Int) - 1) = ((k - 1 : Nat) : Int) := by rw [eS (by omega) (by omega)]; omega
      have hk1 : k - 1 < s.aH.length := by omega
      have ed : decide (s.aH[k - 1].Device ≥ s.aH[k].Device) = !decide (s.aH[k - 1].Device < s.aH[k].Device) := by rw [Bool.eq_iff_iff]; simp
      rw [if_pos (c := (decide ((k : Int) > 0)) = true) (by simp; omega), e, aN hk1, Option.bind_some, List.getElem?_eq_getElem hk1, ed]
      simp only [Option.any_some, h0, decide_false, Bool.false_or]
      cases inR s.aH[k].Device 1 1000000 <;> cases inR s.aH[k].Seq 0 1000000 <;> cases decide (s.aH[k - 1].Device < s.aH[k].Device) <;> simp
  · simp only [fS]
    rw [if_neg (by rw [aO]; simp)]
theorem aHD {s : M.Server} (hs : s.ok) : wP s = some (aHM s) := by
  have hm := le_max hs.aH.1
  have hm2 := le_max hs.Changes.1
  unfold wP aHM
  rw [kB (L := fW s) (g := aCW s.aH) (F := some false) (E := hJ s fuel 0) hs.aH.1 (fun n k hk => ?_) (fun n => ?_),
    kB (L := hJ s) (g := aDD s.Changes) (F := some false) (E := some (aCc s.aG && ((s.aG.Name.toList == (⟨#[110, 111, 116, 101, 115]⟩ : ByteArray).toList) && decide ((s.aH.length : Int) ≤ 60)))) hs.Changes.1 (fun n k hk => ?_) (fun n => ?_), bM, bM]
  · have hf := hs.Changes.2 _ (List.getElem_mem hk)
    simp only [hJ]
    rw [if_pos (bA hk), aN hk, Option.bind_some, bD (by omega), aBi hf, Option.bind_some, aBA]
    unfold aDD
    rw [List.getElem?_eq_getElem hk, Option.any_some]
  · simp only [hJ]
    rw [if_neg (by rw [aO]; simp), aCL hs.aG, Option.bind_some, bM, bM]
  · simp only [fW]
    rw [if_pos (bA hk), aN hk, Option.bind_some, bD (by omega), bP, Option.bind_some, bP, Option.bind_some]
    unfold aCW
    rw [List.getElem?_eq_getElem hk]
    generalize fW s n ((k + 1 : Nat) : Int) = Z
    by_cases h0 : k = 0
    · subst h0
      simp only [Option.any_some]
      cases inR s.aH[0].Device 1 1000000 <;> cases inR s.aH[0].Seq 0 1000000 <;> simp
    · have e : IntKind.i64.wrap ((k : Int) - 1) = ((k - 1 : Nat) : Int) := by rw [eS (by omega) (by omega)]; omega
      have hk1 : k - 1 < s.aH.length := by omega
      have ed : decide (s.aH[k].Device ≤ s.aH[k - 1].Device) = !decide (s.aH[k - 1].Device < s.aH[k].Device) := by rw [Bool.eq_iff_iff]; simp
      rw [if_pos (c := (decide ((k : Int) > 0)) = true) (by simp; omega), e, aN hk1, Option.bind_some, List.getElem?_eq_getElem hk1, ed]
      simp only [Option.any_some, h0, decide_false, Bool.false_or]
      cases inR s.aH[k].Device 1 1000000 <;> cases inR s.aH[k].Seq 0 1000000 <;> cases decide (s.aH[k - 1].Device < s.aH[k].Device) <;> simp
  · simp only [fW]
    rw [if_neg (by rw [aO]; simp)]
def aDR (p : M.bG) (k : Nat) : Bool := (p.aJ[k]?).any fun x => pV x.Path && (x.Version == p.Version)
def aDU (p : M.bG) : Bool := (List.range p.aJ.length).all (aDR p) && (inR p.Id 1 1000000000000 && (pV p.Site && (pV p.Top && (inR p.Version 1 1000000000000 && decide ((p.aJ.length : Int) ≤ 8)))))
theorem aCm {p : M.bG} (hp : p.ok) : sI p = some (aDU p) := by
  have hm := le_max hp.aJ.1
  unfold sI aDU
  rw [kB (L := lF p) (g := aDR p) (F := some false) (E := some (inR p.Id 1 1000000000000 && (pV p.Site && (pV p.Top && (inR p.Version 1 1000000000000 && decide ((p.aJ.length : Int) ≤ 8)))))) hp.aJ.1 (fun n k hk => ?_) (fun n => ?_), bM]
  · have hf := hp.aJ.2 _ (List.getElem_mem hk)
    simp only [lF]
    rw [if_pos (bA hk), aN hk, Option.bind_some, bD (by omega), eG hf.Path, Option.bind_some]
    unfold aDR
    rw [List.getElem?_eq_getElem hk, Option.any_some]
    simp only [aCd, aBA, aN2]
  · simp only [lF]
    rw [if_neg (by rw [aO]; simp)]
    simp only [eG hp.Site, eG hp.Top, dE, Option.bind_some, bM]
theorem aCj {p : M.bG} (hp : p.ok) : sU p = some (aDU p) := by
  have hm := le_max hp.aJ.1
  unfold sU aDU
  rw [kB (L := lH p) (g := aDR p) (F := some false) (E := some (inR p.Id 1 1000000000000 && (pV p.Site && (pV p.Top && (inR p.Version 1 1000000000000 && decide ((p.aJ.length : Int) ≤ 8)))))) hp.aJ.1 (fun n k hk => ?_) (fun n => ?_), bM]
  · have hf := hp.aJ.2 _ (List.getElem_mem hk)
    simp only [lH]
    rw [if_pos (bA hk), aN hk, Option.bind_some, bD (by omega), dK hf.Path, Option.bind_some]
    unfold aDR
    rw [List.getElem?_eq_getElem hk, Option.any_some]
    simp only [aCd, aBA, aN2]
  · simp only [lH]
    rw [if_neg (by rw [aO]; simp)]
    simp only [dK hp.Site, dK hp.Top, bP, Option.bind_some, bM]
theorem aFG {s : ByteArray} (hs : s.size ≤ maxLen) : rN s = some (aJY s 30 true) := by
  have hm := le_max hs
  unfold rN aJY
  rw [aEh (L := cZ s) (g := aF4 true) (F := some false) (E := some (inR (s.size : Int) 1 30)) hs (fun n k hk => ?_) (fun n => ?_), bM]
  · simp only [cZ]
    rw [if_pos (bA hk), aE8 hk, Option.bind_some, bD (by omega)]
    generalize s[k] = b
    unfold aF4
    generalize cZ s n ((k + 1 : Nat) : Int) = Z
    simp only [Bool.or_eq_true, Bool.and_eq_true, decide_eq_true_eq, Bool.not_eq_true', decide_eq_false_iff_not, Bool.true_and, bne_iff_ne, ne_eq]
    repeat' split
    all_goals first | rfl | (exfalso; omega)
  · simp only [cZ]
    rw [if_neg (by rw [aO]; simp), dE, Option.bind_some]
theorem aFc {s : ByteArray} (hs : s.size ≤ maxLen) : qP s = some (aJY s 30 true) := by
  unfold qP
  rw [aEc hs, Option.bind_some]
def aJp (x y : M.cF) : Bool := x.Held && ((y.Name.toList == x.Name.toList) && (!y.Held || (!x.Shared || !y.Shared)))
def aEn (l : List M.cF) (k : Nat) (x : M.cF) : Bool := (List.range k).all fun j => !((l[j]?).any (aJp x))
def aGu (l : List M.cF) (k : Nat) : Bool := (l[k]?).any fun x => aJY x.Name 30 true && (inR x.bG 1 1000000000000 && aEn l k x)
def aER (t : M.aR) : Bool := (List.range t.Locks.length).all (aGu t.Locks) && decide ((t.Locks.length : Int) ≤ 12)
theorem aLa {t : M.aR} {x : M.cF} {k : Nat} {K : Int → Option Bool} (hm : t.Locks.length ≤ maxLen) (hk : k ≤ t.Locks.length) : bY t (k : Int) x K fuel 0 = if aEn t.Locks k x = true then K (k : Int) else some false := by
  have hm' := le_max hm
  refine kB (L := bY t (k : Int) x K) (g := fun j => !((t.Locks[j]?).any (aJp x))) (F := some false) (E := K (k : Int)) (Nat.le_trans hk hm) (fun n j hj => ?_) (fun n => ?_)
  · have hj' : j < t.Locks.length := by omega
    simp only [bY]
    rw [if_pos (bA hj), aN hj', Option.bind_some, bD (by omega), List.getElem?_eq_getElem hj', Option.any_some]
    unfold aJp
    generalize bY t (k : Int) x K n ((j + 1 : Nat) : Int) = Z
    cases x.Held <;> cases (t.Locks[j].Name.toList == x.Name.toList) <;> cases t.Locks[j].Held <;> cases x.Shared <;> cases t.Locks[j].Shared <;> simp
  · simp only [bY]
    rw [if_neg (by rw [aO]; simp)]
theorem aLg {t : M.aR} {x : M.cF} {k : Nat} {Z0 : Option Bool} (hm : t.Locks.length ≤ maxLen) (hk : k ≤ t.Locks.length) : bL t (k : Int) x (fun _ => Z0) fuel 0 = if aEn t.Locks k x = true then Z0 else some false := by
  have hm' := le_max hm
  have hl : (t.Locks.take k).length = k := by rw [List.length_take]; omega
  have := kB (N := k) (L := bL t (k : Int) x (fun _ => Z0)) (g := fun j => !((t.Locks[j]?).any (aJp x))) (F := some false) (E := Z0) (Nat.le_trans hk hm) (fun n j hj => ?_) (fun n => ?_)
  · exact this
  · have hj' : j < t.Locks.length := by omega
    simp only [bL, Int.toNat_natCast, hl]
    rw [if_pos (bA hj), aN (by rw [hl]; exact hj), Option.bind_some, bD (by omega), List.getElem?_eq_getElem hj', Option.any_some, List.getElem_take]
    unfold aJp
    generalize bL t (k : Int) x (fun _ => Z0) n ((j + 1 : Nat) : Int) = Z
    cases x.Held <;> cases (t.Locks[j].Name.toList == x.Name.toList) <;> cases t.Locks[j].Held <;> cases x.Shared <;> cases t.Locks[j].Shared <;> simp
  · simp only [bL, Int.toNat_natCast, hl]
    rw [if_neg (by rw [aO]; simp)]
theorem aEW {t : M.aR} (ht : t.ok) : nU t = some (aER t) := by
  have hm := le_max ht.Locks.1
  unfold nU aER
  rw [kB (L := eU t) (g := aGu t.Locks) (F := some false) (E := some (decide ((t.Locks.length : Int) ≤ 12))) ht.Locks.1 (fun n k hk => ?_) (fun n => ?_), bM]
  · have hf := ht.Locks.2 _ (List.getElem_mem hk)
    simp only [eU]
    rw [if_pos (bA hk), aN hk, Option.bind_some, bD (by omega), aFG hf.Name, Option.bind_some, dE, Option.bind_some, aLa ht.Locks.1 (by omega)]
    unfold aGu
    rw [List.getElem?_eq_getElem hk, Option.any_some]
    generalize eU t n ((k + 1 : Nat) : Int) = Z
    cases aJY t.Locks[k].Name 30 true <;> cases inR t.Locks[k].bG 1 1000000000000 <;> cases aEn t.Locks k t.Locks[k] <;> simp
  · simp only [eU]
    rw [if_neg (by rw [aO]; simp)]
theorem aEq {t : M.aR} (ht : t.ok) : oH t = some (aER t) := by
  have hm := le_max ht.Locks.1
  unfold oH aER
  rw [kB (L := dJ t) (g := aGu t.Locks) (F := some false) (E := some (decide ((t.Locks.length : Int) ≤ 12))) ht.Locks.1 (fun n k hk => ?_) (fun n => ?_), bM]
  · have hf := ht.Locks.2 _ (List.getElem_mem hk)
    simp only [dJ]
    rw [if_pos (bA hk), aN hk, Option.bind_some, bD (by omega), aFc hf.Name, Option.bind_some, bP, Option.bind_some, aKb (by omega), Option.bind_some, aLg ht.Locks.1 (by omega)]
    unfold aGu
    rw [List.getElem?_eq_getElem hk, Option.any_some]
    generalize dJ t n ((k + 1 : Nat) : Int) = Z
    cases aJY t.Locks[k].Name 30 true <;> cases inR t.Locks[k].bG 1 1000000000000 <;> cases aEn t.Locks k t.Locks[k] <;> simp
  · simp only [dJ]
    rw [if_neg (by rw [aO]; simp)]
theorem aKK : pS.length = 3 := rfl
theorem aM1 {a : ByteArray} {k : Nat} (hk : k < pS.length) : (aD5 a == (k : Int)) = (a.toList == (pS[k]).toList) := by
  have d : ∀ i j : Nat, (hi : i < pS.length) → (hj : j < pS.length) → (pS[i]).toList = (pS[j]).toList → i = j := by
    intro i j hi hj h
    have e0 : (⟨#[98, 97, 110, 107]⟩ : ByteArray).toList = [98, 97, 110, 107] := by rw [ByteArray.toList_eq]
    have e1 : (⟨#[110, 101, 119, 115]⟩ : ByteArray).toList = [110, 101, 119, 115] := by rw [ByteArray.toList_eq]
    have e2 : (⟨#[115, 104, 111, 112]⟩ : ByteArray).toList = [115, 104, 111, 112] := by rw [ByteArray.toList_eq]
    rw [aKK] at hi hj
    rcases i with _ | _ | _ | i <;> rcases j with _ | _ | _ | j <;> first | rfl | (exfalso; omega) | (exfalso; simp [pS, e0, e1, e2] at h)
  have hf := aBo (f := fun x : ByteArray => x.toList == a.toList) (xs := pS)
  have ha := aGd (fun x : ByteArray => x.toList == a.toList) pS
  unfold aD5
  rw [Bool.eq_iff_iff, beq_iff_eq, beq_iff_eq]
  constructor
  · intro h
    have h2 : pS.findIdx? (fun x : ByteArray => x.toList == a.toList) = some k := by
      unfold aBa at h
      cases e : pS.findIdx? (fun x : ByteArray => x.toList == a.toList) with
      | none => rw [e] at h; simp only at h; omega
      | some i => rw [e] at h; simp only at h; congr 1; omega
    have := (List.findIdx?_eq_some_iff_getElem.1 h2).2.1
    exact (eq_of_beq this).symm
  · intro h
    have hex : pS.any (fun x : ByteArray => x.toList == a.toList) = true := List.any_eq_true.2 ⟨pS[k], List.getElem_mem hk, by rw [h]; exact beq_self_eq_true _⟩
    rw [hex] at ha
    obtain ⟨j, e, hj⟩ := hf (by have := of_decide_eq_true ha; omega)
    rw [e]
    have h2 : pS.findIdx? (fun x : ByteArray => x.toList == a.toList) = some j := by
      unfold aBa at e
      cases e2 : pS.findIdx? (fun x : ByteArray => x.toList == a.toList) with
      | none => rw [e2] at e; simp only at e; omega
      | some i => rw [e2] at e; simp only at e; congr 1; omega
    have := (List.findIdx?_eq_some_iff_getElem.1 h2).2.1
    rw [d j k hj hk (by rw [eq_of_beq this, h])]
def aCk (w : M.World) (k : Nat) : Bool := (w.Pages[k]?).any fun x => aDU x && (decide (x.Id < w.NextPage) && ((decide (k = 0) || (w.Pages[k - 1]?).any fun y => decide (y.Id < x.Id)) && decide (0 ≤ aBa (nAt x.Site x.Top) w.aK.Buckets)))
def aEE (w : M.World) (k : Nat) : Bool := (w.Sites[k]?).any fun x => aHL x && ((pS[k]?).any (fun nm => x.Name.toList == nm.toList) && (w.Servers[k]?).any aHM)
def aF6 (w : M.World) : Bool := decide (w.Sites.length = 3) && (decide (w.Servers.length = 3) && (decide (w.Pages.length ≤ 6) && ((List.range 3).all (aEE w) && ((List.range w.Pages.length).all (aCk w) && (inR w.Now 0 999999990000 && (inR w.Device 1 1000000 && (aAk w.aK && (inR w.NextPage 1 1000000000000 && aER w.Locks))))))))
theorem aKA {w : M.World} (hz : M.World.sz w ≤ 1048576) : M.aK.sz w.aK ≤ 1048576 := by
  simp only [M.World.sz] at hz
  omega
theorem aLx {w : M.World} (hw : w.ok) {E : Option Bool} (hE : ∀ n, dI w (n + 1) (w.Pages.length : Int) = E) : dI w fuel 0 = if (List.range w.Pages.length).all (aCk w) = true then E else some false := by
  have hm := le_max hw.Pages.1
  refine kB (L := dI w) (g := aCk w) (F := some false) (E := E) hw.Pages.1 (fun n k hk => ?_) hE
  have hf := hw.Pages.2 _ (List.getElem_mem hk)
  simp only [dI]
  rw [if_pos (bA hk), aN hk, Option.bind_some, bD (by omega), aCm hf, Option.bind_some, aCU hw.aK, Option.bind_some]
  unfold aCk
  rw [List.getElem?_eq_getElem hk, Option.any_some]
  generalize dI w n ((k + 1 : Nat) : Int) = Z
  have e1 : decide (w.Pages[k].Id ≥ w.NextPage) = !decide (w.Pages[k].Id < w.NextPage) := by rw [Bool.eq_iff_iff]; simp
  have e2 : decide (aBa (nAt w.Pages[k].Site w.Pages[k].Top) w.aK.Buckets < 0) = !decide (0 ≤ aBa (nAt w.Pages[k].Site w.Pages[k].Top) w.aK.Buckets) := by rw [Bool.eq_iff_iff]; simp
  rw [e1]
  simp only [e2]
  by_cases h0 : k = 0
  · subst h0
    cases aDU w.Pages[0] <;> cases decide (w.Pages[0].Id < w.NextPage) <;> cases decide (0 ≤ aBa (nAt w.Pages[0].Site w.Pages[0].Top) w.aK.Buckets) <;> simp
  · have e : IntKind.i64.wrap ((k : Int) - 1) = ((k - 1 : Nat) : Int) := by rw [eS (by omega) (by omega)]; omega
    have hk1 : k - 1 < w.Pages.length := by omega
    have e3 : decide (w.Pages[k - 1].Id ≥ w.Pages[k].Id) = !decide (w.Pages[k - 1].Id < w.Pages[k].Id) := by rw [Bool.eq_iff_iff]; simp
    rw [if_pos (c := (decide ((k : Int) > 0)) = true) (by simp; omega), e, aN hk1, Option.bind_some, List.getElem?_eq_getElem hk1, e3]
    simp only [Option.any_some, h0, decide_false, Bool.false_or]
    cases aDU w.Pages[k] <;> cases decide (w.Pages[k].Id < w.NextPage) <;> cases decide (w.Pages[k - 1].Id < w.Pages[k].Id) <;> cases decide (0 ≤ aBa (nAt w.Pages[k].Site w.Pages[k].Top) w.aK.Buckets) <;> simp
theorem aLv {w : M.World} (hw : w.ok) {E : Option Bool} (hE : ∀ n, eQ w (n + 1) (w.Pages.length : Int) = E) : eQ w fuel 0 = if (List.range w.Pages.length).all (aCk w) = true then E else some false := by
  have hm := le_max hw.Pages.1
  refine kB (L := eQ w) (g := aCk w) (F := some false) (E := E) hw.Pages.1 (fun n k hk => ?_) hE
  have hf := hw.Pages.2 _ (List.getElem_mem hk)
  simp only [eQ]
  rw [if_pos (bA hk), aN hk, Option.bind_some, bD (by omega), aCj hf, Option.bind_some, aCQ hw.aK, Option.bind_some]
  unfold aCk
  rw [List.getElem?_eq_getElem hk, Option.any_some]
  generalize eQ w n ((k + 1 : Nat) : Int) = Z
  have e1 : decide (w.Pages[k].Id ≥ w.NextPage) = !decide (w.Pages[k].Id < w.NextPage) := by rw [Bool.eq_iff_iff]; simp
  have e2 : decide (aBa (nAt w.Pages[k].Site w.Pages[k].Top) w.aK.Buckets < 0) = !decide (0 ≤ aBa (nAt w.Pages[k].Site w.Pages[k].Top) w.aK.Buckets) := by rw [Bool.eq_iff_iff]; simp
  rw [e1]
  simp only [e2]
  by_cases h0 : k = 0
  · subst h0
    cases aDU w.Pages[0] <;> cases decide (w.Pages[0].Id < w.NextPage) <;> cases decide (0 ≤ aBa (nAt w.Pages[0].Site w.Pages[0].Top) w.aK.Buckets) <;> simp
  · have e : IntKind.i64.wrap ((k : Int) - 1) = ((k - 1 : Nat) : Int) := by rw [eS (by omega) (by omega)]; omega
    have hk1 : k - 1 < w.Pages.length := by omega
    have e3 : decide (w.Pages[k].Id ≤ w.Pages[k - 1].Id) = !decide (w.Pages[k - 1].Id < w.Pages[k].Id) := by rw [Bool.eq_iff_iff]; simp
    rw [if_pos (c := (decide ((k : Int) > 0)) = true) (by simp; omega), e, aN hk1, Option.bind_some, List.getElem?_eq_getElem hk1, e3]
    simp only [Option.any_some, h0, decide_false, Bool.false_or]
    cases aDU w.Pages[k] <;> cases decide (w.Pages[k].Id < w.NextPage) <;> cases decide (w.Pages[k - 1].Id < w.Pages[k].Id) <;> cases decide (0 ≤ aBa (nAt w.Pages[k].Site w.Pages[k].Top) w.aK.Buckets) <;> simp
theorem aHj {w : M.World} (hw : w.ok) (hz : M.World.sz w ≤ 1048576) : yQ w = some (aF6 w) := by
  unfold yQ aF6
  by_cases h1 : w.Sites.length = 3
  · by_cases h2 : w.Servers.length = 3
    · have e3 : decide ((w.Pages.length : Int) > 6) = !decide (w.Pages.length ≤ 6) := by rw [Bool.eq_iff_iff]; simp; omega
      rw [if_neg (by rw [h1]; simp), if_neg (by rw [h2]; simp), e3, decide_eq_true h1, decide_eq_true h2]
      rw [kB (N := 3) (L := iJ w) (g := aEE w) (F := some false) (E := dI w fuel 0) (by unfold maxLen; omega) (fun n k hk => ?_) (fun n => ?_),
        aLx hw (E := some (inR w.Now 0 999999990000 && (inR w.Device 1 1000000 && (aAk w.aK && (inR w.NextPage 1 1000000000000 && aER w.Locks))))) (fun n => ?_)]
      · cases decide (w.Pages.length ≤ 6) <;> cases (List.range 3).all (aEE w) <;> cases (List.range w.Pages.length).all (aCk w) <;> simp
      · simp only [dI]
        rw [if_neg (by rw [aO]; simp)]
        simp only [dE, aGU hw.aK (aKA hz), aEW hw.Locks, Option.bind_some, bM]
      · have hk1 : k < w.Sites.length := by omega
        have hk2 : k < w.Servers.length := by omega
        have hk3 : k < pS.length := by rw [aKK]; exact hk
        have hn : rY = some pS := rfl
        simp only [iJ, hn, Option.bind_some]
        rw [if_pos (by simp; omega), aN hk1, Option.bind_some, bD (by omega), aCr (hw.Sites.2 _ (List.getElem_mem hk1)), Option.bind_some, aN hk3, Option.bind_some, aN hk2, Option.bind_some, aHO (hw.Servers.2 _ (List.getElem_mem hk2)), Option.bind_some]
        unfold aEE
        rw [List.getElem?_eq_getElem hk1, List.getElem?_eq_getElem hk2, List.getElem?_eq_getElem hk3]
        simp only [Option.any_some]
        generalize iJ w n ((k + 1 : Nat) : Int) = Z
        have gen : ∀ (a b c : Bool), (if (!a) = true then some false else if (!b) = true then some false else if (!c) = true then some false else Z) = if (a && (b && c)) = true then Z else some false := by
          intro a b c; cases a <;> cases b <;> cases c <;> rfl
        exact gen _ _ _
      · simp only [iJ]
        rw [if_neg (by simp)]
    · rw [if_neg (by rw [h1]; simp), if_pos (by simp; omega), decide_eq_false h2]
      simp
  · rw [if_pos (by simp; omega), decide_eq_false h1]
    simp
theorem aHe {w : M.World} (hw : w.ok) (hz : M.World.sz w ≤ 1048576) : yX w = some (aF6 w) := by
  unfold yX aF6
  have e3 : decide ((w.Pages.length : Int) > 6) = !decide (w.Pages.length ≤ 6) := by rw [Bool.eq_iff_iff]; simp; omega
  have e1 : ((w.Sites.length : Int) != 3) = !decide (w.Sites.length = 3) := by rw [Bool.eq_iff_iff]; simp; omega
  have e2 : ((w.Servers.length : Int) != 3) = !decide (w.Servers.length = 3) := by rw [Bool.eq_iff_iff]; simp; omega
  simp only [bP, aGX hw.aK (aKA hz), aEq hw.Locks, Option.bind_some, e1, e2, e3]
  by_cases h1 : w.Sites.length = 3
  · by_cases h2 : w.Servers.length = 3
    · rw [aLv hw (E := gL w fuel 0) (fun n => by
          simp only [eQ]
          rw [if_neg (by rw [aO]; simp)]),
        kB (N := 3) (L := gL w) (g := aEE w) (F := some false) (E := some true) (by unfold maxLen; omega) (fun n k hk => ?_) (fun n => ?_)]
      · rw [decide_eq_true h1, decide_eq_true h2]
        cases inR w.Now 0 999999990000 <;> cases inR w.Device 1 1000000 <;> cases aAk w.aK <;> cases decide (w.Pages.length ≤ 6) <;> cases inR w.NextPage 1 1000000000000 <;> cases aER w.Locks <;> cases (List.range 3).all (aEE w) <;> cases (List.range w.Pages.length).all (aCk w) <;> rfl
      · have hk1 : k < w.Sites.length := by omega
        have hk2 : k < w.Servers.length := by omega
        have hk3 : k < pS.length := by rw [aKK]; exact hk
        simp only [gL]
        rw [if_pos (bA hk1), aN hk1, Option.bind_some, bD (by omega), aCf (hw.Sites.2 _ (List.getElem_mem hk1)), Option.bind_some, aCS, Option.bind_some, aN hk2, Option.bind_some, aHD (hw.Servers.2 _ (List.getElem_mem hk2)), Option.bind_some, aCd, aM1 hk3]
        unfold aEE
        rw [List.getElem?_eq_getElem hk1, List.getElem?_eq_getElem hk2, List.getElem?_eq_getElem hk3]
        simp only [Option.any_some]
        generalize gL w n ((k + 1 : Nat) : Int) = Z
        have gen : ∀ (a b c : Bool), (if (!a) = true then some false else if b = true then (if (!c) = true then some false else Z) else some false) = if (a && (b && c)) = true then Z else some false := by
          intro a b c; cases a <;> cases b <;> cases c <;> rfl
        exact gen _ _ _
      · simp only [gL]
        rw [if_neg (by rw [h1]; simp)]
    · rw [decide_eq_true h1, decide_eq_false h2]
      cases inR w.Now 0 999999990000 <;> cases inR w.Device 1 1000000 <;> cases aAk w.aK <;> cases decide (w.Pages.length ≤ 6) <;> cases inR w.NextPage 1 1000000000000 <;> cases aER w.Locks <;> rfl
  · rw [decide_eq_false h1]
    cases inR w.Now 0 999999990000 <;> cases inR w.Device 1 1000000 <;> cases aAk w.aK <;> cases decide (w.Pages.length ≤ 6) <;> cases inR w.NextPage 1 1000000000000 <;> cases aER w.Locks <;> rfl
end Go.Proofs.YtecmnmaaopkdfaaGreat.gen
