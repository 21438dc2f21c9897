/-
  Helper text. No conditions.
-/
import Derived.Test.YtecmnmaaopkdfaaGreatPageLockPi
namespace Go.Proofs.YtecmnmaaopkdfaaGreat.gen
open Go Go.Sh
set_option linter.unusedVariables false
set_option linter.unusedSimpArgs false
def rX : List ByteArray := [(⟨#[98, 97, 110, 107]⟩ : ByteArray), (⟨#[110, 101, 119, 115]⟩ : ByteArray), (⟨#[115, 104, 111, 112]⟩ : ByteArray)]
def aJK (a : ByteArray) : Int := aBo (fun x : ByteArray => x.toList == a.toList) rX
theorem aKR : rX.length ≤ maxLen := by unfold rX maxLen; simp
theorem aEg {a : ByteArray} : qQ a = some (aJK a) := by
  unfold qQ nU
  rw [← rX.eq_1]
  rw [findAll (L := eN rX a) (f := fun x : ByteArray => x.toList == a.toList) (A := fun i => some (i : Int)) (E := some (-1)) aKR (fun m k hk => ?_) (fun m => ?_), wD]
  · rfl
  · have hk3 : k < 3 := hk
    simp only [eN]
    rw [if_pos (bA hk), aO hk, Option.bind_some, bD (by omega), Bool.beq_comm]
  · simp only [eN]
    rw [if_neg (by rw [aP]; simp)]
def aGU (l : List ByteArray) (k : Nat) : Bool := (l[k]?).any oT && (decide (k = 0) || (l[k - 1]?).any fun y => (l[k]?).any fun x => Op.bytesLess y.toList x.toList)
def aLB (s : M.Site) : Bool := (List.range s.Files.length).all (aGU s.Files) && (oT s.Name && (inR s.Version 1 1000000000000 && inR (s.Files.length : Int) 1 6))
theorem aH5 {s : M.Site} (hs : s.ok) : aAF s = some (aLB s) := by
  have hm := le_max hs.Files.1
  unfold aAF aLB
  rw [jN (L := gY s) (g := aGU s.Files) (F := some false) (E := some (oT s.Name && (inR s.Version 1 1000000000000 && inR (s.Files.length : Int) 1 6))) hs.Files.1 (fun n k hk => ?_) (fun n => ?_), bN]
  · have hf := hs.Files.2 _ (List.getElem_mem hk)
    simp only [gY]
    rw [if_pos (bA hk), aO hk, Option.bind_some, bD (by omega), eA hf, Option.bind_some]
    unfold aGU
    rw [List.getElem?_eq_getElem hk]
    generalize gY s n ((k + 1 : Nat) : Int) = Z
    by_cases h0 : k = 0
    · subst h0
      simp only [Option.any_some]
      cases oT s.Files[0] <;> simp
    · have e : IntKind.i64.wrap ((k : Int) - 1) = ((k - 1 : Nat) : Int) := by rw [iJ (by omega) (by omega)]; omega
      have hk1 : k - 1 < s.Files.length := by omega
      rw [if_pos (c := (decide ((k : Int) > 0)) = true) (by simp; omega), e, aO hk1, Option.bind_some, List.getElem?_eq_getElem hk1]
      simp only [Option.any_some, h0, decide_false, Bool.false_or]
      cases oT s.Files[k] <;> cases Op.bytesLess s.Files[k - 1].toList s.Files[k].toList <;> simp
  · simp only [gY]
    rw [if_neg (by rw [aP]; simp), eA hs.Name, Option.bind_some, dB, Option.bind_some, dB, Option.bind_some, bN, bN]
theorem aHZ {s : M.Site} (hs : s.ok) : aAr s = some (aLB s) := by
  have hm := le_max hs.Files.1
  unfold aAr aLB
  rw [jN (L := gZ s) (g := aGU s.Files) (F := some false) (E := some (oT s.Name && (inR s.Version 1 1000000000000 && inR (s.Files.length : Int) 1 6))) hs.Files.1 (fun n k hk => ?_) (fun n => ?_), bN]
  · have hf := hs.Files.2 _ (List.getElem_mem hk)
    simp only [gZ]
    rw [if_pos (bA hk), aO hk, Option.bind_some, bD (by omega), dK hf, Option.bind_some]
    unfold aGU
    rw [List.getElem?_eq_getElem hk]
    generalize gZ s n ((k + 1 : Nat) : Int) = Z
    by_cases h0 : k = 0
    · subst h0
      simp only [Option.any_some]
      cases oT s.Files[0] <;> simp
    · have e : IntKind.i64.wrap ((k : Int) - 1) = ((k - 1 : Nat) : Int) := by rw [iJ (by omega) (by omega)]; omega
      have hk1 : k - 1 < s.Files.length := by omega
      rw [if_pos (c := (decide ((k : Int) > 0)) = true) (by simp; omega), e, aO hk1, Option.bind_some, List.getElem?_eq_getElem hk1, aKH]
      simp only [Option.any_some, h0, decide_false, Bool.false_or]
      cases oT s.Files[k] <;> cases Op.bytesLess s.Files[k - 1].toList s.Files[k].toList <;> simp
  · simp only [gZ]
    rw [if_neg (by rw [aP]; simp), dK hs.Name, Option.bind_some, bO, Option.bind_some, bO, Option.bind_some, bN, bN]
def aBs (l : List M.aJ) (k : Nat) : Bool := (l[k]?).any (fun x => inR x.Device 1 1000000 && inR x.Seq 0 1000000) && (decide (k = 0) || (l[k - 1]?).any fun y => (l[k]?).any fun x => decide (y.Device < x.Device))
def aCj (l : List M.aW) (k : Nat) : Bool := (l[k]?).any aEk
def aGg (s : M.Server) : Bool := (List.range s.aJ.length).all (aBs s.aJ) && ((List.range s.Changes.length).all (aCj s.Changes) && (aBr s.aH && ((s.aH.Name.toList == (⟨#[110, 111, 116, 101, 115]⟩ : ByteArray).toList) && decide ((s.aJ.length : Int) ≤ 60))))
theorem aGh {s : M.Server} (hs : s.ok) : vT s = some (aGg s) := by
  have hm := le_max hs.aJ.1
  have hm2 := le_max hs.Changes.1
  unfold vT aGg
  rw [jN (L := fS s) (g := aBs s.aJ) (F := some false) (E := gT s fuel 0) hs.aJ.1 (fun n k hk => ?_) (fun n => ?_),
    jN (L := gT s) (g := aCj s.Changes) (F := some false) (E := some (aBr s.aH && ((s.aH.Name.toList == (⟨#[110, 111, 116, 101, 115]⟩ : ByteArray).toList) && decide ((s.aJ.length : Int) ≤ 60)))) hs.Changes.1 (fun n k hk => ?_) (fun n => ?_), bN, bN]
  · have hf := hs.Changes.2 _ (List.getElem_mem hk)
    simp only [gT]
    rw [if_pos (bA hk), aO hk, Option.bind_some, bD (by omega), aBF hf, Option.bind_some, zN]
    unfold aCj
    rw [List.getElem?_eq_getElem hk, Option.any_some]
  · simp only [gT]
    rw [if_neg (by rw [aP]; simp), aBm hs.aH, Option.bind_some, bN, bN]
  · simp only [fS]
    rw [if_pos (bA hk), aO hk, Option.bind_some, bD (by omega), dB, Option.bind_some, dB, Option.bind_some]
    unfold aBs
    rw [List.getElem?_eq_getElem hk]
    generalize fS s n ((k + 1 : Nat) : Int) = Z
    by_cases h0 : k = 0
    · subst h0
      simp only [Option.any_some]
      cases inR s.aJ[0].Device 1 1000000 <;> cases inR s.aJ[0].Seq 0 1000000 <;> simp
    · have e : IntKind.i64.wrap ((k : Int) - 1) = ((k - 1 : Nat) : Int) := by rw [iJ (by omega) (by omega)]; omega
      have hk1 : k - 1 < s.aJ.length := by omega
      have ed : decide (s.aJ[k - 1].Device ≥ s.aJ[k].Device) = !decide (s.aJ[k - 1].Device < s.aJ[k].Device) := by rw [Bool.eq_iff_iff]; simp
      rw [if_pos (c := (decide ((k : Int) > 0)) = true) (by simp; omega), e, aO hk1, Option.bind_some, List.getElem?_eq_getElem hk1, ed]
      simp only [Option.any_some, h0, decide_false, Bool.false_or]
      cases inR s.aJ[k].Device 1 1000000 <;> cases inR s.aJ[k].Seq 0 1000000 <;> cases decide (s.aJ[k - 1].Device < s.aJ[k].Device) <;> simp
  · simp only [fS]
    rw [if_neg (by rw [aP]; simp)]
theorem aGF {s : M.Server} (hs : s.ok) : vW s = some (aGg s) := by
  have hm := le_max hs.aJ.1
  have hm2 := le_max hs.Changes.1
  unfold vW aGg
  rw [jN (L := fP s) (g := aBs s.aJ) (F := some false) (E := gU s fuel 0) hs.aJ.1 (fun n k hk => ?_) (fun n => ?_),
    jN (L := gU s) (g := aCj s.Changes) (F := some false) (E := some (aBr s.aH && ((s.aH.Name.toList == (⟨#[110, 111, 116, 101, 115]⟩ : ByteArray).toList) && decide ((s.aJ.length : Int) ≤ 60)))) hs.Changes.1 (fun n k hk => ?_) (fun n => ?_), bN, bN]
  · have hf := hs.Changes.2 _ (List.getElem_mem hk)
    simp only [gU]
    rw [if_pos (bA hk), aO hk, Option.bind_some, bD (by omega), aBH hf, Option.bind_some, zN]
    unfold aCj
    rw [List.getElem?_eq_getElem hk, Option.any_some]
  · simp only [gU]
    rw [if_neg (by rw [aP]; simp), aBn hs.aH, Option.bind_some, bN, bN]
  · simp only [fP]
    rw [if_pos (bA hk), aO hk, Option.bind_some, bD (by omega), bO, Option.bind_some, bO, Option.bind_some]
    unfold aBs
    rw [List.getElem?_eq_getElem hk]
    generalize fP s n ((k + 1 : Nat) : Int) = Z
    by_cases h0 : k = 0
    · subst h0
      simp only [Option.any_some]
      cases inR s.aJ[0].Device 1 1000000 <;> cases inR s.aJ[0].Seq 0 1000000 <;> simp
    · have e : IntKind.i64.wrap ((k : Int) - 1) = ((k - 1 : Nat) : Int) := by rw [iJ (by omega) (by omega)]; omega
      have hk1 : k - 1 < s.aJ.length := by omega
      have ed : decide (s.aJ[k].Device ≤ s.aJ[k - 1].Device) = !decide (s.aJ[k - 1].Device < s.aJ[k].Device) := by rw [Bool.eq_iff_iff]; simp
      rw [if_pos (c := (decide ((k : Int) > 0)) = true) (by simp; omega), e, aO hk1, Option.bind_some, List.getElem?_eq_getElem hk1, ed]
      simp only [Option.any_some, h0, decide_false, Bool.false_or]
      cases inR s.aJ[k].Device 1 1000000 <;> cases inR s.aJ[k].Seq 0 1000000 <;> cases decide (s.aJ[k - 1].Device < s.aJ[k].Device) <;> simp
  · simp only [fP]
    rw [if_neg (by rw [aP]; simp)]
def aCk (p : M.bG) (k : Nat) : Bool := (p.aN[k]?).any fun x => oT x.Path && (x.Version == p.Version)
def aHh (p : M.bG) : Bool := (List.range p.aN.length).all (aCk p) && (inR p.Id 1 1000000000000 && (oT p.Site && (oT p.Top && (inR p.Version 1 1000000000000 && decide ((p.aN.length : Int) ≤ 8)))))
theorem aH9 {p : M.bG} (hp : p.ok) : zW p = some (aHh p) := by
  have hm := le_max hp.aN.1
  unfold zW aHh
  rw [jN (L := kO p) (g := aCk p) (F := some false) (E := some (inR p.Id 1 1000000000000 && (oT p.Site && (oT p.Top && (inR p.Version 1 1000000000000 && decide ((p.aN.length : Int) ≤ 8)))))) hp.aN.1 (fun n k hk => ?_) (fun n => ?_), bN]
  · have hf := hp.aN.2 _ (List.getElem_mem hk)
    simp only [kO]
    rw [if_pos (bA hk), aO hk, Option.bind_some, bD (by omega), eA hf.Path, Option.bind_some]
    unfold aCk
    rw [List.getElem?_eq_getElem hk, Option.any_some]
    simp only [aB2, zN, aMz]
  · simp only [kO]
    rw [if_neg (by rw [aP]; simp)]
    simp only [eA hp.Site, eA hp.Top, dB, Option.bind_some, bN]
theorem aHj {p : M.bG} (hp : p.ok) : aAn p = some (aHh p) := by
  have hm := le_max hp.aN.1
  unfold aAn aHh
  rw [jN (L := kR p) (g := aCk p) (F := some false) (E := some (inR p.Id 1 1000000000000 && (oT p.Site && (oT p.Top && (inR p.Version 1 1000000000000 && decide ((p.aN.length : Int) ≤ 8)))))) hp.aN.1 (fun n k hk => ?_) (fun n => ?_), bN]
  · have hf := hp.aN.2 _ (List.getElem_mem hk)
    simp only [kR]
    rw [if_pos (bA hk), aO hk, Option.bind_some, bD (by omega), dK hf.Path, Option.bind_some]
    unfold aCk
    rw [List.getElem?_eq_getElem hk, Option.any_some]
    simp only [aB2, zN, aMz]
  · simp only [kR]
    rw [if_neg (by rw [aP]; simp)]
    simp only [dK hp.Site, dK hp.Top, bO, Option.bind_some, bN]
theorem aES {s : ByteArray} (hs : s.size ≤ maxLen) : pA s = some (aIq s 30 true) := by
  have hm := le_max hs
  unfold pA aIq
  rw [aD0 (L := cT s) (g := aE5 true) (F := some false) (E := some (inR (s.size : Int) 1 30)) hs (fun n k hk => ?_) (fun n => ?_), bN]
  · simp only [cT]
    rw [if_pos (bA hk), aD6 hk, Option.bind_some, bD (by omega)]
    generalize s[k] = b
    unfold aE5
    generalize cT s n ((k + 1 : Nat) : Int) = Z
    simp only [Bool.or_eq_true, Bool.and_eq_true, decide_eq_true_eq, Bool.not_eq_true', decide_eq_false_iff_not, Bool.true_and, bne_iff_ne, ne_eq]
    repeat' split
    all_goals first | rfl | (exfalso; omega)
  · simp only [cT]
    rw [if_neg (by rw [aP]; simp), dB, Option.bind_some]
theorem aEZ {s : ByteArray} (hs : s.size ≤ maxLen) : pS s = some (aIq s 30 true) := by
  unfold pS
  rw [aEG hs, Option.bind_some]
def aIV (x y : M.bK) : Bool := x.Held && ((y.Name.toList == x.Name.toList) && (!y.Held || (!x.Shared || !y.Shared)))
def aDz (l : List M.bK) (k : Nat) (x : M.bK) : Bool := (List.range k).all fun j => !((l[j]?).any (aIV x))
def aFw (l : List M.bK) (k : Nat) : Bool := (l[k]?).any fun x => aIq x.Name 30 true && (inR x.bG 1 1000000000000 && aDz l k x)
def aBW (t : M.aF) : Bool := (List.range t.Locks.length).all (aFw t.Locks) && decide ((t.Locks.length : Int) ≤ 12)
theorem aKf {t : M.aF} {x : M.bK} {k : Nat} {K : Int → Option Bool} (hm : t.Locks.length ≤ maxLen) (hk : k ≤ t.Locks.length) : bU t (k : Int) x K fuel 0 = if aDz t.Locks k x = true then K (k : Int) else some false := by
  have hm' := le_max hm
  refine jN (L := bU t (k : Int) x K) (g := fun j => !((t.Locks[j]?).any (aIV x))) (F := some false) (E := K (k : Int)) (Nat.le_trans hk hm) (fun n j hj => ?_) (fun n => ?_)
  · have hj' : j < t.Locks.length := by omega
    simp only [bU]
    rw [if_pos (bA hj), aO hj', Option.bind_some, bD (by omega), List.getElem?_eq_getElem hj', Option.any_some]
    unfold aIV
    generalize bU t (k : Int) x K n ((j + 1 : Nat) : Int) = Z
    cases x.Held <;> cases (t.Locks[j].Name.toList == x.Name.toList) <;> cases t.Locks[j].Held <;> cases x.Shared <;> cases t.Locks[j].Shared <;> simp
  · simp only [bU]
    rw [if_neg (by rw [aP]; simp)]
theorem aKk {t : M.aF} {x : M.bK} {k : Nat} {Z0 : Option Bool} (hm : t.Locks.length ≤ maxLen) (hk : k ≤ t.Locks.length) : bM t (k : Int) x (fun _ => Z0) fuel 0 = if aDz t.Locks k x = true then Z0 else some false := by
  have hm' := le_max hm
  have hl : (t.Locks.take k).length = k := by rw [List.length_take]; omega
  have := jN (N := k) (L := bM t (k : Int) x (fun _ => Z0)) (g := fun j => !((t.Locks[j]?).any (aIV x))) (F := some false) (E := Z0) (Nat.le_trans hk hm) (fun n j hj => ?_) (fun n => ?_)
  · exact this
  · have hj' : j < t.Locks.length := by omega
    simp only [bM, Int.toNat_natCast, hl]
    rw [if_pos (bA hj), aO (by rw [hl]; exact hj), Option.bind_some, bD (by omega), List.getElem?_eq_getElem hj', Option.any_some, List.getElem_take]
    unfold aIV
    generalize bM t (k : Int) x (fun _ => Z0) n ((j + 1 : Nat) : Int) = Z
    cases x.Held <;> cases (t.Locks[j].Name.toList == x.Name.toList) <;> cases t.Locks[j].Held <;> cases x.Shared <;> cases t.Locks[j].Shared <;> simp
  · simp only [bM, Int.toNat_natCast, hl]
    rw [if_neg (by rw [aP]; simp)]
theorem aAM {t : M.aF} (ht : t.ok) : iG t = some (aBW t) := by
  have hm := le_max ht.Locks.1
  unfold iG aBW
  rw [jN (L := eQ t) (g := aFw t.Locks) (F := some false) (E := some (decide ((t.Locks.length : Int) ≤ 12))) ht.Locks.1 (fun n k hk => ?_) (fun n => ?_), bN]
  · have hf := ht.Locks.2 _ (List.getElem_mem hk)
    simp only [eQ]
    rw [if_pos (bA hk), aO hk, Option.bind_some, bD (by omega), aES hf.Name, Option.bind_some, dB, Option.bind_some, aKf ht.Locks.1 (by omega)]
    unfold aFw
    rw [List.getElem?_eq_getElem hk, Option.any_some]
    generalize eQ t n ((k + 1 : Nat) : Int) = Z
    cases aIq t.Locks[k].Name 30 true <;> cases inR t.Locks[k].bG 1 1000000000000 <;> cases aDz t.Locks k t.Locks[k] <;> simp
  · simp only [eQ]
    rw [if_neg (by rw [aP]; simp)]
theorem aAa {t : M.aF} (ht : t.ok) : iM t = some (aBW t) := by
  have hm := le_max ht.Locks.1
  unfold iM aBW
  rw [jN (L := dH t) (g := aFw t.Locks) (F := some false) (E := some (decide ((t.Locks.length : Int) ≤ 12))) ht.Locks.1 (fun n k hk => ?_) (fun n => ?_), bN]
  · have hf := ht.Locks.2 _ (List.getElem_mem hk)
    simp only [dH]
    rw [if_pos (bA hk), aO hk, Option.bind_some, bD (by omega), aEZ hf.Name, Option.bind_some, bO, Option.bind_some, aHz (by omega), Option.bind_some, aKk ht.Locks.1 (by omega)]
    unfold aFw
    rw [List.getElem?_eq_getElem hk, Option.any_some]
    generalize dH t n ((k + 1 : Nat) : Int) = Z
    cases aIq t.Locks[k].Name 30 true <;> cases inR t.Locks[k].bG 1 1000000000000 <;> cases aDz t.Locks k t.Locks[k] <;> simp
  · simp only [dH]
    rw [if_neg (by rw [aP]; simp)]
theorem aJU : rX.length = 3 := rfl
theorem aLf {a : ByteArray} {k : Nat} (hk : k < rX.length) : (aJK a == (k : Int)) = (a.toList == (rX[k]).toList) := by
  have d : ∀ i j : Nat, (hi : i < rX.length) → (hj : j < rX.length) → (rX[i]).toList = (rX[j]).toList → i = j := by
    intro i j hi hj h
    have e0 : (⟨#[98, 97, 110, 107]⟩ : ByteArray).toList = [98, 97, 110, 107] := by rw [ByteArray.toList_eq]
    have e1 : (⟨#[110, 101, 119, 115]⟩ : ByteArray).toList = [110, 101, 119, 115] := by rw [ByteArray.toList_eq]
    have e2 : (⟨#[115, 104, 111, 112]⟩ : ByteArray).toList = [115, 104, 111, 112] := by rw [ByteArray.toList_eq]
    rw [aJU] at hi hj
    rcases i with _ | _ | _ | i <;> rcases j with _ | _ | _ | j <;> first | rfl | (exfalso; omega) | (exfalso; simp [rX, e0, e1, e2] at h)
  have hf := aDZ (f := fun x : ByteArray => x.toList == a.toList) (xs := rX)
  have ha := aFu (fun x : ByteArray => x.toList == a.toList) rX
  unfold aJK
  rw [Bool.eq_iff_iff, beq_iff_eq, beq_iff_eq]
  constructor
  · intro h
    have h2 : rX.findIdx? (fun x : ByteArray => x.toList == a.toList) = some k := by
      unfold aBo at h
      cases e : rX.findIdx? (fun x : ByteArray => x.toList == a.toList) with
      | none => rw [e] at h; simp only at h; omega
      | some i => rw [e] at h; simp only at h; congr 1; omega
    have := (List.findIdx?_eq_some_iff_getElem.1 h2).2.1
    exact (eq_of_beq this).symm
  · intro h
    have hex : rX.any (fun x : ByteArray => x.toList == a.toList) = true := List.any_eq_true.2 ⟨rX[k], List.getElem_mem hk, by rw [h]; exact beq_self_eq_true _⟩
    rw [hex] at ha
    obtain ⟨j, e, hj⟩ := hf (by have := of_decide_eq_true ha; omega)
    rw [e]
    have h2 : rX.findIdx? (fun x : ByteArray => x.toList == a.toList) = some j := by
      unfold aBo at e
      cases e2 : rX.findIdx? (fun x : ByteArray => x.toList == a.toList) with
      | none => rw [e2] at e; simp only at e; omega
      | some i => rw [e2] at e; simp only at e; congr 1; omega
    have := (List.findIdx?_eq_some_iff_getElem.1 h2).2.1
    rw [d j k hj hk (by rw [eq_of_beq this, h])]
def aB3 (w : M.World) (k : Nat) : Bool := (w.Pages[k]?).any fun x => aHh x && (decide (x.Id < w.NextPage) && ((decide (k = 0) || (w.Pages[k - 1]?).any fun y => decide (y.Id < x.Id)) && decide (0 ≤ aBo (nAt x.Site x.Top) w.aM.Buckets)))
def aDE (w : M.World) (k : Nat) : Bool := (w.Sites[k]?).any fun x => aLB x && ((rX[k]?).any (fun nm => x.Name.toList == nm.toList) && (w.Servers[k]?).any aGg)
def aI5 (w : M.World) : Bool := decide (w.Sites.length = 3) && (decide (w.Servers.length = 3) && (decide (w.Pages.length ≤ 6) && ((List.range 3).all (aDE w) && ((List.range w.Pages.length).all (aB3 w) && (inR w.Now 0 999999990000 && (inR w.Device 1 1000000 && (aAY w.aM && (inR w.NextPage 1 1000000000000 && aBW w.Locks))))))))
theorem aI9 {w : M.World} (hz : M.World.sz w ≤ 1048576) : M.aM.sz w.aM ≤ 1048576 := by
  simp only [M.World.sz] at hz
  omega
theorem aKn {w : M.World} (hw : w.ok) {E : Option Bool} (hE : ∀ n, dD w (n + 1) (w.Pages.length : Int) = E) : dD w fuel 0 = if (List.range w.Pages.length).all (aB3 w) = true then E else some false := by
  have hm := le_max hw.Pages.1
  refine jN (L := dD w) (g := aB3 w) (F := some false) (E := E) hw.Pages.1 (fun n k hk => ?_) hE
  have hf := hw.Pages.2 _ (List.getElem_mem hk)
  simp only [dD]
  rw [if_pos (bA hk), aO hk, Option.bind_some, bD (by omega), aH9 hf, Option.bind_some, aEV hw.aM, Option.bind_some]
  unfold aB3
  rw [List.getElem?_eq_getElem hk, Option.any_some]
  generalize dD w n ((k + 1 : Nat) : Int) = Z
  have e1 : decide (w.Pages[k].Id ≥ w.NextPage) = !decide (w.Pages[k].Id < w.NextPage) := by rw [Bool.eq_iff_iff]; simp
  have e2 : decide (aBo (nAt w.Pages[k].Site w.Pages[k].Top) w.aM.Buckets < 0) = !decide (0 ≤ aBo (nAt w.Pages[k].Site w.Pages[k].Top) w.aM.Buckets) := by rw [Bool.eq_iff_iff]; simp
  rw [e1]
  simp only [e2]
  by_cases h0 : k = 0
  · subst h0
    cases aHh w.Pages[0] <;> cases decide (w.Pages[0].Id < w.NextPage) <;> cases decide (0 ≤ aBo (nAt w.Pages[0].Site w.Pages[0].Top) w.aM.Buckets) <;> simp
  · have e : IntKind.i64.wrap ((k : Int) - 1) = ((k - 1 : Nat) : Int) := by rw [iJ (by omega) (by omega)]; omega
    have hk1 : k - 1 < w.Pages.length := by omega
    have e3 : decide (w.Pages[k - 1].Id ≥ w.Pages[k].Id) = !decide (w.Pages[k - 1].Id < w.Pages[k].Id) := by rw [Bool.eq_iff_iff]; simp
    rw [if_pos (c := (decide ((k : Int) > 0)) = true) (by simp; omega), e, aO hk1, Option.bind_some, List.getElem?_eq_getElem hk1, e3]
    simp only [Option.any_some, h0, decide_false, Bool.false_or]
    cases aHh w.Pages[k] <;> cases decide (w.Pages[k].Id < w.NextPage) <;> cases decide (w.Pages[k - 1].Id < w.Pages[k].Id) <;> cases decide (0 ≤ aBo (nAt w.Pages[k].Site w.Pages[k].Top) w.aM.Buckets) <;> simp
theorem aKo {w : M.World} (hw : w.ok) {E : Option Bool} (hE : ∀ n, eM w (n + 1) (w.Pages.length : Int) = E) : eM w fuel 0 = if (List.range w.Pages.length).all (aB3 w) = true then E else some false := by
  have hm := le_max hw.Pages.1
  refine jN (L := eM w) (g := aB3 w) (F := some false) (E := E) hw.Pages.1 (fun n k hk => ?_) hE
  have hf := hw.Pages.2 _ (List.getElem_mem hk)
  simp only [eM]
  rw [if_pos (bA hk), aO hk, Option.bind_some, bD (by omega), aHj hf, Option.bind_some, aEw hw.aM, Option.bind_some]
  unfold aB3
  rw [List.getElem?_eq_getElem hk, Option.any_some]
  generalize eM w n ((k + 1 : Nat) : Int) = Z
  have e1 : decide (w.Pages[k].Id ≥ w.NextPage) = !decide (w.Pages[k].Id < w.NextPage) := by rw [Bool.eq_iff_iff]; simp
  have e2 : decide (aBo (nAt w.Pages[k].Site w.Pages[k].Top) w.aM.Buckets < 0) = !decide (0 ≤ aBo (nAt w.Pages[k].Site w.Pages[k].Top) w.aM.Buckets) := by rw [Bool.eq_iff_iff]; simp
  rw [e1]
  simp only [e2]
  by_cases h0 : k = 0
  · subst h0
    cases aHh w.Pages[0] <;> cases decide (w.Pages[0].Id < w.NextPage) <;> cases decide (0 ≤ aBo (nAt w.Pages[0].Site w.Pages[0].Top) w.aM.Buckets) <;> simp
  · have e : IntKind.i64.wrap ((k : Int) - 1) = ((k - 1 : Nat) : Int) := by rw [iJ (by omega) (by omega)]; omega
    have hk1 : k - 1 < w.Pages.length := by omega
    have e3 : decide (w.Pages[k].Id ≤ w.Pages[k - 1].Id) = !decide (w.Pages[k - 1].Id < w.Pages[k].Id) := by rw [Bool.eq_iff_iff]; simp
    rw [if_pos (c := (decide ((k : Int) > 0)) = true) (by simp; omega), e, aO hk1, Option.bind_some, List.getElem?_eq_getElem hk1, e3]
    simp only [Option.any_some, h0, decide_false, Bool.false_or]
    cases aHh w.Pages[k] <;> cases decide (w.Pages[k].Id < w.NextPage) <;> cases decide (w.Pages[k - 1].Id < w.Pages[k].Id) <;> cases decide (0 ≤ aBo (nAt w.Pages[k].Site w.Pages[k].Top) w.aM.Buckets) <;> simp
theorem aGx {w : M.World} (hw : w.ok) (hz : M.World.sz w ≤ 1048576) : yT w = some (aI5 w) := by
  unfold yT aI5
  by_cases h1 : w.Sites.length = 3
  · by_cases h2 : w.Servers.length = 3
    · have e3 : decide ((w.Pages.length : Int) > 6) = !decide (w.Pages.length ≤ 6) := by rw [Bool.eq_iff_iff]; simp; omega
      rw [if_neg (by rw [h1]; simp), if_neg (by rw [h2]; simp), e3, decide_eq_true h1, decide_eq_true h2]
      rw [jN (N := 3) (L := hY w) (g := aDE w) (F := some false) (E := dD w fuel 0) (by unfold maxLen; omega) (fun n k hk => ?_) (fun n => ?_),
        aKn hw (E := some (inR w.Now 0 999999990000 && (inR w.Device 1 1000000 && (aAY w.aM && (inR w.NextPage 1 1000000000000 && aBW w.Locks))))) (fun n => ?_)]
      · cases decide (w.Pages.length ≤ 6) <;> cases (List.range 3).all (aDE w) <;> cases (List.range w.Pages.length).all (aB3 w) <;> simp
      · simp only [dD]
        rw [if_neg (by rw [aP]; simp)]
        simp only [dB, aFN hw.aM (aI9 hz), aAM hw.Locks, Option.bind_some, bN]
      · have hk1 : k < w.Sites.length := by omega
        have hk2 : k < w.Servers.length := by omega
        have hk3 : k < rX.length := by rw [aJU]; exact hk
        have hn : aAK = some rX := rfl
        simp only [hY, hn, Option.bind_some]
        rw [if_pos (by simp; omega), aO hk1, Option.bind_some, bD (by omega), aH5 (hw.Sites.2 _ (List.getElem_mem hk1)), Option.bind_some, aO hk3, Option.bind_some, aO hk2, Option.bind_some, aGh (hw.Servers.2 _ (List.getElem_mem hk2)), Option.bind_some]
        unfold aDE
        rw [List.getElem?_eq_getElem hk1, List.getElem?_eq_getElem hk2, List.getElem?_eq_getElem hk3]
        simp only [Option.any_some]
        generalize hY w n ((k + 1 : Nat) : Int) = Z
        have gen : ∀ (a b c : Bool), (if (!a) = true then some false else if (!b) = true then some false else if (!c) = true then some false else Z) = if (a && (b && c)) = true then Z else some false := by
          intro a b c; cases a <;> cases b <;> cases c <;> rfl
        exact gen _ _ _
      · simp only [hY]
        rw [if_neg (by simp)]
    · rw [if_neg (by rw [h1]; simp), if_pos (by simp; omega), decide_eq_false h2]
      simp
  · rw [if_pos (by simp; omega), decide_eq_false h1]
    simp
theorem aGk {w : M.World} (hw : w.ok) (hz : M.World.sz w ≤ 1048576) : yP w = some (aI5 w) := by
  unfold yP aI5
  have e3 : decide ((w.Pages.length : Int) > 6) = !decide (w.Pages.length ≤ 6) := by rw [Bool.eq_iff_iff]; simp; omega
  have e1 : ((w.Sites.length : Int) != 3) = !decide (w.Sites.length = 3) := by rw [Bool.eq_iff_iff]; simp; omega
  have e2 : ((w.Servers.length : Int) != 3) = !decide (w.Servers.length = 3) := by rw [Bool.eq_iff_iff]; simp; omega
  simp only [bO, aFO hw.aM (aI9 hz), aAa hw.Locks, Option.bind_some, e1, e2, e3]
  by_cases h1 : w.Sites.length = 3
  · by_cases h2 : w.Servers.length = 3
    · rw [aKo hw (E := gF w fuel 0) (fun n => by
          simp only [eM]
          rw [if_neg (by rw [aP]; simp)]),
        jN (N := 3) (L := gF w) (g := aDE w) (F := some false) (E := some true) (by unfold maxLen; omega) (fun n k hk => ?_) (fun n => ?_)]
      · rw [decide_eq_true h1, decide_eq_true h2]
        cases inR w.Now 0 999999990000 <;> cases inR w.Device 1 1000000 <;> cases aAY w.aM <;> cases decide (w.Pages.length ≤ 6) <;> cases inR w.NextPage 1 1000000000000 <;> cases aBW w.Locks <;> cases (List.range 3).all (aDE w) <;> cases (List.range w.Pages.length).all (aB3 w) <;> rfl
      · have hk1 : k < w.Sites.length := by omega
        have hk2 : k < w.Servers.length := by omega
        have hk3 : k < rX.length := by rw [aJU]; exact hk
        simp only [gF]
        rw [if_pos (bA hk1), aO hk1, Option.bind_some, bD (by omega), aHZ (hw.Sites.2 _ (List.getElem_mem hk1)), Option.bind_some, aEg, Option.bind_some, aO hk2, Option.bind_some, aGF (hw.Servers.2 _ (List.getElem_mem hk2)), Option.bind_some, aB2, aLf hk3]
        unfold aDE
        rw [List.getElem?_eq_getElem hk1, List.getElem?_eq_getElem hk2, List.getElem?_eq_getElem hk3]
        simp only [Option.any_some]
        generalize gF w n ((k + 1 : Nat) : Int) = Z
        have gen : ∀ (a b c : Bool), (if (!a) = true then some false else if b = true then (if (!c) = true then some false else Z) else some false) = if (a && (b && c)) = true then Z else some false := by
          intro a b c; cases a <;> cases b <;> cases c <;> rfl
        exact gen _ _ _
      · simp only [gF]
        rw [if_neg (by rw [h1]; simp)]
    · rw [decide_eq_true h1, decide_eq_false h2]
      cases inR w.Now 0 999999990000 <;> cases inR w.Device 1 1000000 <;> cases aAY w.aM <;> cases decide (w.Pages.length ≤ 6) <;> cases inR w.NextPage 1 1000000000000 <;> cases aBW w.Locks <;> rfl
  · rw [decide_eq_false h1]
    cases inR w.Now 0 999999990000 <;> cases inR w.Device 1 1000000 <;> cases aAY w.aM <;> cases decide (w.Pages.length ≤ 6) <;> cases inR w.NextPage 1 1000000000000 <;> cases aBW w.Locks <;> rfl
end Go.Proofs.YtecmnmaaopkdfaaGreat.gen
