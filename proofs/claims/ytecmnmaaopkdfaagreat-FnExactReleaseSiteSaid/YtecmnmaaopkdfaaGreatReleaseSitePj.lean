/-
  Helper text. No conditions.
-/
import Derived.Test.YtecmnmaaopkdfaaGreatReleaseSitePi
namespace Go.Proofs.YtecmnmaaopkdfaaGreat.gen
open Go Go.Sh
set_option linter.unusedVariables false
set_option linter.unusedSimpArgs false
def oG : List ByteArray := [(⟨#[98, 97, 110, 107]⟩ : ByteArray), (⟨#[110, 101, 119, 115]⟩ : ByteArray), (⟨#[115, 104, 111, 112]⟩ : ByteArray)]
def aC0 (a : ByteArray) : Int := aBx (fun x : ByteArray => x.toList == a.toList) oG
theorem aHB : oG.length ≤ maxLen := by unfold oG maxLen; simp
theorem aBZ {a : ByteArray} : lD a = some (aC0 a) := by
  unfold lD nJ
  rw [← oG.eq_1]
  rw [findAll (L := eL oG a) (f := fun x : ByteArray => x.toList == a.toList) (A := fun i => some (i : Int)) (E := some (-1)) aHB (fun m k hk => ?_) (fun m => ?_), zE]
  · rfl
  · have hk3 : k < 3 := hk
    simp only [eL]
    rw [if_pos (bA hk), aN hk, Option.bind_some, bE (by omega), Bool.beq_comm]
  · simp only [eL]
    rw [if_neg (by rw [aO]; simp)]
def aGJ (l : List ByteArray) (k : Nat) : Bool := (l[k]?).any oI && (decide (k = 0) || (l[k - 1]?).any fun y => (l[k]?).any fun x => Op.bytesLess y.toList x.toList)
def aCl (s : M.Site) : Bool := (List.range s.Files.length).all (aGJ s.Files) && (oI s.Name && (inR s.Version 1 1000000000000 && inR (s.Files.length : Int) 1 6))
theorem aBy {s : M.Site} (hs : s.ok) : qO s = some (aCl s) := by
  have hm := le_max hs.Files.1
  unfold qO aCl
  rw [jC (L := gU s) (g := aGJ s.Files) (F := some false) (E := some (oI s.Name && (inR s.Version 1 1000000000000 && inR (s.Files.length : Int) 1 6))) hs.Files.1 (fun n k hk => ?_) (fun n => ?_), bM]
  · have hf := hs.Files.2 _ (List.getElem_mem hk)
    simp only [gU]
    rw [if_pos (bA hk), aN hk, Option.bind_some, bE (by omega), eI hf, Option.bind_some]
    unfold aGJ
    rw [List.getElem?_eq_getElem hk]
    generalize gU s n ((k + 1 : Nat) : Int) = Z
    by_cases h0 : k = 0
    · subst h0
      simp only [Option.any_some]
      cases oI s.Files[0] <;> simp
    · have e : IntKind.i64.wrap ((k : Int) - 1) = ((k - 1 : Nat) : Int) := by rw [iN (by omega) (by omega)]; omega
      have hk1 : k - 1 < s.Files.length := by omega
      rw [if_pos (c := (decide ((k : Int) > 0)) = true) (by simp; omega), e, aN hk1, Option.bind_some, List.getElem?_eq_getElem hk1]
      simp only [Option.any_some, h0, decide_false, Bool.false_or]
      cases oI s.Files[k] <;> cases Op.bytesLess s.Files[k - 1].toList s.Files[k].toList <;> simp
  · simp only [gU]
    rw [if_neg (by rw [aO]; simp), eI hs.Name, Option.bind_some, cZ, Option.bind_some, cZ, Option.bind_some, bM, bM]
theorem aBw {s : M.Site} (hs : s.ok) : rD s = some (aCl s) := by
  have hm := le_max hs.Files.1
  unfold rD aCl
  rw [jC (L := gV s) (g := aGJ s.Files) (F := some false) (E := some (oI s.Name && (inR s.Version 1 1000000000000 && inR (s.Files.length : Int) 1 6))) hs.Files.1 (fun n k hk => ?_) (fun n => ?_), bM]
  · have hf := hs.Files.2 _ (List.getElem_mem hk)
    simp only [gV]
    rw [if_pos (bA hk), aN hk, Option.bind_some, bE (by omega), dF hf, Option.bind_some]
    unfold aGJ
    rw [List.getElem?_eq_getElem hk]
    generalize gV s n ((k + 1 : Nat) : Int) = Z
    by_cases h0 : k = 0
    · subst h0
      simp only [Option.any_some]
      cases oI s.Files[0] <;> simp
    · have e : IntKind.i64.wrap ((k : Int) - 1) = ((k - 1 : Nat) : Int) := by rw [iN (by omega) (by omega)]; omega
      have hk1 : k - 1 < s.Files.length := by omega
      rw [if_pos (c := (decide ((k : Int) > 0)) = true) (by simp; omega), e, aN hk1, Option.bind_some, List.getElem?_eq_getElem hk1, aJ0]
      simp only [Option.any_some, h0, decide_false, Bool.false_or]
      cases oI s.Files[k] <;> cases Op.bytesLess s.Files[k - 1].toList s.Files[k].toList <;> simp
  · simp only [gV]
    rw [if_neg (by rw [aO]; simp), dF hs.Name, Option.bind_some, bO, Option.bind_some, bO, Option.bind_some, bM, bM]
def aBd (l : List M.aG) (k : Nat) : Bool := (l[k]?).any (fun x => inR x.Device 1 1000000 && inR x.Seq 0 1000000) && (decide (k = 0) || (l[k - 1]?).any fun y => (l[k]?).any fun x => decide (y.Device < x.Device))
def aCQ (l : List M.aW) (k : Nat) : Bool := (l[k]?).any aEg
def aFx (s : M.Server) : Bool := (List.range s.aG.length).all (aBd s.aG) && ((List.range s.Changes.length).all (aCQ s.Changes) && (aBc s.aH && ((s.aH.Name.toList == (⟨#[110, 111, 116, 101, 115]⟩ : ByteArray).toList) && decide ((s.aG.length : Int) ≤ 60))))
theorem aFe {s : M.Server} (hs : s.ok) : uP s = some (aFx s) := by
  have hm := le_max hs.aG.1
  have hm2 := le_max hs.Changes.1
  unfold uP aFx
  rw [jC (L := fL s) (g := aBd s.aG) (F := some false) (E := gQ s fuel 0) hs.aG.1 (fun n k hk => ?_) (fun n => ?_),
    jC (L := gQ s) (g := aCQ s.Changes) (F := some false) (E := some (aBc s.aH && ((s.aH.Name.toList == (⟨#[110, 111, 116, 101, 115]⟩ : ByteArray).toList) && decide ((s.aG.length : Int) ≤ 60)))) hs.Changes.1 (fun n k hk => ?_) (fun n => ?_), bM, bM]
  · have hf := hs.Changes.2 _ (List.getElem_mem hk)
    simp only [gQ]
    rw [if_pos (bA hk), aN hk, Option.bind_some, bE (by omega), aAw hf, Option.bind_some, aAW]
    unfold aCQ
    rw [List.getElem?_eq_getElem hk, Option.any_some]
  · simp only [gQ]
    rw [if_neg (by rw [aO]; simp), aBU hs.aH, Option.bind_some, bM, bM]
  · simp only [fL]
    rw [if_pos (bA hk), aN hk, Option.bind_some, bE (by omega), cZ, Option.bind_some, cZ, Option.bind_some]
    unfold aBd
    rw [List.getElem?_eq_getElem hk]
    generalize fL s n ((k + 1 : Nat) : Int) = Z
    by_cases h0 : k = 0
    · subst h0
      simp only [Option.any_some]
      cases inR s.aG[0].Device 1 1000000 <;> cases inR s.aG[0].Seq 0 1000000 <;> simp
    · have e : IntKind.i64.wrap ((k : Int) - 1) = ((k - 1 : Nat) : Int) := by rw [iN (by omega) (by omega)]; omega
      have hk1 : k - 1 < s.aG.length := by omega
      have ed : decide (s.aG[k - 1].Device ≥ s.aG[k].Device) = !decide (s.aG[k - 1].Device < s.aG[k].Device) := by rw [Bool.eq_iff_iff]; simp
      rw [if_pos (c := (decide ((k : Int) > 0)) = true) (by simp; omega), e, aN hk1, Option.bind_some, List.getElem?_eq_getElem hk1, ed]
      simp only [Option.any_some, h0, decide_false, Bool.false_or]
      cases inR s.aG[k].Device 1 1000000 <;> cases inR s.aG[k].Seq 0 1000000 <;> cases decide (s.aG[k - 1].Device < s.aG[k].Device) <;> simp
  · simp only [fL]
    rw [if_neg (by rw [aO]; simp)]
theorem aFr {s : M.Server} (hs : s.ok) : uG s = some (aFx s) := by
  have hm := le_max hs.aG.1
  have hm2 := le_max hs.Changes.1
  unfold uG aFx
  rw [jC (L := fO s) (g := aBd s.aG) (F := some false) (E := gR s fuel 0) hs.aG.1 (fun n k hk => ?_) (fun n => ?_),
    jC (L := gR s) (g := aCQ s.Changes) (F := some false) (E := some (aBc s.aH && ((s.aH.Name.toList == (⟨#[110, 111, 116, 101, 115]⟩ : ByteArray).toList) && decide ((s.aG.length : Int) ≤ 60)))) hs.Changes.1 (fun n k hk => ?_) (fun n => ?_), bM, bM]
  · have hf := hs.Changes.2 _ (List.getElem_mem hk)
    simp only [gR]
    rw [if_pos (bA hk), aN hk, Option.bind_some, bE (by omega), aAv hf, Option.bind_some, aAW]
    unfold aCQ
    rw [List.getElem?_eq_getElem hk, Option.any_some]
  · simp only [gR]
    rw [if_neg (by rw [aO]; simp), aBW hs.aH, Option.bind_some, bM, bM]
  · simp only [fO]
    rw [if_pos (bA hk), aN hk, Option.bind_some, bE (by omega), bO, Option.bind_some, bO, Option.bind_some]
    unfold aBd
    rw [List.getElem?_eq_getElem hk]
    generalize fO s n ((k + 1 : Nat) : Int) = Z
    by_cases h0 : k = 0
    · subst h0
      simp only [Option.any_some]
      cases inR s.aG[0].Device 1 1000000 <;> cases inR s.aG[0].Seq 0 1000000 <;> simp
    · have e : IntKind.i64.wrap ((k : Int) - 1) = ((k - 1 : Nat) : Int) := by rw [iN (by omega) (by omega)]; omega
      have hk1 : k - 1 < s.aG.length := by omega
      have ed : decide (s.aG[k].Device ≤ s.aG[k - 1].Device) = !decide (s.aG[k - 1].Device < s.aG[k].Device) := by rw [Bool.eq_iff_iff]; simp
      rw [if_pos (c := (decide ((k : Int) > 0)) = true) (by simp; omega), e, aN hk1, Option.bind_some, List.getElem?_eq_getElem hk1, ed]
      simp only [Option.any_some, h0, decide_false, Bool.false_or]
      cases inR s.aG[k].Device 1 1000000 <;> cases inR s.aG[k].Seq 0 1000000 <;> cases decide (s.aG[k - 1].Device < s.aG[k].Device) <;> simp
  · simp only [fO]
    rw [if_neg (by rw [aO]; simp)]
def aCN (p : M.bJ) (k : Nat) : Bool := (p.aM[k]?).any fun x => oI x.Path && (x.Version == p.Version)
def aHk (p : M.bJ) : Bool := (List.range p.aM.length).all (aCN p) && (inR p.Id 1 1000000000000 && (oI p.Site && (oI p.Top && (inR p.Version 1 1000000000000 && decide ((p.aM.length : Int) ≤ 8)))))
theorem aHb {p : M.bJ} (hp : p.ok) : zU p = some (aHk p) := by
  have hm := le_max hp.aM.1
  unfold zU aHk
  rw [jC (L := kF p) (g := aCN p) (F := some false) (E := some (inR p.Id 1 1000000000000 && (oI p.Site && (oI p.Top && (inR p.Version 1 1000000000000 && decide ((p.aM.length : Int) ≤ 8)))))) hp.aM.1 (fun n k hk => ?_) (fun n => ?_), bM]
  · have hf := hp.aM.2 _ (List.getElem_mem hk)
    simp only [kF]
    rw [if_pos (bA hk), aN hk, Option.bind_some, bE (by omega), eI hf.Path, Option.bind_some]
    unfold aCN
    rw [List.getElem?_eq_getElem hk, Option.any_some]
    simp only [aBq, aAW, aMg]
  · simp only [kF]
    rw [if_neg (by rw [aO]; simp)]
    simp only [eI hp.Site, eI hp.Top, cZ, Option.bind_some, bM]
theorem aHI {p : M.bJ} (hp : p.ok) : zY p = some (aHk p) := by
  have hm := le_max hp.aM.1
  unfold zY aHk
  rw [jC (L := kJ p) (g := aCN p) (F := some false) (E := some (inR p.Id 1 1000000000000 && (oI p.Site && (oI p.Top && (inR p.Version 1 1000000000000 && decide ((p.aM.length : Int) ≤ 8)))))) hp.aM.1 (fun n k hk => ?_) (fun n => ?_), bM]
  · have hf := hp.aM.2 _ (List.getElem_mem hk)
    simp only [kJ]
    rw [if_pos (bA hk), aN hk, Option.bind_some, bE (by omega), dF hf.Path, Option.bind_some]
    unfold aCN
    rw [List.getElem?_eq_getElem hk, Option.any_some]
    simp only [aBq, aAW, aMg]
  · simp only [kJ]
    rw [if_neg (by rw [aO]; simp)]
    simp only [dF hp.Site, dF hp.Top, bO, Option.bind_some, bM]
theorem aER {s : ByteArray} (hs : s.size ≤ maxLen) : qJ s = some (aH5 s 30 true) := by
  have hm := le_max hs
  unfold qJ aH5
  rw [aDt (L := cR s) (g := aE0 true) (F := some false) (E := some (inR (s.size : Int) 1 30)) hs (fun n k hk => ?_) (fun n => ?_), bM]
  · simp only [cR]
    rw [if_pos (bA hk), aDQ hk, Option.bind_some, bE (by omega)]
    generalize s[k] = b
    unfold aE0
    generalize cR s n ((k + 1 : Nat) : Int) = Z
    simp only [Bool.or_eq_true, Bool.and_eq_true, decide_eq_true_eq, Bool.not_eq_true', decide_eq_false_iff_not, Bool.true_and, bne_iff_ne, ne_eq]
    repeat' split
    all_goals first | rfl | (exfalso; omega)
  · simp only [cR]
    rw [if_neg (by rw [aO]; simp), cZ, Option.bind_some]
theorem aEc {s : ByteArray} (hs : s.size ≤ maxLen) : qH s = some (aH5 s 30 true) := by
  unfold qH
  rw [aDs hs, Option.bind_some]
def aIH (x y : M.bY) : Bool := x.Held && ((y.Name.toList == x.Name.toList) && (!y.Held || (!x.Shared || !y.Shared)))
def aDS (l : List M.bY) (k : Nat) (x : M.bY) : Bool := (List.range k).all fun j => !((l[j]?).any (aIH x))
def aFl (l : List M.bY) (k : Nat) : Bool := (l[k]?).any fun x => aH5 x.Name 30 true && (inR x.bJ 1 1000000000000 && aDS l k x)
def aDy (t : M.aQ) : Bool := (List.range t.Locks.length).all (aFl t.Locks) && decide ((t.Locks.length : Int) ≤ 12)
theorem aKP {t : M.aQ} {x : M.bY} {k : Nat} {K : Int → Option Bool} (hm : t.Locks.length ≤ maxLen) (hk : k ≤ t.Locks.length) : bV t (k : Int) x K fuel 0 = if aDS t.Locks k x = true then K (k : Int) else some false := by
  have hm' := le_max hm
  refine jC (L := bV t (k : Int) x K) (g := fun j => !((t.Locks[j]?).any (aIH x))) (F := some false) (E := K (k : Int)) (Nat.le_trans hk hm) (fun n j hj => ?_) (fun n => ?_)
  · have hj' : j < t.Locks.length := by omega
    simp only [bV]
    rw [if_pos (bA hj), aN hj', Option.bind_some, bE (by omega), List.getElem?_eq_getElem hj', Option.any_some]
    unfold aIH
    generalize bV t (k : Int) x K n ((j + 1 : Nat) : Int) = Z
    cases x.Held <;> cases (t.Locks[j].Name.toList == x.Name.toList) <;> cases t.Locks[j].Held <;> cases x.Shared <;> cases t.Locks[j].Shared <;> simp
  · simp only [bV]
    rw [if_neg (by rw [aO]; simp)]
theorem aKS {t : M.aQ} {x : M.bY} {k : Nat} {Z0 : Option Bool} (hm : t.Locks.length ≤ maxLen) (hk : k ≤ t.Locks.length) : bL t (k : Int) x (fun _ => Z0) fuel 0 = if aDS t.Locks k x = true then Z0 else some false := by
  have hm' := le_max hm
  have hl : (t.Locks.take k).length = k := by rw [List.length_take]; omega
  have := jC (N := k) (L := bL t (k : Int) x (fun _ => Z0)) (g := fun j => !((t.Locks[j]?).any (aIH x))) (F := some false) (E := Z0) (Nat.le_trans hk hm) (fun n j hj => ?_) (fun n => ?_)
  · exact this
  · have hj' : j < t.Locks.length := by omega
    simp only [bL, Int.toNat_natCast, hl]
    rw [if_pos (bA hj), aN (by rw [hl]; exact hj), Option.bind_some, bE (by omega), List.getElem?_eq_getElem hj', Option.any_some, List.getElem_take]
    unfold aIH
    generalize bL t (k : Int) x (fun _ => Z0) n ((j + 1 : Nat) : Int) = Z
    cases x.Held <;> cases (t.Locks[j].Name.toList == x.Name.toList) <;> cases t.Locks[j].Held <;> cases x.Shared <;> cases t.Locks[j].Shared <;> simp
  · simp only [bL, Int.toNat_natCast, hl]
    rw [if_neg (by rw [aO]; simp)]
theorem aD5 {t : M.aQ} (ht : t.ok) : nN t = some (aDy t) := by
  have hm := le_max ht.Locks.1
  unfold nN aDy
  rw [jC (L := eP t) (g := aFl t.Locks) (F := some false) (E := some (decide ((t.Locks.length : Int) ≤ 12))) ht.Locks.1 (fun n k hk => ?_) (fun n => ?_), bM]
  · have hf := ht.Locks.2 _ (List.getElem_mem hk)
    simp only [eP]
    rw [if_pos (bA hk), aN hk, Option.bind_some, bE (by omega), aER hf.Name, Option.bind_some, cZ, Option.bind_some, aKP ht.Locks.1 (by omega)]
    unfold aFl
    rw [List.getElem?_eq_getElem hk, Option.any_some]
    generalize eP t n ((k + 1 : Nat) : Int) = Z
    cases aH5 t.Locks[k].Name 30 true <;> cases inR t.Locks[k].bJ 1 1000000000000 <;> cases aDS t.Locks k t.Locks[k] <;> simp
  · simp only [eP]
    rw [if_neg (by rw [aO]; simp)]
theorem aDg {t : M.aQ} (ht : t.ok) : mU t = some (aDy t) := by
  have hm := le_max ht.Locks.1
  unfold mU aDy
  rw [jC (L := dG t) (g := aFl t.Locks) (F := some false) (E := some (decide ((t.Locks.length : Int) ≤ 12))) ht.Locks.1 (fun n k hk => ?_) (fun n => ?_), bM]
  · have hf := ht.Locks.2 _ (List.getElem_mem hk)
    simp only [dG]
    rw [if_pos (bA hk), aN hk, Option.bind_some, bE (by omega), aEc hf.Name, Option.bind_some, bO, Option.bind_some, aIz (by omega), Option.bind_some, aKS ht.Locks.1 (by omega)]
    unfold aFl
    rw [List.getElem?_eq_getElem hk, Option.any_some]
    generalize dG t n ((k + 1 : Nat) : Int) = Z
    cases aH5 t.Locks[k].Name 30 true <;> cases inR t.Locks[k].bJ 1 1000000000000 <;> cases aDS t.Locks k t.Locks[k] <;> simp
  · simp only [dG]
    rw [if_neg (by rw [aO]; simp)]
theorem aI3 : oG.length = 3 := rfl
theorem aLb {a : ByteArray} {k : Nat} (hk : k < oG.length) : (aC0 a == (k : Int)) = (a.toList == (oG[k]).toList) := by
  have d : ∀ i j : Nat, (hi : i < oG.length) → (hj : j < oG.length) → (oG[i]).toList = (oG[j]).toList → i = j := by
    intro i j hi hj h
    have e0 : (⟨#[98, 97, 110, 107]⟩ : ByteArray).toList = [98, 97, 110, 107] := by rw [ByteArray.toList_eq]
    have e1 : (⟨#[110, 101, 119, 115]⟩ : ByteArray).toList = [110, 101, 119, 115] := by rw [ByteArray.toList_eq]
    have e2 : (⟨#[115, 104, 111, 112]⟩ : ByteArray).toList = [115, 104, 111, 112] := by rw [ByteArray.toList_eq]
    rw [aI3] at hi hj
    rcases i with _ | _ | _ | i <;> rcases j with _ | _ | _ | j <;> first | rfl | (exfalso; omega) | (exfalso; simp [oG, e0, e1, e2] at h)
  have hf := aD3 (f := fun x : ByteArray => x.toList == a.toList) (xs := oG)
  have ha := aHQ (fun x : ByteArray => x.toList == a.toList) oG
  unfold aC0
  rw [Bool.eq_iff_iff, beq_iff_eq, beq_iff_eq]
  constructor
  · intro h
    have h2 : oG.findIdx? (fun x : ByteArray => x.toList == a.toList) = some k := by
      unfold aBx at h
      cases e : oG.findIdx? (fun x : ByteArray => x.toList == a.toList) with
      | none => rw [e] at h; simp only at h; omega
      | some i => rw [e] at h; simp only at h; congr 1; omega
    have := (List.findIdx?_eq_some_iff_getElem.1 h2).2.1
    exact (eq_of_beq this).symm
  · intro h
    have hex : oG.any (fun x : ByteArray => x.toList == a.toList) = true := List.any_eq_true.2 ⟨oG[k], List.getElem_mem hk, by rw [h]; exact beq_self_eq_true _⟩
    rw [hex] at ha
    obtain ⟨j, e, hj⟩ := hf (by have := of_decide_eq_true ha; omega)
    rw [e]
    have h2 : oG.findIdx? (fun x : ByteArray => x.toList == a.toList) = some j := by
      unfold aBx at e
      cases e2 : oG.findIdx? (fun x : ByteArray => x.toList == a.toList) with
      | none => rw [e2] at e; simp only at e; omega
      | some i => rw [e2] at e; simp only at e; congr 1; omega
    have := (List.findIdx?_eq_some_iff_getElem.1 h2).2.1
    rw [d j k hj hk (by rw [eq_of_beq this, h])]
def aBv (w : M.World) (k : Nat) : Bool := (w.Pages[k]?).any fun x => aHk x && (decide (x.Id < w.NextPage) && ((decide (k = 0) || (w.Pages[k - 1]?).any fun y => decide (y.Id < x.Id)) && decide (0 ≤ aBx (nAt x.Site x.Top) w.aK.Buckets)))
def aCx (w : M.World) (k : Nat) : Bool := (w.Sites[k]?).any fun x => aCl x && ((oG[k]?).any (fun nm => x.Name.toList == nm.toList) && (w.Servers[k]?).any aFx)
def aFs (w : M.World) : Bool := decide (w.Sites.length = 3) && (decide (w.Servers.length = 3) && (decide (w.Pages.length ≤ 6) && ((List.range 3).all (aCx w) && ((List.range w.Pages.length).all (aBv w) && (inR w.Now 0 999999990000 && (inR w.Device 1 1000000 && (aAK w.aK && (inR w.NextPage 1 1000000000000 && aDy w.Locks))))))))
theorem aIP {w : M.World} (hz : M.World.sz w ≤ 1048576) : M.aK.sz w.aK ≤ 1048576 := by
  simp only [M.World.sz] at hz
  omega
theorem aKA {w : M.World} (hw : w.ok) {E : Option Bool} (hE : ∀ n, dB w (n + 1) (w.Pages.length : Int) = E) : dB w fuel 0 = if (List.range w.Pages.length).all (aBv w) = true then E else some false := by
  have hm := le_max hw.Pages.1
  refine jC (L := dB w) (g := aBv w) (F := some false) (E := E) hw.Pages.1 (fun n k hk => ?_) hE
  have hf := hw.Pages.2 _ (List.getElem_mem hk)
  simp only [dB]
  rw [if_pos (bA hk), aN hk, Option.bind_some, bE (by omega), aHb hf, Option.bind_some, aEP hw.aK, Option.bind_some]
  unfold aBv
  rw [List.getElem?_eq_getElem hk, Option.any_some]
  generalize dB w n ((k + 1 : Nat) : Int) = Z
  have e1 : decide (w.Pages[k].Id ≥ w.NextPage) = !decide (w.Pages[k].Id < w.NextPage) := by rw [Bool.eq_iff_iff]; simp
  have e2 : decide (aBx (nAt w.Pages[k].Site w.Pages[k].Top) w.aK.Buckets < 0) = !decide (0 ≤ aBx (nAt w.Pages[k].Site w.Pages[k].Top) w.aK.Buckets) := by rw [Bool.eq_iff_iff]; simp
  rw [e1]
  simp only [e2]
  by_cases h0 : k = 0
  · subst h0
    cases aHk w.Pages[0] <;> cases decide (w.Pages[0].Id < w.NextPage) <;> cases decide (0 ≤ aBx (nAt w.Pages[0].Site w.Pages[0].Top) w.aK.Buckets) <;> simp
  · have e : IntKind.i64.wrap ((k : Int) - 1) = ((k - 1 : Nat) : Int) := by rw [iN (by omega) (by omega)]; omega
    have hk1 : k - 1 < w.Pages.length := by omega
    have e3 : decide (w.Pages[k - 1].Id ≥ w.Pages[k].Id) = !decide (w.Pages[k - 1].Id < w.Pages[k].Id) := by rw [Bool.eq_iff_iff]; simp
    rw [if_pos (c := (decide ((k : Int) > 0)) = true) (by simp; omega), e, aN hk1, Option.bind_some, List.getElem?_eq_getElem hk1, e3]
    simp only [Option.any_some, h0, decide_false, Bool.false_or]
    cases aHk w.Pages[k] <;> cases decide (w.Pages[k].Id < w.NextPage) <;> cases decide (w.Pages[k - 1].Id < w.Pages[k].Id) <;> cases decide (0 ≤ aBx (nAt w.Pages[k].Site w.Pages[k].Top) w.aK.Buckets) <;> simp
theorem aKL {w : M.World} (hw : w.ok) {E : Option Bool} (hE : ∀ n, eK w (n + 1) (w.Pages.length : Int) = E) : eK w fuel 0 = if (List.range w.Pages.length).all (aBv w) = true then E else some false := by
  have hm := le_max hw.Pages.1
  refine jC (L := eK w) (g := aBv w) (F := some false) (E := E) hw.Pages.1 (fun n k hk => ?_) hE
  have hf := hw.Pages.2 _ (List.getElem_mem hk)
  simp only [eK]
  rw [if_pos (bA hk), aN hk, Option.bind_some, bE (by omega), aHI hf, Option.bind_some, aEF hw.aK, Option.bind_some]
  unfold aBv
  rw [List.getElem?_eq_getElem hk, Option.any_some]
  generalize eK w n ((k + 1 : Nat) : Int) = Z
  have e1 : decide (w.Pages[k].Id ≥ w.NextPage) = !decide (w.Pages[k].Id < w.NextPage) := by rw [Bool.eq_iff_iff]; simp
  have e2 : decide (aBx (nAt w.Pages[k].Site w.Pages[k].Top) w.aK.Buckets < 0) = !decide (0 ≤ aBx (nAt w.Pages[k].Site w.Pages[k].Top) w.aK.Buckets) := by rw [Bool.eq_iff_iff]; simp
  rw [e1]
  simp only [e2]
  by_cases h0 : k = 0
  · subst h0
    cases aHk w.Pages[0] <;> cases decide (w.Pages[0].Id < w.NextPage) <;> cases decide (0 ≤ aBx (nAt w.Pages[0].Site w.Pages[0].Top) w.aK.Buckets) <;> simp
  · have e : IntKind.i64.wrap ((k : Int) - 1) = ((k - 1 : Nat) : Int) := by rw [iN (by omega) (by omega)]; omega
    have hk1 : k - 1 < w.Pages.length := by omega
    have e3 : decide (w.Pages[k].Id ≤ w.Pages[k - 1].Id) = !decide (w.Pages[k - 1].Id < w.Pages[k].Id) := by rw [Bool.eq_iff_iff]; simp
    rw [if_pos (c := (decide ((k : Int) > 0)) = true) (by simp; omega), e, aN hk1, Option.bind_some, List.getElem?_eq_getElem hk1, e3]
    simp only [Option.any_some, h0, decide_false, Bool.false_or]
    cases aHk w.Pages[k] <;> cases decide (w.Pages[k].Id < w.NextPage) <;> cases decide (w.Pages[k - 1].Id < w.Pages[k].Id) <;> cases decide (0 ≤ aBx (nAt w.Pages[k].Site w.Pages[k].Top) w.aK.Buckets) <;> simp
theorem aGh {w : M.World} (hw : w.ok) (hz : M.World.sz w ≤ 1048576) : xY w = some (aFs w) := by
  unfold xY aFs
  by_cases h1 : w.Sites.length = 3
  · by_cases h2 : w.Servers.length = 3
    · have e3 : decide ((w.Pages.length : Int) > 6) = !decide (w.Pages.length ≤ 6) := by rw [Bool.eq_iff_iff]; simp; omega
      rw [if_neg (by rw [h1]; simp), if_neg (by rw [h2]; simp), e3, decide_eq_true h1, decide_eq_true h2]
      rw [jC (N := 3) (L := hO w) (g := aCx w) (F := some false) (E := dB w fuel 0) (by unfold maxLen; omega) (fun n k hk => ?_) (fun n => ?_),
        aKA hw (E := some (inR w.Now 0 999999990000 && (inR w.Device 1 1000000 && (aAK w.aK && (inR w.NextPage 1 1000000000000 && aDy w.Locks))))) (fun n => ?_)]
      · cases decide (w.Pages.length ≤ 6) <;> cases (List.range 3).all (aCx w) <;> cases (List.range w.Pages.length).all (aBv w) <;> simp
      · simp only [dB]
        rw [if_neg (by rw [aO]; simp)]
        simp only [cZ, aFG hw.aK (aIP hz), aD5 hw.Locks, Option.bind_some, bM]
      · have hk1 : k < w.Sites.length := by omega
        have hk2 : k < w.Servers.length := by omega
        have hk3 : k < oG.length := by rw [aI3]; exact hk
        have hn : qK = some oG := rfl
        simp only [hO, hn, Option.bind_some]
        rw [if_pos (by simp; omega), aN hk1, Option.bind_some, bE (by omega), aBy (hw.Sites.2 _ (List.getElem_mem hk1)), Option.bind_some, aN hk3, Option.bind_some, aN hk2, Option.bind_some, aFe (hw.Servers.2 _ (List.getElem_mem hk2)), Option.bind_some]
        unfold aCx
        rw [List.getElem?_eq_getElem hk1, List.getElem?_eq_getElem hk2, List.getElem?_eq_getElem hk3]
        simp only [Option.any_some]
        generalize hO w n ((k + 1 : Nat) : Int) = Z
        have gen : ∀ (a b c : Bool), (if (!a) = true then some false else if (!b) = true then some false else if (!c) = true then some false else Z) = if (a && (b && c)) = true then Z else some false := by
          intro a b c; cases a <;> cases b <;> cases c <;> rfl
        exact gen _ _ _
      · simp only [hO]
        rw [if_neg (by simp)]
    · rw [if_neg (by rw [h1]; simp), if_pos (by simp; omega), decide_eq_false h2]
      simp
  · rw [if_pos (by simp; omega), decide_eq_false h1]
    simp
theorem aGn {w : M.World} (hw : w.ok) (hz : M.World.sz w ≤ 1048576) : wW w = some (aFs w) := by
  unfold wW aFs
  have e3 : decide ((w.Pages.length : Int) > 6) = !decide (w.Pages.length ≤ 6) := by rw [Bool.eq_iff_iff]; simp; omega
  have e1 : ((w.Sites.length : Int) != 3) = !decide (w.Sites.length = 3) := by rw [Bool.eq_iff_iff]; simp; omega
  have e2 : ((w.Servers.length : Int) != 3) = !decide (w.Servers.length = 3) := by rw [Bool.eq_iff_iff]; simp; omega
  simp only [bO, aE7 hw.aK (aIP hz), aDg hw.Locks, Option.bind_some, e1, e2, e3]
  by_cases h1 : w.Sites.length = 3
  · by_cases h2 : w.Servers.length = 3
    · rw [aKL hw (E := gD w fuel 0) (fun n => by
          simp only [eK]
          rw [if_neg (by rw [aO]; simp)]),
        jC (N := 3) (L := gD w) (g := aCx w) (F := some false) (E := some true) (by unfold maxLen; omega) (fun n k hk => ?_) (fun n => ?_)]
      · rw [decide_eq_true h1, decide_eq_true h2]
        cases inR w.Now 0 999999990000 <;> cases inR w.Device 1 1000000 <;> cases aAK w.aK <;> cases decide (w.Pages.length ≤ 6) <;> cases inR w.NextPage 1 1000000000000 <;> cases aDy w.Locks <;> cases (List.range 3).all (aCx w) <;> cases (List.range w.Pages.length).all (aBv w) <;> rfl
      · have hk1 : k < w.Sites.length := by omega
        have hk2 : k < w.Servers.length := by omega
        have hk3 : k < oG.length := by rw [aI3]; exact hk
        simp only [gD]
        rw [if_pos (bA hk1), aN hk1, Option.bind_some, bE (by omega), aBw (hw.Sites.2 _ (List.getElem_mem hk1)), Option.bind_some, aBZ, Option.bind_some, aN hk2, Option.bind_some, aFr (hw.Servers.2 _ (List.getElem_mem hk2)), Option.bind_some, aBq, aLb hk3]
        unfold aCx
        rw [List.getElem?_eq_getElem hk1, List.getElem?_eq_getElem hk2, List.getElem?_eq_getElem hk3]
        simp only [Option.any_some]
        generalize gD w n ((k + 1 : Nat) : Int) = Z
        have gen : ∀ (a b c : Bool), (if (!a) = true then some false else if b = true then (if (!c) = true then some false else Z) else some false) = if (a && (b && c)) = true then Z else some false := by
          intro a b c; cases a <;> cases b <;> cases c <;> rfl
        exact gen _ _ _
      · simp only [gD]
        rw [if_neg (by rw [h1]; simp)]
    · rw [decide_eq_true h1, decide_eq_false h2]
      cases inR w.Now 0 999999990000 <;> cases inR w.Device 1 1000000 <;> cases aAK w.aK <;> cases decide (w.Pages.length ≤ 6) <;> cases inR w.NextPage 1 1000000000000 <;> cases aDy w.Locks <;> rfl
  · rw [decide_eq_false h1]
    cases inR w.Now 0 999999990000 <;> cases inR w.Device 1 1000000 <;> cases aAK w.aK <;> cases decide (w.Pages.length ≤ 6) <;> cases inR w.NextPage 1 1000000000000 <;> cases aDy w.Locks <;> rfl
end Go.Proofs.YtecmnmaaopkdfaaGreat.gen
