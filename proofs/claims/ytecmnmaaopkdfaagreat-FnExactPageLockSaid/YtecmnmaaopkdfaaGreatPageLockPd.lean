/-
  Helper text. No conditions.
-/
import Derived.Test.YtecmnmaaopkdfaaGreatPageLockPc
namespace Go.Proofs.YtecmnmaaopkdfaaGreat.gen
open Go Go.Sh
set_option linter.unusedVariables false
set_option linter.unusedSimpArgs false
def aFz (l : List M.Item) (k : Nat) : Bool := (l[k]?).any (fun x => aGy x.Key && zQ x.aU) && (decide (k = 0) || (l[k - 1]?).any fun y => (l[k]?).any fun x => decide (iU y.Key x.Key < 0))
def aBr (s : M.aH) : Bool := (List.range s.Items.length).all (aFz s.Items) && (oT s.Name && (decide (s.Items.length ≤ 16) && inR s.Auto 0 1000000))
def aEk (x : M.aW) : Bool := inR x.Device 1 1000000 && (inR x.Seq 1 1000000 && (aGy x.Key && (oT x.Field && inR x.N 0 1000000000)))
def aCx (o : M.aV) (k : Nat) : Bool := (o.Writes[k]?).any fun x => aEk x && ((x.Device == o.Device) && (x.Seq == IntKind.i64.wrap ((IntKind.i64.wrap (o.Next - (List.length o.Writes : Int))) + (k : Int))))
def aF4 (o : M.aV) : Bool := (List.range o.Writes.length).all (aCx o) && (inR o.Device 1 1000000 && (inR o.Next 1 1000000 && decide (o.Writes.length ≤ 20)))
theorem aBm {s : M.aH} (hs : s.ok) : oP s = some (aBr s) := by
  have hm := le_max hs.Items.1
  unfold oP aBr
  rw [jN (L := gI s) (g := aFz s.Items) (F := some false) (E := some (oT s.Name && (decide (s.Items.length ≤ 16) && inR s.Auto 0 1000000))) hs.Items.1 (fun n k hk => ?_) (fun n => ?_), bN]
  · have hf := hs.Items.2 _ (List.getElem_mem hk)
    simp only [gI]
    rw [if_pos (bA hk), aO hk, Option.bind_some, bD (by omega), aA3 hf.Key, Option.bind_some, aCY hf.aU, Option.bind_some]
    unfold aFz
    rw [List.getElem?_eq_getElem hk]
    generalize gI s n ((k + 1 : Nat) : Int) = Z
    by_cases h0 : k = 0
    · subst h0
      simp only [Option.any_some]
      generalize aGy s.Items[0].Key = a
      generalize zQ s.Items[0].aU = b
      cases a <;> cases b <;> simp
    · have e : IntKind.i64.wrap ((k : Int) - 1) = ((k - 1 : Nat) : Int) := by rw [iJ (by omega) (by omega)]; omega
      have hk1 : k - 1 < s.Items.length := by omega
      have hg := hs.Items.2 _ (List.getElem_mem hk1)
      rw [if_pos (c := (decide ((k : Int) > 0)) = true) (by simp; omega), e, aO hk1, Option.bind_some, aBe hg.Key hf.Key, Option.bind_some, List.getElem?_eq_getElem hk1]
      simp only [Option.any_some, h0, decide_false, Bool.false_or]
      generalize aGy s.Items[k].Key = a
      generalize zQ s.Items[k].aU = b
      by_cases hc : iU s.Items[k - 1].Key s.Items[k].Key < 0
      · rw [if_neg (c := (decide (iU s.Items[k - 1].Key s.Items[k].Key ≥ 0)) = true) (by simp; omega)]
        cases a <;> cases b <;> simp [hc]
      · rw [if_pos (c := (decide (iU s.Items[k - 1].Key s.Items[k].Key ≥ 0)) = true) (by simp; omega)]
        cases a <;> cases b <;> simp [hc]
  · simp only [gI]
    rw [if_neg (by rw [aP]; simp), eA hs.Name, Option.bind_some, dB, Option.bind_some, bN, bN]
    congr 3
    simp; omega
theorem aBF {x : M.aW} (hx : x.ok) : iP x = some (aEk x) := by
  unfold iP aEk
  simp only [dB, aA3 hx.Key, eA hx.Field, Option.bind_some, bN]
theorem aBn {s : M.aH} (hs : s.ok) : oM s = some (aBr s) := by
  have hm := le_max hs.Items.1
  unfold oM aBr
  rw [jN (L := gD s) (g := aFz s.Items) (F := some false) (E := some (oT s.Name && (decide (s.Items.length ≤ 16) && inR s.Auto 0 1000000))) hs.Items.1 (fun n k hk => ?_) (fun n => ?_), bN]
  · have hf := hs.Items.2 _ (List.getElem_mem hk)
    simp only [gD]
    rw [if_pos (bA hk), aO hk, Option.bind_some, bD (by omega), aA5 hf.Key, Option.bind_some, aCe hf.aU, Option.bind_some]
    unfold aFz
    rw [List.getElem?_eq_getElem hk]
    generalize gD s n ((k + 1 : Nat) : Int) = Z
    by_cases h0 : k = 0
    · subst h0
      simp only [Option.any_some]
      generalize aGy s.Items[0].Key = a
      generalize zQ s.Items[0].aU = b
      cases a <;> cases b <;> simp
    · have e : IntKind.i64.wrap ((k : Int) - 1) = ((k - 1 : Nat) : Int) := by rw [iJ (by omega) (by omega)]; omega
      have hk1 : k - 1 < s.Items.length := by omega
      have hg := hs.Items.2 _ (List.getElem_mem hk1)
      rw [if_pos (c := (decide ((k : Int) > 0)) = true) (by simp; omega), e, aO hk1, Option.bind_some, aBb hg.Key hf.Key, Option.bind_some, List.getElem?_eq_getElem hk1]
      simp only [Option.any_some, h0, decide_false, Bool.false_or]
      generalize aGy s.Items[k].Key = a
      generalize zQ s.Items[k].aU = b
      by_cases hc : iU s.Items[k - 1].Key s.Items[k].Key < 0
      · rw [if_neg (c := (decide (iU s.Items[k - 1].Key s.Items[k].Key ≥ 0)) = true) (by simp; omega)]
        cases a <;> cases b <;> simp [hc]
      · rw [if_pos (c := (decide (iU s.Items[k - 1].Key s.Items[k].Key ≥ 0)) = true) (by simp; omega)]
        cases a <;> cases b <;> simp [hc]
  · simp only [gD]
    rw [if_neg (by rw [aP]; simp), dK hs.Name, Option.bind_some, bO, Option.bind_some, bN, bN]
    congr 3
    simp; omega
theorem aBH {x : M.aW} (hx : x.ok) : iR x = some (aEk x) := by
  unfold iR aEk
  simp only [bO, aA5 hx.Key, dK hx.Field, Option.bind_some, bN]
theorem aF6 {o : M.aV} (ho : o.ok) : wG o = some (aF4 o) := by
  have hm := le_max ho.Writes.1
  unfold wG aF4
  rw [jN (L := iH o) (g := aCx o) (F := some false) (E := some true) ho.Writes.1 (fun n k hk => ?_) (fun n => ?_)]
  · simp only [dB, Option.bind_some]
    by_cases h : o.Writes.length ≤ 20
    · rw [if_neg (c := (decide ((List.length o.Writes : Int) > 20)) = true) (by simp; omega)]
      cases (List.range o.Writes.length).all (aCx o) <;> cases inR o.Device 1 1000000 <;> cases inR o.Next 1 1000000 <;> simp [h]
    · rw [if_pos (c := (decide ((List.length o.Writes : Int) > 20)) = true) (by simp; omega)]
      cases inR o.Device 1 1000000 <;> cases inR o.Next 1 1000000 <;> simp [h]
  · have hf := ho.Writes.2 _ (List.getElem_mem hk)
    simp only [iH]
    rw [if_pos (bA hk), aO hk, Option.bind_some, bD (by omega), aBF hf, Option.bind_some]
    unfold aCx
    rw [List.getElem?_eq_getElem hk, Option.any_some]
    simp only [aB2, zN, aMz]
  · simp only [iH]
    rw [if_neg (by rw [aP]; simp)]
theorem aGL {o : M.aV} (ho : o.ok) : vK o = some (aF4 o) := by
  have hm := le_max ho.Writes.1
  unfold vK aF4
  rw [jN (L := iN o) (g := aCx o) (F := some false) (E := some (inR o.Device 1 1000000 && (inR o.Next 1 1000000 && decide (o.Writes.length ≤ 20)))) ho.Writes.1 (fun n k hk => ?_) (fun n => ?_), bN]
  · have hf := ho.Writes.2 _ (List.getElem_mem hk)
    simp only [iN]
    rw [if_pos (bA hk), aO hk, Option.bind_some, bD (by omega), aBH hf, Option.bind_some]
    unfold aCx
    rw [List.getElem?_eq_getElem hk, Option.any_some]
    simp only [aB2, zN, aMz]
  · simp only [iN]
    rw [if_neg (by rw [aP]; simp)]
    simp only [bO, Option.bind_some, bN]
    congr 3
    simp; omega
def aED (r : M.aC) : Bool := aBr r.Base && ((r.Base.Name.toList == (⟨#[110, 111, 116, 101, 115]⟩ : ByteArray).toList) && (inR r.Seen 0 1000000000000 && aF4 r.Sync.aV))
theorem aFX {r : M.aC} (hr : r.ok) : sQ r = some (aED r) := by
  unfold sQ aED
  simp only [aBm hr.Base, dB, aF6 hr.Sync.aV, Option.bind_some, bN]
theorem aFh {r : M.aC} (hr : r.ok) : sO r = some (aED r) := by
  unfold sO aED
  simp only [aBn hr.Base, bO, aGL hr.Sync.aV, Option.bind_some, bN]
end Go.Proofs.YtecmnmaaopkdfaaGreat.gen
