/-
  Helper text. No conditions.
-/
import Derived.Test.YtecmnmaaopkdfaaGreatLoadPageFilePc
namespace Go.Proofs.YtecmnmaaopkdfaaGreat.gen
open Go Go.Sh
set_option linter.unusedVariables false
set_option linter.unusedSimpArgs false
def aGz (l : List M.Item) (k : Nat) : Bool := (l[k]?).any (fun x => aHz x.Key && aA4 x.aU) && (decide (k = 0) || (l[k - 1]?).any fun y => (l[k]?).any fun x => decide (jE y.Key x.Key < 0))
def aCc (s : M.aG) : Bool := (List.range s.Items.length).all (aGz s.Items) && (pV s.Name && (decide (s.Items.length ≤ 16) && inR s.Auto 0 1000000))
def aFI (x : M.aW) : Bool := inR x.Device 1 1000000 && (inR x.Seq 1 1000000 && (aHz x.Key && (pV x.Field && inR x.N 0 1000000000)))
def aDb (o : M.aV) (k : Nat) : Bool := (o.Writes[k]?).any fun x => aFI x && ((x.Device == o.Device) && (x.Seq == IntKind.i64.wrap ((IntKind.i64.wrap (o.Next - (List.length o.Writes : Int))) + (k : Int))))
def aG3 (o : M.aV) : Bool := (List.range o.Writes.length).all (aDb o) && (inR o.Device 1 1000000 && (inR o.Next 1 1000000 && decide (o.Writes.length ≤ 20)))
theorem aCN {s : M.aG} (hs : s.ok) : pO s = some (aCc s) := by
  have hm := le_max hs.Items.1
  unfold pO aCc
  rw [kB (L := gQ s) (g := aGz s.Items) (F := some false) (E := some (pV s.Name && (decide (s.Items.length ≤ 16) && inR s.Auto 0 1000000))) hs.Items.1 (fun n k hk => ?_) (fun n => ?_), bM]
  · have hf := hs.Items.2 _ (List.getElem_mem hk)
    simp only [gQ]
    rw [if_pos (bA hk), aN hk, Option.bind_some, bD (by omega), aBV hf.Key, Option.bind_some, aDV hf.aU, Option.bind_some]
    unfold aGz
    rw [List.getElem?_eq_getElem hk]
    generalize gQ s n ((k + 1 : Nat) : Int) = Z
    by_cases h0 : k = 0
    · subst h0
      simp only [Option.any_some]
      generalize aHz s.Items[0].Key = a
      generalize aA4 s.Items[0].aU = b
      cases a <;> cases b <;> simp
    · have e : IntKind.i64.wrap ((k : Int) - 1) = ((k - 1 : Nat) : Int) := by rw [eS (by omega) (by omega)]; omega
      have hk1 : k - 1 < s.Items.length := by omega
      have hg := hs.Items.2 _ (List.getElem_mem hk1)
      rw [if_pos (c := (decide ((k : Int) > 0)) = true) (by simp; omega), e, aN hk1, Option.bind_some, aCC hg.Key hf.Key, Option.bind_some, List.getElem?_eq_getElem hk1]
      simp only [Option.any_some, h0, decide_false, Bool.false_or]
      generalize aHz s.Items[k].Key = a
      generalize aA4 s.Items[k].aU = b
      by_cases hc : jE s.Items[k - 1].Key s.Items[k].Key < 0
      · rw [if_neg (c := (decide (jE s.Items[k - 1].Key s.Items[k].Key ≥ 0)) = true) (by simp; omega)]
        cases a <;> cases b <;> simp [hc]
      · rw [if_pos (c := (decide (jE s.Items[k - 1].Key s.Items[k].Key ≥ 0)) = true) (by simp; omega)]
        cases a <;> cases b <;> simp [hc]
  · simp only [gQ]
    rw [if_neg (by rw [aO]; simp), eG hs.Name, Option.bind_some, dE, Option.bind_some, bM, bM]
    congr 3
    simp; omega
theorem aBh {x : M.aW} (hx : x.ok) : jB x = some (aFI x) := by
  unfold jB aFI
  simp only [dE, aBV hx.Key, eG hx.Field, Option.bind_some, bM]
theorem aCL {s : M.aG} (hs : s.ok) : pK s = some (aCc s) := by
  have hm := le_max hs.Items.1
  unfold pK aCc
  rw [kB (L := gI s) (g := aGz s.Items) (F := some false) (E := some (pV s.Name && (decide (s.Items.length ≤ 16) && inR s.Auto 0 1000000))) hs.Items.1 (fun n k hk => ?_) (fun n => ?_), bM]
  · have hf := hs.Items.2 _ (List.getElem_mem hk)
    simp only [gI]
    rw [if_pos (bA hk), aN hk, Option.bind_some, bD (by omega), aBS hf.Key, Option.bind_some, aDA hf.aU, Option.bind_some]
    unfold aGz
    rw [List.getElem?_eq_getElem hk]
    generalize gI s n ((k + 1 : Nat) : Int) = Z
    by_cases h0 : k = 0
    · subst h0
      simp only [Option.any_some]
      generalize aHz s.Items[0].Key = a
      generalize aA4 s.Items[0].aU = b
      cases a <;> cases b <;> simp
    · have e : IntKind.i64.wrap ((k : Int) - 1) = ((k - 1 : Nat) : Int) := by rw [eS (by omega) (by omega)]; omega
      have hk1 : k - 1 < s.Items.length := by omega
      have hg := hs.Items.2 _ (List.getElem_mem hk1)
      rw [if_pos (c := (decide ((k : Int) > 0)) = true) (by simp; omega), e, aN hk1, Option.bind_some, aCE hg.Key hf.Key, Option.bind_some, List.getElem?_eq_getElem hk1]
      simp only [Option.any_some, h0, decide_false, Bool.false_or]
      generalize aHz s.Items[k].Key = a
      generalize aA4 s.Items[k].aU = b
      by_cases hc : jE s.Items[k - 1].Key s.Items[k].Key < 0
      · rw [if_neg (c := (decide (jE s.Items[k - 1].Key s.Items[k].Key ≥ 0)) = true) (by simp; omega)]
        cases a <;> cases b <;> simp [hc]
      · rw [if_pos (c := (decide (jE s.Items[k - 1].Key s.Items[k].Key ≥ 0)) = true) (by simp; omega)]
        cases a <;> cases b <;> simp [hc]
  · simp only [gI]
    rw [if_neg (by rw [aO]; simp), dK hs.Name, Option.bind_some, bP, Option.bind_some, bM, bM]
    congr 3
    simp; omega
theorem aBi {x : M.aW} (hx : x.ok) : jA x = some (aFI x) := by
  unfold jA aFI
  simp only [bP, aBS hx.Key, dK hx.Field, Option.bind_some, bM]
theorem aG0 {o : M.aV} (ho : o.ok) : wY o = some (aG3 o) := by
  have hm := le_max ho.Writes.1
  unfold wY aG3
  rw [kB (L := iW o) (g := aDb o) (F := some false) (E := some true) ho.Writes.1 (fun n k hk => ?_) (fun n => ?_)]
  · simp only [dE, Option.bind_some]
    by_cases h : o.Writes.length ≤ 20
    · rw [if_neg (c := (decide ((List.length o.Writes : Int) > 20)) = true) (by simp; omega)]
      cases (List.range o.Writes.length).all (aDb o) <;> cases inR o.Device 1 1000000 <;> cases inR o.Next 1 1000000 <;> simp [h]
    · rw [if_pos (c := (decide ((List.length o.Writes : Int) > 20)) = true) (by simp; omega)]
      cases inR o.Device 1 1000000 <;> cases inR o.Next 1 1000000 <;> simp [h]
  · have hf := ho.Writes.2 _ (List.getElem_mem hk)
    simp only [iW]
    rw [if_pos (bA hk), aN hk, Option.bind_some, bD (by omega), aBh hf, Option.bind_some]
    unfold aDb
    rw [List.getElem?_eq_getElem hk, Option.any_some]
    simp only [aCd, aBA, aN2]
  · simp only [iW]
    rw [if_neg (by rw [aO]; simp)]
theorem aG8 {o : M.aV} (ho : o.ok) : xH o = some (aG3 o) := by
  have hm := le_max ho.Writes.1
  unfold xH aG3
  rw [kB (L := iX o) (g := aDb o) (F := some false) (E := some (inR o.Device 1 1000000 && (inR o.Next 1 1000000 && decide (o.Writes.length ≤ 20)))) ho.Writes.1 (fun n k hk => ?_) (fun n => ?_), bM]
  · have hf := ho.Writes.2 _ (List.getElem_mem hk)
    simp only [iX]
    rw [if_pos (bA hk), aN hk, Option.bind_some, bD (by omega), aBi hf, Option.bind_some]
    unfold aDb
    rw [List.getElem?_eq_getElem hk, Option.any_some]
    simp only [aCd, aBA, aN2]
  · simp only [iX]
    rw [if_neg (by rw [aO]; simp)]
    simp only [bP, Option.bind_some, bM]
    congr 3
    simp; omega
def aEk (r : M.aC) : Bool := aCc r.Base && ((r.Base.Name.toList == (⟨#[110, 111, 116, 101, 115]⟩ : ByteArray).toList) && (inR r.Seen 0 1000000000000 && aG3 r.Sync.aV))
theorem aF9 {r : M.aC} (hr : r.ok) : tW r = some (aEk r) := by
  unfold tW aEk
  simp only [aCN hr.Base, dE, aG0 hr.Sync.aV, Option.bind_some, bM]
theorem aGG {r : M.aC} (hr : r.ok) : tG r = some (aEk r) := by
  unfold tG aEk
  simp only [aCL hr.Base, bP, aG8 hr.Sync.aV, Option.bind_some, bM]
end Go.Proofs.YtecmnmaaopkdfaaGreat.gen
