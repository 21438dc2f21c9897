/-
  Helper text. No conditions.
-/
import Derived.Test.YtecmnmaaopkdfaaGreatReleaseSitePc
namespace Go.Proofs.YtecmnmaaopkdfaaGreat.gen
open Go Go.Sh
set_option linter.unusedVariables false
set_option linter.unusedSimpArgs false
def aFq (l : List M.Item) (k : Nat) : Bool := (l[k]?).any (fun x => aGQ x.Key && aAD x.aU) && (decide (k = 0) || (l[k - 1]?).any fun y => (l[k]?).any fun x => decide (iL y.Key x.Key < 0))
def aBc (s : M.aH) : Bool := (List.range s.Items.length).all (aFq s.Items) && (oI s.Name && (decide (s.Items.length ≤ 16) && inR s.Auto 0 1000000))
def aEg (x : M.aW) : Bool := inR x.Device 1 1000000 && (inR x.Seq 1 1000000 && (aGQ x.Key && (oI x.Field && inR x.N 0 1000000000)))
def aCd (o : M.aV) (k : Nat) : Bool := (o.Writes[k]?).any fun x => aEg x && ((x.Device == o.Device) && (x.Seq == IntKind.i64.wrap ((IntKind.i64.wrap (o.Next - (List.length o.Writes : Int))) + (k : Int))))
def aFj (o : M.aV) : Bool := (List.range o.Writes.length).all (aCd o) && (inR o.Device 1 1000000 && (inR o.Next 1 1000000 && decide (o.Writes.length ≤ 20)))
theorem aBU {s : M.aH} (hs : s.ok) : oA s = some (aBc s) := by
  have hm := le_max hs.Items.1
  unfold oA aBc
  rw [jC (L := fX s) (g := aFq s.Items) (F := some false) (E := some (oI s.Name && (decide (s.Items.length ≤ 16) && inR s.Auto 0 1000000))) hs.Items.1 (fun n k hk => ?_) (fun n => ?_), bM]
  · have hf := hs.Items.2 _ (List.getElem_mem hk)
    simp only [fX]
    rw [if_pos (bA hk), aN hk, Option.bind_some, bE (by omega), aAk hf.Key, Option.bind_some, aCW hf.aU, Option.bind_some]
    unfold aFq
    rw [List.getElem?_eq_getElem hk]
    generalize fX s n ((k + 1 : Nat) : Int) = Z
    by_cases h0 : k = 0
    · subst h0
      simp only [Option.any_some]
      generalize aGQ s.Items[0].Key = a
      generalize aAD s.Items[0].aU = b
      cases a <;> cases b <;> simp
    · have e : IntKind.i64.wrap ((k : Int) - 1) = ((k - 1 : Nat) : Int) := by rw [iN (by omega) (by omega)]; omega
      have hk1 : k - 1 < s.Items.length := by omega
      have hg := hs.Items.2 _ (List.getElem_mem hk1)
      rw [if_pos (c := (decide ((k : Int) > 0)) = true) (by simp; omega), e, aN hk1, Option.bind_some, aBS hg.Key hf.Key, Option.bind_some, List.getElem?_eq_getElem hk1]
      simp only [Option.any_some, h0, decide_false, Bool.false_or]
      generalize aGQ s.Items[k].Key = a
      generalize aAD s.Items[k].aU = b
      by_cases hc : iL s.Items[k - 1].Key s.Items[k].Key < 0
      · rw [if_neg (c := (decide (iL s.Items[k - 1].Key s.Items[k].Key ≥ 0)) = true) (by simp; omega)]
        cases a <;> cases b <;> simp [hc]
      · rw [if_pos (c := (decide (iL s.Items[k - 1].Key s.Items[k].Key ≥ 0)) = true) (by simp; omega)]
        cases a <;> cases b <;> simp [hc]
  · simp only [fX]
    rw [if_neg (by rw [aO]; simp), eI hs.Name, Option.bind_some, cZ, Option.bind_some, bM, bM]
    congr 3
    simp; omega
theorem aAw {x : M.aW} (hx : x.ok) : iH x = some (aEg x) := by
  unfold iH aEg
  simp only [cZ, aAk hx.Key, eI hx.Field, Option.bind_some, bM]
theorem aBW {s : M.aH} (hs : s.ok) : nZ s = some (aBc s) := by
  have hm := le_max hs.Items.1
  unfold nZ aBc
  rw [jC (L := gA s) (g := aFq s.Items) (F := some false) (E := some (oI s.Name && (decide (s.Items.length ≤ 16) && inR s.Auto 0 1000000))) hs.Items.1 (fun n k hk => ?_) (fun n => ?_), bM]
  · have hf := hs.Items.2 _ (List.getElem_mem hk)
    simp only [gA]
    rw [if_pos (bA hk), aN hk, Option.bind_some, bE (by omega), aAi hf.Key, Option.bind_some, aCM hf.aU, Option.bind_some]
    unfold aFq
    rw [List.getElem?_eq_getElem hk]
    generalize gA s n ((k + 1 : Nat) : Int) = Z
    by_cases h0 : k = 0
    · subst h0
      simp only [Option.any_some]
      generalize aGQ s.Items[0].Key = a
      generalize aAD s.Items[0].aU = b
      cases a <;> cases b <;> simp
    · have e : IntKind.i64.wrap ((k : Int) - 1) = ((k - 1 : Nat) : Int) := by rw [iN (by omega) (by omega)]; omega
      have hk1 : k - 1 < s.Items.length := by omega
      have hg := hs.Items.2 _ (List.getElem_mem hk1)
      rw [if_pos (c := (decide ((k : Int) > 0)) = true) (by simp; omega), e, aN hk1, Option.bind_some, aBL hg.Key hf.Key, Option.bind_some, List.getElem?_eq_getElem hk1]
      simp only [Option.any_some, h0, decide_false, Bool.false_or]
      generalize aGQ s.Items[k].Key = a
      generalize aAD s.Items[k].aU = b
      by_cases hc : iL s.Items[k - 1].Key s.Items[k].Key < 0
      · rw [if_neg (c := (decide (iL s.Items[k - 1].Key s.Items[k].Key ≥ 0)) = true) (by simp; omega)]
        cases a <;> cases b <;> simp [hc]
      · rw [if_pos (c := (decide (iL s.Items[k - 1].Key s.Items[k].Key ≥ 0)) = true) (by simp; omega)]
        cases a <;> cases b <;> simp [hc]
  · simp only [gA]
    rw [if_neg (by rw [aO]; simp), dF hs.Name, Option.bind_some, bO, Option.bind_some, bM, bM]
    congr 3
    simp; omega
theorem aAv {x : M.aW} (hx : x.ok) : iI x = some (aEg x) := by
  unfold iI aEg
  simp only [bO, aAi hx.Key, dF hx.Field, Option.bind_some, bM]
theorem aF3 {o : M.aV} (ho : o.ok) : vX o = some (aFj o) := by
  have hm := le_max ho.Writes.1
  unfold vX aFj
  rw [jC (L := iC o) (g := aCd o) (F := some false) (E := some true) ho.Writes.1 (fun n k hk => ?_) (fun n => ?_)]
  · simp only [cZ, Option.bind_some]
    by_cases h : o.Writes.length ≤ 20
    · rw [if_neg (c := (decide ((List.length o.Writes : Int) > 20)) = true) (by simp; omega)]
      cases (List.range o.Writes.length).all (aCd o) <;> cases inR o.Device 1 1000000 <;> cases inR o.Next 1 1000000 <;> simp [h]
    · rw [if_pos (c := (decide ((List.length o.Writes : Int) > 20)) = true) (by simp; omega)]
      cases inR o.Device 1 1000000 <;> cases inR o.Next 1 1000000 <;> simp [h]
  · have hf := ho.Writes.2 _ (List.getElem_mem hk)
    simp only [iC]
    rw [if_pos (bA hk), aN hk, Option.bind_some, bE (by omega), aAw hf, Option.bind_some]
    unfold aCd
    rw [List.getElem?_eq_getElem hk, Option.any_some]
    simp only [aBq, aAW, aMg]
  · simp only [iC]
    rw [if_neg (by rw [aO]; simp)]
theorem aGB {o : M.aV} (ho : o.ok) : uE o = some (aFj o) := by
  have hm := le_max ho.Writes.1
  unfold uE aFj
  rw [jC (L := iD o) (g := aCd o) (F := some false) (E := some (inR o.Device 1 1000000 && (inR o.Next 1 1000000 && decide (o.Writes.length ≤ 20)))) ho.Writes.1 (fun n k hk => ?_) (fun n => ?_), bM]
  · have hf := ho.Writes.2 _ (List.getElem_mem hk)
    simp only [iD]
    rw [if_pos (bA hk), aN hk, Option.bind_some, bE (by omega), aAv hf, Option.bind_some]
    unfold aCd
    rw [List.getElem?_eq_getElem hk, Option.any_some]
    simp only [aBq, aAW, aMg]
  · simp only [iD]
    rw [if_neg (by rw [aO]; simp)]
    simp only [bO, Option.bind_some, bM]
    congr 3
    simp; omega
def aDq (r : M.aC) : Bool := aBc r.Base && ((r.Base.Name.toList == (⟨#[110, 111, 116, 101, 115]⟩ : ByteArray).toList) && (inR r.Seen 0 1000000000000 && aFj r.Sync.aV))
theorem aFH {r : M.aC} (hr : r.ok) : tE r = some (aDq r) := by
  unfold tE aDq
  simp only [aBU hr.Base, cZ, aF3 hr.Sync.aV, Option.bind_some, bM]
theorem aFK {r : M.aC} (hr : r.ok) : sS r = some (aDq r) := by
  unfold sS aDq
  simp only [aBW hr.Base, bO, aGB hr.Sync.aV, Option.bind_some, bM]
end Go.Proofs.YtecmnmaaopkdfaaGreat.gen
