/-
  Helper text. No conditions.
-/
import Derived.Test.YtecmnmaaopkdfaaGreatPageSendPc
namespace Go.Proofs.YtecmnmaaopkdfaaGreat.gen
open Go Go.Sh
set_option linter.unusedVariables false
set_option linter.unusedSimpArgs false
def aGg (l : List M.Item) (k : Nat) : Bool := (l[k]?).any (fun x => aGy x.Key && zZ x.aU) && (decide (k = 0) || (l[k - 1]?).any fun y => (l[k]?).any fun x => decide (iQ y.Key x.Key < 0))
def aBr (s : M.aG) : Bool := (List.range s.Items.length).all (aGg s.Items) && (oO s.Name && (decide (s.Items.length ≤ 16) && inR s.Auto 0 1000000))
def aEM (x : M.aW) : Bool := inR x.Device 1 1000000 && (inR x.Seq 1 1000000 && (aGy x.Key && (oO x.Field && inR x.N 0 1000000000)))
def aCl (o : M.aV) (k : Nat) : Bool := (o.Writes[k]?).any fun x => aEM x && ((x.Device == o.Device) && (x.Seq == IntKind.i64.wrap ((IntKind.i64.wrap (o.Next - (List.length o.Writes : Int))) + (k : Int))))
def aF5 (o : M.aV) : Bool := (List.range o.Writes.length).all (aCl o) && (inR o.Device 1 1000000 && (inR o.Next 1 1000000 && decide (o.Writes.length ≤ 20)))
theorem aBi {s : M.aG} (hs : s.ok) : oL s = some (aBr s) := by
  have hm := le_max hs.Items.1
  unfold oL aBr
  rw [jJ (L := gG s) (g := aGg s.Items) (F := some false) (E := some (oO s.Name && (decide (s.Items.length ≤ 16) && inR s.Auto 0 1000000))) hs.Items.1 (fun n k hk => ?_) (fun n => ?_), bL]
  · have hf := hs.Items.2 _ (List.getElem_mem hk)
    simp only [gG]
    rw [if_pos (bA hk), aN hk, Option.bind_some, bE (by omega), aAx hf.Key, Option.bind_some, aCQ hf.aU, Option.bind_some]
    unfold aGg
    rw [List.getElem?_eq_getElem hk]
    generalize gG s n ((k + 1 : Nat) : Int) = Z
    by_cases h0 : k = 0
    · subst h0
      simp only [Option.any_some]
      generalize aGy s.Items[0].Key = a
      generalize zZ s.Items[0].aU = b
      cases a <;> cases b <;> simp
    · have e : IntKind.i64.wrap ((k : Int) - 1) = ((k - 1 : Nat) : Int) := by rw [iG (by omega) (by omega)]; omega
      have hk1 : k - 1 < s.Items.length := by omega
      have hg := hs.Items.2 _ (List.getElem_mem hk1)
      rw [if_pos (c := (decide ((k : Int) > 0)) = true) (by simp; omega), e, aN hk1, Option.bind_some, aBZ hg.Key hf.Key, Option.bind_some, List.getElem?_eq_getElem hk1]
      simp only [Option.any_some, h0, decide_false, Bool.false_or]
      generalize aGy s.Items[k].Key = a
      generalize zZ s.Items[k].aU = b
      by_cases hc : iQ s.Items[k - 1].Key s.Items[k].Key < 0
      · rw [if_neg (c := (decide (iQ s.Items[k - 1].Key s.Items[k].Key ≥ 0)) = true) (by simp; omega)]
        cases a <;> cases b <;> simp [hc]
      · rw [if_pos (c := (decide (iQ s.Items[k - 1].Key s.Items[k].Key ≥ 0)) = true) (by simp; omega)]
        cases a <;> cases b <;> simp [hc]
  · simp only [gG]
    rw [if_neg (by rw [aO]; simp), eC hs.Name, Option.bind_some, dC, Option.bind_some, bL, bL]
    congr 3
    simp; omega
theorem aBC {x : M.aW} (hx : x.ok) : iP x = some (aEM x) := by
  unfold iP aEM
  simp only [dC, aAx hx.Key, eC hx.Field, Option.bind_some, bL]
theorem aBj {s : M.aG} (hs : s.ok) : oJ s = some (aBr s) := by
  have hm := le_max hs.Items.1
  unfold oJ aBr
  rw [jJ (L := gC s) (g := aGg s.Items) (F := some false) (E := some (oO s.Name && (decide (s.Items.length ≤ 16) && inR s.Auto 0 1000000))) hs.Items.1 (fun n k hk => ?_) (fun n => ?_), bL]
  · have hf := hs.Items.2 _ (List.getElem_mem hk)
    simp only [gC]
    rw [if_pos (bA hk), aN hk, Option.bind_some, bE (by omega), aAu hf.Key, Option.bind_some, aCO hf.aU, Option.bind_some]
    unfold aGg
    rw [List.getElem?_eq_getElem hk]
    generalize gC s n ((k + 1 : Nat) : Int) = Z
    by_cases h0 : k = 0
    · subst h0
      simp only [Option.any_some]
      generalize aGy s.Items[0].Key = a
      generalize zZ s.Items[0].aU = b
      cases a <;> cases b <;> simp
    · have e : IntKind.i64.wrap ((k : Int) - 1) = ((k - 1 : Nat) : Int) := by rw [iG (by omega) (by omega)]; omega
      have hk1 : k - 1 < s.Items.length := by omega
      have hg := hs.Items.2 _ (List.getElem_mem hk1)
      rw [if_pos (c := (decide ((k : Int) > 0)) = true) (by simp; omega), e, aN hk1, Option.bind_some, aBY hg.Key hf.Key, Option.bind_some, List.getElem?_eq_getElem hk1]
      simp only [Option.any_some, h0, decide_false, Bool.false_or]
      generalize aGy s.Items[k].Key = a
      generalize zZ s.Items[k].aU = b
      by_cases hc : iQ s.Items[k - 1].Key s.Items[k].Key < 0
      · rw [if_neg (c := (decide (iQ s.Items[k - 1].Key s.Items[k].Key ≥ 0)) = true) (by simp; omega)]
        cases a <;> cases b <;> simp [hc]
      · rw [if_pos (c := (decide (iQ s.Items[k - 1].Key s.Items[k].Key ≥ 0)) = true) (by simp; omega)]
        cases a <;> cases b <;> simp [hc]
  · simp only [gC]
    rw [if_neg (by rw [aO]; simp), dI hs.Name, Option.bind_some, bO, Option.bind_some, bL, bL]
    congr 3
    simp; omega
theorem aBA {x : M.aW} (hx : x.ok) : iM x = some (aEM x) := by
  unfold iM aEM
  simp only [bO, aAu hx.Key, dI hx.Field, Option.bind_some, bL]
theorem aGY {o : M.aV} (ho : o.ok) : wG o = some (aF5 o) := by
  have hm := le_max ho.Writes.1
  unfold wG aF5
  rw [jJ (L := iH o) (g := aCl o) (F := some false) (E := some true) ho.Writes.1 (fun n k hk => ?_) (fun n => ?_)]
  · simp only [dC, Option.bind_some]
    by_cases h : o.Writes.length ≤ 20
    · rw [if_neg (c := (decide ((List.length o.Writes : Int) > 20)) = true) (by simp; omega)]
      cases (List.range o.Writes.length).all (aCl o) <;> cases inR o.Device 1 1000000 <;> cases inR o.Next 1 1000000 <;> simp [h]
    · rw [if_pos (c := (decide ((List.length o.Writes : Int) > 20)) = true) (by simp; omega)]
      cases inR o.Device 1 1000000 <;> cases inR o.Next 1 1000000 <;> simp [h]
  · have hf := ho.Writes.2 _ (List.getElem_mem hk)
    simp only [iH]
    rw [if_pos (bA hk), aN hk, Option.bind_some, bE (by omega), aBC hf, Option.bind_some]
    unfold aCl
    rw [List.getElem?_eq_getElem hk, Option.any_some]
    simp only [aB7, zR, aMz]
  · simp only [iH]
    rw [if_neg (by rw [aO]; simp)]
theorem aGD {o : M.aV} (ho : o.ok) : uQ o = some (aF5 o) := by
  have hm := le_max ho.Writes.1
  unfold uQ aF5
  rw [jJ (L := iJ o) (g := aCl o) (F := some false) (E := some (inR o.Device 1 1000000 && (inR o.Next 1 1000000 && decide (o.Writes.length ≤ 20)))) ho.Writes.1 (fun n k hk => ?_) (fun n => ?_), bL]
  · have hf := ho.Writes.2 _ (List.getElem_mem hk)
    simp only [iJ]
    rw [if_pos (bA hk), aN hk, Option.bind_some, bE (by omega), aBA hf, Option.bind_some]
    unfold aCl
    rw [List.getElem?_eq_getElem hk, Option.any_some]
    simp only [aB7, zR, aMz]
  · simp only [iJ]
    rw [if_neg (by rw [aO]; simp)]
    simp only [bO, Option.bind_some, bL]
    congr 3
    simp; omega
def aDa (r : M.aC) : Bool := aBr r.Base && ((r.Base.Name.toList == (⟨#[110, 111, 116, 101, 115]⟩ : ByteArray).toList) && (inR r.Seen 0 1000000000000 && aF5 r.Sync.aV))
theorem aFG {r : M.aC} (hr : r.ok) : sQ r = some (aDa r) := by
  unfold sQ aDa
  simp only [aBi hr.Base, dC, aGY hr.Sync.aV, Option.bind_some, bL]
theorem aFW {r : M.aC} (hr : r.ok) : rV r = some (aDa r) := by
  unfold rV aDa
  simp only [aBj hr.Base, bO, aGD hr.Sync.aV, Option.bind_some, bL]
end Go.Proofs.YtecmnmaaopkdfaaGreat.gen
