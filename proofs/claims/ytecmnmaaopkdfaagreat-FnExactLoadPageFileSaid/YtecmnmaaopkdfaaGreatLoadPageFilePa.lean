/-
  Helper text. No conditions.
-/
import Derived.Test.YtecmnmaaopkdfaaGreatLoadPageFilePm
namespace Go.Proofs.YtecmnmaaopkdfaaGreat.gen
open Go Go.Sh
set_option linter.unusedVariables false
set_option linter.unusedSimpArgs false
theorem dE (x a b : Int) : bH x a b = some (inR x a b) := by
  unfold bH inR
  by_cases h : a ≤ x
  · rw [if_pos (by simpa using h)]; simp [h]
  · rw [if_neg (by simpa using h)]; simp [h]
theorem bP (x a b : Int) : aZ x a b = some (inR x a b) := by
  unfold aZ inR
  by_cases h : a ≤ x
  · rw [if_pos (by simpa using h)]; simp [h]
  · rw [if_neg (by simpa using h)]; simp [h]
def aG2 (r : M.Response) (b : Bool) : Int := if b = true then 76 else IntKind.i64.wrap (16 + (List.length r.Body : Int))
theorem aFP (r : M.Response) (b : Bool) : sC r b = some (aG2 r b) := by unfold sC aG2; cases b <;> rfl
theorem aFo (r : M.Response) (b : Bool) : qS r b = some (aG2 r b) := by unfold qS aG2; cases b <;> rfl
def aLU (v : Int) (x : M.Cached) : Int := IntKind.i64.wrap (v + aG2 x.Response (x.Response.Type_ == 3))
def aBz (s : M.aP) : Int := s.Caches.foldl (fun v c => c.Entries.foldl aLU v) 0
theorem aFb {s : M.aP} (hs : s.ok) : qQ s = some (aBz s) := by
  have hm := le_max hs.Caches.1
  unfold qQ aBz
  refine aDt (L := eF s) (E := some) hs.Caches.1 (fun n v k hk => ?_) (fun n v => ?_) 0
  · have hc := hs.Caches.2 _ (List.getElem_mem hk)
    have hm2 := le_max hc.Entries.1
    simp only [eF]
    rw [if_pos (bA hk), bD (by omega)]
    refine aDt (xs := s.Caches[k].Entries) (L := gU s (k : Int) (fun v3 _ => eF s n v3 ((k + 1 : Nat) : Int))) (E := fun v3 => eF s n v3 ((k + 1 : Nat) : Int)) hc.Entries.1 (fun n v j hj => ?_) (fun n v => ?_) v
    · simp only [gU]
      rw [aN hk, Option.bind_some, if_pos (bA hj), aN hj, Option.bind_some, aFP, Option.bind_some, bD (by omega)]
      rfl
    · simp only [gU]
      rw [aN hk, Option.bind_some, if_neg (by rw [aO]; simp)]
  · simp only [eF]
    rw [if_neg (by rw [aO]; simp)]
theorem aFU {s : M.aP} (hs : s.ok) : qG s = some (aBz s) := by
  have hm := le_max hs.Caches.1
  unfold qG aBz
  refine aDt (L := eJ s) (E := some) hs.Caches.1 (fun n v k hk => ?_) (fun n v => ?_) 0
  · have hc := hs.Caches.2 _ (List.getElem_mem hk)
    have hm2 := le_max hc.Entries.1
    simp only [eJ]
    rw [if_pos (bA hk), bD (by omega), aN hk, Option.bind_some]
    refine aDt (xs := s.Caches[k].Entries) (L := gY s.Caches[k] (fun v3 _ => eJ s n v3 ((k + 1 : Nat) : Int))) (E := fun v3 => eJ s n v3 ((k + 1 : Nat) : Int)) hc.Entries.1 (fun n v j hj => ?_) (fun n v => ?_) v
    · simp only [gY]
      rw [if_pos (bA hj), aN hj, Option.bind_some, aFo, Option.bind_some, bD (by omega)]
      rfl
    · simp only [gY]
      rw [if_neg (by rw [aO]; simp)]
  · simp only [eJ]
    rw [if_neg (by rw [aO]; simp)]
def aJs (b : UInt8) : Bool := (decide (97 ≤ b.toNat) && decide (b.toNat ≤ 122)) || (decide (48 ≤ b.toNat) && decide (b.toNat ≤ 57))
def aJP (s : ByteArray) : Bool := aNG s aJs && decide (s.size ≤ 12)
theorem aIq {s : ByteArray} (hs : s.size ≤ maxLen) : xY s = some (aJP s) := by
  have hm := le_max hs
  unfold xY aJP
  rw [aEh (L := gE s) (g := aJs) (F := some false) (E := some (decide (s.size ≤ 12))) hs (fun n k hk => ?_) (fun n => ?_), bM]
  · simp only [gE]
    rw [if_pos (bA hk), aE8 hk, Option.bind_some, bD (by omega)]
    generalize s[k] = b
    unfold aJs
    generalize gE s n ((k + 1 : Nat) : Int) = Z
    simp only [Bool.or_eq_true, Bool.and_eq_true, decide_eq_true_eq, Bool.not_eq_true', decide_eq_false_iff_not]
    repeat' split
    all_goals first | rfl | (exfalso; omega)
  · simp only [gE]
    rw [if_neg (by rw [aO]; simp)]
    simp; omega
theorem aGK {s : ByteArray} (hs : s.size ≤ maxLen) : uN s = some (aJP s) := by
  have hm := le_max hs
  unfold uN aJP
  rw [aEh (L := dY s) (g := aJs) (F := some false) (E := some (decide (s.size ≤ 12))) hs (fun n k hk => ?_) (fun n => ?_), bM]
  · simp only [dY]
    rw [if_pos (bA hk), aE8 hk, Option.bind_some, bD (by omega)]
    generalize s[k] = b
    unfold aJs
    generalize dY s n ((k + 1 : Nat) : Int) = Z
    simp only [Bool.or_eq_true, Bool.and_eq_true, decide_eq_true_eq, Bool.not_eq_true', decide_eq_false_iff_not]
    repeat' split
    all_goals first | rfl | (exfalso; omega)
  · simp only [dY]
    rw [if_neg (by rw [aO]; simp)]
    simp; omega
def aHz (k : M.Key) : Bool := inR k.Kind 1 3 && (inR k.N (-1000000000000) 1000000000000 && (aJP k.Text && ((k.Kind != 2 || k.N == 0) && (k.Kind != 1 || (k.Text.toList == (⟨#[]⟩ : ByteArray).toList)))))
theorem aBV {k : M.Key} (hk : k.ok) : pD k = some (aHz k) := by
  have ht := aIq hk.Text
  unfold pD aHz
  simp only [dE, ht, Option.bind_some]
  generalize inR k.Kind 1 3 = a
  generalize inR k.N (-1000000000000) 1000000000000 = b
  generalize aJP k.Text = c
  generalize (k.Text.toList == (⟨#[]⟩ : ByteArray).toList) = g
  by_cases h1 : k.Kind = 2 <;> by_cases h2 : k.Kind = 1 <;> by_cases h3 : k.N = 0 <;> cases a <;> cases b <;> cases c <;> cases g <;> simp [h1, h2, h3] <;> omega
theorem aBS {k : M.Key} (hk : k.ok) : nZ k = some (aHz k) := by
  have ht := aGK hk.Text
  unfold nZ aHz
  simp only [bP, ht, Option.bind_some]
  generalize inR k.Kind 1 3 = a
  generalize inR k.N (-1000000000000) 1000000000000 = b
  generalize aJP k.Text = c
  generalize (k.Text.toList == (⟨#[]⟩ : ByteArray).toList) = g
  by_cases h1 : k.Kind = 2 <;> by_cases h2 : k.Kind = 1 <;> by_cases h3 : k.N = 0 <;> cases a <;> cases b <;> cases c <;> cases g <;> simp [h1, h2, h3] <;> omega
theorem aJL {k : M.Key} (h : aHz k = true) : k.Text.size ≤ 12 := by
  unfold aHz aJP at h
  simp only [Bool.and_eq_true, decide_eq_true_eq] at h
  omega
def aG9 (k : M.Key) : Nat := if aHz k = true then (if (k.Kind == 2) = true then 1 + k.Text.size else 7 + k.Text.size) else 0
theorem aGP {k : M.Key} (hk : k.ok) : ∃ l, uR k = some l ∧ l.length = aG9 k := by
  unfold uR aG9
  rw [aBV hk, Option.bind_some]
  by_cases h : aHz k = true
  · have ht := aJL h
    have hl := bB k.Text
    rw [if_neg (by simp [h]), if_pos h, aON]
    by_cases h2 : (k.Kind == 2) = true
    · have h3 : ¬ (k.Kind != 2) = true := by simp [bne, h2]
      rw [if_pos h2]
      have e0 : ∀ n r, r.length ≤ 7 → cD k (n + 1) 5 r = some (r ++ fE k.Text) := by
        intro n r hr
        simp only [cD]
        rw [if_pos (by decide), if_neg h3, rF (by omega), Option.bind_some]
      exact ⟨_, e0 (18446744073709551609 + 6) _ (by simp), by simp; omega⟩
    · have h3 : (k.Kind != 2) = true := by simp [bne, h2]
      rw [if_neg h2]
      have st : ∀ n (v : Nat) r, r.length ≤ 7 → v ≤ 5 → ∃ x : Int, cD k (n + 1) (v : Int) r = cD k n ((v : Int) - 1) (r ++ [x]) := by
        intro n v r hr hv
        apply Exists.intro
        simp only [cD]
        rw [if_pos (by simp), if_pos h3, if_pos (by rw [eS (by omega) (by omega)]; simp; omega), rF (by simp; omega), Option.bind_some, eS (n := (v : Int) - 1) (by omega) (by omega)]
      obtain ⟨x1, e1⟩ := st (18446744073709551609 + 6) 5 ([(IntKind.u8.wrap k.Kind)]) (by simp) (by simp)
      obtain ⟨x2, e2⟩ := st (18446744073709551609 + 5) 4 ([(IntKind.u8.wrap k.Kind)] ++ [x1]) (by simp) (by simp)
      obtain ⟨x3, e3⟩ := st (18446744073709551609 + 4) 3 ([(IntKind.u8.wrap k.Kind)] ++ [x1] ++ [x2]) (by simp) (by simp)
      obtain ⟨x4, e4⟩ := st (18446744073709551609 + 3) 2 ([(IntKind.u8.wrap k.Kind)] ++ [x1] ++ [x2] ++ [x3]) (by simp) (by simp)
      obtain ⟨x5, e5⟩ := st (18446744073709551609 + 2) 1 ([(IntKind.u8.wrap k.Kind)] ++ [x1] ++ [x2] ++ [x3] ++ [x4]) (by simp) (by simp)
      obtain ⟨x6, e6⟩ := st (18446744073709551609 + 1) 0 ([(IntKind.u8.wrap k.Kind)] ++ [x1] ++ [x2] ++ [x3] ++ [x4] ++ [x5]) (by simp) (by simp)
      have e7 : ∀ n r, r.length ≤ 7 → cD k (n + 1) (-1) r = some (r ++ fE k.Text) := by
        intro n r hr
        simp only [cD]
        rw [if_neg (by decide), rF (by omega), Option.bind_some]
      exact ⟨_, (e1.trans (e2.trans (e3.trans (e4.trans (e5.trans (e6.trans (e7 _ _ (by simp)))))))), by simp; omega⟩
  · rw [if_pos (by simp [h]), if_neg h]
    exact ⟨_, rfl, rfl⟩
theorem aGO {k : M.Key} (hk : k.ok) : ∃ l, tI k = some l ∧ l.length = aG9 k := by
  unfold tI aG9
  rw [aBS hk, Option.bind_some]
  by_cases h : aHz k = true
  · have ht := aJL h
    have hl := bB k.Text
    rw [if_neg (by simp [h]), if_pos h, aON]
    by_cases h2 : (k.Kind == 2) = true
    · have h3 : ¬ (k.Kind != 2) = true := by simp [bne, h2]
      rw [if_pos h2, if_neg h3, rF (by simp; omega), Option.bind_some]
      exact ⟨_, rfl, by simp; omega⟩
    · have h3 : (k.Kind != 2) = true := by simp [bne, h2]
      rw [if_neg h2, if_pos h3]
      have st : ∀ n (v : Nat) r, r.length ≤ 7 → v ≤ 5 → ∃ x : Int, dU k (n + 1) (v : Int) r = dU k n ((v : Int) - 1) (r ++ [x]) := by
        intro n v r hr hv
        apply Exists.intro
        simp only [dU]
        rw [if_pos (by simp), if_pos (by rw [eS (by omega) (by omega)]; simp; omega), rF (by simp; omega), Option.bind_some, eS (n := (v : Int) - 1) (by omega) (by omega)]
      obtain ⟨x1, e1⟩ := st (18446744073709551609 + 6) 5 ([(IntKind.u8.wrap k.Kind)]) (by simp) (by simp)
      obtain ⟨x2, e2⟩ := st (18446744073709551609 + 5) 4 ([(IntKind.u8.wrap k.Kind)] ++ [x1]) (by simp) (by simp)
      obtain ⟨x3, e3⟩ := st (18446744073709551609 + 4) 3 ([(IntKind.u8.wrap k.Kind)] ++ [x1] ++ [x2]) (by simp) (by simp)
      obtain ⟨x4, e4⟩ := st (18446744073709551609 + 3) 2 ([(IntKind.u8.wrap k.Kind)] ++ [x1] ++ [x2] ++ [x3]) (by simp) (by simp)
      obtain ⟨x5, e5⟩ := st (18446744073709551609 + 2) 1 ([(IntKind.u8.wrap k.Kind)] ++ [x1] ++ [x2] ++ [x3] ++ [x4]) (by simp) (by simp)
      obtain ⟨x6, e6⟩ := st (18446744073709551609 + 1) 0 ([(IntKind.u8.wrap k.Kind)] ++ [x1] ++ [x2] ++ [x3] ++ [x4] ++ [x5]) (by simp) (by simp)
      have e7 : ∀ n r, r.length ≤ 7 → dU k (n + 1) (-1) r = some (r ++ fE k.Text) := by
        intro n r hr
        simp only [dU]
        rw [if_neg (by decide), rF (by omega), Option.bind_some]
      exact ⟨_, (e1.trans (e2.trans (e3.trans (e4.trans (e5.trans (e6.trans (e7 _ _ (by simp)))))))), by simp; omega⟩
  · rw [if_pos (by simp [h]), if_neg h]
    exact ⟨_, rfl, rfl⟩
def aF4 (sl : Bool) (b : UInt8) : Bool := (decide (97 ≤ b.toNat) && decide (b.toNat ≤ 122)) || (sl && decide (b.toNat = 47))
def aJY (s : ByteArray) (n : Int) (sl : Bool) : Bool := aNG s (aF4 sl) && inR (s.size : Int) 1 n
def pV (s : ByteArray) : Bool := aNG s (aF4 false) && inR (s.size : Int) 1 8
theorem eG {s : ByteArray} (hs : s.size ≤ maxLen) : cJ s = some (pV s) := by
  have hm := le_max hs
  unfold cJ pV
  rw [aEh (L := jD s) (g := aF4 false) (F := some false) (E := some (inR (s.size : Int) 1 8)) hs (fun n k hk => ?_) (fun n => ?_), bM]
  · simp only [jD]
    rw [if_pos (bA hk), aE8 hk, Option.bind_some, bD (by omega)]
    generalize s[k] = b
    unfold aF4
    generalize jD s n ((k + 1 : Nat) : Int) = Z
    simp only [Bool.or_eq_true, Bool.and_eq_true, decide_eq_true_eq, Bool.not_eq_true', decide_eq_false_iff_not, Bool.false_and, Bool.or_false]
    repeat' split
    all_goals first | rfl | (exfalso; omega)
  · simp only [jD]
    rw [if_neg (by rw [aO]; simp), dE, Option.bind_some]
theorem aEc {s : ByteArray} {m : Int} {sl : Bool} (hs : s.size ≤ maxLen) : yE s m sl = some (aJY s m sl) := by
  have hm := le_max hs
  unfold yE aJY
  rw [aEh (L := gF s m sl) (g := aF4 sl) (F := some false) (E := some (inR (s.size : Int) 1 m)) hs (fun n k hk => ?_) (fun n => ?_), bM]
  · simp only [gF]
    rw [if_pos (bA hk), aE8 hk, Option.bind_some, bD (by omega)]
    generalize s[k] = b
    unfold aF4
    generalize gF s m sl n ((k + 1 : Nat) : Int) = Z
    cases sl <;> simp only [Bool.or_eq_true, Bool.and_eq_true, decide_eq_true_eq, Bool.not_eq_true', decide_eq_false_iff_not, Bool.false_and, Bool.or_false, Bool.true_and, beq_eq_false_iff_ne, ne_eq, Bool.false_eq_true, if_true, if_false]
    all_goals repeat' split
    all_goals first | rfl | (exfalso; omega)
  · simp only [gF]
    rw [if_neg (by rw [aO]; simp), bP, Option.bind_some]
theorem dK {s : ByteArray} (hs : s.size ≤ maxLen) : bV s = some (pV s) := by
  unfold bV
  rw [aEc hs, Option.bind_some]
  rfl
def aLP (x : M.Field) : Bool := pV x.Name && inR x.N 0 1000000000
def aDd (l : List M.Field) (k : Nat) : Bool := (l[k]?).any aLP && (decide (k = 0) || (l[k - 1]?).any fun y => (l[k]?).any fun x => Op.bytesLess y.Name.toList x.Name.toList)
def aA4 (r : M.aU) : Bool := (List.range r.Fields.length).all (aDd r.Fields) && decide (r.Fields.length ≤ 6)
theorem aDV {r : M.aU} (hr : r.ok) : qN r = some (aA4 r) := by
  have hm := le_max hr.Fields.1
  unfold qN aA4
  rw [kB (L := fT r) (g := aDd r.Fields) (F := some false) (E := some (decide (r.Fields.length ≤ 6))) hr.Fields.1 (fun n k hk => ?_) (fun n => ?_), bM]
  · have hf := hr.Fields.2 _ (List.getElem_mem hk)
    simp only [fT]
    rw [if_pos (bA hk), aN hk, Option.bind_some, bD (by omega), eG hf.Name, Option.bind_some, dE, Option.bind_some]
    unfold aDd aLP
    rw [List.getElem?_eq_getElem hk]
    generalize fT r n ((k + 1 : Nat) : Int) = Z
    by_cases h0 : k = 0
    · subst h0
      simp only [Option.any_some]
      generalize pV r.Fields[0].Name = a
      generalize inR r.Fields[0].N 0 1000000000 = b
      cases a <;> cases b <;> simp
    · have e : IntKind.i64.wrap ((k : Int) - 1) = ((k - 1 : Nat) : Int) := by rw [eS (by omega) (by omega)]; omega
      have hk1 : k - 1 < r.Fields.length := by omega
      rw [if_pos (c := (decide ((k : Int) > 0)) = true) (by simp; omega), e, aN hk1, Option.bind_some, List.getElem?_eq_getElem hk1]
      simp only [Option.any_some, h0, decide_false, Bool.false_or]
      generalize pV r.Fields[k].Name = a
      generalize inR r.Fields[k].N 0 1000000000 = b
      generalize Op.bytesLess r.Fields[k - 1].Name.toList r.Fields[k].Name.toList = c
      cases a <;> cases b <;> cases c <;> simp
  · simp only [fT]
    rw [if_neg (by rw [aO]; simp)]
    simp; omega
theorem aDA {r : M.aU} (hr : r.ok) : qY r = some (aA4 r) := by
  have hm := le_max hr.Fields.1
  unfold qY aA4
  rw [kB (L := fU r) (g := aDd r.Fields) (F := some false) (E := some (decide (r.Fields.length ≤ 6))) hr.Fields.1 (fun n k hk => ?_) (fun n => ?_), bM]
  · have hf := hr.Fields.2 _ (List.getElem_mem hk)
    simp only [fU]
    rw [if_pos (bA hk), aN hk, Option.bind_some, bD (by omega), dK hf.Name, Option.bind_some, bP, Option.bind_some]
    unfold aDd aLP
    rw [List.getElem?_eq_getElem hk]
    generalize fU r n ((k + 1 : Nat) : Int) = Z
    by_cases h0 : k = 0
    · subst h0
      simp only [Option.any_some]
      generalize pV r.Fields[0].Name = a
      generalize inR r.Fields[0].N 0 1000000000 = b
      cases a <;> cases b <;> simp
    · have e : IntKind.i64.wrap ((k : Int) - 1) = ((k - 1 : Nat) : Int) := by rw [eS (by omega) (by omega)]; omega
      have hk1 : k - 1 < r.Fields.length := by omega
      rw [if_pos (c := (decide ((k : Int) > 0)) = true) (by simp; omega), e, aN hk1, Option.bind_some, List.getElem?_eq_getElem hk1]
      simp only [Option.any_some, h0, decide_false, Bool.false_or]
      rw [aCu r.Fields[k - 1].Name.toList r.Fields[k].Name.toList]
      generalize pV r.Fields[k].Name = a
      generalize inR r.Fields[k].N 0 1000000000 = b
      generalize (Op.bytesLess r.Fields[k].Name.toList r.Fields[k - 1].Name.toList || r.Fields[k].Name.toList == r.Fields[k - 1].Name.toList) = c
      cases a <;> cases b <;> cases c <;> simp
  · simp only [fU]
    rw [if_neg (by rw [aO]; simp)]
    simp; omega
theorem aEo {r : M.aU} (h : aA4 r = true) : r.Fields.length ≤ 6 ∧ ∀ x ∈ r.Fields, x.Name.size ≤ 8 ∧ 0 ≤ x.N ∧ x.N ≤ 1000000000 := by
  unfold aA4 at h
  simp only [Bool.and_eq_true, decide_eq_true_eq, List.all_eq_true, List.mem_range] at h
  refine ⟨h.2, fun x hx => ?_⟩
  obtain ⟨k, hk, rfl⟩ := List.getElem_of_mem hx
  have := h.1 k hk
  unfold aDd aLP pV inR at this
  rw [List.getElem?_eq_getElem hk] at this
  simp only [Option.any_some, Bool.and_eq_true, decide_eq_true_eq] at this
  omega
theorem yH {r : List Int} {n : Nat} (hr : r.length ≤ 1048576) (hn : n ≤ 1000000000000) : ∃ l, gV r (n : Int) = some l ∧ l.length = r.length + (uv n).length := by
  have hi : inR (n : Int) 0 1000000000000 = true := by unfold inR; simp; omega
  unfold gV
  rw [rF (by simp; omega), Option.bind_some, dE, Option.bind_some, hi, if_neg (by simp)]
  refine aMQ (L := dM) (b := fun v => IntKind.u8.wrap (IntKind.i64.wrap (BitVec.ofInt (IntKind.i64.bits) (IntKind.i64.wrap (BitVec.ofInt (IntKind.i64.bits) v &&& BitVec.ofInt (IntKind.i64.bits) 127).toNat) ||| BitVec.ofInt (IntKind.i64.bits) 128).toNat)) (c := fun v => IntKind.u8.wrap v) (fun m n r h1 h2 => ?_) (fun m n r h1 => ?_) 8 fuel n r (by omega) (by omega) (by unfold fuel; omega) (by omega)
  · simp only [dM]
    rw [if_pos (by simp; omega), uvf]
  · simp only [dM]
    rw [if_neg (by simp; omega)]
theorem yI {r : List Int} {n : Nat} (hr : r.length ≤ 1048576) (hn : n ≤ 1000000000000) : ∃ l, gX r (n : Int) = some l ∧ l.length = r.length + (uv n).length := by
  have hi : inR (n : Int) 0 1000000000000 = true := by unfold inR; simp; omega
  unfold gX hU
  rw [rF (by simp; omega), Option.bind_some, Option.bind_some, bP, Option.bind_some, hi, if_neg (by simp)]
  refine aMQ (L := fC) (b := fun v => IntKind.u8.wrap (IntKind.i64.wrap ((Int.tmod v 128) + 128))) (c := fun v => IntKind.u8.wrap v) (fun m n r h1 h2 => ?_) (fun m n r h1 => ?_) 8 fuel n r (by omega) (by omega) (by unfold fuel; omega) (by omega)
  · simp only [fC]
    rw [if_pos (by simp; omega), uvt h2]
  · simp only [fC]
    rw [if_neg (by simp; omega)]
def aBB (x : M.Field) : Nat := (uv x.Name.size).length + x.Name.size + (uv x.N.toNat).length
def aGv (r : M.aU) : Nat := if aA4 r = true then (uv r.Fields.length).length + aD aBB r.Fields else 0
theorem aEs {r b : List Int} (hr : r.length ≤ 1000) (hb : b.length ≤ 1000) : ∃ l, oZ r b = some l ∧ l.length = r.length + ((uv b.length).length + b.length) := by
  obtain ⟨l, e, hl⟩ := yH (r := r) (n := b.length) (by omega) (by omega)
  have h9 := aDv b.length (by omega)
  refine ⟨l ++ b, ?_, by simp; omega⟩
  unfold oZ
  rw [e, Option.bind_some, rF (by omega), Option.bind_some]
theorem aDw {r : M.aU} (hr : r.ok) : ∃ l, mZ r = some l ∧ l.length = aGv r := by
  unfold mZ aGv
  rw [aDV hr, Option.bind_some]
  by_cases h : aA4 r = true
  · obtain ⟨h6, hf⟩ := aEo h
    have hw : ∀ x ∈ r.Fields, aBB x ≤ 26 := by
      intro x hx
      have := hf x hx
      have h1 := aDv x.Name.size (by omega)
      have h2 := aDv x.N.toNat (by omega)
      unfold aBB
      omega
    have hsum := aEH hw
    obtain ⟨l, e, hl⟩ := yH (r := []) (n := r.Fields.length) (by simp) (by omega)
    have h9 := aDv r.Fields.length (by omega)
    rw [if_neg (by simp [h]), if_pos h, e, Option.bind_some]
    have := aKI (xs := r.Fields) (w := aBB) (B := 900) (L := fQ r) (fun n k hk q hq => ?_) (fun n q => ?_) fuel 0 l (by unfold fuel; omega) (by omega) (by simp at hl ⊢; omega)
    · obtain ⟨z, e2, hz⟩ := this
      exact ⟨z, e2, by simp at hl hz; omega⟩
    · have hx := hf _ (List.getElem_mem hk)
      have hw2 := hw _ (List.getElem_mem hk)
      obtain ⟨a, ea, ha⟩ := aEs (r := q) (b := fE r.Fields[k].Name) (by omega) (by rw [bB]; omega)
      rw [bB] at ha
      have hn := aDv r.Fields[k].Name.size (by omega)
      obtain ⟨b, eb, hb⟩ := yH (r := a) (n := r.Fields[k].N.toNat) (by omega) (by omega)
      rw [Int.toNat_of_nonneg hx.2.1] at eb
      refine ⟨b, by unfold aBB; omega, ?_⟩
      simp only [fQ]
      rw [if_pos (bA hk), aN hk, Option.bind_some, ea, Option.bind_some, eb, Option.bind_some, bD (by omega)]
    · simp only [fQ]
      rw [if_neg (by rw [aO]; simp)]
  · rw [if_pos (by simp [h]), if_neg h]
    exact ⟨_, rfl, rfl⟩
theorem aEx {r b : List Int} (hr : r.length ≤ 1000) (hb : b.length ≤ 1000) : ∃ l, pI r b = some l ∧ l.length = r.length + ((uv b.length).length + b.length) := by
  obtain ⟨l, e, hl⟩ := yI (r := r) (n := b.length) (by omega) (by omega)
  have h9 := aDv b.length (by omega)
  refine ⟨l ++ b, ?_, by simp; omega⟩
  unfold pI
  rw [e, Option.bind_some, rF (by omega), Option.bind_some]
theorem aD0 {r : M.aU} (hr : r.ok) : ∃ l, mN r = some l ∧ l.length = aGv r := by
  unfold mN aGv
  rw [aDA hr, Option.bind_some]
  by_cases h : aA4 r = true
  · obtain ⟨h6, hf⟩ := aEo h
    have hw : ∀ x ∈ r.Fields, aBB x ≤ 26 := by
      intro x hx
      have := hf x hx
      have h1 := aDv x.Name.size (by omega)
      have h2 := aDv x.N.toNat (by omega)
      unfold aBB
      omega
    have hsum := aEH hw
    obtain ⟨l, e, hl⟩ := yI (r := []) (n := r.Fields.length) (by simp) (by omega)
    have h9 := aDv r.Fields.length (by omega)
    rw [if_neg (by simp [h]), if_pos h, e, Option.bind_some]
    have := aKI (xs := r.Fields) (w := aBB) (B := 900) (L := fR r) (fun n k hk q hq => ?_) (fun n q => ?_) fuel 0 l (by unfold fuel; omega) (by omega) (by simp at hl ⊢; omega)
    · obtain ⟨z, e2, hz⟩ := this
      exact ⟨z, e2, by simp at hl hz; omega⟩
    · have hx := hf _ (List.getElem_mem hk)
      have hw2 := hw _ (List.getElem_mem hk)
      obtain ⟨a, ea, ha⟩ := aEx (r := q) (b := fE r.Fields[k].Name) (by omega) (by rw [bB]; omega)
      rw [bB] at ha
      have hn := aDv r.Fields[k].Name.size (by omega)
      obtain ⟨b, eb, hb⟩ := yI (r := a) (n := r.Fields[k].N.toNat) (by omega) (by omega)
      rw [Int.toNat_of_nonneg hx.2.1] at eb
      refine ⟨b, by unfold aBB; omega, ?_⟩
      simp only [fR]
      rw [if_pos (bA hk), aN hk, Option.bind_some, ea, Option.bind_some, eb, Option.bind_some, bD (by omega)]
    · simp only [fR]
      rw [if_neg (by rw [aO]; simp)]
  · rw [if_pos (by simp [h]), if_neg h]
    exact ⟨_, rfl, rfl⟩
def aG5 (v : Int) (x : M.Item) : Int := IntKind.i64.wrap (v + ((aG9 x.Key : Int) + (aGv x.aU : Int)))
def aBv (s : M.aG) : Int := s.Items.foldl aG5 0
def aAc (d : M.Database) : Int := d.Stores.foldl (fun v s => IntKind.i64.wrap (v + aBv s)) 0
def aJo (b : M.aE) : Int := IntKind.i64.wrap ((IntKind.i64.wrap ((IntKind.i64.wrap (aBz b.Caches + IntKind.i64.wrap (aAc b.bF.Base + (List.length b.bF.Log : Int)))) + aBv b.aC.Base)) + (IntKind.i64.wrap (40 * (List.length b.aC.Sync.aV.Writes : Int))))
theorem aCz {s : M.aG} (hs : s.ok) : nO s = some (aBv s) := by
  have hm := le_max hs.Items.1
  unfold nO aBv
  refine aDt (L := iD s) (E := some) hs.Items.1 (fun n v k hk => ?_) (fun n v => ?_) 0
  · have hi := hs.Items.2 _ (List.getElem_mem hk)
    obtain ⟨a, ea, ha⟩ := aGP hi.Key
    obtain ⟨b, eb, hb⟩ := aDw hi.aU
    simp only [iD]
    rw [if_pos (bA hk), aN hk, Option.bind_some, ea, Option.bind_some, eb, Option.bind_some, bD (by omega), ha, hb]
    unfold aG5
    rw [wrap_add, Int.add_assoc]
  · simp only [iD]
    rw [if_neg (by rw [aO]; simp)]
theorem aD4 {d : M.Database} (hd : d.ok) : mQ d = some (aAc d) := by
  have hm := le_max hd.Stores.1
  unfold mQ aAc
  refine aDt (L := fN d) (E := some) hd.Stores.1 (fun n v k hk => ?_) (fun n v => ?_) 0
  · have hi := hd.Stores.2 _ (List.getElem_mem hk)
    simp only [fN]
    rw [if_pos (bA hk), aN hk, Option.bind_some, aCz hi, Option.bind_some, bD (by omega)]
  · simp only [fN]
    rw [if_neg (by rw [aO]; simp)]
theorem aHs {b : M.aE} (hb : b.ok) : zG b = some (aJo b) := by
  unfold zG aAw aJo
  rw [aFb hb.Caches, Option.bind_some, aD4 hb.bF.Base, Option.bind_some, Option.bind_some, aCz hb.aC.Base, Option.bind_some]
theorem aC0 {s : M.aG} (hs : s.ok) : nP s = some (aBv s) := by
  have hm := le_max hs.Items.1
  unfold nP aBv
  refine aDt (L := hZ s) (E := some) hs.Items.1 (fun n v k hk => ?_) (fun n v => ?_) 0
  · have hi := hs.Items.2 _ (List.getElem_mem hk)
    obtain ⟨a, ea, ha⟩ := aGO hi.Key
    obtain ⟨b, eb, hb⟩ := aD0 hi.aU
    simp only [hZ]
    rw [if_pos (bA hk), aN hk, Option.bind_some, ea, Option.bind_some, eb, Option.bind_some, bD (by omega), ha, hb]
    unfold aG5
    rw [aMB]
  · simp only [hZ]
    rw [if_neg (by rw [aO]; simp)]
theorem aD6 {d : M.Database} (hd : d.ok) : mP d = some (aAc d) := by
  have hm := le_max hd.Stores.1
  unfold mP aAc
  refine aDt (L := fP d) (E := some) hd.Stores.1 (fun n v k hk => ?_) (fun n v => ?_) 0
  · have hi := hd.Stores.2 _ (List.getElem_mem hk)
    simp only [fP]
    rw [if_pos (bA hk), aN hk, Option.bind_some, aC0 hi, Option.bind_some, bD (by omega)]
  · simp only [fP]
    rw [if_neg (by rw [aO]; simp)]
theorem aH2 {b : M.aE} (hb : b.ok) : aAJ b = some (aJo b) := by
  unfold aAJ aBH aJo
  rw [aFU hb.Caches, Option.bind_some, aD6 hb.bF.Base, Option.bind_some, Option.bind_some, aC0 hb.aC.Base, Option.bind_some]
end Go.Proofs.YtecmnmaaopkdfaaGreat.gen
