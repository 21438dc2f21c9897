/-
  Helper text. No conditions.
-/
import Derived.Test.YtecmnmaaopkdfaaGreatReleaseSitePm
namespace Go.Proofs.YtecmnmaaopkdfaaGreat.gen
open Go Go.Sh
set_option linter.unusedVariables false
set_option linter.unusedSimpArgs false
theorem cZ (x a b : Int) : bG x a b = some (inR x a b) := by
  unfold bG inR
  by_cases h : a ≤ x
  · rw [if_pos (by simpa using h)]; simp [h]
  · rw [if_neg (by simpa using h)]; simp [h]
theorem bO (x a b : Int) : aZ x a b = some (inR x a b) := by
  unfold aZ inR
  by_cases h : a ≤ x
  · rw [if_pos (by simpa using h)]; simp [h]
  · rw [if_neg (by simpa using h)]; simp [h]
def aFt (r : M.Response) (b : Bool) : Int := if b = true then 76 else IntKind.i64.wrap (16 + (List.length r.Body : Int))
theorem aET (r : M.Response) (b : Bool) : oP r b = some (aFt r b) := by unfold oP aFt; cases b <;> rfl
theorem aEC (r : M.Response) (b : Bool) : pH r b = some (aFt r b) := by unfold pH aFt; cases b <;> rfl
def aKG (v : Int) (x : M.Cached) : Int := IntKind.i64.wrap (v + aFt x.Response (x.Response.Type_ == 3))
def aBB (s : M.aT) : Int := s.Caches.foldl (fun v c => c.Entries.foldl aKG v) 0
theorem aEA {s : M.aT} (hs : s.ok) : qC s = some (aBB s) := by
  have hm := le_max hs.Caches.1
  unfold qC aBB
  refine aEt (L := dX s) (E := some) hs.Caches.1 (fun n v k hk => ?_) (fun n v => ?_) 0
  · have hc := hs.Caches.2 _ (List.getElem_mem hk)
    have hm2 := le_max hc.Entries.1
    simp only [dX]
    rw [if_pos (bA hk), bE (by omega)]
    refine aEt (xs := s.Caches[k].Entries) (L := gK s (k : Int) (fun v3 _ => dX s n v3 ((k + 1 : Nat) : Int))) (E := fun v3 => dX s n v3 ((k + 1 : Nat) : Int)) hc.Entries.1 (fun n v j hj => ?_) (fun n v => ?_) v
    · simp only [gK]
      rw [aN hk, Option.bind_some, if_pos (bA hj), aN hj, Option.bind_some, aET, Option.bind_some, bE (by omega)]
      rfl
    · simp only [gK]
      rw [aN hk, Option.bind_some, if_neg (by rw [aO]; simp)]
  · simp only [dX]
    rw [if_neg (by rw [aO]; simp)]
theorem aEa {s : M.aT} (hs : s.ok) : oO s = some (aBB s) := by
  have hm := le_max hs.Caches.1
  unfold oO aBB
  refine aEt (L := eD s) (E := some) hs.Caches.1 (fun n v k hk => ?_) (fun n v => ?_) 0
  · have hc := hs.Caches.2 _ (List.getElem_mem hk)
    have hm2 := le_max hc.Entries.1
    simp only [eD]
    rw [if_pos (bA hk), bE (by omega), aN hk, Option.bind_some]
    refine aEt (xs := s.Caches[k].Entries) (L := gL s.Caches[k] (fun v3 _ => eD s n v3 ((k + 1 : Nat) : Int))) (E := fun v3 => eD s n v3 ((k + 1 : Nat) : Int)) hc.Entries.1 (fun n v j hj => ?_) (fun n v => ?_) v
    · simp only [gL]
      rw [if_pos (bA hj), aN hj, Option.bind_some, aEC, Option.bind_some, bE (by omega)]
      rfl
    · simp only [gL]
      rw [if_neg (by rw [aO]; simp)]
  · simp only [eD]
    rw [if_neg (by rw [aO]; simp)]
def aIQ (b : UInt8) : Bool := (decide (97 ≤ b.toNat) && decide (b.toNat ≤ 122)) || (decide (48 ≤ b.toNat) && decide (b.toNat ≤ 57))
def aIU (s : ByteArray) : Bool := aLx s aIQ && decide (s.size ≤ 12)
theorem aHh {s : ByteArray} (hs : s.size ≤ maxLen) : wB s = some (aIU s) := by
  have hm := le_max hs
  unfold wB aIU
  rw [aDt (L := fV s) (g := aIQ) (F := some false) (E := some (decide (s.size ≤ 12))) hs (fun n k hk => ?_) (fun n => ?_), bM]
  · simp only [fV]
    rw [if_pos (bA hk), aDQ hk, Option.bind_some, bE (by omega)]
    generalize s[k] = b
    unfold aIQ
    generalize fV s n ((k + 1 : Nat) : Int) = Z
    simp only [Bool.or_eq_true, Bool.and_eq_true, decide_eq_true_eq, Bool.not_eq_true', decide_eq_false_iff_not]
    repeat' split
    all_goals first | rfl | (exfalso; omega)
  · simp only [fV]
    rw [if_neg (by rw [aO]; simp)]
    simp; omega
theorem aFA {s : ByteArray} (hs : s.size ≤ maxLen) : rP s = some (aIU s) := by
  have hm := le_max hs
  unfold rP aIU
  rw [aDt (L := dO s) (g := aIQ) (F := some false) (E := some (decide (s.size ≤ 12))) hs (fun n k hk => ?_) (fun n => ?_), bM]
  · simp only [dO]
    rw [if_pos (bA hk), aDQ hk, Option.bind_some, bE (by omega)]
    generalize s[k] = b
    unfold aIQ
    generalize dO s n ((k + 1 : Nat) : Int) = Z
    simp only [Bool.or_eq_true, Bool.and_eq_true, decide_eq_true_eq, Bool.not_eq_true', decide_eq_false_iff_not]
    repeat' split
    all_goals first | rfl | (exfalso; omega)
  · simp only [dO]
    rw [if_neg (by rw [aO]; simp)]
    simp; omega
def aGQ (k : M.Key) : Bool := inR k.Kind 1 3 && (inR k.N (-1000000000000) 1000000000000 && (aIU k.Text && ((k.Kind != 2 || k.N == 0) && (k.Kind != 1 || (k.Text.toList == (⟨#[]⟩ : ByteArray).toList)))))
theorem aAk {k : M.Key} (hk : k.ok) : nV k = some (aGQ k) := by
  have ht := aHh hk.Text
  unfold nV aGQ
  simp only [cZ, ht, Option.bind_some]
  generalize inR k.Kind 1 3 = a
  generalize inR k.N (-1000000000000) 1000000000000 = b
  generalize aIU k.Text = c
  generalize (k.Text.toList == (⟨#[]⟩ : ByteArray).toList) = g
  by_cases h1 : k.Kind = 2 <;> by_cases h2 : k.Kind = 1 <;> by_cases h3 : k.N = 0 <;> cases a <;> cases b <;> cases c <;> cases g <;> simp [h1, h2, h3] <;> omega
theorem aAi {k : M.Key} (hk : k.ok) : nL k = some (aGQ k) := by
  have ht := aFA hk.Text
  unfold nL aGQ
  simp only [bO, ht, Option.bind_some]
  generalize inR k.Kind 1 3 = a
  generalize inR k.N (-1000000000000) 1000000000000 = b
  generalize aIU k.Text = c
  generalize (k.Text.toList == (⟨#[]⟩ : ByteArray).toList) = g
  by_cases h1 : k.Kind = 2 <;> by_cases h2 : k.Kind = 1 <;> by_cases h3 : k.N = 0 <;> cases a <;> cases b <;> cases c <;> cases g <;> simp [h1, h2, h3] <;> omega
theorem aIa {k : M.Key} (h : aGQ k = true) : k.Text.size ≤ 12 := by
  unfold aGQ aIU at h
  simp only [Bool.and_eq_true, decide_eq_true_eq] at h
  omega
def aF9 (k : M.Key) : Nat := if aGQ k = true then (if (k.Kind == 2) = true then 1 + k.Text.size else 7 + k.Text.size) else 0
theorem aFD {k : M.Key} (hk : k.ok) : ∃ l, tD k = some l ∧ l.length = aF9 k := by
  unfold tD aF9
  rw [aAk hk, Option.bind_some]
  by_cases h : aGQ k = true
  · have ht := aIa h
    have hl := bF k.Text
    rw [if_neg (by simp [h]), if_pos h, aNi]
    by_cases h2 : (k.Kind == 2) = true
    · have h3 : ¬ (k.Kind != 2) = true := by simp [bne, h2]
      rw [if_pos h2]
      have e0 : ∀ n r, r.length ≤ 7 → bX k (n + 1) 5 r = some (r ++ kP k.Text) := by
        intro n r hr
        simp only [bX]
        rw [if_pos (by decide), if_neg h3, aAZ (by omega), Option.bind_some]
      exact ⟨_, e0 (18446744073709551609 + 6) _ (by simp), by simp; omega⟩
    · have h3 : (k.Kind != 2) = true := by simp [bne, h2]
      rw [if_neg h2]
      have st : ∀ n (v : Nat) r, r.length ≤ 7 → v ≤ 5 → ∃ x : Int, bX k (n + 1) (v : Int) r = bX k n ((v : Int) - 1) (r ++ [x]) := by
        intro n v r hr hv
        apply Exists.intro
        simp only [bX]
        rw [if_pos (by simp), if_pos h3, if_pos (by rw [iN (by omega) (by omega)]; simp; omega), aAZ (by simp; omega), Option.bind_some, iN (n := (v : Int) - 1) (by omega) (by omega)]
      obtain ⟨x1, e1⟩ := st (18446744073709551609 + 6) 5 ([(IntKind.u8.wrap k.Kind)]) (by simp) (by simp)
      obtain ⟨x2, e2⟩ := st (18446744073709551609 + 5) 4 ([(IntKind.u8.wrap k.Kind)] ++ [x1]) (by simp) (by simp)
      obtain ⟨x3, e3⟩ := st (18446744073709551609 + 4) 3 ([(IntKind.u8.wrap k.Kind)] ++ [x1] ++ [x2]) (by simp) (by simp)
      obtain ⟨x4, e4⟩ := st (18446744073709551609 + 3) 2 ([(IntKind.u8.wrap k.Kind)] ++ [x1] ++ [x2] ++ [x3]) (by simp) (by simp)
      obtain ⟨x5, e5⟩ := st (18446744073709551609 + 2) 1 ([(IntKind.u8.wrap k.Kind)] ++ [x1] ++ [x2] ++ [x3] ++ [x4]) (by simp) (by simp)
      obtain ⟨x6, e6⟩ := st (18446744073709551609 + 1) 0 ([(IntKind.u8.wrap k.Kind)] ++ [x1] ++ [x2] ++ [x3] ++ [x4] ++ [x5]) (by simp) (by simp)
      have e7 : ∀ n r, r.length ≤ 7 → bX k (n + 1) (-1) r = some (r ++ kP k.Text) := by
        intro n r hr
        simp only [bX]
        rw [if_neg (by decide), aAZ (by omega), Option.bind_some]
      exact ⟨_, (e1.trans (e2.trans (e3.trans (e4.trans (e5.trans (e6.trans (e7 _ _ (by simp)))))))), by simp; omega⟩
  · rw [if_pos (by simp [h]), if_neg h]
    exact ⟨_, rfl, rfl⟩
theorem aFJ {k : M.Key} (hk : k.ok) : ∃ l, tF k = some l ∧ l.length = aF9 k := by
  unfold tF aF9
  rw [aAi hk, Option.bind_some]
  by_cases h : aGQ k = true
  · have ht := aIa h
    have hl := bF k.Text
    rw [if_neg (by simp [h]), if_pos h, aNi]
    by_cases h2 : (k.Kind == 2) = true
    · have h3 : ¬ (k.Kind != 2) = true := by simp [bne, h2]
      rw [if_pos h2, if_neg h3, aAZ (by simp; omega), Option.bind_some]
      exact ⟨_, rfl, by simp; omega⟩
    · have h3 : (k.Kind != 2) = true := by simp [bne, h2]
      rw [if_neg h2, if_pos h3]
      have st : ∀ n (v : Nat) r, r.length ≤ 7 → v ≤ 5 → ∃ x : Int, dJ k (n + 1) (v : Int) r = dJ k n ((v : Int) - 1) (r ++ [x]) := by
        intro n v r hr hv
        apply Exists.intro
        simp only [dJ]
        rw [if_pos (by simp), if_pos (by rw [iN (by omega) (by omega)]; simp; omega), aAZ (by simp; omega), Option.bind_some, iN (n := (v : Int) - 1) (by omega) (by omega)]
      obtain ⟨x1, e1⟩ := st (18446744073709551609 + 6) 5 ([(IntKind.u8.wrap k.Kind)]) (by simp) (by simp)
      obtain ⟨x2, e2⟩ := st (18446744073709551609 + 5) 4 ([(IntKind.u8.wrap k.Kind)] ++ [x1]) (by simp) (by simp)
      obtain ⟨x3, e3⟩ := st (18446744073709551609 + 4) 3 ([(IntKind.u8.wrap k.Kind)] ++ [x1] ++ [x2]) (by simp) (by simp)
      obtain ⟨x4, e4⟩ := st (18446744073709551609 + 3) 2 ([(IntKind.u8.wrap k.Kind)] ++ [x1] ++ [x2] ++ [x3]) (by simp) (by simp)
      obtain ⟨x5, e5⟩ := st (18446744073709551609 + 2) 1 ([(IntKind.u8.wrap k.Kind)] ++ [x1] ++ [x2] ++ [x3] ++ [x4]) (by simp) (by simp)
      obtain ⟨x6, e6⟩ := st (18446744073709551609 + 1) 0 ([(IntKind.u8.wrap k.Kind)] ++ [x1] ++ [x2] ++ [x3] ++ [x4] ++ [x5]) (by simp) (by simp)
      have e7 : ∀ n r, r.length ≤ 7 → dJ k (n + 1) (-1) r = some (r ++ kP k.Text) := by
        intro n r hr
        simp only [dJ]
        rw [if_neg (by decide), aAZ (by omega), Option.bind_some]
      exact ⟨_, (e1.trans (e2.trans (e3.trans (e4.trans (e5.trans (e6.trans (e7 _ _ (by simp)))))))), by simp; omega⟩
  · rw [if_pos (by simp [h]), if_neg h]
    exact ⟨_, rfl, rfl⟩
def aE0 (sl : Bool) (b : UInt8) : Bool := (decide (97 ≤ b.toNat) && decide (b.toNat ≤ 122)) || (sl && decide (b.toNat = 47))
def aH5 (s : ByteArray) (n : Int) (sl : Bool) : Bool := aLx s (aE0 sl) && inR (s.size : Int) 1 n
def oI (s : ByteArray) : Bool := aLx s (aE0 false) && inR (s.size : Int) 1 8
theorem eI {s : ByteArray} (hs : s.size ≤ maxLen) : bZ s = some (oI s) := by
  have hm := le_max hs
  unfold bZ oI
  rw [aDt (L := iJ s) (g := aE0 false) (F := some false) (E := some (inR (s.size : Int) 1 8)) hs (fun n k hk => ?_) (fun n => ?_), bM]
  · simp only [iJ]
    rw [if_pos (bA hk), aDQ hk, Option.bind_some, bE (by omega)]
    generalize s[k] = b
    unfold aE0
    generalize iJ s n ((k + 1 : Nat) : Int) = Z
    simp only [Bool.or_eq_true, Bool.and_eq_true, decide_eq_true_eq, Bool.not_eq_true', decide_eq_false_iff_not, Bool.false_and, Bool.or_false]
    repeat' split
    all_goals first | rfl | (exfalso; omega)
  · simp only [iJ]
    rw [if_neg (by rw [aO]; simp), cZ, Option.bind_some]
theorem aDs {s : ByteArray} {m : Int} {sl : Bool} (hs : s.size ≤ maxLen) : wJ s m sl = some (aH5 s m sl) := by
  have hm := le_max hs
  unfold wJ aH5
  rw [aDt (L := fW s m sl) (g := aE0 sl) (F := some false) (E := some (inR (s.size : Int) 1 m)) hs (fun n k hk => ?_) (fun n => ?_), bM]
  · simp only [fW]
    rw [if_pos (bA hk), aDQ hk, Option.bind_some, bE (by omega)]
    generalize s[k] = b
    unfold aE0
    generalize fW s m sl n ((k + 1 : Nat) : Int) = Z
    cases sl <;> simp only [Bool.or_eq_true, Bool.and_eq_true, decide_eq_true_eq, Bool.not_eq_true', decide_eq_false_iff_not, Bool.false_and, Bool.or_false, Bool.true_and, beq_eq_false_iff_ne, ne_eq, Bool.false_eq_true, if_true, if_false]
    all_goals repeat' split
    all_goals first | rfl | (exfalso; omega)
  · simp only [fW]
    rw [if_neg (by rw [aO]; simp), bO, Option.bind_some]
theorem dF {s : ByteArray} (hs : s.size ≤ maxLen) : bS s = some (oI s) := by
  unfold bS
  rw [aDs hs, Option.bind_some]
  rfl
def aJt (x : M.Field) : Bool := oI x.Name && inR x.N 0 1000000000
def aCY (l : List M.Field) (k : Nat) : Bool := (l[k]?).any aJt && (decide (k = 0) || (l[k - 1]?).any fun y => (l[k]?).any fun x => Op.bytesLess y.Name.toList x.Name.toList)
def aAD (r : M.aU) : Bool := (List.range r.Fields.length).all (aCY r.Fields) && decide (r.Fields.length ≤ 6)
theorem aCW {r : M.aU} (hr : r.ok) : pQ r = some (aAD r) := by
  have hm := le_max hr.Fields.1
  unfold pQ aAD
  rw [jC (L := fM r) (g := aCY r.Fields) (F := some false) (E := some (decide (r.Fields.length ≤ 6))) hr.Fields.1 (fun n k hk => ?_) (fun n => ?_), bM]
  · have hf := hr.Fields.2 _ (List.getElem_mem hk)
    simp only [fM]
    rw [if_pos (bA hk), aN hk, Option.bind_some, bE (by omega), eI hf.Name, Option.bind_some, cZ, Option.bind_some]
    unfold aCY aJt
    rw [List.getElem?_eq_getElem hk]
    generalize fM r n ((k + 1 : Nat) : Int) = Z
    by_cases h0 : k = 0
    · subst h0
      simp only [Option.any_some]
      generalize oI r.Fields[0].Name = a
      generalize inR r.Fields[0].N 0 1000000000 = b
      cases a <;> cases b <;> simp
    · have e : IntKind.i64.wrap ((k : Int) - 1) = ((k - 1 : Nat) : Int) := by rw [iN (by omega) (by omega)]; omega
      have hk1 : k - 1 < r.Fields.length := by omega
      rw [if_pos (c := (decide ((k : Int) > 0)) = true) (by simp; omega), e, aN hk1, Option.bind_some, List.getElem?_eq_getElem hk1]
      simp only [Option.any_some, h0, decide_false, Bool.false_or]
      generalize oI r.Fields[k].Name = a
      generalize inR r.Fields[k].N 0 1000000000 = b
      generalize Op.bytesLess r.Fields[k - 1].Name.toList r.Fields[k].Name.toList = c
      cases a <;> cases b <;> cases c <;> simp
  · simp only [fM]
    rw [if_neg (by rw [aO]; simp)]
    simp; omega
theorem aCM {r : M.aU} (hr : r.ok) : pP r = some (aAD r) := by
  have hm := le_max hr.Fields.1
  unfold pP aAD
  rw [jC (L := fP r) (g := aCY r.Fields) (F := some false) (E := some (decide (r.Fields.length ≤ 6))) hr.Fields.1 (fun n k hk => ?_) (fun n => ?_), bM]
  · have hf := hr.Fields.2 _ (List.getElem_mem hk)
    simp only [fP]
    rw [if_pos (bA hk), aN hk, Option.bind_some, bE (by omega), dF hf.Name, Option.bind_some, bO, Option.bind_some]
    unfold aCY aJt
    rw [List.getElem?_eq_getElem hk]
    generalize fP r n ((k + 1 : Nat) : Int) = Z
    by_cases h0 : k = 0
    · subst h0
      simp only [Option.any_some]
      generalize oI r.Fields[0].Name = a
      generalize inR r.Fields[0].N 0 1000000000 = b
      cases a <;> cases b <;> simp
    · have e : IntKind.i64.wrap ((k : Int) - 1) = ((k - 1 : Nat) : Int) := by rw [iN (by omega) (by omega)]; omega
      have hk1 : k - 1 < r.Fields.length := by omega
      rw [if_pos (c := (decide ((k : Int) > 0)) = true) (by simp; omega), e, aN hk1, Option.bind_some, List.getElem?_eq_getElem hk1]
      simp only [Option.any_some, h0, decide_false, Bool.false_or]
      rw [aBr r.Fields[k - 1].Name.toList r.Fields[k].Name.toList]
      generalize oI r.Fields[k].Name = a
      generalize inR r.Fields[k].N 0 1000000000 = b
      generalize (Op.bytesLess r.Fields[k].Name.toList r.Fields[k - 1].Name.toList || r.Fields[k].Name.toList == r.Fields[k - 1].Name.toList) = c
      cases a <;> cases b <;> cases c <;> simp
  · simp only [fP]
    rw [if_neg (by rw [aO]; simp)]
    simp; omega
theorem aDv {r : M.aU} (h : aAD r = true) : r.Fields.length ≤ 6 ∧ ∀ x ∈ r.Fields, x.Name.size ≤ 8 ∧ 0 ≤ x.N ∧ x.N ≤ 1000000000 := by
  unfold aAD at h
  simp only [Bool.and_eq_true, decide_eq_true_eq, List.all_eq_true, List.mem_range] at h
  refine ⟨h.2, fun x hx => ?_⟩
  obtain ⟨k, hk, rfl⟩ := List.getElem_of_mem hx
  have := h.1 k hk
  unfold aCY aJt oI inR at this
  rw [List.getElem?_eq_getElem hk] at this
  simp only [Option.any_some, Bool.and_eq_true, decide_eq_true_eq] at this
  omega
theorem wK {r : List Int} {n : Nat} (hr : r.length ≤ 1048576) (hn : n ≤ 1000000000000) : ∃ l, gM r (n : Int) = some l ∧ l.length = r.length + (uv n).length := by
  have hi : inR (n : Int) 0 1000000000000 = true := by unfold inR; simp; omega
  unfold gM
  rw [aAZ (by simp; omega), Option.bind_some, cZ, Option.bind_some, hi, if_neg (by simp)]
  refine aKp (L := dH) (b := fun v => IntKind.u8.wrap (IntKind.i64.wrap (BitVec.ofInt (IntKind.i64.bits) (IntKind.i64.wrap (BitVec.ofInt (IntKind.i64.bits) v &&& BitVec.ofInt (IntKind.i64.bits) 127).toNat) ||| BitVec.ofInt (IntKind.i64.bits) 128).toNat)) (c := fun v => IntKind.u8.wrap v) (fun m n r h1 h2 => ?_) (fun m n r h1 => ?_) 8 fuel n r (by omega) (by omega) (by unfold fuel; omega) (by omega)
  · simp only [dH]
    rw [if_pos (by simp; omega), uvf]
  · simp only [dH]
    rw [if_neg (by simp; omega)]
theorem wL {r : List Int} {n : Nat} (hr : r.length ≤ 1048576) (hn : n ≤ 1000000000000) : ∃ l, gN r (n : Int) = some l ∧ l.length = r.length + (uv n).length := by
  have hi : inR (n : Int) 0 1000000000000 = true := by unfold inR; simp; omega
  unfold gN iK
  rw [aAZ (by simp; omega), Option.bind_some, Option.bind_some, bO, Option.bind_some, hi, if_neg (by simp)]
  refine aKp (L := eQ) (b := fun v => IntKind.u8.wrap (IntKind.i64.wrap ((Int.tmod v 128) + 128))) (c := fun v => IntKind.u8.wrap v) (fun m n r h1 h2 => ?_) (fun m n r h1 => ?_) 8 fuel n r (by omega) (by omega) (by unfold fuel; omega) (by omega)
  · simp only [eQ]
    rw [if_pos (by simp; omega), uvt h2]
  · simp only [eQ]
    rw [if_neg (by simp; omega)]
def zF (x : M.Field) : Nat := (uv x.Name.size).length + x.Name.size + (uv x.N.toNat).length
def aFg (r : M.aU) : Nat := if aAD r = true then (uv r.Fields.length).length + aD zF r.Fields else 0
theorem aDI {r b : List Int} (hr : r.length ≤ 1000) (hb : b.length ≤ 1000) : ∃ l, nP r b = some l ∧ l.length = r.length + ((uv b.length).length + b.length) := by
  obtain ⟨l, e, hl⟩ := wK (r := r) (n := b.length) (by omega) (by omega)
  have h9 := aCp b.length (by omega)
  refine ⟨l ++ b, ?_, by simp; omega⟩
  unfold nP
  rw [e, Option.bind_some, aAZ (by omega), Option.bind_some]
theorem aDA {r : M.aU} (hr : r.ok) : ∃ l, lN r = some l ∧ l.length = aFg r := by
  unfold lN aFg
  rw [aCW hr, Option.bind_some]
  by_cases h : aAD r = true
  · obtain ⟨h6, hf⟩ := aDv h
    have hw : ∀ x ∈ r.Fields, zF x ≤ 26 := by
      intro x hx
      have := hf x hx
      have h1 := aCp x.Name.size (by omega)
      have h2 := aCp x.N.toNat (by omega)
      unfold zF
      omega
    have hsum := aC8 hw
    obtain ⟨l, e, hl⟩ := wK (r := []) (n := r.Fields.length) (by simp) (by omega)
    have h9 := aCp r.Fields.length (by omega)
    rw [if_neg (by simp [h]), if_pos h, e, Option.bind_some]
    have := aJD (xs := r.Fields) (w := zF) (B := 900) (L := fK r) (fun n k hk q hq => ?_) (fun n q => ?_) fuel 0 l (by unfold fuel; omega) (by omega) (by simp at hl ⊢; omega)
    · obtain ⟨z, e2, hz⟩ := this
      exact ⟨z, e2, by simp at hl hz; omega⟩
    · have hx := hf _ (List.getElem_mem hk)
      have hw2 := hw _ (List.getElem_mem hk)
      obtain ⟨a, ea, ha⟩ := aDI (r := q) (b := kP r.Fields[k].Name) (by omega) (by rw [bF]; omega)
      rw [bF] at ha
      have hn := aCp r.Fields[k].Name.size (by omega)
      obtain ⟨b, eb, hb⟩ := wK (r := a) (n := r.Fields[k].N.toNat) (by omega) (by omega)
      rw [Int.toNat_of_nonneg hx.2.1] at eb
      refine ⟨b, by unfold zF; omega, ?_⟩
      simp only [fK]
      rw [if_pos (bA hk), aN hk, Option.bind_some, ea, Option.bind_some, eb, Option.bind_some, bE (by omega)]
    · simp only [fK]
      rw [if_neg (by rw [aO]; simp)]
  · rw [if_pos (by simp [h]), if_neg h]
    exact ⟨_, rfl, rfl⟩
theorem aD0 {r b : List Int} (hr : r.length ≤ 1000) (hb : b.length ≤ 1000) : ∃ l, mS r b = some l ∧ l.length = r.length + ((uv b.length).length + b.length) := by
  obtain ⟨l, e, hl⟩ := wL (r := r) (n := b.length) (by omega) (by omega)
  have h9 := aCp b.length (by omega)
  refine ⟨l ++ b, ?_, by simp; omega⟩
  unfold mS
  rw [e, Option.bind_some, aAZ (by omega), Option.bind_some]
theorem aDE {r : M.aU} (hr : r.ok) : ∃ l, lX r = some l ∧ l.length = aFg r := by
  unfold lX aFg
  rw [aCM hr, Option.bind_some]
  by_cases h : aAD r = true
  · obtain ⟨h6, hf⟩ := aDv h
    have hw : ∀ x ∈ r.Fields, zF x ≤ 26 := by
      intro x hx
      have := hf x hx
      have h1 := aCp x.Name.size (by omega)
      have h2 := aCp x.N.toNat (by omega)
      unfold zF
      omega
    have hsum := aC8 hw
    obtain ⟨l, e, hl⟩ := wL (r := []) (n := r.Fields.length) (by simp) (by omega)
    have h9 := aCp r.Fields.length (by omega)
    rw [if_neg (by simp [h]), if_pos h, e, Option.bind_some]
    have := aJD (xs := r.Fields) (w := zF) (B := 900) (L := fF r) (fun n k hk q hq => ?_) (fun n q => ?_) fuel 0 l (by unfold fuel; omega) (by omega) (by simp at hl ⊢; omega)
    · obtain ⟨z, e2, hz⟩ := this
      exact ⟨z, e2, by simp at hl hz; omega⟩
    · have hx := hf _ (List.getElem_mem hk)
      have hw2 := hw _ (List.getElem_mem hk)
      obtain ⟨a, ea, ha⟩ := aD0 (r := q) (b := kP r.Fields[k].Name) (by omega) (by rw [bF]; omega)
      rw [bF] at ha
      have hn := aCp r.Fields[k].Name.size (by omega)
      obtain ⟨b, eb, hb⟩ := wL (r := a) (n := r.Fields[k].N.toNat) (by omega) (by omega)
      rw [Int.toNat_of_nonneg hx.2.1] at eb
      refine ⟨b, by unfold zF; omega, ?_⟩
      simp only [fF]
      rw [if_pos (bA hk), aN hk, Option.bind_some, ea, Option.bind_some, eb, Option.bind_some, bE (by omega)]
    · simp only [fF]
      rw [if_neg (by rw [aO]; simp)]
  · rw [if_pos (by simp [h]), if_neg h]
    exact ⟨_, rfl, rfl⟩
def aF6 (v : Int) (x : M.Item) : Int := IntKind.i64.wrap (v + ((aF9 x.Key : Int) + (aFg x.aU : Int)))
def aA7 (s : M.aH) : Int := s.Items.foldl aF6 0
def zR (d : M.Database) : Int := d.Stores.foldl (fun v s => IntKind.i64.wrap (v + aA7 s)) 0
def aH4 (b : M.aE) : Int := IntKind.i64.wrap ((IntKind.i64.wrap ((IntKind.i64.wrap (aBB b.Caches + IntKind.i64.wrap (zR b.bC.Base + (List.length b.bC.Log : Int)))) + aA7 b.aC.Base)) + (IntKind.i64.wrap (40 * (List.length b.aC.Sync.aV.Writes : Int))))
theorem aB4 {s : M.aH} (hs : s.ok) : mO s = some (aA7 s) := by
  have hm := le_max hs.Items.1
  unfold mO aA7
  refine aEt (L := gY s) (E := some) hs.Items.1 (fun n v k hk => ?_) (fun n v => ?_) 0
  · have hi := hs.Items.2 _ (List.getElem_mem hk)
    obtain ⟨a, ea, ha⟩ := aFD hi.Key
    obtain ⟨b, eb, hb⟩ := aDA hi.aU
    simp only [gY]
    rw [if_pos (bA hk), aN hk, Option.bind_some, ea, Option.bind_some, eb, Option.bind_some, bE (by omega), ha, hb]
    unfold aF6
    rw [wrap_add, Int.add_assoc]
  · simp only [gY]
    rw [if_neg (by rw [aO]; simp)]
theorem aDC {d : M.Database} (hd : d.ok) : lS d = some (zR d) := by
  have hm := le_max hd.Stores.1
  unfold lS zR
  refine aEt (L := fJ d) (E := some) hd.Stores.1 (fun n v k hk => ?_) (fun n v => ?_) 0
  · have hi := hd.Stores.2 _ (List.getElem_mem hk)
    simp only [fJ]
    rw [if_pos (bA hk), aN hk, Option.bind_some, aB4 hi, Option.bind_some, bE (by omega)]
  · simp only [fJ]
    rw [if_neg (by rw [aO]; simp)]
theorem aGU {b : M.aE} (hb : b.ok) : xR b = some (aH4 b) := by
  unfold xR yY aH4
  rw [aEA hb.Caches, Option.bind_some, aDC hb.bC.Base, Option.bind_some, Option.bind_some, aB4 hb.aC.Base, Option.bind_some]
theorem aB0 {s : M.aH} (hs : s.ok) : mM s = some (aA7 s) := by
  have hm := le_max hs.Items.1
  unfold mM aA7
  refine aEt (L := gX s) (E := some) hs.Items.1 (fun n v k hk => ?_) (fun n v => ?_) 0
  · have hi := hs.Items.2 _ (List.getElem_mem hk)
    obtain ⟨a, ea, ha⟩ := aFJ hi.Key
    obtain ⟨b, eb, hb⟩ := aDE hi.aU
    simp only [gX]
    rw [if_pos (bA hk), aN hk, Option.bind_some, ea, Option.bind_some, eb, Option.bind_some, bE (by omega), ha, hb]
    unfold aF6
    rw [aLV]
  · simp only [gX]
    rw [if_neg (by rw [aO]; simp)]
theorem aC7 {d : M.Database} (hd : d.ok) : lR d = some (zR d) := by
  have hm := le_max hd.Stores.1
  unfold lR zR
  refine aEt (L := fG d) (E := some) hd.Stores.1 (fun n v k hk => ?_) (fun n v => ?_) 0
  · have hi := hd.Stores.2 _ (List.getElem_mem hk)
    simp only [fG]
    rw [if_pos (bA hk), aN hk, Option.bind_some, aB0 hi, Option.bind_some, bE (by omega)]
  · simp only [fG]
    rw [if_neg (by rw [aO]; simp)]
theorem aGj {b : M.aE} (hb : b.ok) : xK b = some (aH4 b) := by
  unfold xK zJ aH4
  rw [aEa hb.Caches, Option.bind_some, aC7 hb.bC.Base, Option.bind_some, Option.bind_some, aB0 hb.aC.Base, Option.bind_some]
end Go.Proofs.YtecmnmaaopkdfaaGreat.gen
