/-
  Helper text. No conditions.
-/
import Derived.Test.YtecmnmaaopkdfaaGreatPageSendPm
namespace Go.Proofs.YtecmnmaaopkdfaaGreat.gen
open Go Go.Sh
set_option linter.unusedVariables false
set_option linter.unusedSimpArgs false
theorem dC (x a b : Int) : bH x a b = some (inR x a b) := by
  unfold bH inR
  by_cases h : a ≤ x
  · rw [if_pos (by simpa using h)]; simp [h]
  · rw [if_neg (by simpa using h)]; simp [h]
theorem bO (x a b : Int) : aZ x a b = some (inR x a b) := by
  unfold aZ inR
  by_cases h : a ≤ x
  · rw [if_pos (by simpa using h)]; simp [h]
  · rw [if_neg (by simpa using h)]; simp [h]
def aGh (r : M.Response) (b : Bool) : Int := if b = true then 76 else IntKind.i64.wrap (16 + (List.length r.Body : Int))
theorem aEs (r : M.Response) (b : Bool) : pJ r b = some (aGh r b) := by unfold pJ aGh; cases b <;> rfl
theorem aEL (r : M.Response) (b : Bool) : pS r b = some (aGh r b) := by unfold pS aGh; cases b <;> rfl
def aKa (v : Int) (x : M.Cached) : Int := IntKind.i64.wrap (v + aGh x.Response (x.Response.Type_ == 3))
def aBQ (s : M.aT) : Int := s.Caches.foldl (fun v c => c.Entries.foldl aKa v) 0
theorem aEc {s : M.aT} (hs : s.ok) : oU s = some (aBQ s) := by
  have hm := le_max hs.Caches.1
  unfold oU aBQ
  refine aE0 (L := eI s) (E := some) hs.Caches.1 (fun n v k hk => ?_) (fun n v => ?_) 0
  · have hc := hs.Caches.2 _ (List.getElem_mem hk)
    have hm2 := le_max hc.Entries.1
    simp only [eI]
    rw [if_pos (bA hk), bE (by omega)]
    refine aE0 (xs := s.Caches[k].Entries) (L := gQ s (k : Int) (fun v3 _ => eI s n v3 ((k + 1 : Nat) : Int))) (E := fun v3 => eI s n v3 ((k + 1 : Nat) : Int)) hc.Entries.1 (fun n v j hj => ?_) (fun n v => ?_) v
    · simp only [gQ]
      rw [aN hk, Option.bind_some, if_pos (bA hj), aN hj, Option.bind_some, aEs, Option.bind_some, bE (by omega)]
      rfl
    · simp only [gQ]
      rw [aN hk, Option.bind_some, if_neg (by rw [aO]; simp)]
  · simp only [eI]
    rw [if_neg (by rw [aO]; simp)]
theorem aEZ {s : M.aT} (hs : s.ok) : pP s = some (aBQ s) := by
  have hm := le_max hs.Caches.1
  unfold pP aBQ
  refine aE0 (L := eL s) (E := some) hs.Caches.1 (fun n v k hk => ?_) (fun n v => ?_) 0
  · have hc := hs.Caches.2 _ (List.getElem_mem hk)
    have hm2 := le_max hc.Entries.1
    simp only [eL]
    rw [if_pos (bA hk), bE (by omega), aN hk, Option.bind_some]
    refine aE0 (xs := s.Caches[k].Entries) (L := gN s.Caches[k] (fun v3 _ => eL s n v3 ((k + 1 : Nat) : Int))) (E := fun v3 => eL s n v3 ((k + 1 : Nat) : Int)) hc.Entries.1 (fun n v j hj => ?_) (fun n v => ?_) v
    · simp only [gN]
      rw [if_pos (bA hj), aN hj, Option.bind_some, aEL, Option.bind_some, bE (by omega)]
      rfl
    · simp only [gN]
      rw [if_neg (by rw [aO]; simp)]
  · simp only [eL]
    rw [if_neg (by rw [aO]; simp)]
def aIp (b : UInt8) : Bool := (decide (97 ≤ b.toNat) && decide (b.toNat ≤ 122)) || (decide (48 ≤ b.toNat) && decide (b.toNat ≤ 57))
def aIm (s : ByteArray) : Bool := aMG s aIp && decide (s.size ≤ 12)
theorem aHt {s : ByteArray} (hs : s.size ≤ maxLen) : wR s = some (aIm s) := by
  have hm := le_max hs
  unfold wR aIm
  rw [aDs (L := fZ s) (g := aIp) (F := some false) (E := some (decide (s.size ≤ 12))) hs (fun n k hk => ?_) (fun n => ?_), bL]
  · simp only [fZ]
    rw [if_pos (bA hk), aDT hk, Option.bind_some, bE (by omega)]
    generalize s[k] = b
    unfold aIp
    generalize fZ s n ((k + 1 : Nat) : Int) = Z
    simp only [Bool.or_eq_true, Bool.and_eq_true, decide_eq_true_eq, Bool.not_eq_true', decide_eq_false_iff_not]
    repeat' split
    all_goals first | rfl | (exfalso; omega)
  · simp only [fZ]
    rw [if_neg (by rw [aO]; simp)]
    simp; omega
theorem aFI {s : ByteArray} (hs : s.size ≤ maxLen) : rH s = some (aIm s) := by
  have hm := le_max hs
  unfold rH aIm
  rw [aDs (L := dW s) (g := aIp) (F := some false) (E := some (decide (s.size ≤ 12))) hs (fun n k hk => ?_) (fun n => ?_), bL]
  · simp only [dW]
    rw [if_pos (bA hk), aDT hk, Option.bind_some, bE (by omega)]
    generalize s[k] = b
    unfold aIp
    generalize dW s n ((k + 1 : Nat) : Int) = Z
    simp only [Bool.or_eq_true, Bool.and_eq_true, decide_eq_true_eq, Bool.not_eq_true', decide_eq_false_iff_not]
    repeat' split
    all_goals first | rfl | (exfalso; omega)
  · simp only [dW]
    rw [if_neg (by rw [aO]; simp)]
    simp; omega
def aGy (k : M.Key) : Bool := inR k.Kind 1 3 && (inR k.N (-1000000000000) 1000000000000 && (aIm k.Text && ((k.Kind != 2 || k.N == 0) && (k.Kind != 1 || (k.Text.toList == (⟨#[]⟩ : ByteArray).toList)))))
theorem aAx {k : M.Key} (hk : k.ok) : nD k = some (aGy k) := by
  have ht := aHt hk.Text
  unfold nD aGy
  simp only [dC, ht, Option.bind_some]
  generalize inR k.Kind 1 3 = a
  generalize inR k.N (-1000000000000) 1000000000000 = b
  generalize aIm k.Text = c
  generalize (k.Text.toList == (⟨#[]⟩ : ByteArray).toList) = g
  by_cases h1 : k.Kind = 2 <;> by_cases h2 : k.Kind = 1 <;> by_cases h3 : k.N = 0 <;> cases a <;> cases b <;> cases c <;> cases g <;> simp [h1, h2, h3] <;> omega
theorem aAu {k : M.Key} (hk : k.ok) : nK k = some (aGy k) := by
  have ht := aFI hk.Text
  unfold nK aGy
  simp only [bO, ht, Option.bind_some]
  generalize inR k.Kind 1 3 = a
  generalize inR k.N (-1000000000000) 1000000000000 = b
  generalize aIm k.Text = c
  generalize (k.Text.toList == (⟨#[]⟩ : ByteArray).toList) = g
  by_cases h1 : k.Kind = 2 <;> by_cases h2 : k.Kind = 1 <;> by_cases h3 : k.N = 0 <;> cases a <;> cases b <;> cases c <;> cases g <;> simp [h1, h2, h3] <;> omega
theorem aI6 {k : M.Key} (h : aGy k = true) : k.Text.size ≤ 12 := by
  unfold aGy aIm at h
  simp only [Bool.and_eq_true, decide_eq_true_eq] at h
  omega
def aGM (k : M.Key) : Nat := if aGy k = true then (if (k.Kind == 2) = true then 1 + k.Text.size else 7 + k.Text.size) else 0
theorem aFU {k : M.Key} (hk : k.ok) : ∃ l, tI k = some l ∧ l.length = aGM k := by
  unfold tI aGM
  rw [aAx hk, Option.bind_some]
  by_cases h : aGy k = true
  · have ht := aI6 h
    have hl := bC k.Text
    rw [if_neg (by simp [h]), if_pos h, aOc]
    by_cases h2 : (k.Kind == 2) = true
    · have h3 : ¬ (k.Kind != 2) = true := by simp [bne, h2]
      rw [if_pos h2]
      have e0 : ∀ n r, r.length ≤ 7 → bX k (n + 1) 5 r = some (r ++ kU k.Text) := by
        intro n r hr
        simp only [bX]
        rw [if_pos (by decide), if_neg h3, wW (by omega), Option.bind_some]
      exact ⟨_, e0 (18446744073709551609 + 6) _ (by simp), by simp; omega⟩
    · have h3 : (k.Kind != 2) = true := by simp [bne, h2]
      rw [if_neg h2]
      have st : ∀ n (v : Nat) r, r.length ≤ 7 → v ≤ 5 → ∃ x : Int, bX k (n + 1) (v : Int) r = bX k n ((v : Int) - 1) (r ++ [x]) := by
        intro n v r hr hv
        apply Exists.intro
        simp only [bX]
        rw [if_pos (by simp), if_pos h3, if_pos (by rw [iG (by omega) (by omega)]; simp; omega), wW (by simp; omega), Option.bind_some, iG (n := (v : Int) - 1) (by omega) (by omega)]
      obtain ⟨x1, e1⟩ := st (18446744073709551609 + 6) 5 ([(IntKind.u8.wrap k.Kind)]) (by simp) (by simp)
      obtain ⟨x2, e2⟩ := st (18446744073709551609 + 5) 4 ([(IntKind.u8.wrap k.Kind)] ++ [x1]) (by simp) (by simp)
      obtain ⟨x3, e3⟩ := st (18446744073709551609 + 4) 3 ([(IntKind.u8.wrap k.Kind)] ++ [x1] ++ [x2]) (by simp) (by simp)
      obtain ⟨x4, e4⟩ := st (18446744073709551609 + 3) 2 ([(IntKind.u8.wrap k.Kind)] ++ [x1] ++ [x2] ++ [x3]) (by simp) (by simp)
      obtain ⟨x5, e5⟩ := st (18446744073709551609 + 2) 1 ([(IntKind.u8.wrap k.Kind)] ++ [x1] ++ [x2] ++ [x3] ++ [x4]) (by simp) (by simp)
      obtain ⟨x6, e6⟩ := st (18446744073709551609 + 1) 0 ([(IntKind.u8.wrap k.Kind)] ++ [x1] ++ [x2] ++ [x3] ++ [x4] ++ [x5]) (by simp) (by simp)
      have e7 : ∀ n r, r.length ≤ 7 → bX k (n + 1) (-1) r = some (r ++ kU k.Text) := by
        intro n r hr
        simp only [bX]
        rw [if_neg (by decide), wW (by omega), Option.bind_some]
      exact ⟨_, (e1.trans (e2.trans (e3.trans (e4.trans (e5.trans (e6.trans (e7 _ _ (by simp)))))))), by simp; omega⟩
  · rw [if_pos (by simp [h]), if_neg h]
    exact ⟨_, rfl, rfl⟩
theorem aFS {k : M.Key} (hk : k.ok) : ∃ l, sX k = some l ∧ l.length = aGM k := by
  unfold sX aGM
  rw [aAu hk, Option.bind_some]
  by_cases h : aGy k = true
  · have ht := aI6 h
    have hl := bC k.Text
    rw [if_neg (by simp [h]), if_pos h, aOc]
    by_cases h2 : (k.Kind == 2) = true
    · have h3 : ¬ (k.Kind != 2) = true := by simp [bne, h2]
      rw [if_pos h2, if_neg h3, wW (by simp; omega), Option.bind_some]
      exact ⟨_, rfl, by simp; omega⟩
    · have h3 : (k.Kind != 2) = true := by simp [bne, h2]
      rw [if_neg h2, if_pos h3]
      have st : ∀ n (v : Nat) r, r.length ≤ 7 → v ≤ 5 → ∃ x : Int, dP k (n + 1) (v : Int) r = dP k n ((v : Int) - 1) (r ++ [x]) := by
        intro n v r hr hv
        apply Exists.intro
        simp only [dP]
        rw [if_pos (by simp), if_pos (by rw [iG (by omega) (by omega)]; simp; omega), wW (by simp; omega), Option.bind_some, iG (n := (v : Int) - 1) (by omega) (by omega)]
      obtain ⟨x1, e1⟩ := st (18446744073709551609 + 6) 5 ([(IntKind.u8.wrap k.Kind)]) (by simp) (by simp)
      obtain ⟨x2, e2⟩ := st (18446744073709551609 + 5) 4 ([(IntKind.u8.wrap k.Kind)] ++ [x1]) (by simp) (by simp)
      obtain ⟨x3, e3⟩ := st (18446744073709551609 + 4) 3 ([(IntKind.u8.wrap k.Kind)] ++ [x1] ++ [x2]) (by simp) (by simp)
      obtain ⟨x4, e4⟩ := st (18446744073709551609 + 3) 2 ([(IntKind.u8.wrap k.Kind)] ++ [x1] ++ [x2] ++ [x3]) (by simp) (by simp)
      obtain ⟨x5, e5⟩ := st (18446744073709551609 + 2) 1 ([(IntKind.u8.wrap k.Kind)] ++ [x1] ++ [x2] ++ [x3] ++ [x4]) (by simp) (by simp)
      obtain ⟨x6, e6⟩ := st (18446744073709551609 + 1) 0 ([(IntKind.u8.wrap k.Kind)] ++ [x1] ++ [x2] ++ [x3] ++ [x4] ++ [x5]) (by simp) (by simp)
      have e7 : ∀ n r, r.length ≤ 7 → dP k (n + 1) (-1) r = some (r ++ kU k.Text) := by
        intro n r hr
        simp only [dP]
        rw [if_neg (by decide), wW (by omega), Option.bind_some]
      exact ⟨_, (e1.trans (e2.trans (e3.trans (e4.trans (e5.trans (e6.trans (e7 _ _ (by simp)))))))), by simp; omega⟩
  · rw [if_pos (by simp [h]), if_neg h]
    exact ⟨_, rfl, rfl⟩
def aE8 (sl : Bool) (b : UInt8) : Bool := (decide (97 ≤ b.toNat) && decide (b.toNat ≤ 122)) || (sl && decide (b.toNat = 47))
def aIX (s : ByteArray) (n : Int) (sl : Bool) : Bool := aMG s (aE8 sl) && inR (s.size : Int) 1 n
def oO (s : ByteArray) : Bool := aMG s (aE8 false) && inR (s.size : Int) 1 8
theorem eC {s : ByteArray} (hs : s.size ≤ maxLen) : cD s = some (oO s) := by
  have hm := le_max hs
  unfold cD oO
  rw [aDs (L := iS s) (g := aE8 false) (F := some false) (E := some (inR (s.size : Int) 1 8)) hs (fun n k hk => ?_) (fun n => ?_), bL]
  · simp only [iS]
    rw [if_pos (bA hk), aDT hk, Option.bind_some, bE (by omega)]
    generalize s[k] = b
    unfold aE8
    generalize iS s n ((k + 1 : Nat) : Int) = Z
    simp only [Bool.or_eq_true, Bool.and_eq_true, decide_eq_true_eq, Bool.not_eq_true', decide_eq_false_iff_not, Bool.false_and, Bool.or_false]
    repeat' split
    all_goals first | rfl | (exfalso; omega)
  · simp only [iS]
    rw [if_neg (by rw [aO]; simp), dC, Option.bind_some]
theorem aDb {s : ByteArray} {m : Int} {sl : Bool} (hs : s.size ≤ maxLen) : wL s m sl = some (aIX s m sl) := by
  have hm := le_max hs
  unfold wL aIX
  rw [aDs (L := gA s m sl) (g := aE8 sl) (F := some false) (E := some (inR (s.size : Int) 1 m)) hs (fun n k hk => ?_) (fun n => ?_), bL]
  · simp only [gA]
    rw [if_pos (bA hk), aDT hk, Option.bind_some, bE (by omega)]
    generalize s[k] = b
    unfold aE8
    generalize gA s m sl n ((k + 1 : Nat) : Int) = Z
    cases sl <;> simp only [Bool.or_eq_true, Bool.and_eq_true, decide_eq_true_eq, Bool.not_eq_true', decide_eq_false_iff_not, Bool.false_and, Bool.or_false, Bool.true_and, beq_eq_false_iff_ne, ne_eq, Bool.false_eq_true, if_true, if_false]
    all_goals repeat' split
    all_goals first | rfl | (exfalso; omega)
  · simp only [gA]
    rw [if_neg (by rw [aO]; simp), bO, Option.bind_some]
theorem dI {s : ByteArray} (hs : s.size ≤ maxLen) : bR s = some (oO s) := by
  unfold bR
  rw [aDb hs, Option.bind_some]
  rfl
def aJ3 (x : M.Field) : Bool := oO x.Name && inR x.N 0 1000000000
def aCo (l : List M.Field) (k : Nat) : Bool := (l[k]?).any aJ3 && (decide (k = 0) || (l[k - 1]?).any fun y => (l[k]?).any fun x => Op.bytesLess y.Name.toList x.Name.toList)
def zZ (r : M.aU) : Bool := (List.range r.Fields.length).all (aCo r.Fields) && decide (r.Fields.length ≤ 6)
theorem aCQ {r : M.aU} (hr : r.ok) : qA r = some (zZ r) := by
  have hm := le_max hr.Fields.1
  unfold qA zZ
  rw [jJ (L := fT r) (g := aCo r.Fields) (F := some false) (E := some (decide (r.Fields.length ≤ 6))) hr.Fields.1 (fun n k hk => ?_) (fun n => ?_), bL]
  · have hf := hr.Fields.2 _ (List.getElem_mem hk)
    simp only [fT]
    rw [if_pos (bA hk), aN hk, Option.bind_some, bE (by omega), eC hf.Name, Option.bind_some, dC, Option.bind_some]
    unfold aCo aJ3
    rw [List.getElem?_eq_getElem hk]
    generalize fT r n ((k + 1 : Nat) : Int) = Z
    by_cases h0 : k = 0
    · subst h0
      simp only [Option.any_some]
      generalize oO r.Fields[0].Name = a
      generalize inR r.Fields[0].N 0 1000000000 = b
      cases a <;> cases b <;> simp
    · have e : IntKind.i64.wrap ((k : Int) - 1) = ((k - 1 : Nat) : Int) := by rw [iG (by omega) (by omega)]; omega
      have hk1 : k - 1 < r.Fields.length := by omega
      rw [if_pos (c := (decide ((k : Int) > 0)) = true) (by simp; omega), e, aN hk1, Option.bind_some, List.getElem?_eq_getElem hk1]
      simp only [Option.any_some, h0, decide_false, Bool.false_or]
      generalize oO r.Fields[k].Name = a
      generalize inR r.Fields[k].N 0 1000000000 = b
      generalize Op.bytesLess r.Fields[k - 1].Name.toList r.Fields[k].Name.toList = c
      cases a <;> cases b <;> cases c <;> simp
  · simp only [fT]
    rw [if_neg (by rw [aO]; simp)]
    simp; omega
theorem aCO {r : M.aU} (hr : r.ok) : pV r = some (zZ r) := by
  have hm := le_max hr.Fields.1
  unfold pV zZ
  rw [jJ (L := fS r) (g := aCo r.Fields) (F := some false) (E := some (decide (r.Fields.length ≤ 6))) hr.Fields.1 (fun n k hk => ?_) (fun n => ?_), bL]
  · have hf := hr.Fields.2 _ (List.getElem_mem hk)
    simp only [fS]
    rw [if_pos (bA hk), aN hk, Option.bind_some, bE (by omega), dI hf.Name, Option.bind_some, bO, Option.bind_some]
    unfold aCo aJ3
    rw [List.getElem?_eq_getElem hk]
    generalize fS r n ((k + 1 : Nat) : Int) = Z
    by_cases h0 : k = 0
    · subst h0
      simp only [Option.any_some]
      generalize oO r.Fields[0].Name = a
      generalize inR r.Fields[0].N 0 1000000000 = b
      cases a <;> cases b <;> simp
    · have e : IntKind.i64.wrap ((k : Int) - 1) = ((k - 1 : Nat) : Int) := by rw [iG (by omega) (by omega)]; omega
      have hk1 : k - 1 < r.Fields.length := by omega
      rw [if_pos (c := (decide ((k : Int) > 0)) = true) (by simp; omega), e, aN hk1, Option.bind_some, List.getElem?_eq_getElem hk1]
      simp only [Option.any_some, h0, decide_false, Bool.false_or]
      rw [aB8 r.Fields[k - 1].Name.toList r.Fields[k].Name.toList]
      generalize oO r.Fields[k].Name = a
      generalize inR r.Fields[k].N 0 1000000000 = b
      generalize (Op.bytesLess r.Fields[k].Name.toList r.Fields[k - 1].Name.toList || r.Fields[k].Name.toList == r.Fields[k - 1].Name.toList) = c
      cases a <;> cases b <;> cases c <;> simp
  · simp only [fS]
    rw [if_neg (by rw [aO]; simp)]
    simp; omega
theorem aDQ {r : M.aU} (h : zZ r = true) : r.Fields.length ≤ 6 ∧ ∀ x ∈ r.Fields, x.Name.size ≤ 8 ∧ 0 ≤ x.N ∧ x.N ≤ 1000000000 := by
  unfold zZ at h
  simp only [Bool.and_eq_true, decide_eq_true_eq, List.all_eq_true, List.mem_range] at h
  refine ⟨h.2, fun x hx => ?_⟩
  obtain ⟨k, hk, rfl⟩ := List.getElem_of_mem hx
  have := h.1 k hk
  unfold aCo aJ3 oO inR at this
  rw [List.getElem?_eq_getElem hk] at this
  simp only [Option.any_some, Bool.and_eq_true, decide_eq_true_eq] at this
  omega
theorem wZ {r : List Int} {n : Nat} (hr : r.length ≤ 1048576) (hn : n ≤ 1000000000000) : ∃ l, gP r (n : Int) = some l ∧ l.length = r.length + (uv n).length := by
  have hi : inR (n : Int) 0 1000000000000 = true := by unfold inR; simp; omega
  unfold gP
  rw [wW (by simp; omega), Option.bind_some, dC, Option.bind_some, hi, if_neg (by simp)]
  refine aLZ (L := dH) (b := fun v => IntKind.u8.wrap (IntKind.i64.wrap (BitVec.ofInt (IntKind.i64.bits) (IntKind.i64.wrap (BitVec.ofInt (IntKind.i64.bits) v &&& BitVec.ofInt (IntKind.i64.bits) 127).toNat) ||| BitVec.ofInt (IntKind.i64.bits) 128).toNat)) (c := fun v => IntKind.u8.wrap v) (fun m n r h1 h2 => ?_) (fun m n r h1 => ?_) 8 fuel n r (by omega) (by omega) (by unfold fuel; omega) (by omega)
  · simp only [dH]
    rw [if_pos (by simp; omega), uvf]
  · simp only [dH]
    rw [if_neg (by simp; omega)]
theorem wX {r : List Int} {n : Nat} (hr : r.length ≤ 1048576) (hn : n ≤ 1000000000000) : ∃ l, gO r (n : Int) = some l ∧ l.length = r.length + (uv n).length := by
  have hi : inR (n : Int) 0 1000000000000 = true := by unfold inR; simp; omega
  unfold gO iR
  rw [wW (by simp; omega), Option.bind_some, Option.bind_some, bO, Option.bind_some, hi, if_neg (by simp)]
  refine aLZ (L := fE) (b := fun v => IntKind.u8.wrap (IntKind.i64.wrap ((Int.tmod v 128) + 128))) (c := fun v => IntKind.u8.wrap v) (fun m n r h1 h2 => ?_) (fun m n r h1 => ?_) 8 fuel n r (by omega) (by omega) (by unfold fuel; omega) (by omega)
  · simp only [fE]
    rw [if_pos (by simp; omega), uvt h2]
  · simp only [fE]
    rw [if_neg (by simp; omega)]
def aAZ (x : M.Field) : Nat := (uv x.Name.size).length + x.Name.size + (uv x.N.toNat).length
def aFr (r : M.aU) : Nat := if zZ r = true then (uv r.Fields.length).length + aD aAZ r.Fields else 0
theorem aDX {r b : List Int} (hr : r.length ≤ 1000) (hb : b.length ≤ 1000) : ∃ l, nG r b = some l ∧ l.length = r.length + ((uv b.length).length + b.length) := by
  obtain ⟨l, e, hl⟩ := wZ (r := r) (n := b.length) (by omega) (by omega)
  have h9 := aCx b.length (by omega)
  refine ⟨l ++ b, ?_, by simp; omega⟩
  unfold nG
  rw [e, Option.bind_some, wW (by omega), Option.bind_some]
theorem aDF {r : M.aU} (hr : r.ok) : ∃ l, mB r = some l ∧ l.length = aFr r := by
  unfold mB aFr
  rw [aCQ hr, Option.bind_some]
  by_cases h : zZ r = true
  · obtain ⟨h6, hf⟩ := aDQ h
    have hw : ∀ x ∈ r.Fields, aAZ x ≤ 26 := by
      intro x hx
      have := hf x hx
      have h1 := aCx x.Name.size (by omega)
      have h2 := aCx x.N.toNat (by omega)
      unfold aAZ
      omega
    have hsum := aDN hw
    obtain ⟨l, e, hl⟩ := wZ (r := []) (n := r.Fields.length) (by simp) (by omega)
    have h9 := aCx r.Fields.length (by omega)
    rw [if_neg (by simp [h]), if_pos h, e, Option.bind_some]
    have := aJP (xs := r.Fields) (w := aAZ) (B := 900) (L := fM r) (fun n k hk q hq => ?_) (fun n q => ?_) fuel 0 l (by unfold fuel; omega) (by omega) (by simp at hl ⊢; omega)
    · obtain ⟨z, e2, hz⟩ := this
      exact ⟨z, e2, by simp at hl hz; omega⟩
    · have hx := hf _ (List.getElem_mem hk)
      have hw2 := hw _ (List.getElem_mem hk)
      obtain ⟨a, ea, ha⟩ := aDX (r := q) (b := kU r.Fields[k].Name) (by omega) (by rw [bC]; omega)
      rw [bC] at ha
      have hn := aCx r.Fields[k].Name.size (by omega)
      obtain ⟨b, eb, hb⟩ := wZ (r := a) (n := r.Fields[k].N.toNat) (by omega) (by omega)
      rw [Int.toNat_of_nonneg hx.2.1] at eb
      refine ⟨b, by unfold aAZ; omega, ?_⟩
      simp only [fM]
      rw [if_pos (bA hk), aN hk, Option.bind_some, ea, Option.bind_some, eb, Option.bind_some, bE (by omega)]
    · simp only [fM]
      rw [if_neg (by rw [aO]; simp)]
  · rw [if_pos (by simp [h]), if_neg h]
    exact ⟨_, rfl, rfl⟩
theorem aDm {r b : List Int} (hr : r.length ≤ 1000) (hb : b.length ≤ 1000) : ∃ l, nE r b = some l ∧ l.length = r.length + ((uv b.length).length + b.length) := by
  obtain ⟨l, e, hl⟩ := wX (r := r) (n := b.length) (by omega) (by omega)
  have h9 := aCx b.length (by omega)
  refine ⟨l ++ b, ?_, by simp; omega⟩
  unfold nE
  rw [e, Option.bind_some, wW (by omega), Option.bind_some]
theorem aC4 {r : M.aU} (hr : r.ok) : ∃ l, lS r = some l ∧ l.length = aFr r := by
  unfold lS aFr
  rw [aCO hr, Option.bind_some]
  by_cases h : zZ r = true
  · obtain ⟨h6, hf⟩ := aDQ h
    have hw : ∀ x ∈ r.Fields, aAZ x ≤ 26 := by
      intro x hx
      have := hf x hx
      have h1 := aCx x.Name.size (by omega)
      have h2 := aCx x.N.toNat (by omega)
      unfold aAZ
      omega
    have hsum := aDN hw
    obtain ⟨l, e, hl⟩ := wX (r := []) (n := r.Fields.length) (by simp) (by omega)
    have h9 := aCx r.Fields.length (by omega)
    rw [if_neg (by simp [h]), if_pos h, e, Option.bind_some]
    have := aJP (xs := r.Fields) (w := aAZ) (B := 900) (L := fO r) (fun n k hk q hq => ?_) (fun n q => ?_) fuel 0 l (by unfold fuel; omega) (by omega) (by simp at hl ⊢; omega)
    · obtain ⟨z, e2, hz⟩ := this
      exact ⟨z, e2, by simp at hl hz; omega⟩
    · have hx := hf _ (List.getElem_mem hk)
      have hw2 := hw _ (List.getElem_mem hk)
      obtain ⟨a, ea, ha⟩ := aDm (r := q) (b := kU r.Fields[k].Name) (by omega) (by rw [bC]; omega)
      rw [bC] at ha
      have hn := aCx r.Fields[k].Name.size (by omega)
      obtain ⟨b, eb, hb⟩ := wX (r := a) (n := r.Fields[k].N.toNat) (by omega) (by omega)
      rw [Int.toNat_of_nonneg hx.2.1] at eb
      refine ⟨b, by unfold aAZ; omega, ?_⟩
      simp only [fO]
      rw [if_pos (bA hk), aN hk, Option.bind_some, ea, Option.bind_some, eb, Option.bind_some, bE (by omega)]
    · simp only [fO]
      rw [if_neg (by rw [aO]; simp)]
  · rw [if_pos (by simp [h]), if_neg h]
    exact ⟨_, rfl, rfl⟩
def aF6 (v : Int) (x : M.Item) : Int := IntKind.i64.wrap (v + ((aGM x.Key : Int) + (aFr x.aU : Int)))
def aBJ (s : M.aG) : Int := s.Items.foldl aF6 0
def aAF (d : M.Database) : Int := d.Stores.foldl (fun v s => IntKind.i64.wrap (v + aBJ s)) 0
def aJB (b : M.aE) : Int := IntKind.i64.wrap ((IntKind.i64.wrap ((IntKind.i64.wrap (aBQ b.Caches + IntKind.i64.wrap (aAF b.bG.Base + (List.length b.bG.Log : Int)))) + aBJ b.aC.Base)) + (IntKind.i64.wrap (40 * (List.length b.aC.Sync.aV.Writes : Int))))
theorem aCH {s : M.aG} (hs : s.ok) : mM s = some (aBJ s) := by
  have hm := le_max hs.Items.1
  unfold mM aBJ
  refine aE0 (L := hJ s) (E := some) hs.Items.1 (fun n v k hk => ?_) (fun n v => ?_) 0
  · have hi := hs.Items.2 _ (List.getElem_mem hk)
    obtain ⟨a, ea, ha⟩ := aFU hi.Key
    obtain ⟨b, eb, hb⟩ := aDF hi.aU
    simp only [hJ]
    rw [if_pos (bA hk), aN hk, Option.bind_some, ea, Option.bind_some, eb, Option.bind_some, bE (by omega), ha, hb]
    unfold aF6
    rw [wrap_add, Int.add_assoc]
  · simp only [hJ]
    rw [if_neg (by rw [aO]; simp)]
theorem aDC {d : M.Database} (hd : d.ok) : lW d = some (aAF d) := by
  have hm := le_max hd.Stores.1
  unfold lW aAF
  refine aE0 (L := fK d) (E := some) hd.Stores.1 (fun n v k hk => ?_) (fun n v => ?_) 0
  · have hi := hd.Stores.2 _ (List.getElem_mem hk)
    simp only [fK]
    rw [if_pos (bA hk), aN hk, Option.bind_some, aCH hi, Option.bind_some, bE (by omega)]
  · simp only [fK]
    rw [if_neg (by rw [aO]; simp)]
theorem aG5 {b : M.aE} (hb : b.ok) : yB b = some (aJB b) := by
  unfold yB aAN aJB
  rw [aEc hb.Caches, Option.bind_some, aDC hb.bG.Base, Option.bind_some, Option.bind_some, aCH hb.aC.Base, Option.bind_some]
theorem aCC {s : M.aG} (hs : s.ok) : mO s = some (aBJ s) := by
  have hm := le_max hs.Items.1
  unfold mO aBJ
  refine aE0 (L := hP s) (E := some) hs.Items.1 (fun n v k hk => ?_) (fun n v => ?_) 0
  · have hi := hs.Items.2 _ (List.getElem_mem hk)
    obtain ⟨a, ea, ha⟩ := aFS hi.Key
    obtain ⟨b, eb, hb⟩ := aC4 hi.aU
    simp only [hP]
    rw [if_pos (bA hk), aN hk, Option.bind_some, ea, Option.bind_some, eb, Option.bind_some, bE (by omega), ha, hb]
    unfold aF6
    rw [aK5]
  · simp only [hP]
    rw [if_neg (by rw [aO]; simp)]
theorem aC7 {d : M.Database} (hd : d.ok) : lQ d = some (aAF d) := by
  have hm := le_max hd.Stores.1
  unfold lQ aAF
  refine aE0 (L := fI d) (E := some) hd.Stores.1 (fun n v k hk => ?_) (fun n v => ?_) 0
  · have hi := hd.Stores.2 _ (List.getElem_mem hk)
    simp only [fI]
    rw [if_pos (bA hk), aN hk, Option.bind_some, aCC hi, Option.bind_some, bE (by omega)]
  · simp only [fI]
    rw [if_neg (by rw [aO]; simp)]
theorem aGu {b : M.aE} (hb : b.ok) : xY b = some (aJB b) := by
  unfold xY aAc aJB
  rw [aEZ hb.Caches, Option.bind_some, aC7 hb.bG.Base, Option.bind_some, Option.bind_some, aCC hb.aC.Base, Option.bind_some]
end Go.Proofs.YtecmnmaaopkdfaaGreat.gen
