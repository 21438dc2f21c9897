/-
  Helper text. No conditions.
-/
import Derived.Test.YtecmnmaaopkdfaaGreatPageLockPm
namespace Go.Proofs.YtecmnmaaopkdfaaGreat.gen
open Go Go.Sh
set_option linter.unusedVariables false
set_option linter.unusedSimpArgs false
theorem dB (x a b : Int) : bJ x a b = some (inR x a b) := by
  unfold bJ inR
  by_cases h : a ≤ x
  · rw [if_pos (by simpa using h)]; simp [h]
  · rw [if_neg (by simpa using h)]; simp [h]
theorem bO (x a b : Int) : aZ x a b = some (inR x a b) := by
  unfold aZ inR
  by_cases h : a ≤ x
  · rw [if_pos (by simpa using h)]; simp [h]
  · rw [if_neg (by simpa using h)]; simp [h]
def aGb (r : M.Response) (b : Bool) : Int := if b = true then 76 else IntKind.i64.wrap (16 + (List.length r.Body : Int))
theorem aEp (r : M.Response) (b : Bool) : pG r b = some (aGb r b) := by unfold pG aGb; cases b <;> rfl
theorem aEW (r : M.Response) (b : Bool) : pJ r b = some (aGb r b) := by unfold pJ aGb; cases b <;> rfl
def aKN (v : Int) (x : M.Cached) : Int := IntKind.i64.wrap (v + aGb x.Response (x.Response.Type_ == 3))
def aBU (s : M.aT) : Int := s.Caches.foldl (fun v c => c.Entries.foldl aKN v) 0
theorem aEN {s : M.aT} (hs : s.ok) : qT s = some (aBU s) := by
  have hm := le_max hs.Caches.1
  unfold qT aBU
  refine aE3 (L := eF s) (E := some) hs.Caches.1 (fun n v k hk => ?_) (fun n v => ?_) 0
  · have hc := hs.Caches.2 _ (List.getElem_mem hk)
    have hm2 := le_max hc.Entries.1
    simp only [eF]
    rw [if_pos (bA hk), bD (by omega)]
    refine aE3 (xs := s.Caches[k].Entries) (L := gR s (k : Int) (fun v3 _ => eF s n v3 ((k + 1 : Nat) : Int))) (E := fun v3 => eF s n v3 ((k + 1 : Nat) : Int)) hc.Entries.1 (fun n v j hj => ?_) (fun n v => ?_) v
    · simp only [gR]
      rw [aO hk, Option.bind_some, if_pos (bA hj), aO hj, Option.bind_some, aEp, Option.bind_some, bD (by omega)]
      rfl
    · simp only [gR]
      rw [aO hk, Option.bind_some, if_neg (by rw [aP]; simp)]
  · simp only [eF]
    rw [if_neg (by rw [aP]; simp)]
theorem aEj {s : M.aT} (hs : s.ok) : pO s = some (aBU s) := by
  have hm := le_max hs.Caches.1
  unfold pO aBU
  refine aE3 (L := dX s) (E := some) hs.Caches.1 (fun n v k hk => ?_) (fun n v => ?_) 0
  · have hc := hs.Caches.2 _ (List.getElem_mem hk)
    have hm2 := le_max hc.Entries.1
    simp only [dX]
    rw [if_pos (bA hk), bD (by omega), aO hk, Option.bind_some]
    refine aE3 (xs := s.Caches[k].Entries) (L := gP s.Caches[k] (fun v3 _ => dX s n v3 ((k + 1 : Nat) : Int))) (E := fun v3 => dX s n v3 ((k + 1 : Nat) : Int)) hc.Entries.1 (fun n v j hj => ?_) (fun n v => ?_) v
    · simp only [gP]
      rw [if_pos (bA hj), aO hj, Option.bind_some, aEW, Option.bind_some, bD (by omega)]
      rfl
    · simp only [gP]
      rw [if_neg (by rw [aP]; simp)]
  · simp only [dX]
    rw [if_neg (by rw [aP]; simp)]
def aIk (b : UInt8) : Bool := (decide (97 ≤ b.toNat) && decide (b.toNat ≤ 122)) || (decide (48 ≤ b.toNat) && decide (b.toNat ≤ 57))
def aIS (s : ByteArray) : Bool := aL6 s aIk && decide (s.size ≤ 12)
theorem aH7 {s : ByteArray} (hs : s.size ≤ maxLen) : wU s = some (aIS s) := by
  have hm := le_max hs
  unfold wU aIS
  rw [aD0 (L := fZ s) (g := aIk) (F := some false) (E := some (decide (s.size ≤ 12))) hs (fun n k hk => ?_) (fun n => ?_), bN]
  · simp only [fZ]
    rw [if_pos (bA hk), aD6 hk, Option.bind_some, bD (by omega)]
    generalize s[k] = b
    unfold aIk
    generalize fZ s n ((k + 1 : Nat) : Int) = Z
    simp only [Bool.or_eq_true, Bool.and_eq_true, decide_eq_true_eq, Bool.not_eq_true', decide_eq_false_iff_not]
    repeat' split
    all_goals first | rfl | (exfalso; omega)
  · simp only [fZ]
    rw [if_neg (by rw [aP]; simp)]
    simp; omega
theorem aFQ {s : ByteArray} (hs : s.size ≤ maxLen) : sI s = some (aIS s) := by
  have hm := le_max hs
  unfold sI aIS
  rw [aD0 (L := dR s) (g := aIk) (F := some false) (E := some (decide (s.size ≤ 12))) hs (fun n k hk => ?_) (fun n => ?_), bN]
  · simp only [dR]
    rw [if_pos (bA hk), aD6 hk, Option.bind_some, bD (by omega)]
    generalize s[k] = b
    unfold aIk
    generalize dR s n ((k + 1 : Nat) : Int) = Z
    simp only [Bool.or_eq_true, Bool.and_eq_true, decide_eq_true_eq, Bool.not_eq_true', decide_eq_false_iff_not]
    repeat' split
    all_goals first | rfl | (exfalso; omega)
  · simp only [dR]
    rw [if_neg (by rw [aP]; simp)]
    simp; omega
def aGy (k : M.Key) : Bool := inR k.Kind 1 3 && (inR k.N (-1000000000000) 1000000000000 && (aIS k.Text && ((k.Kind != 2 || k.N == 0) && (k.Kind != 1 || (k.Text.toList == (⟨#[]⟩ : ByteArray).toList)))))
theorem aA3 {k : M.Key} (hk : k.ok) : nW k = some (aGy k) := by
  have ht := aH7 hk.Text
  unfold nW aGy
  simp only [dB, ht, Option.bind_some]
  generalize inR k.Kind 1 3 = a
  generalize inR k.N (-1000000000000) 1000000000000 = b
  generalize aIS k.Text = c
  generalize (k.Text.toList == (⟨#[]⟩ : ByteArray).toList) = g
  by_cases h1 : k.Kind = 2 <;> by_cases h2 : k.Kind = 1 <;> by_cases h3 : k.N = 0 <;> cases a <;> cases b <;> cases c <;> cases g <;> simp [h1, h2, h3] <;> omega
theorem aA5 {k : M.Key} (hk : k.ok) : nZ k = some (aGy k) := by
  have ht := aFQ hk.Text
  unfold nZ aGy
  simp only [bO, ht, Option.bind_some]
  generalize inR k.Kind 1 3 = a
  generalize inR k.N (-1000000000000) 1000000000000 = b
  generalize aIS k.Text = c
  generalize (k.Text.toList == (⟨#[]⟩ : ByteArray).toList) = g
  by_cases h1 : k.Kind = 2 <;> by_cases h2 : k.Kind = 1 <;> by_cases h3 : k.N = 0 <;> cases a <;> cases b <;> cases c <;> cases g <;> simp [h1, h2, h3] <;> omega
theorem aIJ {k : M.Key} (h : aGy k = true) : k.Text.size ≤ 12 := by
  unfold aGy aIS at h
  simp only [Bool.and_eq_true, decide_eq_true_eq] at h
  omega
def aGJ (k : M.Key) : Nat := if aGy k = true then (if (k.Kind == 2) = true then 1 + k.Text.size else 7 + k.Text.size) else 0
theorem aFR {k : M.Key} (hk : k.ok) : ∃ l, sH k = some l ∧ l.length = aGJ k := by
  unfold sH aGJ
  rw [aA3 hk, Option.bind_some]
  by_cases h : aGy k = true
  · have ht := aIJ h
    have hl := bF k.Text
    rw [if_neg (by simp [h]), if_pos h, aNx]
    by_cases h2 : (k.Kind == 2) = true
    · have h3 : ¬ (k.Kind != 2) = true := by simp [bne, h2]
      rw [if_pos h2]
      have e0 : ∀ n r, r.length ≤ 7 → bY k (n + 1) 5 r = some (r ++ kY k.Text) := by
        intro n r hr
        simp only [bY]
        rw [if_pos (by decide), if_neg h3, zG (by omega), Option.bind_some]
      exact ⟨_, e0 (18446744073709551609 + 6) _ (by simp), by simp; omega⟩
    · have h3 : (k.Kind != 2) = true := by simp [bne, h2]
      rw [if_neg h2]
      have st : ∀ n (v : Nat) r, r.length ≤ 7 → v ≤ 5 → ∃ x : Int, bY k (n + 1) (v : Int) r = bY k n ((v : Int) - 1) (r ++ [x]) := by
        intro n v r hr hv
        apply Exists.intro
        simp only [bY]
        rw [if_pos (by simp), if_pos h3, if_pos (by rw [iJ (by omega) (by omega)]; simp; omega), zG (by simp; omega), Option.bind_some, iJ (n := (v : Int) - 1) (by omega) (by omega)]
      obtain ⟨x1, e1⟩ := st (18446744073709551609 + 6) 5 ([(IntKind.u8.wrap k.Kind)]) (by simp) (by simp)
      obtain ⟨x2, e2⟩ := st (18446744073709551609 + 5) 4 ([(IntKind.u8.wrap k.Kind)] ++ [x1]) (by simp) (by simp)
      obtain ⟨x3, e3⟩ := st (18446744073709551609 + 4) 3 ([(IntKind.u8.wrap k.Kind)] ++ [x1] ++ [x2]) (by simp) (by simp)
      obtain ⟨x4, e4⟩ := st (18446744073709551609 + 3) 2 ([(IntKind.u8.wrap k.Kind)] ++ [x1] ++ [x2] ++ [x3]) (by simp) (by simp)
      obtain ⟨x5, e5⟩ := st (18446744073709551609 + 2) 1 ([(IntKind.u8.wrap k.Kind)] ++ [x1] ++ [x2] ++ [x3] ++ [x4]) (by simp) (by simp)
      obtain ⟨x6, e6⟩ := st (18446744073709551609 + 1) 0 ([(IntKind.u8.wrap k.Kind)] ++ [x1] ++ [x2] ++ [x3] ++ [x4] ++ [x5]) (by simp) (by simp)
      have e7 : ∀ n r, r.length ≤ 7 → bY k (n + 1) (-1) r = some (r ++ kY k.Text) := by
        intro n r hr
        simp only [bY]
        rw [if_neg (by decide), zG (by omega), Option.bind_some]
      exact ⟨_, (e1.trans (e2.trans (e3.trans (e4.trans (e5.trans (e6.trans (e7 _ _ (by simp)))))))), by simp; omega⟩
  · rw [if_pos (by simp [h]), if_neg h]
    exact ⟨_, rfl, rfl⟩
theorem aFV {k : M.Key} (hk : k.ok) : ∃ l, sX k = some l ∧ l.length = aGJ k := by
  unfold sX aGJ
  rw [aA5 hk, Option.bind_some]
  by_cases h : aGy k = true
  · have ht := aIJ h
    have hl := bF k.Text
    rw [if_neg (by simp [h]), if_pos h, aNx]
    by_cases h2 : (k.Kind == 2) = true
    · have h3 : ¬ (k.Kind != 2) = true := by simp [bne, h2]
      rw [if_pos h2, if_neg h3, zG (by simp; omega), Option.bind_some]
      exact ⟨_, rfl, by simp; omega⟩
    · have h3 : (k.Kind != 2) = true := by simp [bne, h2]
      rw [if_neg h2, if_pos h3]
      have st : ∀ n (v : Nat) r, r.length ≤ 7 → v ≤ 5 → ∃ x : Int, dN k (n + 1) (v : Int) r = dN k n ((v : Int) - 1) (r ++ [x]) := by
        intro n v r hr hv
        apply Exists.intro
        simp only [dN]
        rw [if_pos (by simp), if_pos (by rw [iJ (by omega) (by omega)]; simp; omega), zG (by simp; omega), Option.bind_some, iJ (n := (v : Int) - 1) (by omega) (by omega)]
      obtain ⟨x1, e1⟩ := st (18446744073709551609 + 6) 5 ([(IntKind.u8.wrap k.Kind)]) (by simp) (by simp)
      obtain ⟨x2, e2⟩ := st (18446744073709551609 + 5) 4 ([(IntKind.u8.wrap k.Kind)] ++ [x1]) (by simp) (by simp)
      obtain ⟨x3, e3⟩ := st (18446744073709551609 + 4) 3 ([(IntKind.u8.wrap k.Kind)] ++ [x1] ++ [x2]) (by simp) (by simp)
      obtain ⟨x4, e4⟩ := st (18446744073709551609 + 3) 2 ([(IntKind.u8.wrap k.Kind)] ++ [x1] ++ [x2] ++ [x3]) (by simp) (by simp)
      obtain ⟨x5, e5⟩ := st (18446744073709551609 + 2) 1 ([(IntKind.u8.wrap k.Kind)] ++ [x1] ++ [x2] ++ [x3] ++ [x4]) (by simp) (by simp)
      obtain ⟨x6, e6⟩ := st (18446744073709551609 + 1) 0 ([(IntKind.u8.wrap k.Kind)] ++ [x1] ++ [x2] ++ [x3] ++ [x4] ++ [x5]) (by simp) (by simp)
      have e7 : ∀ n r, r.length ≤ 7 → dN k (n + 1) (-1) r = some (r ++ kY k.Text) := by
        intro n r hr
        simp only [dN]
        rw [if_neg (by decide), zG (by omega), Option.bind_some]
      exact ⟨_, (e1.trans (e2.trans (e3.trans (e4.trans (e5.trans (e6.trans (e7 _ _ (by simp)))))))), by simp; omega⟩
  · rw [if_pos (by simp [h]), if_neg h]
    exact ⟨_, rfl, rfl⟩
def aE5 (sl : Bool) (b : UInt8) : Bool := (decide (97 ≤ b.toNat) && decide (b.toNat ≤ 122)) || (sl && decide (b.toNat = 47))
def aIq (s : ByteArray) (n : Int) (sl : Bool) : Bool := aL6 s (aE5 sl) && inR (s.size : Int) 1 n
def oT (s : ByteArray) : Bool := aL6 s (aE5 false) && inR (s.size : Int) 1 8
theorem eA {s : ByteArray} (hs : s.size ≤ maxLen) : cC s = some (oT s) := by
  have hm := le_max hs
  unfold cC oT
  rw [aD0 (L := iW s) (g := aE5 false) (F := some false) (E := some (inR (s.size : Int) 1 8)) hs (fun n k hk => ?_) (fun n => ?_), bN]
  · simp only [iW]
    rw [if_pos (bA hk), aD6 hk, Option.bind_some, bD (by omega)]
    generalize s[k] = b
    unfold aE5
    generalize iW s n ((k + 1 : Nat) : Int) = Z
    simp only [Bool.or_eq_true, Bool.and_eq_true, decide_eq_true_eq, Bool.not_eq_true', decide_eq_false_iff_not, Bool.false_and, Bool.or_false]
    repeat' split
    all_goals first | rfl | (exfalso; omega)
  · simp only [iW]
    rw [if_neg (by rw [aP]; simp), dB, Option.bind_some]
theorem aEG {s : ByteArray} {m : Int} {sl : Bool} (hs : s.size ≤ maxLen) : wR s m sl = some (aIq s m sl) := by
  have hm := le_max hs
  unfold wR aIq
  rw [aD0 (L := fY s m sl) (g := aE5 sl) (F := some false) (E := some (inR (s.size : Int) 1 m)) hs (fun n k hk => ?_) (fun n => ?_), bN]
  · simp only [fY]
    rw [if_pos (bA hk), aD6 hk, Option.bind_some, bD (by omega)]
    generalize s[k] = b
    unfold aE5
    generalize fY s m sl n ((k + 1 : Nat) : Int) = Z
    cases sl <;> simp only [Bool.or_eq_true, Bool.and_eq_true, decide_eq_true_eq, Bool.not_eq_true', decide_eq_false_iff_not, Bool.false_and, Bool.or_false, Bool.true_and, beq_eq_false_iff_ne, ne_eq, Bool.false_eq_true, if_true, if_false]
    all_goals repeat' split
    all_goals first | rfl | (exfalso; omega)
  · simp only [fY]
    rw [if_neg (by rw [aP]; simp), bO, Option.bind_some]
theorem dK {s : ByteArray} (hs : s.size ≤ maxLen) : bS s = some (oT s) := by
  unfold bS
  rw [aEG hs, Option.bind_some]
  rfl
def aJt (x : M.Field) : Bool := oT x.Name && inR x.N 0 1000000000
def aCn (l : List M.Field) (k : Nat) : Bool := (l[k]?).any aJt && (decide (k = 0) || (l[k - 1]?).any fun y => (l[k]?).any fun x => Op.bytesLess y.Name.toList x.Name.toList)
def zQ (r : M.aU) : Bool := (List.range r.Fields.length).all (aCn r.Fields) && decide (r.Fields.length ≤ 6)
theorem aCY {r : M.aU} (hr : r.ok) : qC r = some (zQ r) := by
  have hm := le_max hr.Fields.1
  unfold qC zQ
  rw [jN (L := fQ r) (g := aCn r.Fields) (F := some false) (E := some (decide (r.Fields.length ≤ 6))) hr.Fields.1 (fun n k hk => ?_) (fun n => ?_), bN]
  · have hf := hr.Fields.2 _ (List.getElem_mem hk)
    simp only [fQ]
    rw [if_pos (bA hk), aO hk, Option.bind_some, bD (by omega), eA hf.Name, Option.bind_some, dB, Option.bind_some]
    unfold aCn aJt
    rw [List.getElem?_eq_getElem hk]
    generalize fQ r n ((k + 1 : Nat) : Int) = Z
    by_cases h0 : k = 0
    · subst h0
      simp only [Option.any_some]
      generalize oT r.Fields[0].Name = a
      generalize inR r.Fields[0].N 0 1000000000 = b
      cases a <;> cases b <;> simp
    · have e : IntKind.i64.wrap ((k : Int) - 1) = ((k - 1 : Nat) : Int) := by rw [iJ (by omega) (by omega)]; omega
      have hk1 : k - 1 < r.Fields.length := by omega
      rw [if_pos (c := (decide ((k : Int) > 0)) = true) (by simp; omega), e, aO hk1, Option.bind_some, List.getElem?_eq_getElem hk1]
      simp only [Option.any_some, h0, decide_false, Bool.false_or]
      generalize oT r.Fields[k].Name = a
      generalize inR r.Fields[k].N 0 1000000000 = b
      generalize Op.bytesLess r.Fields[k - 1].Name.toList r.Fields[k].Name.toList = c
      cases a <;> cases b <;> cases c <;> simp
  · simp only [fQ]
    rw [if_neg (by rw [aP]; simp)]
    simp; omega
theorem aCe {r : M.aU} (hr : r.ok) : pR r = some (zQ r) := by
  have hm := le_max hr.Fields.1
  unfold pR zQ
  rw [jN (L := fR r) (g := aCn r.Fields) (F := some false) (E := some (decide (r.Fields.length ≤ 6))) hr.Fields.1 (fun n k hk => ?_) (fun n => ?_), bN]
  · have hf := hr.Fields.2 _ (List.getElem_mem hk)
    simp only [fR]
    rw [if_pos (bA hk), aO hk, Option.bind_some, bD (by omega), dK hf.Name, Option.bind_some, bO, Option.bind_some]
    unfold aCn aJt
    rw [List.getElem?_eq_getElem hk]
    generalize fR r n ((k + 1 : Nat) : Int) = Z
    by_cases h0 : k = 0
    · subst h0
      simp only [Option.any_some]
      generalize oT r.Fields[0].Name = a
      generalize inR r.Fields[0].N 0 1000000000 = b
      cases a <;> cases b <;> simp
    · have e : IntKind.i64.wrap ((k : Int) - 1) = ((k - 1 : Nat) : Int) := by rw [iJ (by omega) (by omega)]; omega
      have hk1 : k - 1 < r.Fields.length := by omega
      rw [if_pos (c := (decide ((k : Int) > 0)) = true) (by simp; omega), e, aO hk1, Option.bind_some, List.getElem?_eq_getElem hk1]
      simp only [Option.any_some, h0, decide_false, Bool.false_or]
      rw [aB7 r.Fields[k - 1].Name.toList r.Fields[k].Name.toList]
      generalize oT r.Fields[k].Name = a
      generalize inR r.Fields[k].N 0 1000000000 = b
      generalize (Op.bytesLess r.Fields[k].Name.toList r.Fields[k - 1].Name.toList || r.Fields[k].Name.toList == r.Fields[k - 1].Name.toList) = c
      cases a <;> cases b <;> cases c <;> simp
  · simp only [fR]
    rw [if_neg (by rw [aP]; simp)]
    simp; omega
theorem aD7 {r : M.aU} (h : zQ r = true) : r.Fields.length ≤ 6 ∧ ∀ x ∈ r.Fields, x.Name.size ≤ 8 ∧ 0 ≤ x.N ∧ x.N ≤ 1000000000 := by
  unfold zQ at h
  simp only [Bool.and_eq_true, decide_eq_true_eq, List.all_eq_true, List.mem_range] at h
  refine ⟨h.2, fun x hx => ?_⟩
  obtain ⟨k, hk, rfl⟩ := List.getElem_of_mem hx
  have := h.1 k hk
  unfold aCn aJt oT inR at this
  rw [List.getElem?_eq_getElem hk] at this
  simp only [Option.any_some, Bool.and_eq_true, decide_eq_true_eq] at this
  omega
theorem xA {r : List Int} {n : Nat} (hr : r.length ≤ 1048576) (hn : n ≤ 1000000000000) : ∃ l, gO r (n : Int) = some l ∧ l.length = r.length + (uv n).length := by
  have hi : inR (n : Int) 0 1000000000000 = true := by unfold inR; simp; omega
  unfold gO
  rw [zG (by simp; omega), Option.bind_some, dB, Option.bind_some, hi, if_neg (by simp)]
  refine aLQ (L := dJ) (b := fun v => IntKind.u8.wrap (IntKind.i64.wrap (BitVec.ofInt (IntKind.i64.bits) (IntKind.i64.wrap (BitVec.ofInt (IntKind.i64.bits) v &&& BitVec.ofInt (IntKind.i64.bits) 127).toNat) ||| BitVec.ofInt (IntKind.i64.bits) 128).toNat)) (c := fun v => IntKind.u8.wrap v) (fun m n r h1 h2 => ?_) (fun m n r h1 => ?_) 8 fuel n r (by omega) (by omega) (by unfold fuel; omega) (by omega)
  · simp only [dJ]
    rw [if_pos (by simp; omega), uvf]
  · simp only [dJ]
    rw [if_neg (by simp; omega)]
theorem wY {r : List Int} {n : Nat} (hr : r.length ≤ 1048576) (hn : n ≤ 1000000000000) : ∃ l, gQ r (n : Int) = some l ∧ l.length = r.length + (uv n).length := by
  have hi : inR (n : Int) 0 1000000000000 = true := by unfold inR; simp; omega
  unfold gQ iT
  rw [zG (by simp; omega), Option.bind_some, Option.bind_some, bO, Option.bind_some, hi, if_neg (by simp)]
  refine aLQ (L := eY) (b := fun v => IntKind.u8.wrap (IntKind.i64.wrap ((Int.tmod v 128) + 128))) (c := fun v => IntKind.u8.wrap v) (fun m n r h1 h2 => ?_) (fun m n r h1 => ?_) 8 fuel n r (by omega) (by omega) (by unfold fuel; omega) (by omega)
  · simp only [eY]
    rw [if_pos (by simp; omega), uvt h2]
  · simp only [eY]
    rw [if_neg (by simp; omega)]
def aAH (x : M.Field) : Nat := (uv x.Name.size).length + x.Name.size + (uv x.N.toNat).length
def aGQ (r : M.aU) : Nat := if zQ r = true then (uv r.Fields.length).length + aD aAH r.Fields else 0
theorem aD4 {r b : List Int} (hr : r.length ≤ 1000) (hb : b.length ≤ 1000) : ∃ l, nV r b = some l ∧ l.length = r.length + ((uv b.length).length + b.length) := by
  obtain ⟨l, e, hl⟩ := xA (r := r) (n := b.length) (by omega) (by omega)
  have h9 := aC8 b.length (by omega)
  refine ⟨l ++ b, ?_, by simp; omega⟩
  unfold nV
  rw [e, Option.bind_some, zG (by omega), Option.bind_some]
theorem aDT {r : M.aU} (hr : r.ok) : ∃ l, mI r = some l ∧ l.length = aGQ r := by
  unfold mI aGQ
  rw [aCY hr, Option.bind_some]
  by_cases h : zQ r = true
  · obtain ⟨h6, hf⟩ := aD7 h
    have hw : ∀ x ∈ r.Fields, aAH x ≤ 26 := by
      intro x hx
      have := hf x hx
      have h1 := aC8 x.Name.size (by omega)
      have h2 := aC8 x.N.toNat (by omega)
      unfold aAH
      omega
    have hsum := aDP hw
    obtain ⟨l, e, hl⟩ := xA (r := []) (n := r.Fields.length) (by simp) (by omega)
    have h9 := aC8 r.Fields.length (by omega)
    rw [if_neg (by simp [h]), if_pos h, e, Option.bind_some]
    have := aJN (xs := r.Fields) (w := aAH) (B := 900) (L := fJ r) (fun n k hk q hq => ?_) (fun n q => ?_) fuel 0 l (by unfold fuel; omega) (by omega) (by simp at hl ⊢; omega)
    · obtain ⟨z, e2, hz⟩ := this
      exact ⟨z, e2, by simp at hl hz; omega⟩
    · have hx := hf _ (List.getElem_mem hk)
      have hw2 := hw _ (List.getElem_mem hk)
      obtain ⟨a, ea, ha⟩ := aD4 (r := q) (b := kY r.Fields[k].Name) (by omega) (by rw [bF]; omega)
      rw [bF] at ha
      have hn := aC8 r.Fields[k].Name.size (by omega)
      obtain ⟨b, eb, hb⟩ := xA (r := a) (n := r.Fields[k].N.toNat) (by omega) (by omega)
      rw [Int.toNat_of_nonneg hx.2.1] at eb
      refine ⟨b, by unfold aAH; omega, ?_⟩
      simp only [fJ]
      rw [if_pos (bA hk), aO hk, Option.bind_some, ea, Option.bind_some, eb, Option.bind_some, bD (by omega)]
    · simp only [fJ]
      rw [if_neg (by rw [aP]; simp)]
  · rw [if_pos (by simp [h]), if_neg h]
    exact ⟨_, rfl, rfl⟩
theorem aDb {r b : List Int} (hr : r.length ≤ 1000) (hb : b.length ≤ 1000) : ∃ l, oG r b = some l ∧ l.length = r.length + ((uv b.length).length + b.length) := by
  obtain ⟨l, e, hl⟩ := wY (r := r) (n := b.length) (by omega) (by omega)
  have h9 := aC8 b.length (by omega)
  refine ⟨l ++ b, ?_, by simp; omega⟩
  unfold oG
  rw [e, Option.bind_some, zG (by omega), Option.bind_some]
theorem aDU {r : M.aU} (hr : r.ok) : ∃ l, lX r = some l ∧ l.length = aGQ r := by
  unfold lX aGQ
  rw [aCe hr, Option.bind_some]
  by_cases h : zQ r = true
  · obtain ⟨h6, hf⟩ := aD7 h
    have hw : ∀ x ∈ r.Fields, aAH x ≤ 26 := by
      intro x hx
      have := hf x hx
      have h1 := aC8 x.Name.size (by omega)
      have h2 := aC8 x.N.toNat (by omega)
      unfold aAH
      omega
    have hsum := aDP hw
    obtain ⟨l, e, hl⟩ := wY (r := []) (n := r.Fields.length) (by simp) (by omega)
    have h9 := aC8 r.Fields.length (by omega)
    rw [if_neg (by simp [h]), if_pos h, e, Option.bind_some]
    have := aJN (xs := r.Fields) (w := aAH) (B := 900) (L := fI r) (fun n k hk q hq => ?_) (fun n q => ?_) fuel 0 l (by unfold fuel; omega) (by omega) (by simp at hl ⊢; omega)
    · obtain ⟨z, e2, hz⟩ := this
      exact ⟨z, e2, by simp at hl hz; omega⟩
    · have hx := hf _ (List.getElem_mem hk)
      have hw2 := hw _ (List.getElem_mem hk)
      obtain ⟨a, ea, ha⟩ := aDb (r := q) (b := kY r.Fields[k].Name) (by omega) (by rw [bF]; omega)
      rw [bF] at ha
      have hn := aC8 r.Fields[k].Name.size (by omega)
      obtain ⟨b, eb, hb⟩ := wY (r := a) (n := r.Fields[k].N.toNat) (by omega) (by omega)
      rw [Int.toNat_of_nonneg hx.2.1] at eb
      refine ⟨b, by unfold aAH; omega, ?_⟩
      simp only [fI]
      rw [if_pos (bA hk), aO hk, Option.bind_some, ea, Option.bind_some, eb, Option.bind_some, bD (by omega)]
    · simp only [fI]
      rw [if_neg (by rw [aP]; simp)]
  · rw [if_pos (by simp [h]), if_neg h]
    exact ⟨_, rfl, rfl⟩
def aGH (v : Int) (x : M.Item) : Int := IntKind.i64.wrap (v + ((aGJ x.Key : Int) + (aGQ x.aU : Int)))
def aBP (s : M.aH) : Int := s.Items.foldl aGH 0
def aAj (d : M.Database) : Int := d.Stores.foldl (fun v s => IntKind.i64.wrap (v + aBP s)) 0
def aIE (b : M.aE) : Int := IntKind.i64.wrap ((IntKind.i64.wrap ((IntKind.i64.wrap (aBU b.Caches + IntKind.i64.wrap (aAj b.bE.Base + (List.length b.bE.Log : Int)))) + aBP b.aC.Base)) + (IntKind.i64.wrap (40 * (List.length b.aC.Sync.aV.Writes : Int))))
theorem aCG {s : M.aH} (hs : s.ok) : mW s = some (aBP s) := by
  have hm := le_max hs.Items.1
  unfold mW aBP
  refine aE3 (L := hJ s) (E := some) hs.Items.1 (fun n v k hk => ?_) (fun n v => ?_) 0
  · have hi := hs.Items.2 _ (List.getElem_mem hk)
    obtain ⟨a, ea, ha⟩ := aFR hi.Key
    obtain ⟨b, eb, hb⟩ := aDT hi.aU
    simp only [hJ]
    rw [if_pos (bA hk), aO hk, Option.bind_some, ea, Option.bind_some, eb, Option.bind_some, bD (by omega), ha, hb]
    unfold aGH
    rw [wrap_add, Int.add_assoc]
  · simp only [hJ]
    rw [if_neg (by rw [aP]; simp)]
theorem aDR {d : M.Database} (hd : d.ok) : lV d = some (aAj d) := by
  have hm := le_max hd.Stores.1
  unfold lV aAj
  refine aE3 (L := fM d) (E := some) hd.Stores.1 (fun n v k hk => ?_) (fun n v => ?_) 0
  · have hi := hd.Stores.2 _ (List.getElem_mem hk)
    simp only [fM]
    rw [if_pos (bA hk), aO hk, Option.bind_some, aCG hi, Option.bind_some, bD (by omega)]
  · simp only [fM]
    rw [if_neg (by rw [aP]; simp)]
theorem aG5 {b : M.aE} (hb : b.ok) : xF b = some (aIE b) := by
  unfold xF zP aIE
  rw [aEN hb.Caches, Option.bind_some, aDR hb.bE.Base, Option.bind_some, Option.bind_some, aCG hb.aC.Base, Option.bind_some]
theorem aCH {s : M.aH} (hs : s.ok) : mP s = some (aBP s) := by
  have hm := le_max hs.Items.1
  unfold mP aBP
  refine aE3 (L := hM s) (E := some) hs.Items.1 (fun n v k hk => ?_) (fun n v => ?_) 0
  · have hi := hs.Items.2 _ (List.getElem_mem hk)
    obtain ⟨a, ea, ha⟩ := aFV hi.Key
    obtain ⟨b, eb, hb⟩ := aDU hi.aU
    simp only [hM]
    rw [if_pos (bA hk), aO hk, Option.bind_some, ea, Option.bind_some, eb, Option.bind_some, bD (by omega), ha, hb]
    unfold aGH
    rw [aLZ]
  · simp only [hM]
    rw [if_neg (by rw [aP]; simp)]
theorem aDM {d : M.Database} (hd : d.ok) : lY d = some (aAj d) := by
  have hm := le_max hd.Stores.1
  unfold lY aAj
  refine aE3 (L := fL d) (E := some) hd.Stores.1 (fun n v k hk => ?_) (fun n v => ?_) 0
  · have hi := hd.Stores.2 _ (List.getElem_mem hk)
    simp only [fL]
    rw [if_pos (bA hk), aO hk, Option.bind_some, aCH hi, Option.bind_some, bD (by omega)]
  · simp only [fL]
    rw [if_neg (by rw [aP]; simp)]
theorem aGv {b : M.aE} (hb : b.ok) : xY b = some (aIE b) := by
  unfold xY aAq aIE
  rw [aEj hb.Caches, Option.bind_some, aDM hb.bE.Base, Option.bind_some, Option.bind_some, aCH hb.aC.Base, Option.bind_some]
end Go.Proofs.YtecmnmaaopkdfaaGreat.gen
