/-
  Helper text: plain laws of the functions. No conditions beyond those of each law.
-/
import Derived.Test.YtmpbibngijnfeaaGreatUPm
namespace Go.Proofs.YtmpbibngijnfeaaGreat.gen
open Go Go.Sh
set_option linter.unusedVariables false
set_option linter.unusedSimpArgs false
theorem p_spec_l1In (x a b : Int) : m_spec_l1In x a b = some (inR x a b) := by
  unfold m_spec_l1In inR
  by_cases h : a ≤ x
  · rw [if_pos (by simpa using h)]; simp [h]
  · rw [if_neg (by simpa using h)]; simp [h]
theorem p_impl_InRange (x a b : Int) : m_impl_InRange x a b = some (inR x a b) := by
  unfold m_impl_InRange inR
  by_cases h : a ≤ x
  · rw [if_pos (by simpa using h)]; simp [h]
  · rw [if_neg (by simpa using h)]; simp [h]
def nStored (r : M.Response) (b : Bool) : Int := if b = true then 76 else IntKind.i64.wrap (16 + (List.length r.Body : Int))
theorem p_spec_StoredSize (r : M.Response) (b : Bool) : m_spec_StoredSize r b = some (nStored r b) := by unfold m_spec_StoredSize nStored; cases b <;> rfl
theorem p_impl_StoredSize (r : M.Response) (b : Bool) : m_impl_StoredSize r b = some (nStored r b) := by unfold m_impl_StoredSize nStored; cases b <;> rfl
def nSizeEntry (v : Int) (x : M.Cached) : Int := IntKind.i64.wrap (v + nStored x.Response (x.Response.Type_ == 3))
def nSizeCaches (s : M.CacheSet) : Int := s.Caches.foldl (fun v c => c.Entries.foldl nSizeEntry v) 0
theorem p_spec_SizeCaches {s : M.CacheSet} (hs : s.ok) : m_spec_SizeCaches s = some (nSizeCaches s) := by
  have hm := le_max hs.Caches.1
  unfold m_spec_SizeCaches nSizeCaches
  refine sumAll (L := m_spec_SizeCaches_L1 s) (E := some) hs.Caches.1 (fun n v k hk => ?_) (fun n v => ?_) 0
  · have hc := hs.Caches.2 _ (List.getElem_mem hk)
    have hm2 := le_max hc.Entries.1
    simp only [m_spec_SizeCaches_L1]
    rw [if_pos (lt_nat hk), wrapn (by omega)]
    refine sumAll (xs := s.Caches[k].Entries) (L := m_spec_SizeCaches_L2 s (k : Int) (fun v3 _ => m_spec_SizeCaches_L1 s n v3 ((k + 1 : Nat) : Int))) (E := fun v3 => m_spec_SizeCaches_L1 s n v3 ((k + 1 : Nat) : Int)) hc.Entries.1 (fun n v j hj => ?_) (fun n v => ?_) v
    · simp only [m_spec_SizeCaches_L2]
      rw [idx_nat hk, Option.bind_some, if_pos (lt_nat hj), idx_nat hj, Option.bind_some, p_spec_StoredSize, Option.bind_some, wrapn (by omega)]
      rfl
    · simp only [m_spec_SizeCaches_L2]
      rw [idx_nat hk, Option.bind_some, if_neg (by rw [nlt_nat]; simp)]
  · simp only [m_spec_SizeCaches_L1]
    rw [if_neg (by rw [nlt_nat]; simp)]
theorem p_impl_SizeCaches {s : M.CacheSet} (hs : s.ok) : m_impl_SizeCaches s = some (nSizeCaches s) := by
  have hm := le_max hs.Caches.1
  unfold m_impl_SizeCaches nSizeCaches
  refine sumAll (L := m_impl_SizeCaches_L1 s) (E := some) hs.Caches.1 (fun n v k hk => ?_) (fun n v => ?_) 0
  · have hc := hs.Caches.2 _ (List.getElem_mem hk)
    have hm2 := le_max hc.Entries.1
    simp only [m_impl_SizeCaches_L1]
    rw [if_pos (lt_nat hk), wrapn (by omega), idx_nat hk, Option.bind_some]
    refine sumAll (xs := s.Caches[k].Entries) (L := m_impl_SizeCaches_L2 s.Caches[k] (fun v3 _ => m_impl_SizeCaches_L1 s n v3 ((k + 1 : Nat) : Int))) (E := fun v3 => m_impl_SizeCaches_L1 s n v3 ((k + 1 : Nat) : Int)) hc.Entries.1 (fun n v j hj => ?_) (fun n v => ?_) v
    · simp only [m_impl_SizeCaches_L2]
      rw [if_pos (lt_nat hj), idx_nat hj, Option.bind_some, p_impl_StoredSize, Option.bind_some, wrapn (by omega)]
      rfl
    · simp only [m_impl_SizeCaches_L2]
      rw [if_neg (by rw [nlt_nat]; simp)]
  · simp only [m_impl_SizeCaches_L1]
    rw [if_neg (by rw [nlt_nat]; simp)]
def nTextB (b : UInt8) : Bool := (decide (97 ≤ b.toNat) && decide (b.toNat ≤ 122)) || (decide (48 ≤ b.toNat) && decide (b.toNat ≤ 57))
def nText (s : ByteArray) : Bool := ballB s nTextB && decide (s.size ≤ 12)
theorem p_spec_l4Text {s : ByteArray} (hs : s.size ≤ maxLen) : m_spec_l4Text s = some (nText s) := by
  have hm := le_max hs
  unfold m_spec_l4Text nText
  rw [ballLoop (L := m_spec_l4Text_L1 s) (g := nTextB) (F := some false) (E := some (decide (s.size ≤ 12))) hs (fun n k hk => ?_) (fun n => ?_), ite_and]
  · simp only [m_spec_l4Text_L1]
    rw [if_pos (lt_nat hk), sidx_nat hk, Option.bind_some, wrapn (by omega)]
    generalize s[k] = b
    unfold nTextB
    generalize m_spec_l4Text_L1 s n ((k + 1 : Nat) : Int) = Z
    simp only [Bool.or_eq_true, Bool.and_eq_true, decide_eq_true_eq, Bool.not_eq_true', decide_eq_false_iff_not]
    repeat' split
    all_goals first | rfl | (exfalso; omega)
  · simp only [m_spec_l4Text_L1]
    rw [if_neg (by rw [nlt_nat]; simp)]
    simp; omega
theorem p_impl_isKeyText {s : ByteArray} (hs : s.size ≤ maxLen) : m_impl_isKeyText s = some (nText s) := by
  have hm := le_max hs
  unfold m_impl_isKeyText nText
  rw [ballLoop (L := m_impl_isKeyText_L1 s) (g := nTextB) (F := some false) (E := some (decide (s.size ≤ 12))) hs (fun n k hk => ?_) (fun n => ?_), ite_and]
  · simp only [m_impl_isKeyText_L1]
    rw [if_pos (lt_nat hk), sidx_nat hk, Option.bind_some, wrapn (by omega)]
    generalize s[k] = b
    unfold nTextB
    generalize m_impl_isKeyText_L1 s n ((k + 1 : Nat) : Int) = Z
    simp only [Bool.or_eq_true, Bool.and_eq_true, decide_eq_true_eq, Bool.not_eq_true', decide_eq_false_iff_not]
    repeat' split
    all_goals first | rfl | (exfalso; omega)
  · simp only [m_impl_isKeyText_L1]
    rw [if_neg (by rw [nlt_nat]; simp)]
    simp; omega
def nKey (k : M.Key) : Bool := inR k.Kind 1 3 && (inR k.N (-1000000000000) 1000000000000 && (nText k.Text && ((k.Kind != 2 || k.N == 0) && (k.Kind != 1 || (k.Text.toList == (⟨#[]⟩ : ByteArray).toList)))))
theorem p_spec_IsKey {k : M.Key} (hk : k.ok) : m_spec_IsKey k = some (nKey k) := by
  have ht := p_spec_l4Text hk.Text
  unfold m_spec_IsKey nKey
  simp only [p_spec_l1In, ht, Option.bind_some]
  generalize inR k.Kind 1 3 = a
  generalize inR k.N (-1000000000000) 1000000000000 = b
  generalize nText k.Text = c
  generalize (k.Text.toList == (⟨#[]⟩ : ByteArray).toList) = g
  by_cases h1 : k.Kind = 2 <;> by_cases h2 : k.Kind = 1 <;> by_cases h3 : k.N = 0 <;> cases a <;> cases b <;> cases c <;> cases g <;> simp [h1, h2, h3] <;> omega
theorem p_impl_IsKey {k : M.Key} (hk : k.ok) : m_impl_IsKey k = some (nKey k) := by
  have ht := p_impl_isKeyText hk.Text
  unfold m_impl_IsKey nKey
  simp only [p_impl_InRange, ht, Option.bind_some]
  generalize inR k.Kind 1 3 = a
  generalize inR k.N (-1000000000000) 1000000000000 = b
  generalize nText k.Text = c
  generalize (k.Text.toList == (⟨#[]⟩ : ByteArray).toList) = g
  by_cases h1 : k.Kind = 2 <;> by_cases h2 : k.Kind = 1 <;> by_cases h3 : k.N = 0 <;> cases a <;> cases b <;> cases c <;> cases g <;> simp [h1, h2, h3] <;> omega
theorem nKey_text {k : M.Key} (h : nKey k = true) : k.Text.size ≤ 12 := by
  unfold nKey nText at h
  simp only [Bool.and_eq_true, decide_eq_true_eq] at h
  omega
/-- how long the bytes of a key are -/
def nKeyLen (k : M.Key) : Nat := if nKey k = true then (if (k.Kind == 2) = true then 1 + k.Text.size else 7 + k.Text.size) else 0
theorem l_spec_EncodeKey {k : M.Key} (hk : k.ok) : ∃ l, m_spec_EncodeKey k = some l ∧ l.length = nKeyLen k := by
  unfold m_spec_EncodeKey nKeyLen
  rw [p_spec_IsKey hk, Option.bind_some]
  by_cases h : nKey k = true
  · have ht := nKey_text h
    have hl := strBytes_len k.Text
    rw [if_neg (by simp [h]), if_pos h, fuel7]
    by_cases h2 : (k.Kind == 2) = true
    · have h3 : ¬ (k.Kind != 2) = true := by simp [bne, h2]
      rw [if_pos h2]
      have e0 : ∀ n r, r.length ≤ 7 → m_spec_EncodeKey_L1 k (n + 1) 5 r = some (r ++ strBytes k.Text) := by
        intro n r hr
        simp only [m_spec_EncodeKey_L1]
        rw [if_pos (by decide), if_neg h3, app_ok (by omega), Option.bind_some]
      exact ⟨_, e0 (18446744073709551609 + 6) _ (by simp), by simp; omega⟩
    · have h3 : (k.Kind != 2) = true := by simp [bne, h2]
      rw [if_neg h2]
      have st : ∀ n (v : Nat) r, r.length ≤ 7 → v ≤ 5 → ∃ x : Int, m_spec_EncodeKey_L1 k (n + 1) (v : Int) r = m_spec_EncodeKey_L1 k n ((v : Int) - 1) (r ++ [x]) := by
        intro n v r hr hv
        apply Exists.intro
        simp only [m_spec_EncodeKey_L1]
        rw [if_pos (by simp), if_pos h3, if_pos (by rw [wrap_ok (by omega) (by omega)]; simp; omega), app_ok (by simp; omega), Option.bind_some, wrap_ok (n := (v : Int) - 1) (by omega) (by omega)]
      obtain ⟨x1, e1⟩ := st (18446744073709551609 + 6) 5 ([(IntKind.u8.wrap k.Kind)]) (by simp) (by simp)
      obtain ⟨x2, e2⟩ := st (18446744073709551609 + 5) 4 ([(IntKind.u8.wrap k.Kind)] ++ [x1]) (by simp) (by simp)
      obtain ⟨x3, e3⟩ := st (18446744073709551609 + 4) 3 ([(IntKind.u8.wrap k.Kind)] ++ [x1] ++ [x2]) (by simp) (by simp)
      obtain ⟨x4, e4⟩ := st (18446744073709551609 + 3) 2 ([(IntKind.u8.wrap k.Kind)] ++ [x1] ++ [x2] ++ [x3]) (by simp) (by simp)
      obtain ⟨x5, e5⟩ := st (18446744073709551609 + 2) 1 ([(IntKind.u8.wrap k.Kind)] ++ [x1] ++ [x2] ++ [x3] ++ [x4]) (by simp) (by simp)
      obtain ⟨x6, e6⟩ := st (18446744073709551609 + 1) 0 ([(IntKind.u8.wrap k.Kind)] ++ [x1] ++ [x2] ++ [x3] ++ [x4] ++ [x5]) (by simp) (by simp)
      have e7 : ∀ n r, r.length ≤ 7 → m_spec_EncodeKey_L1 k (n + 1) (-1) r = some (r ++ strBytes k.Text) := by
        intro n r hr
        simp only [m_spec_EncodeKey_L1]
        rw [if_neg (by decide), app_ok (by omega), Option.bind_some]
      exact ⟨_, (e1.trans (e2.trans (e3.trans (e4.trans (e5.trans (e6.trans (e7 _ _ (by simp)))))))), by simp; omega⟩
  · rw [if_pos (by simp [h]), if_neg h]
    exact ⟨_, rfl, rfl⟩
theorem l_impl_EncodeKey {k : M.Key} (hk : k.ok) : ∃ l, m_impl_EncodeKey k = some l ∧ l.length = nKeyLen k := by
  unfold m_impl_EncodeKey nKeyLen
  rw [p_impl_IsKey hk, Option.bind_some]
  by_cases h : nKey k = true
  · have ht := nKey_text h
    have hl := strBytes_len k.Text
    rw [if_neg (by simp [h]), if_pos h, fuel7]
    by_cases h2 : (k.Kind == 2) = true
    · have h3 : ¬ (k.Kind != 2) = true := by simp [bne, h2]
      rw [if_pos h2, if_neg h3, app_ok (by simp; omega), Option.bind_some]
      exact ⟨_, rfl, by simp; omega⟩
    · have h3 : (k.Kind != 2) = true := by simp [bne, h2]
      rw [if_neg h2, if_pos h3]
      have st : ∀ n (v : Nat) r, r.length ≤ 7 → v ≤ 5 → ∃ x : Int, m_impl_EncodeKey_L1 k (n + 1) (v : Int) r = m_impl_EncodeKey_L1 k n ((v : Int) - 1) (r ++ [x]) := by
        intro n v r hr hv
        apply Exists.intro
        simp only [m_impl_EncodeKey_L1]
        rw [if_pos (by simp), if_pos (by rw [wrap_ok (by omega) (by omega)]; simp; omega), app_ok (by simp; omega), Option.bind_some, wrap_ok (n := (v : Int) - 1) (by omega) (by omega)]
      obtain ⟨x1, e1⟩ := st (18446744073709551609 + 6) 5 ([(IntKind.u8.wrap k.Kind)]) (by simp) (by simp)
      obtain ⟨x2, e2⟩ := st (18446744073709551609 + 5) 4 ([(IntKind.u8.wrap k.Kind)] ++ [x1]) (by simp) (by simp)
      obtain ⟨x3, e3⟩ := st (18446744073709551609 + 4) 3 ([(IntKind.u8.wrap k.Kind)] ++ [x1] ++ [x2]) (by simp) (by simp)
      obtain ⟨x4, e4⟩ := st (18446744073709551609 + 3) 2 ([(IntKind.u8.wrap k.Kind)] ++ [x1] ++ [x2] ++ [x3]) (by simp) (by simp)
      obtain ⟨x5, e5⟩ := st (18446744073709551609 + 2) 1 ([(IntKind.u8.wrap k.Kind)] ++ [x1] ++ [x2] ++ [x3] ++ [x4]) (by simp) (by simp)
      obtain ⟨x6, e6⟩ := st (18446744073709551609 + 1) 0 ([(IntKind.u8.wrap k.Kind)] ++ [x1] ++ [x2] ++ [x3] ++ [x4] ++ [x5]) (by simp) (by simp)
      have e7 : ∀ n r, r.length ≤ 7 → m_impl_EncodeKey_L1 k (n + 1) (-1) r = some (r ++ strBytes k.Text) := by
        intro n r hr
        simp only [m_impl_EncodeKey_L1]
        rw [if_neg (by decide), app_ok (by omega), Option.bind_some]
      exact ⟨_, (e1.trans (e2.trans (e3.trans (e4.trans (e5.trans (e6.trans (e7 _ _ (by simp)))))))), by simp; omega⟩
  · rw [if_pos (by simp [h]), if_neg h]
    exact ⟨_, rfl, rfl⟩
def nWordB (sl : Bool) (b : UInt8) : Bool := (decide (97 ≤ b.toNat) && decide (b.toNat ≤ 122)) || (sl && decide (b.toNat = 47))
def nWord (s : ByteArray) (n : Int) (sl : Bool) : Bool := ballB s (nWordB sl) && inR (s.size : Int) 1 n
def nName (s : ByteArray) : Bool := ballB s (nWordB false) && inR (s.size : Int) 1 8
theorem p_spec_IsName {s : ByteArray} (hs : s.size ≤ maxLen) : m_spec_IsName s = some (nName s) := by
  have hm := le_max hs
  unfold m_spec_IsName nName
  rw [ballLoop (L := m_spec_IsName_L1 s) (g := nWordB false) (F := some false) (E := some (inR (s.size : Int) 1 8)) hs (fun n k hk => ?_) (fun n => ?_), ite_and]
  · simp only [m_spec_IsName_L1]
    rw [if_pos (lt_nat hk), sidx_nat hk, Option.bind_some, wrapn (by omega)]
    generalize s[k] = b
    unfold nWordB
    generalize m_spec_IsName_L1 s n ((k + 1 : Nat) : Int) = Z
    simp only [Bool.or_eq_true, Bool.and_eq_true, decide_eq_true_eq, Bool.not_eq_true', decide_eq_false_iff_not, Bool.false_and, Bool.or_false]
    repeat' split
    all_goals first | rfl | (exfalso; omega)
  · simp only [m_spec_IsName_L1]
    rw [if_neg (by rw [nlt_nat]; simp), p_spec_l1In, Option.bind_some]
theorem p_impl_isWord {s : ByteArray} {m : Int} {sl : Bool} (hs : s.size ≤ maxLen) : m_impl_isWord s m sl = some (nWord s m sl) := by
  have hm := le_max hs
  unfold m_impl_isWord nWord
  rw [ballLoop (L := m_impl_isWord_L1 s m sl) (g := nWordB sl) (F := some false) (E := some (inR (s.size : Int) 1 m)) hs (fun n k hk => ?_) (fun n => ?_), ite_and]
  · simp only [m_impl_isWord_L1]
    rw [if_pos (lt_nat hk), sidx_nat hk, Option.bind_some, wrapn (by omega)]
    generalize s[k] = b
    unfold nWordB
    generalize m_impl_isWord_L1 s m sl n ((k + 1 : Nat) : Int) = Z
    cases sl <;> simp only [Bool.or_eq_true, Bool.and_eq_true, decide_eq_true_eq, Bool.not_eq_true', decide_eq_false_iff_not, Bool.false_and, Bool.or_false, Bool.true_and, beq_eq_false_iff_ne, ne_eq, Bool.false_eq_true, if_true, if_false]
    all_goals repeat' split
    all_goals first | rfl | (exfalso; omega)
  · simp only [m_impl_isWord_L1]
    rw [if_neg (by rw [nlt_nat]; simp), p_impl_InRange, Option.bind_some]
theorem p_impl_IsName {s : ByteArray} (hs : s.size ≤ maxLen) : m_impl_IsName s = some (nName s) := by
  unfold m_impl_IsName
  rw [p_impl_isWord hs, Option.bind_some]
  rfl
def nField (x : M.Field) : Bool := nName x.Name && inR x.N 0 1000000000
def nFieldAt (l : List M.Field) (k : Nat) : Bool := (l[k]?).any nField && (decide (k = 0) || (l[k - 1]?).any fun y => (l[k]?).any fun x => Op.bytesLess y.Name.toList x.Name.toList)
def nRecord (r : M.Record) : Bool := (List.range r.Fields.length).all (nFieldAt r.Fields) && decide (r.Fields.length ≤ 6)
theorem p_spec_IsRecord {r : M.Record} (hr : r.ok) : m_spec_IsRecord r = some (nRecord r) := by
  have hm := le_max hr.Fields.1
  unfold m_spec_IsRecord nRecord
  rw [chkAll (L := m_spec_IsRecord_L1 r) (g := nFieldAt r.Fields) (F := some false) (E := some (decide (r.Fields.length ≤ 6))) hr.Fields.1 (fun n k hk => ?_) (fun n => ?_), ite_and]
  · have hf := hr.Fields.2 _ (List.getElem_mem hk)
    simp only [m_spec_IsRecord_L1]
    rw [if_pos (lt_nat hk), idx_nat hk, Option.bind_some, wrapn (by omega), p_spec_IsName hf.Name, Option.bind_some, p_spec_l1In, Option.bind_some]
    unfold nFieldAt nField
    rw [List.getElem?_eq_getElem hk]
    generalize m_spec_IsRecord_L1 r n ((k + 1 : Nat) : Int) = Z
    by_cases h0 : k = 0
    · subst h0
      simp only [Option.any_some]
      generalize nName r.Fields[0].Name = a
      generalize inR r.Fields[0].N 0 1000000000 = b
      cases a <;> cases b <;> simp
    · have e : IntKind.i64.wrap ((k : Int) - 1) = ((k - 1 : Nat) : Int) := by rw [wrap_ok (by omega) (by omega)]; omega
      have hk1 : k - 1 < r.Fields.length := by omega
      rw [if_pos (c := (decide ((k : Int) > 0)) = true) (by simp; omega), e, idx_nat hk1, Option.bind_some, List.getElem?_eq_getElem hk1]
      simp only [Option.any_some, h0, decide_false, Bool.false_or]
      generalize nName r.Fields[k].Name = a
      generalize inR r.Fields[k].N 0 1000000000 = b
      generalize Op.bytesLess r.Fields[k - 1].Name.toList r.Fields[k].Name.toList = c
      cases a <;> cases b <;> cases c <;> simp
  · simp only [m_spec_IsRecord_L1]
    rw [if_neg (by rw [nlt_nat]; simp)]
    simp; omega
theorem p_impl_IsRecord {r : M.Record} (hr : r.ok) : m_impl_IsRecord r = some (nRecord r) := by
  have hm := le_max hr.Fields.1
  unfold m_impl_IsRecord nRecord
  rw [chkAll (L := m_impl_IsRecord_L1 r) (g := nFieldAt r.Fields) (F := some false) (E := some (decide (r.Fields.length ≤ 6))) hr.Fields.1 (fun n k hk => ?_) (fun n => ?_), ite_and]
  · have hf := hr.Fields.2 _ (List.getElem_mem hk)
    simp only [m_impl_IsRecord_L1]
    rw [if_pos (lt_nat hk), idx_nat hk, Option.bind_some, wrapn (by omega), p_impl_IsName hf.Name, Option.bind_some, p_impl_InRange, Option.bind_some]
    unfold nFieldAt nField
    rw [List.getElem?_eq_getElem hk]
    generalize m_impl_IsRecord_L1 r n ((k + 1 : Nat) : Int) = Z
    by_cases h0 : k = 0
    · subst h0
      simp only [Option.any_some]
      generalize nName r.Fields[0].Name = a
      generalize inR r.Fields[0].N 0 1000000000 = b
      cases a <;> cases b <;> simp
    · have e : IntKind.i64.wrap ((k : Int) - 1) = ((k - 1 : Nat) : Int) := by rw [wrap_ok (by omega) (by omega)]; omega
      have hk1 : k - 1 < r.Fields.length := by omega
      rw [if_pos (c := (decide ((k : Int) > 0)) = true) (by simp; omega), e, idx_nat hk1, Option.bind_some, List.getElem?_eq_getElem hk1]
      simp only [Option.any_some, h0, decide_false, Bool.false_or]
      rw [bytesLess_tri r.Fields[k - 1].Name.toList r.Fields[k].Name.toList]
      generalize nName r.Fields[k].Name = a
      generalize inR r.Fields[k].N 0 1000000000 = b
      generalize (Op.bytesLess r.Fields[k].Name.toList r.Fields[k - 1].Name.toList || r.Fields[k].Name.toList == r.Fields[k - 1].Name.toList) = c
      cases a <;> cases b <;> cases c <;> simp
  · simp only [m_impl_IsRecord_L1]
    rw [if_neg (by rw [nlt_nat]; simp)]
    simp; omega
theorem nRecord_field {r : M.Record} (h : nRecord r = true) : r.Fields.length ≤ 6 ∧ ∀ x ∈ r.Fields, x.Name.size ≤ 8 ∧ 0 ≤ x.N ∧ x.N ≤ 1000000000 := by
  unfold nRecord at h
  simp only [Bool.and_eq_true, decide_eq_true_eq, List.all_eq_true, List.mem_range] at h
  refine ⟨h.2, fun x hx => ?_⟩
  obtain ⟨k, hk, rfl⟩ := List.getElem_of_mem hx
  have := h.1 k hk
  unfold nFieldAt nField nName inR at this
  rw [List.getElem?_eq_getElem hk] at this
  simp only [Option.any_some, Bool.and_eq_true, decide_eq_true_eq] at this
  omega
theorem l_spec_AppendUvarint {r : List Int} {n : Nat} (hr : r.length ≤ 1048576) (hn : n ≤ 1000000000000) : ∃ l, m_spec_AppendUvarint r (n : Int) = some l ∧ l.length = r.length + (uv n).length := by
  have hi : inR (n : Int) 0 1000000000000 = true := by unfold inR; simp; omega
  unfold m_spec_AppendUvarint
  rw [app_ok (by simp; omega), Option.bind_some, p_spec_l1In, Option.bind_some, hi, if_neg (by simp)]
  refine uvLoop (L := m_spec_AppendUvarint_L1) (b := fun v => IntKind.u8.wrap (IntKind.i64.wrap (BitVec.ofInt (IntKind.i64.bits) (IntKind.i64.wrap (BitVec.ofInt (IntKind.i64.bits) v &&& BitVec.ofInt (IntKind.i64.bits) 127).toNat) ||| BitVec.ofInt (IntKind.i64.bits) 128).toNat)) (c := fun v => IntKind.u8.wrap v) (fun m n r h1 h2 => ?_) (fun m n r h1 => ?_) 8 fuel n r (by omega) (by omega) (by unfold fuel; omega) (by omega)
  · simp only [m_spec_AppendUvarint_L1]
    rw [if_pos (by simp; omega), uvf]
  · simp only [m_spec_AppendUvarint_L1]
    rw [if_neg (by simp; omega)]
theorem l_impl_AppendUvarint {r : List Int} {n : Nat} (hr : r.length ≤ 1048576) (hn : n ≤ 1000000000000) : ∃ l, m_impl_AppendUvarint r (n : Int) = some l ∧ l.length = r.length + (uv n).length := by
  have hi : inR (n : Int) 0 1000000000000 = true := by unfold inR; simp; omega
  unfold m_impl_AppendUvarint m_impl_copyBytes
  rw [app_ok (by simp; omega), Option.bind_some, Option.bind_some, p_impl_InRange, Option.bind_some, hi, if_neg (by simp)]
  refine uvLoop (L := m_impl_AppendUvarint_L1) (b := fun v => IntKind.u8.wrap (IntKind.i64.wrap ((Int.tmod v 128) + 128))) (c := fun v => IntKind.u8.wrap v) (fun m n r h1 h2 => ?_) (fun m n r h1 => ?_) 8 fuel n r (by omega) (by omega) (by unfold fuel; omega) (by omega)
  · simp only [m_impl_AppendUvarint_L1]
    rw [if_pos (by simp; omega), uvt h2]
  · simp only [m_impl_AppendUvarint_L1]
    rw [if_neg (by simp; omega)]
def nFieldLen (x : M.Field) : Nat := (uv x.Name.size).length + x.Name.size + (uv x.N.toNat).length
def nRecLen (r : M.Record) : Nat := if nRecord r = true then (uv r.Fields.length).length + szSum nFieldLen r.Fields else 0
theorem l_spec_AppendBytes {r b : List Int} (hr : r.length ≤ 1000) (hb : b.length ≤ 1000) : ∃ l, m_spec_AppendBytes r b = some l ∧ l.length = r.length + ((uv b.length).length + b.length) := by
  obtain ⟨l, e, hl⟩ := l_spec_AppendUvarint (r := r) (n := b.length) (by omega) (by omega)
  have h9 := uv_len b.length (by omega)
  refine ⟨l ++ b, ?_, by simp; omega⟩
  unfold m_spec_AppendBytes
  rw [e, Option.bind_some, app_ok (by omega), Option.bind_some]
theorem l_spec_EncodeRecord {r : M.Record} (hr : r.ok) : ∃ l, m_spec_EncodeRecord r = some l ∧ l.length = nRecLen r := by
  unfold m_spec_EncodeRecord nRecLen
  rw [p_spec_IsRecord hr, Option.bind_some]
  by_cases h : nRecord r = true
  · obtain ⟨h6, hf⟩ := nRecord_field h
    have hw : ∀ x ∈ r.Fields, nFieldLen x ≤ 26 := by
      intro x hx
      have := hf x hx
      have h1 := uv_len x.Name.size (by omega)
      have h2 := uv_len x.N.toNat (by omega)
      unfold nFieldLen
      omega
    have hsum := szSum_bound hw
    obtain ⟨l, e, hl⟩ := l_spec_AppendUvarint (r := []) (n := r.Fields.length) (by simp) (by omega)
    have h9 := uv_len r.Fields.length (by omega)
    rw [if_neg (by simp [h]), if_pos h, e, Option.bind_some]
    have := accLoop (xs := r.Fields) (w := nFieldLen) (B := 900) (L := m_spec_EncodeRecord_L1 r) (fun n k hk q hq => ?_) (fun n q => ?_) fuel 0 l (by unfold fuel; omega) (by omega) (by simp at hl ⊢; omega)
    · obtain ⟨z, e2, hz⟩ := this
      exact ⟨z, e2, by simp at hl hz; omega⟩
    · have hx := hf _ (List.getElem_mem hk)
      have hw2 := hw _ (List.getElem_mem hk)
      obtain ⟨a, ea, ha⟩ := l_spec_AppendBytes (r := q) (b := strBytes r.Fields[k].Name) (by omega) (by rw [strBytes_len]; omega)
      rw [strBytes_len] at ha
      have hn := uv_len r.Fields[k].Name.size (by omega)
      obtain ⟨b, eb, hb⟩ := l_spec_AppendUvarint (r := a) (n := r.Fields[k].N.toNat) (by omega) (by omega)
      rw [Int.toNat_of_nonneg hx.2.1] at eb
      refine ⟨b, by unfold nFieldLen; omega, ?_⟩
      simp only [m_spec_EncodeRecord_L1]
      rw [if_pos (lt_nat hk), idx_nat hk, Option.bind_some, ea, Option.bind_some, eb, Option.bind_some, wrapn (by omega)]
    · simp only [m_spec_EncodeRecord_L1]
      rw [if_neg (by rw [nlt_nat]; simp)]
  · rw [if_pos (by simp [h]), if_neg h]
    exact ⟨_, rfl, rfl⟩
theorem l_impl_AppendBytes {r b : List Int} (hr : r.length ≤ 1000) (hb : b.length ≤ 1000) : ∃ l, m_impl_AppendBytes r b = some l ∧ l.length = r.length + ((uv b.length).length + b.length) := by
  obtain ⟨l, e, hl⟩ := l_impl_AppendUvarint (r := r) (n := b.length) (by omega) (by omega)
  have h9 := uv_len b.length (by omega)
  refine ⟨l ++ b, ?_, by simp; omega⟩
  unfold m_impl_AppendBytes
  rw [e, Option.bind_some, app_ok (by omega), Option.bind_some]
theorem l_impl_EncodeRecord {r : M.Record} (hr : r.ok) : ∃ l, m_impl_EncodeRecord r = some l ∧ l.length = nRecLen r := by
  unfold m_impl_EncodeRecord nRecLen
  rw [p_impl_IsRecord hr, Option.bind_some]
  by_cases h : nRecord r = true
  · obtain ⟨h6, hf⟩ := nRecord_field h
    have hw : ∀ x ∈ r.Fields, nFieldLen x ≤ 26 := by
      intro x hx
      have := hf x hx
      have h1 := uv_len x.Name.size (by omega)
      have h2 := uv_len x.N.toNat (by omega)
      unfold nFieldLen
      omega
    have hsum := szSum_bound hw
    obtain ⟨l, e, hl⟩ := l_impl_AppendUvarint (r := []) (n := r.Fields.length) (by simp) (by omega)
    have h9 := uv_len r.Fields.length (by omega)
    rw [if_neg (by simp [h]), if_pos h, e, Option.bind_some]
    have := accLoop (xs := r.Fields) (w := nFieldLen) (B := 900) (L := m_impl_EncodeRecord_L1 r) (fun n k hk q hq => ?_) (fun n q => ?_) fuel 0 l (by unfold fuel; omega) (by omega) (by simp at hl ⊢; omega)
    · obtain ⟨z, e2, hz⟩ := this
      exact ⟨z, e2, by simp at hl hz; omega⟩
    · have hx := hf _ (List.getElem_mem hk)
      have hw2 := hw _ (List.getElem_mem hk)
      obtain ⟨a, ea, ha⟩ := l_impl_AppendBytes (r := q) (b := strBytes r.Fields[k].Name) (by omega) (by rw [strBytes_len]; omega)
      rw [strBytes_len] at ha
      have hn := uv_len r.Fields[k].Name.size (by omega)
      obtain ⟨b, eb, hb⟩ := l_impl_AppendUvarint (r := a) (n := r.Fields[k].N.toNat) (by omega) (by omega)
      rw [Int.toNat_of_nonneg hx.2.1] at eb
      refine ⟨b, by unfold nFieldLen; omega, ?_⟩
      simp only [m_impl_EncodeRecord_L1]
      rw [if_pos (lt_nat hk), idx_nat hk, Option.bind_some, ea, Option.bind_some, eb, Option.bind_some, wrapn (by omega)]
    · simp only [m_impl_EncodeRecord_L1]
      rw [if_neg (by rw [nlt_nat]; simp)]
  · rw [if_pos (by simp [h]), if_neg h]
    exact ⟨_, rfl, rfl⟩

def nSizeItem (v : Int) (x : M.Item) : Int := IntKind.i64.wrap (v + ((nKeyLen x.Key : Int) + (nRecLen x.Record : Int)))
def nSizeStore (s : M.Store) : Int := s.Items.foldl nSizeItem 0
def nSizeDatabase (d : M.Database) : Int := d.Stores.foldl (fun v s => IntKind.i64.wrap (v + nSizeStore s)) 0
def nUsage (b : M.Bucket) : Int := IntKind.i64.wrap ((IntKind.i64.wrap ((IntKind.i64.wrap (nSizeCaches b.Caches + IntKind.i64.wrap (nSizeDatabase b.Disk.Base + (List.length b.Disk.Log : Int)))) + nSizeStore b.Replica.Base)) + (IntKind.i64.wrap (40 * (List.length b.Replica.Sync.Outbox.Writes : Int))))
theorem p_spec_SizeStore {s : M.Store} (hs : s.ok) : m_spec_SizeStore s = some (nSizeStore s) := by
  have hm := le_max hs.Items.1
  unfold m_spec_SizeStore nSizeStore
  refine sumAll (L := m_spec_SizeStore_L1 s) (E := some) hs.Items.1 (fun n v k hk => ?_) (fun n v => ?_) 0
  · have hi := hs.Items.2 _ (List.getElem_mem hk)
    obtain ⟨a, ea, ha⟩ := l_spec_EncodeKey hi.Key
    obtain ⟨b, eb, hb⟩ := l_spec_EncodeRecord hi.Record
    simp only [m_spec_SizeStore_L1]
    rw [if_pos (lt_nat hk), idx_nat hk, Option.bind_some, ea, Option.bind_some, eb, Option.bind_some, wrapn (by omega), ha, hb]
    unfold nSizeItem
    rw [wrap_add, Int.add_assoc]
  · simp only [m_spec_SizeStore_L1]
    rw [if_neg (by rw [nlt_nat]; simp)]
theorem p_spec_SizeDatabase {d : M.Database} (hd : d.ok) : m_spec_SizeDatabase d = some (nSizeDatabase d) := by
  have hm := le_max hd.Stores.1
  unfold m_spec_SizeDatabase nSizeDatabase
  refine sumAll (L := m_spec_SizeDatabase_L1 d) (E := some) hd.Stores.1 (fun n v k hk => ?_) (fun n v => ?_) 0
  · have hi := hd.Stores.2 _ (List.getElem_mem hk)
    simp only [m_spec_SizeDatabase_L1]
    rw [if_pos (lt_nat hk), idx_nat hk, Option.bind_some, p_spec_SizeStore hi, Option.bind_some, wrapn (by omega)]
  · simp only [m_spec_SizeDatabase_L1]
    rw [if_neg (by rw [nlt_nat]; simp)]
theorem p_spec_UsageOf {b : M.Bucket} (hb : b.ok) : m_spec_UsageOf b = some (nUsage b) := by
  unfold m_spec_UsageOf m_spec_SizeDisk nUsage
  rw [p_spec_SizeCaches hb.Caches, Option.bind_some, p_spec_SizeDatabase hb.Disk.Base, Option.bind_some, Option.bind_some, p_spec_SizeStore hb.Replica.Base, Option.bind_some]
theorem p_impl_SizeStore {s : M.Store} (hs : s.ok) : m_impl_SizeStore s = some (nSizeStore s) := by
  have hm := le_max hs.Items.1
  unfold m_impl_SizeStore nSizeStore
  refine sumAll (L := m_impl_SizeStore_L1 s) (E := some) hs.Items.1 (fun n v k hk => ?_) (fun n v => ?_) 0
  · have hi := hs.Items.2 _ (List.getElem_mem hk)
    obtain ⟨a, ea, ha⟩ := l_impl_EncodeKey hi.Key
    obtain ⟨b, eb, hb⟩ := l_impl_EncodeRecord hi.Record
    simp only [m_impl_SizeStore_L1]
    rw [if_pos (lt_nat hk), idx_nat hk, Option.bind_some, ea, Option.bind_some, eb, Option.bind_some, wrapn (by omega), ha, hb]
    unfold nSizeItem
    rw [wrap_add2]
  · simp only [m_impl_SizeStore_L1]
    rw [if_neg (by rw [nlt_nat]; simp)]
theorem p_impl_SizeDatabase {d : M.Database} (hd : d.ok) : m_impl_SizeDatabase d = some (nSizeDatabase d) := by
  have hm := le_max hd.Stores.1
  unfold m_impl_SizeDatabase nSizeDatabase
  refine sumAll (L := m_impl_SizeDatabase_L1 d) (E := some) hd.Stores.1 (fun n v k hk => ?_) (fun n v => ?_) 0
  · have hi := hd.Stores.2 _ (List.getElem_mem hk)
    simp only [m_impl_SizeDatabase_L1]
    rw [if_pos (lt_nat hk), idx_nat hk, Option.bind_some, p_impl_SizeStore hi, Option.bind_some, wrapn (by omega)]
  · simp only [m_impl_SizeDatabase_L1]
    rw [if_neg (by rw [nlt_nat]; simp)]
theorem p_impl_UsageOf {b : M.Bucket} (hb : b.ok) : m_impl_UsageOf b = some (nUsage b) := by
  unfold m_impl_UsageOf m_impl_SizeDisk nUsage
  rw [p_impl_SizeCaches hb.Caches, Option.bind_some, p_impl_SizeDatabase hb.Disk.Base, Option.bind_some, Option.bind_some, p_impl_SizeStore hb.Replica.Base, Option.bind_some]

end Go.Proofs.YtmpbibngijnfeaaGreat.gen
