/-
  Helper text: the plain laws of mark and held. No conditions beyond those of each law.
-/
import Derived.Test.YtcpahpbjjnekkaaGreatWorkerVersionsPz
namespace Go.Proofs.YtcpahpbjjnekkaaGreat.gen
open Go Go.Sh
set_option linter.unusedVariables false
set_option linter.unusedSimpArgs false
theorem mtLoop : ∀ (n : Nat) (v : Int) (b : ByteArray), v.toNat < n → 0 ≤ v → (b.size : Int) + v ≤ KB → ∃ t, m_laws_markText_L1 n v b = some t ∧ t.size ≤ 4611686018427387905
  | 0, v, b, h, _, _ => by omega
  | n + 1, v, b, h, h0, hb => by
    unfold KB at hb
    simp only [m_laws_markText_L1]
    by_cases hv : v > 0
    · rw [if_pos (by simp; omega)]
      have h1 := Int.tmod_nonneg 10 h0
      have h2 := Int.tmod_lt_of_pos v (show (0 : Int) < 10 by omega)
      have hu := u8_range (IntKind.i64.wrap (48 + Int.tmod v 10))
      have hd : Int.tdiv v 10 = v / 10 := Int.tdiv_eq_ediv_of_nonneg h0
      have hs : toStr [IntKind.u8.wrap (IntKind.i64.wrap (48 + Int.tmod v 10))] = some (bytesStr [IntKind.u8.wrap (IntKind.i64.wrap (48 + Int.tmod v 10))]) := by
        unfold toStr; rw [if_pos (by simp; omega)]
      have hz : (bytesStr [IntKind.u8.wrap (IntKind.i64.wrap (48 + Int.tmod v 10))]).size = 1 := rfl
      rw [hs, Option.bind_some]
      unfold cat
      rw [if_pos (by rw [hz]; omega), Option.bind_some, hd, wrap_ok (by omega) (by omega)]
      refine mtLoop n (v / 10) _ (by omega) (by omega) ?_
      rw [ByteArray.size_append, hz]
      unfold KB
      omega
    · rw [if_neg (by simp; omega)]
      have hq : cat (⟨#[109]⟩ : ByteArray) b = some ((⟨#[109]⟩ : ByteArray) ++ b) := by
        unfold cat; rw [if_pos (by show 1 + b.size ≤ _; omega)]
      first | exact ⟨_, by rw [hq, Option.bind_some], by rw [ByteArray.size_append]; show 1 + b.size ≤ _; omega⟩ | exact ⟨_, by rw [hq]; rfl, by rw [ByteArray.size_append]; show 1 + b.size ≤ _; omega⟩
theorem mt_some (k : Int) (h0 : 0 ≤ k) (h : k < KB) : ∃ t, m_laws_markText k = some t := by
  unfold m_laws_markText
  by_cases hk : k ≤ 0
  · exact ⟨_, by rw [if_pos (by simpa using hk)]⟩
  · rw [if_neg (by simpa using hk)]
    obtain ⟨t, h1, _⟩ := mtLoop fuel k ⟨#[]⟩ (by unfold fuel KB at *; omega) h0 (by show ((0 : Nat) : Int) + k ≤ KB; omega)
    exact ⟨t, h1⟩
def mtx (k : Int) : ByteArray := (m_laws_markText k).getD ⟨#[]⟩
theorem mt {k : Int} (h0 : 0 ≤ k) (h : k < KB) : m_laws_markText k = some (mtx k) := by
  obtain ⟨t, ht⟩ := mt_some k h0 h
  unfold mtx; rw [ht]; rfl

set_option maxHeartbeats 4000000 in
theorem M.IntS.mstep (x : Int) (hx : True) (k : Int) (h0 : 0 ≤ k) (hB : k + (((fun _ : Int => 1) x : Nat) : Int) ≤ KB) : ∃ x' : Int, (∀ n (pre post : List Int), (pre ++ x :: post).length ≤ maxLen → m_laws_markIntS_L1 (n + 1) k pre.length (pre ++ x :: post) = m_laws_markIntS_L1 n (k + (((fun _ : Int => 1) x : Nat) : Int)) ((pre.length + 1 : Nat) : Int) (pre ++ x' :: post)) ∧ ∀ n (l : List Int) (i : Nat), l[i]? = some x' → l.length ≤ maxLen → m_laws_heldIntS_L1 l (n + 1) k i = m_laws_heldIntS_L1 l n (k + (((fun _ : Int => 1) x : Nat) : Int)) ((i + 1 : Nat) : Int) := by
  unfold KB at hB; (try simp only [] at hB ⊢)
  have A : (0 ≤ k ∧ k ≤ KB) ∧ (0 ≤ k + 1 ∧ k + 1 ≤ KB) := by
    unfold KB
    refine ⟨?_, ?_⟩ <;> omega
  have hE : k + 1 = k + (((fun _ : Int => 1) x : Nat) : Int) := by simp
  obtain ⟨q0, q1⟩ := A
  have w0 := wk2 q0
  refine ⟨k, fun n pre post hl => ?_, fun n l i hi hl => ?_⟩
  · have hl' := le_max hl
    have hp : pre.length < 9223372036854775807 := by simp at hl'; omega
    simp only [m_laws_markIntS_L1]
    rw [if_pos (lt_mid pre post x)]
    simp (maxSteps := 2000000) only [idx_mid, set_mid, Option.bind_some, wrapn hp, w0]
    rw [hE]
  · have hl' := le_max hl
    have hp : i < 9223372036854775807 := by have := (List.getElem?_eq_some_iff.1 hi).1; omega
    simp only [m_laws_heldIntS_L1]
    rw [if_pos (lt_at hi)]
    simp (maxSteps := 2000000) only [idx_at hi, Option.bind_some, wrapn hp, w0, bne_self_eq_false, beq_self_eq_true, Bool.not_true, Bool.false_eq_true, if_false]
    rw [hE]
theorem M.IntS.cl (xs : List Int) : szSum (fun _ : Int => 1) xs = xs.length := by
  induction xs with
  | nil => rfl
  | cons x xs ih => simp only [szSum, ih, List.length_cons]; omega
theorem M.IntS.p_mark (xs : List Int) (hx : okI xs) (k : Int) (h0 : 0 ≤ k) (hB : k + ((xs.length : Nat) : Int) ≤ KB) : ∃ ys, m_laws_markIntS xs k = some (ys, k + ((xs.length : Nat) : Int)) ∧ m_laws_heldIntS ys k = some (k + ((xs.length : Nat) : Int)) ∧ ys.length = xs.length := by
  have hm := le_max hx.1
  rw [← M.IntS.cl xs] at hB ⊢
  obtain ⟨ys, h1, h2, h3⟩ := markHeld (ML := m_laws_markIntS_L1) (HL := m_laws_heldIntS_L1) (c := (fun _ : Int => 1)) (ok := (fun _ : Int => True)) (fun x hx k h0 hB => M.IntS.mstep x hx k h0 hB) (fun n k l => by simp only [m_laws_markIntS_L1]; rw [if_neg (by rw [nlt_nat]; simp)]) (fun n k l => by simp only [m_laws_heldIntS_L1]; rw [if_neg (by rw [nlt_nat]; simp)]) xs [] fuel k (by simpa using hx.1) (by unfold fuel; omega) (fun _ _ => trivial) h0 hB
  refine ⟨ys, by unfold m_laws_markIntS; simpa using h2, by unfold m_laws_heldIntS; simpa using h3 fuel (by unfold fuel; omega), by have := M.IntS.cl xs; omega⟩
set_option maxHeartbeats 4000000 in
theorem M.ByteS.mstep (x : Int) (hx : True) (k : Int) (h0 : 0 ≤ k) (hB : k + (((fun _ : Int => 1) x : Nat) : Int) ≤ KB) : ∃ x' : Int, (∀ n (pre post : List Int), (pre ++ x :: post).length ≤ maxLen → m_laws_markByteS_L1 (n + 1) k pre.length (pre ++ x :: post) = m_laws_markByteS_L1 n (k + (((fun _ : Int => 1) x : Nat) : Int)) ((pre.length + 1 : Nat) : Int) (pre ++ x' :: post)) := by
  unfold KB at hB; (try simp only [] at hB ⊢)
  have A : (0 ≤ k ∧ k ≤ KB) ∧ (0 ≤ k + 1 ∧ k + 1 ≤ KB) := by
    unfold KB
    refine ⟨?_, ?_⟩ <;> omega
  have hE : k + 1 = k + (((fun _ : Int => 1) x : Nat) : Int) := by simp
  obtain ⟨q0, q1⟩ := A
  have w0 := wk2 q0
  refine ⟨(IntKind.u8.wrap k), fun n pre post hl => ?_⟩
  have hl' := le_max hl
  have hp : pre.length < 9223372036854775807 := by simp at hl'; omega
  simp only [m_laws_markByteS_L1]
  rw [if_pos (lt_mid pre post x)]
  simp (maxSteps := 2000000) only [idx_mid, set_mid, Option.bind_some, wrapn hp, w0]
  rw [hE]
theorem M.ByteS.cl (xs : List Int) : szSum (fun _ : Int => 1) xs = xs.length := by
  induction xs with
  | nil => rfl
  | cons x xs ih => simp only [szSum, ih, List.length_cons]; omega
theorem M.ByteS.p_mark (xs : List Int) (hx : okB xs) (k : Int) (h0 : 0 ≤ k) (hB : k + ((xs.length : Nat) : Int) ≤ KB) : ∃ ys, m_laws_markByteS xs k = some (ys, k + ((xs.length : Nat) : Int)) := by
  have hm := le_max hx.1
  rw [← M.ByteS.cl xs] at hB ⊢
  obtain ⟨ys, h2⟩ := markOnly (ML := m_laws_markByteS_L1) (c := (fun _ : Int => 1)) (ok := (fun _ : Int => True)) (fun x hx k h0 hB => M.ByteS.mstep x hx k h0 hB) (fun n k l => by simp only [m_laws_markByteS_L1]; rw [if_neg (by rw [nlt_nat]; simp)]) xs [] fuel k (by simpa using hx.1) (by unfold fuel; omega) (fun _ _ => trivial) h0 hB
  exact ⟨ys, by unfold m_laws_markByteS; simpa using h2⟩
def M.Cached.cnt (x : M.Cached) : Nat := 6 + (x.Response.Body.length)
set_option maxHeartbeats 4000000 in
theorem M.Cached.mstep (x : M.Cached) (hx : M.Cached.ok x) (k : Int) (h0 : 0 ≤ k) (hB : k + ((M.Cached.cnt x : Nat) : Int) ≤ KB) : ∃ x' : M.Cached, (∀ n (pre post : List M.Cached), (pre ++ x :: post).length ≤ maxLen → m_laws_markCachedS_L1 (n + 1) k pre.length (pre ++ x :: post) = m_laws_markCachedS_L1 n (k + ((M.Cached.cnt x : Nat) : Int)) ((pre.length + 1 : Nat) : Int) (pre ++ x' :: post)) := by
  unfold KB at hB; unfold M.Cached.cnt at hB ⊢
  have A : (0 ≤ k ∧ k ≤ KB) ∧ (0 ≤ k + 1 ∧ k + 1 ≤ KB) ∧ (0 ≤ k + 1 + 1 ∧ k + 1 + 1 ≤ KB) ∧ (0 ≤ k + 1 + 1 + 1 ∧ k + 1 + 1 + 1 ≤ KB) ∧ (0 ≤ k + 1 + 1 + 1 + 1 ∧ k + 1 + 1 + 1 + 1 ≤ KB) ∧ (0 ≤ k + 1 + 1 + 1 + 1 + 1 ∧ k + 1 + 1 + 1 + 1 + 1 ≤ KB) ∧ (0 ≤ k + 1 + 1 + 1 + 1 + 1 + ((x.Response.Body.length : Nat) : Int) ∧ k + 1 + 1 + 1 + 1 + 1 + ((x.Response.Body.length : Nat) : Int) ≤ KB) ∧ (0 ≤ k + 1 + 1 + 1 + 1 + 1 + ((x.Response.Body.length : Nat) : Int) + 1 ∧ k + 1 + 1 + 1 + 1 + 1 + ((x.Response.Body.length : Nat) : Int) + 1 ≤ KB) := by
    unfold KB
    refine ⟨?_, ?_, ?_, ?_, ?_, ?_, ?_, ?_⟩ <;> omega
  have hE : k + 1 + 1 + 1 + 1 + 1 + ((x.Response.Body.length : Nat) : Int) + 1 = k + ((M.Cached.cnt x : Nat) : Int) := by unfold M.Cached.cnt; omega
  unfold M.Cached.cnt at hE
  obtain ⟨q0, q1, q2, q3, q4, q5, q6, q7⟩ := A
  have t0 : m_laws_markText (k) = some (mtx (k)) := mt q0.1 (Int.lt_of_add_one_le q1.2)
  have w0 := wk2 q0
  have t1 : m_laws_markText (k + 1) = some (mtx (k + 1)) := mt q1.1 (Int.lt_of_add_one_le q2.2)
  have w1 := wk2 q1
  have w2 := wk2 q2
  have w3 := wk2 q3
  have w4 := wk2 q4
  obtain ⟨y1, a1⟩ := M.ByteS.p_mark _ hx.Response.Body (k + 1 + 1 + 1 + 1 + 1) q5.1 q6.2
  have w6 := wk2 q6
  refine ⟨⟨(mtx (k)), (mtx (k + 1)), ⟨k + 1 + 1, k + 1 + 1 + 1, k + 1 + 1 + 1 + 1, y1, ((Int.tmod (k + 1 + 1 + 1 + 1 + 1 + ((x.Response.Body.length : Nat) : Int)) 3) == 0)⟩⟩, fun n pre post hl => ?_⟩
  have hl' := le_max hl
  have hp : pre.length < 9223372036854775807 := by simp at hl'; omega
  simp only [m_laws_markCachedS_L1]
  rw [if_pos (lt_mid pre post x)]
  simp (maxSteps := 2000000) only [idx_mid, set_mid, Option.bind_some, wrapn hp, t0, w0, t1, w1, w2, w3, w4, a1, w6]
  rw [hE]
theorem M.CachedS.p_mark (xs : List M.Cached) (hx : (xs.length ≤ maxLen ∧ ∀ y ∈ xs, M.Cached.ok y)) (k : Int) (h0 : 0 ≤ k) (hB : k + ((szSum M.Cached.cnt xs : Nat) : Int) ≤ KB) : ∃ ys, m_laws_markCachedS xs k = some (ys, k + ((szSum M.Cached.cnt xs : Nat) : Int)) := by
  have hm := le_max hx.1
  obtain ⟨ys, h2⟩ := markOnly (ML := m_laws_markCachedS_L1) (c := M.Cached.cnt) (ok := M.Cached.ok) (fun x hx k h0 hB => M.Cached.mstep x hx k h0 hB) (fun n k l => by simp only [m_laws_markCachedS_L1]; rw [if_neg (by rw [nlt_nat]; simp)]) xs [] fuel k (by simpa using hx.1) (by unfold fuel; omega) hx.2 h0 hB
  exact ⟨ys, by unfold m_laws_markCachedS; simpa using h2⟩
def M.Cache.cnt (x : M.Cache) : Nat := 1 + (szSum M.Cached.cnt x.Entries)
set_option maxHeartbeats 4000000 in
theorem M.Cache.mstep (x : M.Cache) (hx : M.Cache.ok x) (k : Int) (h0 : 0 ≤ k) (hB : k + ((M.Cache.cnt x : Nat) : Int) ≤ KB) : ∃ x' : M.Cache, (∀ n (pre post : List M.Cache), (pre ++ x :: post).length ≤ maxLen → m_laws_markCacheS_L1 (n + 1) k pre.length (pre ++ x :: post) = m_laws_markCacheS_L1 n (k + ((M.Cache.cnt x : Nat) : Int)) ((pre.length + 1 : Nat) : Int) (pre ++ x' :: post)) := by
  unfold KB at hB; unfold M.Cache.cnt at hB ⊢
  have A : (0 ≤ k ∧ k ≤ KB) ∧ (0 ≤ k + 1 ∧ k + 1 ≤ KB) ∧ (0 ≤ k + 1 + ((szSum M.Cached.cnt x.Entries : Nat) : Int) ∧ k + 1 + ((szSum M.Cached.cnt x.Entries : Nat) : Int) ≤ KB) := by
    unfold KB
    refine ⟨?_, ?_, ?_⟩ <;> omega
  have hE : k + 1 + ((szSum M.Cached.cnt x.Entries : Nat) : Int) = k + ((M.Cache.cnt x : Nat) : Int) := by unfold M.Cache.cnt; omega
  unfold M.Cache.cnt at hE
  obtain ⟨q0, q1, q2⟩ := A
  have w0 := wk2 q0
  obtain ⟨y1, a1⟩ := M.CachedS.p_mark _ hx.Entries (k + 1) q1.1 q2.2
  refine ⟨⟨k, y1⟩, fun n pre post hl => ?_⟩
  have hl' := le_max hl
  have hp : pre.length < 9223372036854775807 := by simp at hl'; omega
  simp only [m_laws_markCacheS_L1]
  rw [if_pos (lt_mid pre post x)]
  simp (maxSteps := 2000000) only [idx_mid, set_mid, Option.bind_some, wrapn hp, w0, a1]
  rw [hE]
theorem M.CacheS.p_mark (xs : List M.Cache) (hx : (xs.length ≤ maxLen ∧ ∀ y ∈ xs, M.Cache.ok y)) (k : Int) (h0 : 0 ≤ k) (hB : k + ((szSum M.Cache.cnt xs : Nat) : Int) ≤ KB) : ∃ ys, m_laws_markCacheS xs k = some (ys, k + ((szSum M.Cache.cnt xs : Nat) : Int)) := by
  have hm := le_max hx.1
  obtain ⟨ys, h2⟩ := markOnly (ML := m_laws_markCacheS_L1) (c := M.Cache.cnt) (ok := M.Cache.ok) (fun x hx k h0 hB => M.Cache.mstep x hx k h0 hB) (fun n k l => by simp only [m_laws_markCacheS_L1]; rw [if_neg (by rw [nlt_nat]; simp)]) xs [] fuel k (by simpa using hx.1) (by unfold fuel; omega) hx.2 h0 hB
  exact ⟨ys, by unfold m_laws_markCacheS; simpa using h2⟩
def M.Field.cnt (x : M.Field) : Nat := 2
set_option maxHeartbeats 4000000 in
theorem M.Field.mstep (x : M.Field) (hx : M.Field.ok x) (k : Int) (h0 : 0 ≤ k) (hB : k + ((M.Field.cnt x : Nat) : Int) ≤ KB) : ∃ x' : M.Field, (∀ n (pre post : List M.Field), (pre ++ x :: post).length ≤ maxLen → m_laws_markFieldS_L1 (n + 1) k pre.length (pre ++ x :: post) = m_laws_markFieldS_L1 n (k + ((M.Field.cnt x : Nat) : Int)) ((pre.length + 1 : Nat) : Int) (pre ++ x' :: post)) := by
  unfold KB at hB; unfold M.Field.cnt at hB ⊢
  have A : (0 ≤ k ∧ k ≤ KB) ∧ (0 ≤ k + 1 ∧ k + 1 ≤ KB) ∧ (0 ≤ k + 1 + 1 ∧ k + 1 + 1 ≤ KB) := by
    unfold KB
    refine ⟨?_, ?_, ?_⟩ <;> omega
  have hE : k + 1 + 1 = k + ((M.Field.cnt x : Nat) : Int) := by unfold M.Field.cnt; omega
  unfold M.Field.cnt at hE
  obtain ⟨q0, q1, q2⟩ := A
  have t0 : m_laws_markText (k) = some (mtx (k)) := mt q0.1 (Int.lt_of_add_one_le q1.2)
  have w0 := wk2 q0
  have w1 := wk2 q1
  refine ⟨⟨(mtx (k)), k + 1⟩, fun n pre post hl => ?_⟩
  have hl' := le_max hl
  have hp : pre.length < 9223372036854775807 := by simp at hl'; omega
  simp only [m_laws_markFieldS_L1]
  rw [if_pos (lt_mid pre post x)]
  simp (maxSteps := 2000000) only [idx_mid, set_mid, Option.bind_some, wrapn hp, t0, w0, w1]
  rw [hE]
theorem M.FieldS.p_mark (xs : List M.Field) (hx : (xs.length ≤ maxLen ∧ ∀ y ∈ xs, M.Field.ok y)) (k : Int) (h0 : 0 ≤ k) (hB : k + ((szSum M.Field.cnt xs : Nat) : Int) ≤ KB) : ∃ ys, m_laws_markFieldS xs k = some (ys, k + ((szSum M.Field.cnt xs : Nat) : Int)) := by
  have hm := le_max hx.1
  obtain ⟨ys, h2⟩ := markOnly (ML := m_laws_markFieldS_L1) (c := M.Field.cnt) (ok := M.Field.ok) (fun x hx k h0 hB => M.Field.mstep x hx k h0 hB) (fun n k l => by simp only [m_laws_markFieldS_L1]; rw [if_neg (by rw [nlt_nat]; simp)]) xs [] fuel k (by simpa using hx.1) (by unfold fuel; omega) hx.2 h0 hB
  exact ⟨ys, by unfold m_laws_markFieldS; simpa using h2⟩
def M.Item.cnt (x : M.Item) : Nat := 3 + (szSum M.Field.cnt x.Record.Fields)
set_option maxHeartbeats 4000000 in
theorem M.Item.mstep (x : M.Item) (hx : M.Item.ok x) (k : Int) (h0 : 0 ≤ k) (hB : k + ((M.Item.cnt x : Nat) : Int) ≤ KB) : ∃ x' : M.Item, (∀ n (pre post : List M.Item), (pre ++ x :: post).length ≤ maxLen → m_laws_markItemS_L1 (n + 1) k pre.length (pre ++ x :: post) = m_laws_markItemS_L1 n (k + ((M.Item.cnt x : Nat) : Int)) ((pre.length + 1 : Nat) : Int) (pre ++ x' :: post)) := by
  unfold KB at hB; unfold M.Item.cnt at hB ⊢
  have A : (0 ≤ k ∧ k ≤ KB) ∧ (0 ≤ k + 1 ∧ k + 1 ≤ KB) ∧ (0 ≤ k + 1 + 1 ∧ k + 1 + 1 ≤ KB) ∧ (0 ≤ k + 1 + 1 + 1 ∧ k + 1 + 1 + 1 ≤ KB) ∧ (0 ≤ k + 1 + 1 + 1 + ((szSum M.Field.cnt x.Record.Fields : Nat) : Int) ∧ k + 1 + 1 + 1 + ((szSum M.Field.cnt x.Record.Fields : Nat) : Int) ≤ KB) := by
    unfold KB
    refine ⟨?_, ?_, ?_, ?_, ?_⟩ <;> omega
  have hE : k + 1 + 1 + 1 + ((szSum M.Field.cnt x.Record.Fields : Nat) : Int) = k + ((M.Item.cnt x : Nat) : Int) := by unfold M.Item.cnt; omega
  unfold M.Item.cnt at hE
  obtain ⟨q0, q1, q2, q3, q4⟩ := A
  have w0 := wk2 q0
  have w1 := wk2 q1
  have t2 : m_laws_markText (k + 1 + 1) = some (mtx (k + 1 + 1)) := mt q2.1 (Int.lt_of_add_one_le q3.2)
  have w2 := wk2 q2
  obtain ⟨y1, a1⟩ := M.FieldS.p_mark _ hx.Record.Fields (k + 1 + 1 + 1) q3.1 q4.2
  refine ⟨⟨⟨k, k + 1, (mtx (k + 1 + 1))⟩, ⟨y1⟩⟩, fun n pre post hl => ?_⟩
  have hl' := le_max hl
  have hp : pre.length < 9223372036854775807 := by simp at hl'; omega
  simp only [m_laws_markItemS_L1]
  rw [if_pos (lt_mid pre post x)]
  simp (maxSteps := 2000000) only [idx_mid, set_mid, Option.bind_some, wrapn hp, w0, w1, t2, w2, a1]
  rw [hE]
theorem M.ItemS.p_mark (xs : List M.Item) (hx : (xs.length ≤ maxLen ∧ ∀ y ∈ xs, M.Item.ok y)) (k : Int) (h0 : 0 ≤ k) (hB : k + ((szSum M.Item.cnt xs : Nat) : Int) ≤ KB) : ∃ ys, m_laws_markItemS xs k = some (ys, k + ((szSum M.Item.cnt xs : Nat) : Int)) := by
  have hm := le_max hx.1
  obtain ⟨ys, h2⟩ := markOnly (ML := m_laws_markItemS_L1) (c := M.Item.cnt) (ok := M.Item.ok) (fun x hx k h0 hB => M.Item.mstep x hx k h0 hB) (fun n k l => by simp only [m_laws_markItemS_L1]; rw [if_neg (by rw [nlt_nat]; simp)]) xs [] fuel k (by simpa using hx.1) (by unfold fuel; omega) hx.2 h0 hB
  exact ⟨ys, by unfold m_laws_markItemS; simpa using h2⟩
def M.Store.cnt (x : M.Store) : Nat := 2 + (szSum M.Item.cnt x.Items)
set_option maxHeartbeats 4000000 in
theorem M.Store.mstep (x : M.Store) (hx : M.Store.ok x) (k : Int) (h0 : 0 ≤ k) (hB : k + ((M.Store.cnt x : Nat) : Int) ≤ KB) : ∃ x' : M.Store, (∀ n (pre post : List M.Store), (pre ++ x :: post).length ≤ maxLen → m_laws_markStoreS_L1 (n + 1) k pre.length (pre ++ x :: post) = m_laws_markStoreS_L1 n (k + ((M.Store.cnt x : Nat) : Int)) ((pre.length + 1 : Nat) : Int) (pre ++ x' :: post)) := by
  unfold KB at hB; unfold M.Store.cnt at hB ⊢
  have A : (0 ≤ k ∧ k ≤ KB) ∧ (0 ≤ k + 1 ∧ k + 1 ≤ KB) ∧ (0 ≤ k + 1 + ((szSum M.Item.cnt x.Items : Nat) : Int) ∧ k + 1 + ((szSum M.Item.cnt x.Items : Nat) : Int) ≤ KB) ∧ (0 ≤ k + 1 + ((szSum M.Item.cnt x.Items : Nat) : Int) + 1 ∧ k + 1 + ((szSum M.Item.cnt x.Items : Nat) : Int) + 1 ≤ KB) := by
    unfold KB
    refine ⟨?_, ?_, ?_, ?_⟩ <;> omega
  have hE : k + 1 + ((szSum M.Item.cnt x.Items : Nat) : Int) + 1 = k + ((M.Store.cnt x : Nat) : Int) := by unfold M.Store.cnt; omega
  unfold M.Store.cnt at hE
  obtain ⟨q0, q1, q2, q3⟩ := A
  have t0 : m_laws_markText (k) = some (mtx (k)) := mt q0.1 (Int.lt_of_add_one_le q1.2)
  have w0 := wk2 q0
  obtain ⟨y1, a1⟩ := M.ItemS.p_mark _ hx.Items (k + 1) q1.1 q2.2
  have w2 := wk2 q2
  refine ⟨⟨(mtx (k)), y1, k + 1 + ((szSum M.Item.cnt x.Items : Nat) : Int)⟩, fun n pre post hl => ?_⟩
  have hl' := le_max hl
  have hp : pre.length < 9223372036854775807 := by simp at hl'; omega
  simp only [m_laws_markStoreS_L1]
  rw [if_pos (lt_mid pre post x)]
  simp (maxSteps := 2000000) only [idx_mid, set_mid, Option.bind_some, wrapn hp, t0, w0, a1, w2]
  rw [hE]
theorem M.StoreS.p_mark (xs : List M.Store) (hx : (xs.length ≤ maxLen ∧ ∀ y ∈ xs, M.Store.ok y)) (k : Int) (h0 : 0 ≤ k) (hB : k + ((szSum M.Store.cnt xs : Nat) : Int) ≤ KB) : ∃ ys, m_laws_markStoreS xs k = some (ys, k + ((szSum M.Store.cnt xs : Nat) : Int)) := by
  have hm := le_max hx.1
  obtain ⟨ys, h2⟩ := markOnly (ML := m_laws_markStoreS_L1) (c := M.Store.cnt) (ok := M.Store.ok) (fun x hx k h0 hB => M.Store.mstep x hx k h0 hB) (fun n k l => by simp only [m_laws_markStoreS_L1]; rw [if_neg (by rw [nlt_nat]; simp)]) xs [] fuel k (by simpa using hx.1) (by unfold fuel; omega) hx.2 h0 hB
  exact ⟨ys, by unfold m_laws_markStoreS; simpa using h2⟩
def M.IndexDef.cnt (x : M.IndexDef) : Nat := 2
set_option maxHeartbeats 4000000 in
theorem M.IndexDef.mstep (x : M.IndexDef) (hx : M.IndexDef.ok x) (k : Int) (h0 : 0 ≤ k) (hB : k + ((M.IndexDef.cnt x : Nat) : Int) ≤ KB) : ∃ x' : M.IndexDef, (∀ n (pre post : List M.IndexDef), (pre ++ x :: post).length ≤ maxLen → m_laws_markIndexDefS_L1 (n + 1) k pre.length (pre ++ x :: post) = m_laws_markIndexDefS_L1 n (k + ((M.IndexDef.cnt x : Nat) : Int)) ((pre.length + 1 : Nat) : Int) (pre ++ x' :: post)) := by
  unfold KB at hB; unfold M.IndexDef.cnt at hB ⊢
  have A : (0 ≤ k ∧ k ≤ KB) ∧ (0 ≤ k + 1 ∧ k + 1 ≤ KB) ∧ (0 ≤ k + 1 + 1 ∧ k + 1 + 1 ≤ KB) := by
    unfold KB
    refine ⟨?_, ?_, ?_⟩ <;> omega
  have hE : k + 1 + 1 = k + ((M.IndexDef.cnt x : Nat) : Int) := by unfold M.IndexDef.cnt; omega
  unfold M.IndexDef.cnt at hE
  obtain ⟨q0, q1, q2⟩ := A
  have t0 : m_laws_markText (k) = some (mtx (k)) := mt q0.1 (Int.lt_of_add_one_le q1.2)
  have w0 := wk2 q0
  have t1 : m_laws_markText (k + 1) = some (mtx (k + 1)) := mt q1.1 (Int.lt_of_add_one_le q2.2)
  have w1 := wk2 q1
  refine ⟨⟨(mtx (k)), (mtx (k + 1))⟩, fun n pre post hl => ?_⟩
  have hl' := le_max hl
  have hp : pre.length < 9223372036854775807 := by simp at hl'; omega
  simp only [m_laws_markIndexDefS_L1]
  rw [if_pos (lt_mid pre post x)]
  simp (maxSteps := 2000000) only [idx_mid, set_mid, Option.bind_some, wrapn hp, t0, w0, t1, w1]
  rw [hE]
theorem M.IndexDefS.p_mark (xs : List M.IndexDef) (hx : (xs.length ≤ maxLen ∧ ∀ y ∈ xs, M.IndexDef.ok y)) (k : Int) (h0 : 0 ≤ k) (hB : k + ((szSum M.IndexDef.cnt xs : Nat) : Int) ≤ KB) : ∃ ys, m_laws_markIndexDefS xs k = some (ys, k + ((szSum M.IndexDef.cnt xs : Nat) : Int)) := by
  have hm := le_max hx.1
  obtain ⟨ys, h2⟩ := markOnly (ML := m_laws_markIndexDefS_L1) (c := M.IndexDef.cnt) (ok := M.IndexDef.ok) (fun x hx k h0 hB => M.IndexDef.mstep x hx k h0 hB) (fun n k l => by simp only [m_laws_markIndexDefS_L1]; rw [if_neg (by rw [nlt_nat]; simp)]) xs [] fuel k (by simpa using hx.1) (by unfold fuel; omega) hx.2 h0 hB
  exact ⟨ys, by unfold m_laws_markIndexDefS; simpa using h2⟩
def M.Write.cnt (x : M.Write) : Nat := 7
set_option maxHeartbeats 4000000 in
theorem M.Write.mstep (x : M.Write) (hx : M.Write.ok x) (k : Int) (h0 : 0 ≤ k) (hB : k + ((M.Write.cnt x : Nat) : Int) ≤ KB) : ∃ x' : M.Write, (∀ n (pre post : List M.Write), (pre ++ x :: post).length ≤ maxLen → m_laws_markWriteS_L1 (n + 1) k pre.length (pre ++ x :: post) = m_laws_markWriteS_L1 n (k + ((M.Write.cnt x : Nat) : Int)) ((pre.length + 1 : Nat) : Int) (pre ++ x' :: post)) := by
  unfold KB at hB; unfold M.Write.cnt at hB ⊢
  have A : (0 ≤ k ∧ k ≤ KB) ∧ (0 ≤ k + 1 ∧ k + 1 ≤ KB) ∧ (0 ≤ k + 1 + 1 ∧ k + 1 + 1 ≤ KB) ∧ (0 ≤ k + 1 + 1 + 1 ∧ k + 1 + 1 + 1 ≤ KB) ∧ (0 ≤ k + 1 + 1 + 1 + 1 ∧ k + 1 + 1 + 1 + 1 ≤ KB) ∧ (0 ≤ k + 1 + 1 + 1 + 1 + 1 ∧ k + 1 + 1 + 1 + 1 + 1 ≤ KB) ∧ (0 ≤ k + 1 + 1 + 1 + 1 + 1 + 1 ∧ k + 1 + 1 + 1 + 1 + 1 + 1 ≤ KB) ∧ (0 ≤ k + 1 + 1 + 1 + 1 + 1 + 1 + 1 ∧ k + 1 + 1 + 1 + 1 + 1 + 1 + 1 ≤ KB) := by
    unfold KB
    refine ⟨?_, ?_, ?_, ?_, ?_, ?_, ?_, ?_⟩ <;> omega
  have hE : k + 1 + 1 + 1 + 1 + 1 + 1 + 1 = k + ((M.Write.cnt x : Nat) : Int) := by unfold M.Write.cnt; omega
  unfold M.Write.cnt at hE
  obtain ⟨q0, q1, q2, q3, q4, q5, q6, q7⟩ := A
  have w0 := wk2 q0
  have w1 := wk2 q1
  have w2 := wk2 q2
  have w3 := wk2 q3
  have t4 : m_laws_markText (k + 1 + 1 + 1 + 1) = some (mtx (k + 1 + 1 + 1 + 1)) := mt q4.1 (Int.lt_of_add_one_le q5.2)
  have w4 := wk2 q4
  have t5 : m_laws_markText (k + 1 + 1 + 1 + 1 + 1) = some (mtx (k + 1 + 1 + 1 + 1 + 1)) := mt q5.1 (Int.lt_of_add_one_le q6.2)
  have w5 := wk2 q5
  have w6 := wk2 q6
  refine ⟨⟨k, k + 1, ⟨k + 1 + 1, k + 1 + 1 + 1, (mtx (k + 1 + 1 + 1 + 1))⟩, (mtx (k + 1 + 1 + 1 + 1 + 1)), k + 1 + 1 + 1 + 1 + 1 + 1⟩, fun n pre post hl => ?_⟩
  have hl' := le_max hl
  have hp : pre.length < 9223372036854775807 := by simp at hl'; omega
  simp only [m_laws_markWriteS_L1]
  rw [if_pos (lt_mid pre post x)]
  simp (maxSteps := 2000000) only [idx_mid, set_mid, Option.bind_some, wrapn hp, w0, w1, w2, w3, t4, w4, t5, w5, w6]
  rw [hE]
theorem M.WriteS.p_mark (xs : List M.Write) (hx : (xs.length ≤ maxLen ∧ ∀ y ∈ xs, M.Write.ok y)) (k : Int) (h0 : 0 ≤ k) (hB : k + ((szSum M.Write.cnt xs : Nat) : Int) ≤ KB) : ∃ ys, m_laws_markWriteS xs k = some (ys, k + ((szSum M.Write.cnt xs : Nat) : Int)) := by
  have hm := le_max hx.1
  obtain ⟨ys, h2⟩ := markOnly (ML := m_laws_markWriteS_L1) (c := M.Write.cnt) (ok := M.Write.ok) (fun x hx k h0 hB => M.Write.mstep x hx k h0 hB) (fun n k l => by simp only [m_laws_markWriteS_L1]; rw [if_neg (by rw [nlt_nat]; simp)]) xs [] fuel k (by simpa using hx.1) (by unfold fuel; omega) hx.2 h0 hB
  exact ⟨ys, by unfold m_laws_markWriteS; simpa using h2⟩
def M.Bucket.cnt (x : M.Bucket) : Nat := 18 + (szSum M.Cache.cnt x.Caches.Caches) + (szSum M.Store.cnt x.Disk.Base.Stores) + (szSum M.IndexDef.cnt x.Disk.Base.Unique) + (x.Disk.Log.length) + (szSum M.Item.cnt x.Replica.Base.Items) + (szSum M.Write.cnt x.Replica.Sync.Outbox.Writes)
set_option maxHeartbeats 4000000 in
theorem M.Bucket.mstep (x : M.Bucket) (hx : M.Bucket.ok x) (k : Int) (h0 : 0 ≤ k) (hB : k + ((M.Bucket.cnt x : Nat) : Int) ≤ KB) : ∃ x' : M.Bucket, (∀ n (pre post : List M.Bucket), (pre ++ x :: post).length ≤ maxLen → m_laws_markBucketS_L1 (n + 1) k pre.length (pre ++ x :: post) = m_laws_markBucketS_L1 n (k + ((M.Bucket.cnt x : Nat) : Int)) ((pre.length + 1 : Nat) : Int) (pre ++ x' :: post)) := by
  unfold KB at hB; unfold M.Bucket.cnt at hB ⊢
  have A : (0 ≤ k ∧ k ≤ KB) ∧ (0 ≤ k + 1 ∧ k + 1 ≤ KB) ∧ (0 ≤ k + 1 + 1 ∧ k + 1 + 1 ≤ KB) ∧ (0 ≤ k + 1 + 1 + 1 ∧ k + 1 + 1 + 1 ≤ KB) ∧ (0 ≤ k + 1 + 1 + 1 + 1 ∧ k + 1 + 1 + 1 + 1 ≤ KB) ∧ (0 ≤ k + 1 + 1 + 1 + 1 + 1 ∧ k + 1 + 1 + 1 + 1 + 1 ≤ KB) ∧ (0 ≤ k + 1 + 1 + 1 + 1 + 1 + 1 ∧ k + 1 + 1 + 1 + 1 + 1 + 1 ≤ KB) ∧ (0 ≤ k + 1 + 1 + 1 + 1 + 1 + 1 + ((szSum M.Cache.cnt x.Caches.Caches : Nat) : Int) ∧ k + 1 + 1 + 1 + 1 + 1 + 1 + ((szSum M.Cache.cnt x.Caches.Caches : Nat) : Int) ≤ KB) ∧ (0 ≤ k + 1 + 1 + 1 + 1 + 1 + 1 + ((szSum M.Cache.cnt x.Caches.Caches : Nat) : Int) + 1 ∧ k + 1 + 1 + 1 + 1 + 1 + 1 + ((szSum M.Cache.cnt x.Caches.Caches : Nat) : Int) + 1 ≤ KB) ∧ (0 ≤ k + 1 + 1 + 1 + 1 + 1 + 1 + ((szSum M.Cache.cnt x.Caches.Caches : Nat) : Int) + 1 + 1 ∧ k + 1 + 1 + 1 + 1 + 1 + 1 + ((szSum M.Cache.cnt x.Caches.Caches : Nat) : Int) + 1 + 1 ≤ KB) ∧ (0 ≤ k + 1 + 1 + 1 + 1 + 1 + 1 + ((szSum M.Cache.cnt x.Caches.Caches : Nat) : Int) + 1 + 1 + ((szSum M.Store.cnt x.Disk.Base.Stores : Nat) : Int) ∧ k + 1 + 1 + 1 + 1 + 1 + 1 + ((szSum M.Cache.cnt x.Caches.Caches : Nat) : Int) + 1 + 1 + ((szSum M.Store.cnt x.Disk.Base.Stores : Nat) : Int) ≤ KB) ∧ (0 ≤ k + 1 + 1 + 1 + 1 + 1 + 1 + ((szSum M.Cache.cnt x.Caches.Caches : Nat) : Int) + 1 + 1 + ((szSum M.Store.cnt x.Disk.Base.Stores : Nat) : Int) + ((szSum M.IndexDef.cnt x.Disk.Base.Unique : Nat) : Int) ∧ k + 1 + 1 + 1 + 1 + 1 + 1 + ((szSum M.Cache.cnt x.Caches.Caches : Nat) : Int) + 1 + 1 + ((szSum M.Store.cnt x.Disk.Base.Stores : Nat) : Int) + ((szSum M.IndexDef.cnt x.Disk.Base.Unique : Nat) : Int) ≤ KB) ∧ (0 ≤ k + 1 + 1 + 1 + 1 + 1 + 1 + ((szSum M.Cache.cnt x.Caches.Caches : Nat) : Int) + 1 + 1 + ((szSum M.Store.cnt x.Disk.Base.Stores : Nat) : Int) + ((szSum M.IndexDef.cnt x.Disk.Base.Unique : Nat) : Int) + ((x.Disk.Log.length : Nat) : Int) ∧ k + 1 + 1 + 1 + 1 + 1 + 1 + ((szSum M.Cache.cnt x.Caches.Caches : Nat) : Int) + 1 + 1 + ((szSum M.Store.cnt x.Disk.Base.Stores : Nat) : Int) + ((szSum M.IndexDef.cnt x.Disk.Base.Unique : Nat) : Int) + ((x.Disk.Log.length : Nat) : Int) ≤ KB) ∧ (0 ≤ k + 1 + 1 + 1 + 1 + 1 + 1 + ((szSum M.Cache.cnt x.Caches.Caches : Nat) : Int) + 1 + 1 + ((szSum M.Store.cnt x.Disk.Base.Stores : Nat) : Int) + ((szSum M.IndexDef.cnt x.Disk.Base.Unique : Nat) : Int) + ((x.Disk.Log.length : Nat) : Int) + 1 ∧ k + 1 + 1 + 1 + 1 + 1 + 1 + ((szSum M.Cache.cnt x.Caches.Caches : Nat) : Int) + 1 + 1 + ((szSum M.Store.cnt x.Disk.Base.Stores : Nat) : Int) + ((szSum M.IndexDef.cnt x.Disk.Base.Unique : Nat) : Int) + ((x.Disk.Log.length : Nat) : Int) + 1 ≤ KB) ∧ (0 ≤ k + 1 + 1 + 1 + 1 + 1 + 1 + ((szSum M.Cache.cnt x.Caches.Caches : Nat) : Int) + 1 + 1 + ((szSum M.Store.cnt x.Disk.Base.Stores : Nat) : Int) + ((szSum M.IndexDef.cnt x.Disk.Base.Unique : Nat) : Int) + ((x.Disk.Log.length : Nat) : Int) + 1 + 1 ∧ k + 1 + 1 + 1 + 1 + 1 + 1 + ((szSum M.Cache.cnt x.Caches.Caches : Nat) : Int) + 1 + 1 + ((szSum M.Store.cnt x.Disk.Base.Stores : Nat) : Int) + ((szSum M.IndexDef.cnt x.Disk.Base.Unique : Nat) : Int) + ((x.Disk.Log.length : Nat) : Int) + 1 + 1 ≤ KB) ∧ (0 ≤ k + 1 + 1 + 1 + 1 + 1 + 1 + ((szSum M.Cache.cnt x.Caches.Caches : Nat) : Int) + 1 + 1 + ((szSum M.Store.cnt x.Disk.Base.Stores : Nat) : Int) + ((szSum M.IndexDef.cnt x.Disk.Base.Unique : Nat) : Int) + ((x.Disk.Log.length : Nat) : Int) + 1 + 1 + ((szSum M.Item.cnt x.Replica.Base.Items : Nat) : Int) ∧ k + 1 + 1 + 1 + 1 + 1 + 1 + ((szSum M.Cache.cnt x.Caches.Caches : Nat) : Int) + 1 + 1 + ((szSum M.Store.cnt x.Disk.Base.Stores : Nat) : Int) + ((szSum M.IndexDef.cnt x.Disk.Base.Unique : Nat) : Int) + ((x.Disk.Log.length : Nat) : Int) + 1 + 1 + ((szSum M.Item.cnt x.Replica.Base.Items : Nat) : Int) ≤ KB) ∧ (0 ≤ k + 1 + 1 + 1 + 1 + 1 + 1 + ((szSum M.Cache.cnt x.Caches.Caches : Nat) : Int) + 1 + 1 + ((szSum M.Store.cnt x.Disk.Base.Stores : Nat) : Int) + ((szSum M.IndexDef.cnt x.Disk.Base.Unique : Nat) : Int) + ((x.Disk.Log.length : Nat) : Int) + 1 + 1 + ((szSum M.Item.cnt x.Replica.Base.Items : Nat) : Int) + 1 ∧ k + 1 + 1 + 1 + 1 + 1 + 1 + ((szSum M.Cache.cnt x.Caches.Caches : Nat) : Int) + 1 + 1 + ((szSum M.Store.cnt x.Disk.Base.Stores : Nat) : Int) + ((szSum M.IndexDef.cnt x.Disk.Base.Unique : Nat) : Int) + ((x.Disk.Log.length : Nat) : Int) + 1 + 1 + ((szSum M.Item.cnt x.Replica.Base.Items : Nat) : Int) + 1 ≤ KB) ∧ (0 ≤ k + 1 + 1 + 1 + 1 + 1 + 1 + ((szSum M.Cache.cnt x.Caches.Caches : Nat) : Int) + 1 + 1 + ((szSum M.Store.cnt x.Disk.Base.Stores : Nat) : Int) + ((szSum M.IndexDef.cnt x.Disk.Base.Unique : Nat) : Int) + ((x.Disk.Log.length : Nat) : Int) + 1 + 1 + ((szSum M.Item.cnt x.Replica.Base.Items : Nat) : Int) + 1 + 1 ∧ k + 1 + 1 + 1 + 1 + 1 + 1 + ((szSum M.Cache.cnt x.Caches.Caches : Nat) : Int) + 1 + 1 + ((szSum M.Store.cnt x.Disk.Base.Stores : Nat) : Int) + ((szSum M.IndexDef.cnt x.Disk.Base.Unique : Nat) : Int) + ((x.Disk.Log.length : Nat) : Int) + 1 + 1 + ((szSum M.Item.cnt x.Replica.Base.Items : Nat) : Int) + 1 + 1 ≤ KB) ∧ (0 ≤ k + 1 + 1 + 1 + 1 + 1 + 1 + ((szSum M.Cache.cnt x.Caches.Caches : Nat) : Int) + 1 + 1 + ((szSum M.Store.cnt x.Disk.Base.Stores : Nat) : Int) + ((szSum M.IndexDef.cnt x.Disk.Base.Unique : Nat) : Int) + ((x.Disk.Log.length : Nat) : Int) + 1 + 1 + ((szSum M.Item.cnt x.Replica.Base.Items : Nat) : Int) + 1 + 1 + 1 ∧ k + 1 + 1 + 1 + 1 + 1 + 1 + ((szSum M.Cache.cnt x.Caches.Caches : Nat) : Int) + 1 + 1 + ((szSum M.Store.cnt x.Disk.Base.Stores : Nat) : Int) + ((szSum M.IndexDef.cnt x.Disk.Base.Unique : Nat) : Int) + ((x.Disk.Log.length : Nat) : Int) + 1 + 1 + ((szSum M.Item.cnt x.Replica.Base.Items : Nat) : Int) + 1 + 1 + 1 ≤ KB) ∧ (0 ≤ k + 1 + 1 + 1 + 1 + 1 + 1 + ((szSum M.Cache.cnt x.Caches.Caches : Nat) : Int) + 1 + 1 + ((szSum M.Store.cnt x.Disk.Base.Stores : Nat) : Int) + ((szSum M.IndexDef.cnt x.Disk.Base.Unique : Nat) : Int) + ((x.Disk.Log.length : Nat) : Int) + 1 + 1 + ((szSum M.Item.cnt x.Replica.Base.Items : Nat) : Int) + 1 + 1 + 1 + 1 ∧ k + 1 + 1 + 1 + 1 + 1 + 1 + ((szSum M.Cache.cnt x.Caches.Caches : Nat) : Int) + 1 + 1 + ((szSum M.Store.cnt x.Disk.Base.Stores : Nat) : Int) + ((szSum M.IndexDef.cnt x.Disk.Base.Unique : Nat) : Int) + ((x.Disk.Log.length : Nat) : Int) + 1 + 1 + ((szSum M.Item.cnt x.Replica.Base.Items : Nat) : Int) + 1 + 1 + 1 + 1 ≤ KB) ∧ (0 ≤ k + 1 + 1 + 1 + 1 + 1 + 1 + ((szSum M.Cache.cnt x.Caches.Caches : Nat) : Int) + 1 + 1 + ((szSum M.Store.cnt x.Disk.Base.Stores : Nat) : Int) + ((szSum M.IndexDef.cnt x.Disk.Base.Unique : Nat) : Int) + ((x.Disk.Log.length : Nat) : Int) + 1 + 1 + ((szSum M.Item.cnt x.Replica.Base.Items : Nat) : Int) + 1 + 1 + 1 + 1 + ((szSum M.Write.cnt x.Replica.Sync.Outbox.Writes : Nat) : Int) ∧ k + 1 + 1 + 1 + 1 + 1 + 1 + ((szSum M.Cache.cnt x.Caches.Caches : Nat) : Int) + 1 + 1 + ((szSum M.Store.cnt x.Disk.Base.Stores : Nat) : Int) + ((szSum M.IndexDef.cnt x.Disk.Base.Unique : Nat) : Int) + ((x.Disk.Log.length : Nat) : Int) + 1 + 1 + ((szSum M.Item.cnt x.Replica.Base.Items : Nat) : Int) + 1 + 1 + 1 + 1 + ((szSum M.Write.cnt x.Replica.Sync.Outbox.Writes : Nat) : Int) ≤ KB) ∧ (0 ≤ k + 1 + 1 + 1 + 1 + 1 + 1 + ((szSum M.Cache.cnt x.Caches.Caches : Nat) : Int) + 1 + 1 + ((szSum M.Store.cnt x.Disk.Base.Stores : Nat) : Int) + ((szSum M.IndexDef.cnt x.Disk.Base.Unique : Nat) : Int) + ((x.Disk.Log.length : Nat) : Int) + 1 + 1 + ((szSum M.Item.cnt x.Replica.Base.Items : Nat) : Int) + 1 + 1 + 1 + 1 + ((szSum M.Write.cnt x.Replica.Sync.Outbox.Writes : Nat) : Int) + 1 ∧ k + 1 + 1 + 1 + 1 + 1 + 1 + ((szSum M.Cache.cnt x.Caches.Caches : Nat) : Int) + 1 + 1 + ((szSum M.Store.cnt x.Disk.Base.Stores : Nat) : Int) + ((szSum M.IndexDef.cnt x.Disk.Base.Unique : Nat) : Int) + ((x.Disk.Log.length : Nat) : Int) + 1 + 1 + ((szSum M.Item.cnt x.Replica.Base.Items : Nat) : Int) + 1 + 1 + 1 + 1 + ((szSum M.Write.cnt x.Replica.Sync.Outbox.Writes : Nat) : Int) + 1 ≤ KB) ∧ (0 ≤ k + 1 + 1 + 1 + 1 + 1 + 1 + ((szSum M.Cache.cnt x.Caches.Caches : Nat) : Int) + 1 + 1 + ((szSum M.Store.cnt x.Disk.Base.Stores : Nat) : Int) + ((szSum M.IndexDef.cnt x.Disk.Base.Unique : Nat) : Int) + ((x.Disk.Log.length : Nat) : Int) + 1 + 1 + ((szSum M.Item.cnt x.Replica.Base.Items : Nat) : Int) + 1 + 1 + 1 + 1 + ((szSum M.Write.cnt x.Replica.Sync.Outbox.Writes : Nat) : Int) + 1 + 1 ∧ k + 1 + 1 + 1 + 1 + 1 + 1 + ((szSum M.Cache.cnt x.Caches.Caches : Nat) : Int) + 1 + 1 + ((szSum M.Store.cnt x.Disk.Base.Stores : Nat) : Int) + ((szSum M.IndexDef.cnt x.Disk.Base.Unique : Nat) : Int) + ((x.Disk.Log.length : Nat) : Int) + 1 + 1 + ((szSum M.Item.cnt x.Replica.Base.Items : Nat) : Int) + 1 + 1 + 1 + 1 + ((szSum M.Write.cnt x.Replica.Sync.Outbox.Writes : Nat) : Int) + 1 + 1 ≤ KB) ∧ (0 ≤ k + 1 + 1 + 1 + 1 + 1 + 1 + ((szSum M.Cache.cnt x.Caches.Caches : Nat) : Int) + 1 + 1 + ((szSum M.Store.cnt x.Disk.Base.Stores : Nat) : Int) + ((szSum M.IndexDef.cnt x.Disk.Base.Unique : Nat) : Int) + ((x.Disk.Log.length : Nat) : Int) + 1 + 1 + ((szSum M.Item.cnt x.Replica.Base.Items : Nat) : Int) + 1 + 1 + 1 + 1 + ((szSum M.Write.cnt x.Replica.Sync.Outbox.Writes : Nat) : Int) + 1 + 1 + 1 ∧ k + 1 + 1 + 1 + 1 + 1 + 1 + ((szSum M.Cache.cnt x.Caches.Caches : Nat) : Int) + 1 + 1 + ((szSum M.Store.cnt x.Disk.Base.Stores : Nat) : Int) + ((szSum M.IndexDef.cnt x.Disk.Base.Unique : Nat) : Int) + ((x.Disk.Log.length : Nat) : Int) + 1 + 1 + ((szSum M.Item.cnt x.Replica.Base.Items : Nat) : Int) + 1 + 1 + 1 + 1 + ((szSum M.Write.cnt x.Replica.Sync.Outbox.Writes : Nat) : Int) + 1 + 1 + 1 ≤ KB) ∧ (0 ≤ k + 1 + 1 + 1 + 1 + 1 + 1 + ((szSum M.Cache.cnt x.Caches.Caches : Nat) : Int) + 1 + 1 + ((szSum M.Store.cnt x.Disk.Base.Stores : Nat) : Int) + ((szSum M.IndexDef.cnt x.Disk.Base.Unique : Nat) : Int) + ((x.Disk.Log.length : Nat) : Int) + 1 + 1 + ((szSum M.Item.cnt x.Replica.Base.Items : Nat) : Int) + 1 + 1 + 1 + 1 + ((szSum M.Write.cnt x.Replica.Sync.Outbox.Writes : Nat) : Int) + 1 + 1 + 1 + 1 ∧ k + 1 + 1 + 1 + 1 + 1 + 1 + ((szSum M.Cache.cnt x.Caches.Caches : Nat) : Int) + 1 + 1 + ((szSum M.Store.cnt x.Disk.Base.Stores : Nat) : Int) + ((szSum M.IndexDef.cnt x.Disk.Base.Unique : Nat) : Int) + ((x.Disk.Log.length : Nat) : Int) + 1 + 1 + ((szSum M.Item.cnt x.Replica.Base.Items : Nat) : Int) + 1 + 1 + 1 + 1 + ((szSum M.Write.cnt x.Replica.Sync.Outbox.Writes : Nat) : Int) + 1 + 1 + 1 + 1 ≤ KB) := by
    unfold KB
    refine ⟨?_, ?_, ?_, ?_, ?_, ?_, ?_, ?_, ?_, ?_, ?_, ?_, ?_, ?_, ?_, ?_, ?_, ?_, ?_, ?_, ?_, ?_, ?_, ?_, ?_⟩ <;> omega
  have hE : k + 1 + 1 + 1 + 1 + 1 + 1 + ((szSum M.Cache.cnt x.Caches.Caches : Nat) : Int) + 1 + 1 + ((szSum M.Store.cnt x.Disk.Base.Stores : Nat) : Int) + ((szSum M.IndexDef.cnt x.Disk.Base.Unique : Nat) : Int) + ((x.Disk.Log.length : Nat) : Int) + 1 + 1 + ((szSum M.Item.cnt x.Replica.Base.Items : Nat) : Int) + 1 + 1 + 1 + 1 + ((szSum M.Write.cnt x.Replica.Sync.Outbox.Writes : Nat) : Int) + 1 + 1 + 1 + 1 = k + ((M.Bucket.cnt x : Nat) : Int) := by unfold M.Bucket.cnt; omega
  unfold M.Bucket.cnt at hE
  obtain ⟨q0, q1, q2, q3, q4, q5, q6, q7, q8, q9, q10, q11, q12, q13, q14, q15, q16, q17, q18, q19, q20, q21, q22, q23, q24⟩ := A
  have t0 : m_laws_markText (k) = some (mtx (k)) := mt q0.1 (Int.lt_of_add_one_le q1.2)
  have w0 := wk2 q0
  have t1 : m_laws_markText (k + 1) = some (mtx (k + 1)) := mt q1.1 (Int.lt_of_add_one_le q2.2)
  have w1 := wk2 q1
  have t2 : m_laws_markText (k + 1 + 1) = some (mtx (k + 1 + 1)) := mt q2.1 (Int.lt_of_add_one_le q3.2)
  have w2 := wk2 q2
  have w3 := wk2 q3
  have w4 := wk2 q4
  have w5 := wk2 q5
  obtain ⟨y1, a1⟩ := M.CacheS.p_mark _ hx.Caches.Caches (k + 1 + 1 + 1 + 1 + 1 + 1) q6.1 q7.2
  have t7 : m_laws_markText (k + 1 + 1 + 1 + 1 + 1 + 1 + ((szSum M.Cache.cnt x.Caches.Caches : Nat) : Int)) = some (mtx (k + 1 + 1 + 1 + 1 + 1 + 1 + ((szSum M.Cache.cnt x.Caches.Caches : Nat) : Int))) := mt q7.1 (Int.lt_of_add_one_le q8.2)
  have w7 := wk2 q7
  have w8 := wk2 q8
  obtain ⟨y2, a2⟩ := M.StoreS.p_mark _ hx.Disk.Base.Stores (k + 1 + 1 + 1 + 1 + 1 + 1 + ((szSum M.Cache.cnt x.Caches.Caches : Nat) : Int) + 1 + 1) q9.1 q10.2
  obtain ⟨y3, a3⟩ := M.IndexDefS.p_mark _ hx.Disk.Base.Unique (k + 1 + 1 + 1 + 1 + 1 + 1 + ((szSum M.Cache.cnt x.Caches.Caches : Nat) : Int) + 1 + 1 + ((szSum M.Store.cnt x.Disk.Base.Stores : Nat) : Int)) q10.1 q11.2
  obtain ⟨y4, a4⟩ := M.ByteS.p_mark _ hx.Disk.Log (k + 1 + 1 + 1 + 1 + 1 + 1 + ((szSum M.Cache.cnt x.Caches.Caches : Nat) : Int) + 1 + 1 + ((szSum M.Store.cnt x.Disk.Base.Stores : Nat) : Int) + ((szSum M.IndexDef.cnt x.Disk.Base.Unique : Nat) : Int)) q11.1 q12.2
  have w12 := wk2 q12
  have t13 : m_laws_markText (k + 1 + 1 + 1 + 1 + 1 + 1 + ((szSum M.Cache.cnt x.Caches.Caches : Nat) : Int) + 1 + 1 + ((szSum M.Store.cnt x.Disk.Base.Stores : Nat) : Int) + ((szSum M.IndexDef.cnt x.Disk.Base.Unique : Nat) : Int) + ((x.Disk.Log.length : Nat) : Int) + 1) = some (mtx (k + 1 + 1 + 1 + 1 + 1 + 1 + ((szSum M.Cache.cnt x.Caches.Caches : Nat) : Int) + 1 + 1 + ((szSum M.Store.cnt x.Disk.Base.Stores : Nat) : Int) + ((szSum M.IndexDef.cnt x.Disk.Base.Unique : Nat) : Int) + ((x.Disk.Log.length : Nat) : Int) + 1)) := mt q13.1 (Int.lt_of_add_one_le q14.2)
  have w13 := wk2 q13
  obtain ⟨y5, a5⟩ := M.ItemS.p_mark _ hx.Replica.Base.Items (k + 1 + 1 + 1 + 1 + 1 + 1 + ((szSum M.Cache.cnt x.Caches.Caches : Nat) : Int) + 1 + 1 + ((szSum M.Store.cnt x.Disk.Base.Stores : Nat) : Int) + ((szSum M.IndexDef.cnt x.Disk.Base.Unique : Nat) : Int) + ((x.Disk.Log.length : Nat) : Int) + 1 + 1) q14.1 q15.2
  have w15 := wk2 q15
  have w16 := wk2 q16
  have w17 := wk2 q17
  have w18 := wk2 q18
  obtain ⟨y6, a6⟩ := M.WriteS.p_mark _ hx.Replica.Sync.Outbox.Writes (k + 1 + 1 + 1 + 1 + 1 + 1 + ((szSum M.Cache.cnt x.Caches.Caches : Nat) : Int) + 1 + 1 + ((szSum M.Store.cnt x.Disk.Base.Stores : Nat) : Int) + ((szSum M.IndexDef.cnt x.Disk.Base.Unique : Nat) : Int) + ((x.Disk.Log.length : Nat) : Int) + 1 + 1 + ((szSum M.Item.cnt x.Replica.Base.Items : Nat) : Int) + 1 + 1 + 1 + 1) q19.1 q20.2
  have w20 := wk2 q20
  have w21 := wk2 q21
  have w22 := wk2 q22
  have w23 := wk2 q23
  refine ⟨⟨(mtx (k)), (mtx (k + 1)), ⟨(mtx (k + 1 + 1)), k + 1 + 1 + 1, k + 1 + 1 + 1 + 1, k + 1 + 1 + 1 + 1 + 1⟩, ⟨y1⟩, ⟨⟨(mtx (k + 1 + 1 + 1 + 1 + 1 + 1 + ((szSum M.Cache.cnt x.Caches.Caches : Nat) : Int))), k + 1 + 1 + 1 + 1 + 1 + 1 + ((szSum M.Cache.cnt x.Caches.Caches : Nat) : Int) + 1, y2, y3⟩, y4, k + 1 + 1 + 1 + 1 + 1 + 1 + ((szSum M.Cache.cnt x.Caches.Caches : Nat) : Int) + 1 + 1 + ((szSum M.Store.cnt x.Disk.Base.Stores : Nat) : Int) + ((szSum M.IndexDef.cnt x.Disk.Base.Unique : Nat) : Int) + ((x.Disk.Log.length : Nat) : Int)⟩, ⟨⟨(mtx (k + 1 + 1 + 1 + 1 + 1 + 1 + ((szSum M.Cache.cnt x.Caches.Caches : Nat) : Int) + 1 + 1 + ((szSum M.Store.cnt x.Disk.Base.Stores : Nat) : Int) + ((szSum M.IndexDef.cnt x.Disk.Base.Unique : Nat) : Int) + ((x.Disk.Log.length : Nat) : Int) + 1)), y5, k + 1 + 1 + 1 + 1 + 1 + 1 + ((szSum M.Cache.cnt x.Caches.Caches : Nat) : Int) + 1 + 1 + ((szSum M.Store.cnt x.Disk.Base.Stores : Nat) : Int) + ((szSum M.IndexDef.cnt x.Disk.Base.Unique : Nat) : Int) + ((x.Disk.Log.length : Nat) : Int) + 1 + 1 + ((szSum M.Item.cnt x.Replica.Base.Items : Nat) : Int)⟩, k + 1 + 1 + 1 + 1 + 1 + 1 + ((szSum M.Cache.cnt x.Caches.Caches : Nat) : Int) + 1 + 1 + ((szSum M.Store.cnt x.Disk.Base.Stores : Nat) : Int) + ((szSum M.IndexDef.cnt x.Disk.Base.Unique : Nat) : Int) + ((x.Disk.Log.length : Nat) : Int) + 1 + 1 + ((szSum M.Item.cnt x.Replica.Base.Items : Nat) : Int) + 1, ⟨⟨k + 1 + 1 + 1 + 1 + 1 + 1 + ((szSum M.Cache.cnt x.Caches.Caches : Nat) : Int) + 1 + 1 + ((szSum M.Store.cnt x.Disk.Base.Stores : Nat) : Int) + ((szSum M.IndexDef.cnt x.Disk.Base.Unique : Nat) : Int) + ((x.Disk.Log.length : Nat) : Int) + 1 + 1 + ((szSum M.Item.cnt x.Replica.Base.Items : Nat) : Int) + 1 + 1, k + 1 + 1 + 1 + 1 + 1 + 1 + ((szSum M.Cache.cnt x.Caches.Caches : Nat) : Int) + 1 + 1 + ((szSum M.Store.cnt x.Disk.Base.Stores : Nat) : Int) + ((szSum M.IndexDef.cnt x.Disk.Base.Unique : Nat) : Int) + ((x.Disk.Log.length : Nat) : Int) + 1 + 1 + ((szSum M.Item.cnt x.Replica.Base.Items : Nat) : Int) + 1 + 1 + 1, y6⟩, k + 1 + 1 + 1 + 1 + 1 + 1 + ((szSum M.Cache.cnt x.Caches.Caches : Nat) : Int) + 1 + 1 + ((szSum M.Store.cnt x.Disk.Base.Stores : Nat) : Int) + ((szSum M.IndexDef.cnt x.Disk.Base.Unique : Nat) : Int) + ((x.Disk.Log.length : Nat) : Int) + 1 + 1 + ((szSum M.Item.cnt x.Replica.Base.Items : Nat) : Int) + 1 + 1 + 1 + 1 + ((szSum M.Write.cnt x.Replica.Sync.Outbox.Writes : Nat) : Int), k + 1 + 1 + 1 + 1 + 1 + 1 + ((szSum M.Cache.cnt x.Caches.Caches : Nat) : Int) + 1 + 1 + ((szSum M.Store.cnt x.Disk.Base.Stores : Nat) : Int) + ((szSum M.IndexDef.cnt x.Disk.Base.Unique : Nat) : Int) + ((x.Disk.Log.length : Nat) : Int) + 1 + 1 + ((szSum M.Item.cnt x.Replica.Base.Items : Nat) : Int) + 1 + 1 + 1 + 1 + ((szSum M.Write.cnt x.Replica.Sync.Outbox.Writes : Nat) : Int) + 1⟩⟩, k + 1 + 1 + 1 + 1 + 1 + 1 + ((szSum M.Cache.cnt x.Caches.Caches : Nat) : Int) + 1 + 1 + ((szSum M.Store.cnt x.Disk.Base.Stores : Nat) : Int) + ((szSum M.IndexDef.cnt x.Disk.Base.Unique : Nat) : Int) + ((x.Disk.Log.length : Nat) : Int) + 1 + 1 + ((szSum M.Item.cnt x.Replica.Base.Items : Nat) : Int) + 1 + 1 + 1 + 1 + ((szSum M.Write.cnt x.Replica.Sync.Outbox.Writes : Nat) : Int) + 1 + 1, ((Int.tmod (k + 1 + 1 + 1 + 1 + 1 + 1 + ((szSum M.Cache.cnt x.Caches.Caches : Nat) : Int) + 1 + 1 + ((szSum M.Store.cnt x.Disk.Base.Stores : Nat) : Int) + ((szSum M.IndexDef.cnt x.Disk.Base.Unique : Nat) : Int) + ((x.Disk.Log.length : Nat) : Int) + 1 + 1 + ((szSum M.Item.cnt x.Replica.Base.Items : Nat) : Int) + 1 + 1 + 1 + 1 + ((szSum M.Write.cnt x.Replica.Sync.Outbox.Writes : Nat) : Int) + 1 + 1 + 1) 3) == 0)⟩, fun n pre post hl => ?_⟩
  have hl' := le_max hl
  have hp : pre.length < 9223372036854775807 := by simp at hl'; omega
  simp only [m_laws_markBucketS_L1]
  rw [if_pos (lt_mid pre post x)]
  simp (maxSteps := 2000000) only [idx_mid, set_mid, Option.bind_some, wrapn hp, t0, w0, t1, w1, t2, w2, w3, w4, w5, a1, t7, w7, w8, a2, a3, a4, w12, t13, w13, a5, w15, w16, w17, w18, a6, w20, w21, w22, w23]
  rw [hE]
theorem M.BucketS.p_mark (xs : List M.Bucket) (hx : (xs.length ≤ maxLen ∧ ∀ y ∈ xs, M.Bucket.ok y)) (k : Int) (h0 : 0 ≤ k) (hB : k + ((szSum M.Bucket.cnt xs : Nat) : Int) ≤ KB) : ∃ ys, m_laws_markBucketS xs k = some (ys, k + ((szSum M.Bucket.cnt xs : Nat) : Int)) := by
  have hm := le_max hx.1
  obtain ⟨ys, h2⟩ := markOnly (ML := m_laws_markBucketS_L1) (c := M.Bucket.cnt) (ok := M.Bucket.ok) (fun x hx k h0 hB => M.Bucket.mstep x hx k h0 hB) (fun n k l => by simp only [m_laws_markBucketS_L1]; rw [if_neg (by rw [nlt_nat]; simp)]) xs [] fuel k (by simpa using hx.1) (by unfold fuel; omega) hx.2 h0 hB
  exact ⟨ys, by unfold m_laws_markBucketS; simpa using h2⟩
def M.Loaded.cnt (x : M.Loaded) : Nat := 2
set_option maxHeartbeats 4000000 in
theorem M.Loaded.mstep (x : M.Loaded) (hx : M.Loaded.ok x) (k : Int) (h0 : 0 ≤ k) (hB : k + ((M.Loaded.cnt x : Nat) : Int) ≤ KB) : ∃ x' : M.Loaded, (∀ n (pre post : List M.Loaded), (pre ++ x :: post).length ≤ maxLen → m_laws_markLoadedS_L1 (n + 1) k pre.length (pre ++ x :: post) = m_laws_markLoadedS_L1 n (k + ((M.Loaded.cnt x : Nat) : Int)) ((pre.length + 1 : Nat) : Int) (pre ++ x' :: post)) := by
  unfold KB at hB; unfold M.Loaded.cnt at hB ⊢
  have A : (0 ≤ k ∧ k ≤ KB) ∧ (0 ≤ k + 1 ∧ k + 1 ≤ KB) ∧ (0 ≤ k + 1 + 1 ∧ k + 1 + 1 ≤ KB) := by
    unfold KB
    refine ⟨?_, ?_, ?_⟩ <;> omega
  have hE : k + 1 + 1 = k + ((M.Loaded.cnt x : Nat) : Int) := by unfold M.Loaded.cnt; omega
  unfold M.Loaded.cnt at hE
  obtain ⟨q0, q1, q2⟩ := A
  have t0 : m_laws_markText (k) = some (mtx (k)) := mt q0.1 (Int.lt_of_add_one_le q1.2)
  have w0 := wk2 q0
  have w1 := wk2 q1
  refine ⟨⟨(mtx (k)), k + 1⟩, fun n pre post hl => ?_⟩
  have hl' := le_max hl
  have hp : pre.length < 9223372036854775807 := by simp at hl'; omega
  simp only [m_laws_markLoadedS_L1]
  rw [if_pos (lt_mid pre post x)]
  simp (maxSteps := 2000000) only [idx_mid, set_mid, Option.bind_some, wrapn hp, t0, w0, w1]
  rw [hE]
theorem M.LoadedS.p_mark (xs : List M.Loaded) (hx : (xs.length ≤ maxLen ∧ ∀ y ∈ xs, M.Loaded.ok y)) (k : Int) (h0 : 0 ≤ k) (hB : k + ((szSum M.Loaded.cnt xs : Nat) : Int) ≤ KB) : ∃ ys, m_laws_markLoadedS xs k = some (ys, k + ((szSum M.Loaded.cnt xs : Nat) : Int)) := by
  have hm := le_max hx.1
  obtain ⟨ys, h2⟩ := markOnly (ML := m_laws_markLoadedS_L1) (c := M.Loaded.cnt) (ok := M.Loaded.ok) (fun x hx k h0 hB => M.Loaded.mstep x hx k h0 hB) (fun n k l => by simp only [m_laws_markLoadedS_L1]; rw [if_neg (by rw [nlt_nat]; simp)]) xs [] fuel k (by simpa using hx.1) (by unfold fuel; omega) hx.2 h0 hB
  exact ⟨ys, by unfold m_laws_markLoadedS; simpa using h2⟩
def M.Instr.cnt (x : M.Instr) : Nat := 4
set_option maxHeartbeats 4000000 in
theorem M.Instr.mstep (x : M.Instr) (hx : M.Instr.ok x) (k : Int) (h0 : 0 ≤ k) (hB : k + ((M.Instr.cnt x : Nat) : Int) ≤ KB) : ∃ x' : M.Instr, (∀ n (pre post : List M.Instr), (pre ++ x :: post).length ≤ maxLen → m_laws_markInstrS_L1 (n + 1) k pre.length (pre ++ x :: post) = m_laws_markInstrS_L1 n (k + ((M.Instr.cnt x : Nat) : Int)) ((pre.length + 1 : Nat) : Int) (pre ++ x' :: post)) := by
  unfold KB at hB; unfold M.Instr.cnt at hB ⊢
  have A : (0 ≤ k ∧ k ≤ KB) ∧ (0 ≤ k + 1 ∧ k + 1 ≤ KB) ∧ (0 ≤ k + 1 + 1 ∧ k + 1 + 1 ≤ KB) ∧ (0 ≤ k + 1 + 1 + 1 ∧ k + 1 + 1 + 1 ≤ KB) ∧ (0 ≤ k + 1 + 1 + 1 + 1 ∧ k + 1 + 1 + 1 + 1 ≤ KB) := by
    unfold KB
    refine ⟨?_, ?_, ?_, ?_, ?_⟩ <;> omega
  have hE : k + 1 + 1 + 1 + 1 = k + ((M.Instr.cnt x : Nat) : Int) := by unfold M.Instr.cnt; omega
  unfold M.Instr.cnt at hE
  obtain ⟨q0, q1, q2, q3, q4⟩ := A
  have w0 := wk2 q0
  have w1 := wk2 q1
  have w2 := wk2 q2
  have t3 : m_laws_markText (k + 1 + 1 + 1) = some (mtx (k + 1 + 1 + 1)) := mt q3.1 (Int.lt_of_add_one_le q4.2)
  have w3 := wk2 q3
  refine ⟨⟨k, k + 1, k + 1 + 1, (mtx (k + 1 + 1 + 1))⟩, fun n pre post hl => ?_⟩
  have hl' := le_max hl
  have hp : pre.length < 9223372036854775807 := by simp at hl'; omega
  simp only [m_laws_markInstrS_L1]
  rw [if_pos (lt_mid pre post x)]
  simp (maxSteps := 2000000) only [idx_mid, set_mid, Option.bind_some, wrapn hp, w0, w1, w2, t3, w3]
  rw [hE]
theorem M.InstrS.p_mark (xs : List M.Instr) (hx : (xs.length ≤ maxLen ∧ ∀ y ∈ xs, M.Instr.ok y)) (k : Int) (h0 : 0 ≤ k) (hB : k + ((szSum M.Instr.cnt xs : Nat) : Int) ≤ KB) : ∃ ys, m_laws_markInstrS xs k = some (ys, k + ((szSum M.Instr.cnt xs : Nat) : Int)) := by
  have hm := le_max hx.1
  obtain ⟨ys, h2⟩ := markOnly (ML := m_laws_markInstrS_L1) (c := M.Instr.cnt) (ok := M.Instr.ok) (fun x hx k h0 hB => M.Instr.mstep x hx k h0 hB) (fun n k l => by simp only [m_laws_markInstrS_L1]; rw [if_neg (by rw [nlt_nat]; simp)]) xs [] fuel k (by simpa using hx.1) (by unfold fuel; omega) hx.2 h0 hB
  exact ⟨ys, by unfold m_laws_markInstrS; simpa using h2⟩
def M.Page.cnt (x : M.Page) : Nat := 8 + (szSum M.Loaded.cnt x.Loaded) + (szSum M.Instr.cnt x.Machine.Script) + (x.Machine.Regs.length)
set_option maxHeartbeats 4000000 in
theorem M.Page.mstep (x : M.Page) (hx : M.Page.ok x) (k : Int) (h0 : 0 ≤ k) (hB : k + ((M.Page.cnt x : Nat) : Int) ≤ KB) : ∃ x' : M.Page, (∀ n (pre post : List M.Page), (pre ++ x :: post).length ≤ maxLen → m_laws_markPageS_L1 (n + 1) k pre.length (pre ++ x :: post) = m_laws_markPageS_L1 n (k + ((M.Page.cnt x : Nat) : Int)) ((pre.length + 1 : Nat) : Int) (pre ++ x' :: post)) := by
  unfold KB at hB; unfold M.Page.cnt at hB ⊢
  have A : (0 ≤ k ∧ k ≤ KB) ∧ (0 ≤ k + 1 ∧ k + 1 ≤ KB) ∧ (0 ≤ k + 1 + 1 ∧ k + 1 + 1 ≤ KB) ∧ (0 ≤ k + 1 + 1 + 1 ∧ k + 1 + 1 + 1 ≤ KB) ∧ (0 ≤ k + 1 + 1 + 1 + 1 ∧ k + 1 + 1 + 1 + 1 ≤ KB) ∧ (0 ≤ k + 1 + 1 + 1 + 1 + ((szSum M.Loaded.cnt x.Loaded : Nat) : Int) ∧ k + 1 + 1 + 1 + 1 + ((szSum M.Loaded.cnt x.Loaded : Nat) : Int) ≤ KB) ∧ (0 ≤ k + 1 + 1 + 1 + 1 + ((szSum M.Loaded.cnt x.Loaded : Nat) : Int) + ((szSum M.Instr.cnt x.Machine.Script : Nat) : Int) ∧ k + 1 + 1 + 1 + 1 + ((szSum M.Loaded.cnt x.Loaded : Nat) : Int) + ((szSum M.Instr.cnt x.Machine.Script : Nat) : Int) ≤ KB) ∧ (0 ≤ k + 1 + 1 + 1 + 1 + ((szSum M.Loaded.cnt x.Loaded : Nat) : Int) + ((szSum M.Instr.cnt x.Machine.Script : Nat) : Int) + 1 ∧ k + 1 + 1 + 1 + 1 + ((szSum M.Loaded.cnt x.Loaded : Nat) : Int) + ((szSum M.Instr.cnt x.Machine.Script : Nat) : Int) + 1 ≤ KB) ∧ (0 ≤ k + 1 + 1 + 1 + 1 + ((szSum M.Loaded.cnt x.Loaded : Nat) : Int) + ((szSum M.Instr.cnt x.Machine.Script : Nat) : Int) + 1 + ((x.Machine.Regs.length : Nat) : Int) ∧ k + 1 + 1 + 1 + 1 + ((szSum M.Loaded.cnt x.Loaded : Nat) : Int) + ((szSum M.Instr.cnt x.Machine.Script : Nat) : Int) + 1 + ((x.Machine.Regs.length : Nat) : Int) ≤ KB) ∧ (0 ≤ k + 1 + 1 + 1 + 1 + ((szSum M.Loaded.cnt x.Loaded : Nat) : Int) + ((szSum M.Instr.cnt x.Machine.Script : Nat) : Int) + 1 + ((x.Machine.Regs.length : Nat) : Int) + 1 ∧ k + 1 + 1 + 1 + 1 + ((szSum M.Loaded.cnt x.Loaded : Nat) : Int) + ((szSum M.Instr.cnt x.Machine.Script : Nat) : Int) + 1 + ((x.Machine.Regs.length : Nat) : Int) + 1 ≤ KB) ∧ (0 ≤ k + 1 + 1 + 1 + 1 + ((szSum M.Loaded.cnt x.Loaded : Nat) : Int) + ((szSum M.Instr.cnt x.Machine.Script : Nat) : Int) + 1 + ((x.Machine.Regs.length : Nat) : Int) + 1 + 1 ∧ k + 1 + 1 + 1 + 1 + ((szSum M.Loaded.cnt x.Loaded : Nat) : Int) + ((szSum M.Instr.cnt x.Machine.Script : Nat) : Int) + 1 + ((x.Machine.Regs.length : Nat) : Int) + 1 + 1 ≤ KB) ∧ (0 ≤ k + 1 + 1 + 1 + 1 + ((szSum M.Loaded.cnt x.Loaded : Nat) : Int) + ((szSum M.Instr.cnt x.Machine.Script : Nat) : Int) + 1 + ((x.Machine.Regs.length : Nat) : Int) + 1 + 1 + 1 ∧ k + 1 + 1 + 1 + 1 + ((szSum M.Loaded.cnt x.Loaded : Nat) : Int) + ((szSum M.Instr.cnt x.Machine.Script : Nat) : Int) + 1 + ((x.Machine.Regs.length : Nat) : Int) + 1 + 1 + 1 ≤ KB) := by
    unfold KB
    refine ⟨?_, ?_, ?_, ?_, ?_, ?_, ?_, ?_, ?_, ?_, ?_, ?_⟩ <;> omega
  have hE : k + 1 + 1 + 1 + 1 + ((szSum M.Loaded.cnt x.Loaded : Nat) : Int) + ((szSum M.Instr.cnt x.Machine.Script : Nat) : Int) + 1 + ((x.Machine.Regs.length : Nat) : Int) + 1 + 1 + 1 = k + ((M.Page.cnt x : Nat) : Int) := by unfold M.Page.cnt; omega
  unfold M.Page.cnt at hE
  obtain ⟨q0, q1, q2, q3, q4, q5, q6, q7, q8, q9, q10, q11⟩ := A
  have w0 := wk2 q0
  have t1 : m_laws_markText (k + 1) = some (mtx (k + 1)) := mt q1.1 (Int.lt_of_add_one_le q2.2)
  have w1 := wk2 q1
  have t2 : m_laws_markText (k + 1 + 1) = some (mtx (k + 1 + 1)) := mt q2.1 (Int.lt_of_add_one_le q3.2)
  have w2 := wk2 q2
  have w3 := wk2 q3
  obtain ⟨y1, a1⟩ := M.LoadedS.p_mark _ hx.Loaded (k + 1 + 1 + 1 + 1) q4.1 q5.2
  obtain ⟨y2, a2⟩ := M.InstrS.p_mark _ hx.Machine.Script (k + 1 + 1 + 1 + 1 + ((szSum M.Loaded.cnt x.Loaded : Nat) : Int)) q5.1 q6.2
  have w6 := wk2 q6
  obtain ⟨y3, a3⟩ := M.IntS.p_mark _ hx.Machine.Regs (k + 1 + 1 + 1 + 1 + ((szSum M.Loaded.cnt x.Loaded : Nat) : Int) + ((szSum M.Instr.cnt x.Machine.Script : Nat) : Int) + 1) q7.1 q8.2
  have w8 := wk2 q8
  have w9 := wk2 q9
  have w10 := wk2 q10
  refine ⟨⟨k, (mtx (k + 1)), (mtx (k + 1 + 1)), k + 1 + 1 + 1, y1, ⟨y2, k + 1 + 1 + 1 + 1 + ((szSum M.Loaded.cnt x.Loaded : Nat) : Int) + ((szSum M.Instr.cnt x.Machine.Script : Nat) : Int), y3, k + 1 + 1 + 1 + 1 + ((szSum M.Loaded.cnt x.Loaded : Nat) : Int) + ((szSum M.Instr.cnt x.Machine.Script : Nat) : Int) + 1 + ((x.Machine.Regs.length : Nat) : Int), ((Int.tmod (k + 1 + 1 + 1 + 1 + ((szSum M.Loaded.cnt x.Loaded : Nat) : Int) + ((szSum M.Instr.cnt x.Machine.Script : Nat) : Int) + 1 + ((x.Machine.Regs.length : Nat) : Int) + 1) 3) == 0), ((Int.tmod (k + 1 + 1 + 1 + 1 + ((szSum M.Loaded.cnt x.Loaded : Nat) : Int) + ((szSum M.Instr.cnt x.Machine.Script : Nat) : Int) + 1 + ((x.Machine.Regs.length : Nat) : Int) + 1 + 1) 3) == 0)⟩⟩, fun n pre post hl => ?_⟩
  have hl' := le_max hl
  have hp : pre.length < 9223372036854775807 := by simp at hl'; omega
  simp only [m_laws_markPageS_L1]
  rw [if_pos (lt_mid pre post x)]
  simp (maxSteps := 2000000) only [idx_mid, set_mid, Option.bind_some, wrapn hp, w0, t1, w1, t2, w2, w3, a1, a2, w6, a3, w8, w9, w10]
  rw [hE]
theorem M.PageS.p_mark (xs : List M.Page) (hx : (xs.length ≤ maxLen ∧ ∀ y ∈ xs, M.Page.ok y)) (k : Int) (h0 : 0 ≤ k) (hB : k + ((szSum M.Page.cnt xs : Nat) : Int) ≤ KB) : ∃ ys, m_laws_markPageS xs k = some (ys, k + ((szSum M.Page.cnt xs : Nat) : Int)) := by
  have hm := le_max hx.1
  obtain ⟨ys, h2⟩ := markOnly (ML := m_laws_markPageS_L1) (c := M.Page.cnt) (ok := M.Page.ok) (fun x hx k h0 hB => M.Page.mstep x hx k h0 hB) (fun n k l => by simp only [m_laws_markPageS_L1]; rw [if_neg (by rw [nlt_nat]; simp)]) xs [] fuel k (by simpa using hx.1) (by unfold fuel; omega) hx.2 h0 hB
  exact ⟨ys, by unfold m_laws_markPageS; simpa using h2⟩
def M.Lock.cnt (x : M.Lock) : Nat := 4
set_option maxHeartbeats 4000000 in
theorem M.Lock.mstep (x : M.Lock) (hx : M.Lock.ok x) (k : Int) (h0 : 0 ≤ k) (hB : k + ((M.Lock.cnt x : Nat) : Int) ≤ KB) : ∃ x' : M.Lock, (∀ n (pre post : List M.Lock), (pre ++ x :: post).length ≤ maxLen → m_laws_markLockS_L1 (n + 1) k pre.length (pre ++ x :: post) = m_laws_markLockS_L1 n (k + ((M.Lock.cnt x : Nat) : Int)) ((pre.length + 1 : Nat) : Int) (pre ++ x' :: post)) := by
  unfold KB at hB; unfold M.Lock.cnt at hB ⊢
  have A : (0 ≤ k ∧ k ≤ KB) ∧ (0 ≤ k + 1 ∧ k + 1 ≤ KB) ∧ (0 ≤ k + 1 + 1 ∧ k + 1 + 1 ≤ KB) ∧ (0 ≤ k + 1 + 1 + 1 ∧ k + 1 + 1 + 1 ≤ KB) ∧ (0 ≤ k + 1 + 1 + 1 + 1 ∧ k + 1 + 1 + 1 + 1 ≤ KB) := by
    unfold KB
    refine ⟨?_, ?_, ?_, ?_, ?_⟩ <;> omega
  have hE : k + 1 + 1 + 1 + 1 = k + ((M.Lock.cnt x : Nat) : Int) := by unfold M.Lock.cnt; omega
  unfold M.Lock.cnt at hE
  obtain ⟨q0, q1, q2, q3, q4⟩ := A
  have t0 : m_laws_markText (k) = some (mtx (k)) := mt q0.1 (Int.lt_of_add_one_le q1.2)
  have w0 := wk2 q0
  have w1 := wk2 q1
  have w2 := wk2 q2
  have w3 := wk2 q3
  refine ⟨⟨(mtx (k)), k + 1, ((Int.tmod (k + 1 + 1) 3) == 0), ((Int.tmod (k + 1 + 1 + 1) 3) == 0)⟩, fun n pre post hl => ?_⟩
  have hl' := le_max hl
  have hp : pre.length < 9223372036854775807 := by simp at hl'; omega
  simp only [m_laws_markLockS_L1]
  rw [if_pos (lt_mid pre post x)]
  simp (maxSteps := 2000000) only [idx_mid, set_mid, Option.bind_some, wrapn hp, t0, w0, w1, w2, w3]
  rw [hE]
theorem M.LockS.p_mark (xs : List M.Lock) (hx : (xs.length ≤ maxLen ∧ ∀ y ∈ xs, M.Lock.ok y)) (k : Int) (h0 : 0 ≤ k) (hB : k + ((szSum M.Lock.cnt xs : Nat) : Int) ≤ KB) : ∃ ys, m_laws_markLockS xs k = some (ys, k + ((szSum M.Lock.cnt xs : Nat) : Int)) := by
  have hm := le_max hx.1
  obtain ⟨ys, h2⟩ := markOnly (ML := m_laws_markLockS_L1) (c := M.Lock.cnt) (ok := M.Lock.ok) (fun x hx k h0 hB => M.Lock.mstep x hx k h0 hB) (fun n k l => by simp only [m_laws_markLockS_L1]; rw [if_neg (by rw [nlt_nat]; simp)]) xs [] fuel k (by simpa using hx.1) (by unfold fuel; omega) hx.2 h0 hB
  exact ⟨ys, by unfold m_laws_markLockS; simpa using h2⟩
def M.Mail.cnt (x : M.Mail) : Nat := 3
set_option maxHeartbeats 4000000 in
theorem M.Mail.mstep (x : M.Mail) (hx : M.Mail.ok x) (k : Int) (h0 : 0 ≤ k) (hB : k + ((M.Mail.cnt x : Nat) : Int) ≤ KB) : ∃ x' : M.Mail, (∀ n (pre post : List M.Mail), (pre ++ x :: post).length ≤ maxLen → m_laws_markMailS_L1 (n + 1) k pre.length (pre ++ x :: post) = m_laws_markMailS_L1 n (k + ((M.Mail.cnt x : Nat) : Int)) ((pre.length + 1 : Nat) : Int) (pre ++ x' :: post)) := by
  unfold KB at hB; unfold M.Mail.cnt at hB ⊢
  have A : (0 ≤ k ∧ k ≤ KB) ∧ (0 ≤ k + 1 ∧ k + 1 ≤ KB) ∧ (0 ≤ k + 1 + 1 ∧ k + 1 + 1 ≤ KB) ∧ (0 ≤ k + 1 + 1 + 1 ∧ k + 1 + 1 + 1 ≤ KB) := by
    unfold KB
    refine ⟨?_, ?_, ?_, ?_⟩ <;> omega
  have hE : k + 1 + 1 + 1 = k + ((M.Mail.cnt x : Nat) : Int) := by unfold M.Mail.cnt; omega
  unfold M.Mail.cnt at hE
  obtain ⟨q0, q1, q2, q3⟩ := A
  have w0 := wk2 q0
  have w1 := wk2 q1
  have w2 := wk2 q2
  refine ⟨⟨k, k + 1, k + 1 + 1⟩, fun n pre post hl => ?_⟩
  have hl' := le_max hl
  have hp : pre.length < 9223372036854775807 := by simp at hl'; omega
  simp only [m_laws_markMailS_L1]
  rw [if_pos (lt_mid pre post x)]
  simp (maxSteps := 2000000) only [idx_mid, set_mid, Option.bind_some, wrapn hp, w0, w1, w2]
  rw [hE]
theorem M.MailS.p_mark (xs : List M.Mail) (hx : (xs.length ≤ maxLen ∧ ∀ y ∈ xs, M.Mail.ok y)) (k : Int) (h0 : 0 ≤ k) (hB : k + ((szSum M.Mail.cnt xs : Nat) : Int) ≤ KB) : ∃ ys, m_laws_markMailS xs k = some (ys, k + ((szSum M.Mail.cnt xs : Nat) : Int)) := by
  have hm := le_max hx.1
  obtain ⟨ys, h2⟩ := markOnly (ML := m_laws_markMailS_L1) (c := M.Mail.cnt) (ok := M.Mail.ok) (fun x hx k h0 hB => M.Mail.mstep x hx k h0 hB) (fun n k l => by simp only [m_laws_markMailS_L1]; rw [if_neg (by rw [nlt_nat]; simp)]) xs [] fuel k (by simpa using hx.1) (by unfold fuel; omega) hx.2 h0 hB
  exact ⟨ys, by unfold m_laws_markMailS; simpa using h2⟩
set_option maxHeartbeats 4000000 in
theorem M.StringS.mstep (x : ByteArray) (hx : True) (k : Int) (h0 : 0 ≤ k) (hB : k + (((fun _ : ByteArray => 1) x : Nat) : Int) ≤ KB) : ∃ x' : ByteArray, (∀ n (pre post : List ByteArray), (pre ++ x :: post).length ≤ maxLen → m_laws_markStringS_L1 (n + 1) k pre.length (pre ++ x :: post) = m_laws_markStringS_L1 n (k + (((fun _ : ByteArray => 1) x : Nat) : Int)) ((pre.length + 1 : Nat) : Int) (pre ++ x' :: post)) := by
  unfold KB at hB; (try simp only [] at hB ⊢)
  have A : (0 ≤ k ∧ k ≤ KB) ∧ (0 ≤ k + 1 ∧ k + 1 ≤ KB) := by
    unfold KB
    refine ⟨?_, ?_⟩ <;> omega
  have hE : k + 1 = k + (((fun _ : ByteArray => 1) x : Nat) : Int) := by simp
  obtain ⟨q0, q1⟩ := A
  have t0 : m_laws_markText (k) = some (mtx (k)) := mt q0.1 (Int.lt_of_add_one_le q1.2)
  have w0 := wk2 q0
  refine ⟨(mtx (k)), fun n pre post hl => ?_⟩
  have hl' := le_max hl
  have hp : pre.length < 9223372036854775807 := by simp at hl'; omega
  simp only [m_laws_markStringS_L1]
  rw [if_pos (lt_mid pre post x)]
  simp (maxSteps := 2000000) only [idx_mid, set_mid, Option.bind_some, wrapn hp, t0, w0]
  rw [hE]
theorem M.StringS.cl (xs : List ByteArray) : szSum (fun _ : ByteArray => 1) xs = xs.length := by
  induction xs with
  | nil => rfl
  | cons x xs ih => simp only [szSum, ih, List.length_cons]; omega
theorem M.StringS.p_mark (xs : List ByteArray) (hx : okS xs) (k : Int) (h0 : 0 ≤ k) (hB : k + ((xs.length : Nat) : Int) ≤ KB) : ∃ ys, m_laws_markStringS xs k = some (ys, k + ((xs.length : Nat) : Int)) := by
  have hm := le_max hx.1
  rw [← M.StringS.cl xs] at hB ⊢
  obtain ⟨ys, h2⟩ := markOnly (ML := m_laws_markStringS_L1) (c := (fun _ : ByteArray => 1)) (ok := (fun _ : ByteArray => True)) (fun x hx k h0 hB => M.StringS.mstep x hx k h0 hB) (fun n k l => by simp only [m_laws_markStringS_L1]; rw [if_neg (by rw [nlt_nat]; simp)]) xs [] fuel k (by simpa using hx.1) (by unfold fuel; omega) (fun _ _ => trivial) h0 hB
  exact ⟨ys, by unfold m_laws_markStringS; simpa using h2⟩
def M.Site.cnt (x : M.Site) : Nat := 3 + (x.Files.length)
set_option maxHeartbeats 4000000 in
theorem M.Site.mstep (x : M.Site) (hx : M.Site.ok x) (k : Int) (h0 : 0 ≤ k) (hB : k + ((M.Site.cnt x : Nat) : Int) ≤ KB) : ∃ x' : M.Site, (∀ n (pre post : List M.Site), (pre ++ x :: post).length ≤ maxLen → m_laws_markSiteS_L1 (n + 1) k pre.length (pre ++ x :: post) = m_laws_markSiteS_L1 n (k + ((M.Site.cnt x : Nat) : Int)) ((pre.length + 1 : Nat) : Int) (pre ++ x' :: post)) := by
  unfold KB at hB; unfold M.Site.cnt at hB ⊢
  have A : (0 ≤ k ∧ k ≤ KB) ∧ (0 ≤ k + 1 ∧ k + 1 ≤ KB) ∧ (0 ≤ k + 1 + 1 ∧ k + 1 + 1 ≤ KB) ∧ (0 ≤ k + 1 + 1 + ((x.Files.length : Nat) : Int) ∧ k + 1 + 1 + ((x.Files.length : Nat) : Int) ≤ KB) ∧ (0 ≤ k + 1 + 1 + ((x.Files.length : Nat) : Int) + 1 ∧ k + 1 + 1 + ((x.Files.length : Nat) : Int) + 1 ≤ KB) := by
    unfold KB
    refine ⟨?_, ?_, ?_, ?_, ?_⟩ <;> omega
  have hE : k + 1 + 1 + ((x.Files.length : Nat) : Int) + 1 = k + ((M.Site.cnt x : Nat) : Int) := by unfold M.Site.cnt; omega
  unfold M.Site.cnt at hE
  obtain ⟨q0, q1, q2, q3, q4⟩ := A
  have t0 : m_laws_markText (k) = some (mtx (k)) := mt q0.1 (Int.lt_of_add_one_le q1.2)
  have w0 := wk2 q0
  have w1 := wk2 q1
  obtain ⟨y1, a1⟩ := M.StringS.p_mark _ hx.Files (k + 1 + 1) q2.1 q3.2
  have w3 := wk2 q3
  refine ⟨⟨(mtx (k)), k + 1, y1, ((Int.tmod (k + 1 + 1 + ((x.Files.length : Nat) : Int)) 3) == 0)⟩, fun n pre post hl => ?_⟩
  have hl' := le_max hl
  have hp : pre.length < 9223372036854775807 := by simp at hl'; omega
  simp only [m_laws_markSiteS_L1]
  rw [if_pos (lt_mid pre post x)]
  simp (maxSteps := 2000000) only [idx_mid, set_mid, Option.bind_some, wrapn hp, t0, w0, w1, a1, w3]
  rw [hE]
theorem M.SiteS.p_mark (xs : List M.Site) (hx : (xs.length ≤ maxLen ∧ ∀ y ∈ xs, M.Site.ok y)) (k : Int) (h0 : 0 ≤ k) (hB : k + ((szSum M.Site.cnt xs : Nat) : Int) ≤ KB) : ∃ ys, m_laws_markSiteS xs k = some (ys, k + ((szSum M.Site.cnt xs : Nat) : Int)) := by
  have hm := le_max hx.1
  obtain ⟨ys, h2⟩ := markOnly (ML := m_laws_markSiteS_L1) (c := M.Site.cnt) (ok := M.Site.ok) (fun x hx k h0 hB => M.Site.mstep x hx k h0 hB) (fun n k l => by simp only [m_laws_markSiteS_L1]; rw [if_neg (by rw [nlt_nat]; simp)]) xs [] fuel k (by simpa using hx.1) (by unfold fuel; omega) hx.2 h0 hB
  exact ⟨ys, by unfold m_laws_markSiteS; simpa using h2⟩
def M.Applied.cnt (x : M.Applied) : Nat := 2
set_option maxHeartbeats 4000000 in
theorem M.Applied.mstep (x : M.Applied) (hx : M.Applied.ok x) (k : Int) (h0 : 0 ≤ k) (hB : k + ((M.Applied.cnt x : Nat) : Int) ≤ KB) : ∃ x' : M.Applied, (∀ n (pre post : List M.Applied), (pre ++ x :: post).length ≤ maxLen → m_laws_markAppliedS_L1 (n + 1) k pre.length (pre ++ x :: post) = m_laws_markAppliedS_L1 n (k + ((M.Applied.cnt x : Nat) : Int)) ((pre.length + 1 : Nat) : Int) (pre ++ x' :: post)) := by
  unfold KB at hB; unfold M.Applied.cnt at hB ⊢
  have A : (0 ≤ k ∧ k ≤ KB) ∧ (0 ≤ k + 1 ∧ k + 1 ≤ KB) ∧ (0 ≤ k + 1 + 1 ∧ k + 1 + 1 ≤ KB) := by
    unfold KB
    refine ⟨?_, ?_, ?_⟩ <;> omega
  have hE : k + 1 + 1 = k + ((M.Applied.cnt x : Nat) : Int) := by unfold M.Applied.cnt; omega
  unfold M.Applied.cnt at hE
  obtain ⟨q0, q1, q2⟩ := A
  have w0 := wk2 q0
  have w1 := wk2 q1
  refine ⟨⟨k, k + 1⟩, fun n pre post hl => ?_⟩
  have hl' := le_max hl
  have hp : pre.length < 9223372036854775807 := by simp at hl'; omega
  simp only [m_laws_markAppliedS_L1]
  rw [if_pos (lt_mid pre post x)]
  simp (maxSteps := 2000000) only [idx_mid, set_mid, Option.bind_some, wrapn hp, w0, w1]
  rw [hE]
theorem M.AppliedS.p_mark (xs : List M.Applied) (hx : (xs.length ≤ maxLen ∧ ∀ y ∈ xs, M.Applied.ok y)) (k : Int) (h0 : 0 ≤ k) (hB : k + ((szSum M.Applied.cnt xs : Nat) : Int) ≤ KB) : ∃ ys, m_laws_markAppliedS xs k = some (ys, k + ((szSum M.Applied.cnt xs : Nat) : Int)) := by
  have hm := le_max hx.1
  obtain ⟨ys, h2⟩ := markOnly (ML := m_laws_markAppliedS_L1) (c := M.Applied.cnt) (ok := M.Applied.ok) (fun x hx k h0 hB => M.Applied.mstep x hx k h0 hB) (fun n k l => by simp only [m_laws_markAppliedS_L1]; rw [if_neg (by rw [nlt_nat]; simp)]) xs [] fuel k (by simpa using hx.1) (by unfold fuel; omega) hx.2 h0 hB
  exact ⟨ys, by unfold m_laws_markAppliedS; simpa using h2⟩
def M.Server.cnt (x : M.Server) : Nat := 2 + (szSum M.Item.cnt x.Store.Items) + (szSum M.Applied.cnt x.Applied) + (szSum M.Write.cnt x.Changes)
set_option maxHeartbeats 4000000 in
theorem M.Server.mstep (x : M.Server) (hx : M.Server.ok x) (k : Int) (h0 : 0 ≤ k) (hB : k + ((M.Server.cnt x : Nat) : Int) ≤ KB) : ∃ x' : M.Server, (∀ n (pre post : List M.Server), (pre ++ x :: post).length ≤ maxLen → m_laws_markServerS_L1 (n + 1) k pre.length (pre ++ x :: post) = m_laws_markServerS_L1 n (k + ((M.Server.cnt x : Nat) : Int)) ((pre.length + 1 : Nat) : Int) (pre ++ x' :: post)) := by
  unfold KB at hB; unfold M.Server.cnt at hB ⊢
  have A : (0 ≤ k ∧ k ≤ KB) ∧ (0 ≤ k + 1 ∧ k + 1 ≤ KB) ∧ (0 ≤ k + 1 + ((szSum M.Item.cnt x.Store.Items : Nat) : Int) ∧ k + 1 + ((szSum M.Item.cnt x.Store.Items : Nat) : Int) ≤ KB) ∧ (0 ≤ k + 1 + ((szSum M.Item.cnt x.Store.Items : Nat) : Int) + 1 ∧ k + 1 + ((szSum M.Item.cnt x.Store.Items : Nat) : Int) + 1 ≤ KB) ∧ (0 ≤ k + 1 + ((szSum M.Item.cnt x.Store.Items : Nat) : Int) + 1 + ((szSum M.Applied.cnt x.Applied : Nat) : Int) ∧ k + 1 + ((szSum M.Item.cnt x.Store.Items : Nat) : Int) + 1 + ((szSum M.Applied.cnt x.Applied : Nat) : Int) ≤ KB) ∧ (0 ≤ k + 1 + ((szSum M.Item.cnt x.Store.Items : Nat) : Int) + 1 + ((szSum M.Applied.cnt x.Applied : Nat) : Int) + ((szSum M.Write.cnt x.Changes : Nat) : Int) ∧ k + 1 + ((szSum M.Item.cnt x.Store.Items : Nat) : Int) + 1 + ((szSum M.Applied.cnt x.Applied : Nat) : Int) + ((szSum M.Write.cnt x.Changes : Nat) : Int) ≤ KB) := by
    unfold KB
    refine ⟨?_, ?_, ?_, ?_, ?_, ?_⟩ <;> omega
  have hE : k + 1 + ((szSum M.Item.cnt x.Store.Items : Nat) : Int) + 1 + ((szSum M.Applied.cnt x.Applied : Nat) : Int) + ((szSum M.Write.cnt x.Changes : Nat) : Int) = k + ((M.Server.cnt x : Nat) : Int) := by unfold M.Server.cnt; omega
  unfold M.Server.cnt at hE
  obtain ⟨q0, q1, q2, q3, q4, q5⟩ := A
  have t0 : m_laws_markText (k) = some (mtx (k)) := mt q0.1 (Int.lt_of_add_one_le q1.2)
  have w0 := wk2 q0
  obtain ⟨y1, a1⟩ := M.ItemS.p_mark _ hx.Store.Items (k + 1) q1.1 q2.2
  have w2 := wk2 q2
  obtain ⟨y2, a2⟩ := M.AppliedS.p_mark _ hx.Applied (k + 1 + ((szSum M.Item.cnt x.Store.Items : Nat) : Int) + 1) q3.1 q4.2
  obtain ⟨y3, a3⟩ := M.WriteS.p_mark _ hx.Changes (k + 1 + ((szSum M.Item.cnt x.Store.Items : Nat) : Int) + 1 + ((szSum M.Applied.cnt x.Applied : Nat) : Int)) q4.1 q5.2
  refine ⟨⟨⟨(mtx (k)), y1, k + 1 + ((szSum M.Item.cnt x.Store.Items : Nat) : Int)⟩, y2, y3⟩, fun n pre post hl => ?_⟩
  have hl' := le_max hl
  have hp : pre.length < 9223372036854775807 := by simp at hl'; omega
  simp only [m_laws_markServerS_L1]
  rw [if_pos (lt_mid pre post x)]
  simp (maxSteps := 2000000) only [idx_mid, set_mid, Option.bind_some, wrapn hp, t0, w0, a1, w2, a2, a3]
  rw [hE]
theorem M.ServerS.p_mark (xs : List M.Server) (hx : (xs.length ≤ maxLen ∧ ∀ y ∈ xs, M.Server.ok y)) (k : Int) (h0 : 0 ≤ k) (hB : k + ((szSum M.Server.cnt xs : Nat) : Int) ≤ KB) : ∃ ys, m_laws_markServerS xs k = some (ys, k + ((szSum M.Server.cnt xs : Nat) : Int)) := by
  have hm := le_max hx.1
  obtain ⟨ys, h2⟩ := markOnly (ML := m_laws_markServerS_L1) (c := M.Server.cnt) (ok := M.Server.ok) (fun x hx k h0 hB => M.Server.mstep x hx k h0 hB) (fun n k l => by simp only [m_laws_markServerS_L1]; rw [if_neg (by rw [nlt_nat]; simp)]) xs [] fuel k (by simpa using hx.1) (by unfold fuel; omega) hx.2 h0 hB
  exact ⟨ys, by unfold m_laws_markServerS; simpa using h2⟩
def M.World.cnts (x : M.World) : Nat := (szSum M.Bucket.cnt x.Storage.Buckets) + (szSum M.Page.cnt x.Pages) + (szSum M.Lock.cnt x.Locks.Locks) + (szSum M.Mail.cnt x.Channel.Mails) + (szSum M.Site.cnt x.Sites) + (szSum M.Server.cnt x.Servers)
theorem M.World.p_mark (x : M.World) (hx : M.World.ok x) (k : Int) (h0 : 0 ≤ k) (hB : k + ((M.World.cnts x : Nat) : Int) ≤ KB) : ∃ y1 y2 y3 y4 y5 y6, m_laws_markWorld x k = some (y1, y2, y3, y4, y5, y6, k + ((M.World.cnts x : Nat) : Int)) := by
  unfold KB at hB; unfold M.World.cnts at hB ⊢
  obtain ⟨y1, a1⟩ := M.BucketS.p_mark _ hx.Storage.Buckets (k) (by omega) (by unfold KB; omega)
  obtain ⟨y2, a2⟩ := M.PageS.p_mark _ hx.Pages (k + ((szSum M.Bucket.cnt x.Storage.Buckets : Nat) : Int)) (by omega) (by unfold KB; omega)
  obtain ⟨y3, a3⟩ := M.LockS.p_mark _ hx.Locks.Locks (k + ((szSum M.Bucket.cnt x.Storage.Buckets : Nat) : Int) + ((szSum M.Page.cnt x.Pages : Nat) : Int)) (by omega) (by unfold KB; omega)
  obtain ⟨y4, a4⟩ := M.MailS.p_mark _ hx.Channel.Mails (k + ((szSum M.Bucket.cnt x.Storage.Buckets : Nat) : Int) + ((szSum M.Page.cnt x.Pages : Nat) : Int) + ((szSum M.Lock.cnt x.Locks.Locks : Nat) : Int)) (by omega) (by unfold KB; omega)
  obtain ⟨y5, a5⟩ := M.SiteS.p_mark _ hx.Sites (k + ((szSum M.Bucket.cnt x.Storage.Buckets : Nat) : Int) + ((szSum M.Page.cnt x.Pages : Nat) : Int) + ((szSum M.Lock.cnt x.Locks.Locks : Nat) : Int) + ((szSum M.Mail.cnt x.Channel.Mails : Nat) : Int)) (by omega) (by unfold KB; omega)
  obtain ⟨y6, a6⟩ := M.ServerS.p_mark _ hx.Servers (k + ((szSum M.Bucket.cnt x.Storage.Buckets : Nat) : Int) + ((szSum M.Page.cnt x.Pages : Nat) : Int) + ((szSum M.Lock.cnt x.Locks.Locks : Nat) : Int) + ((szSum M.Mail.cnt x.Channel.Mails : Nat) : Int) + ((szSum M.Site.cnt x.Sites : Nat) : Int)) (by omega) (by unfold KB; omega)
  refine ⟨y1, y2, y3, y4, y5, y6, ?_⟩
  unfold m_laws_markWorld
  simp only [m_laws_markStorage, m_laws_markLockTable, m_laws_markChannel, a1, a2, a3, a4, a5, a6, Option.bind_some]
  try (simp only [Option.some.injEq, Prod.mk.injEq, true_and]; omega)
theorem M.ByteS.cntle (xs : List Int) : xs.length ≤ 40 * (xs.length) := by omega
theorem M.Cached.cntle (x : M.Cached) : M.Cached.cnt x ≤ 40 + 40 * M.Cached.sz x := by
  unfold M.Cached.cnt
  simp only [M.Cached.sz, M.Response.sz]
  have := M.ByteS.cntle x.Response.Body
  omega
theorem M.CachedS.cntle (xs : List M.Cached) : szSum M.Cached.cnt xs ≤ 40 * ((xs.length + szSum M.Cached.sz xs)) := szSum_mul (fun x _ => M.Cached.cntle x)
theorem M.Cache.cntle (x : M.Cache) : M.Cache.cnt x ≤ 40 + 40 * M.Cache.sz x := by
  unfold M.Cache.cnt
  simp only [M.Cache.sz]
  have := M.CachedS.cntle x.Entries
  omega
theorem M.CacheS.cntle (xs : List M.Cache) : szSum M.Cache.cnt xs ≤ 40 * ((xs.length + szSum M.Cache.sz xs)) := szSum_mul (fun x _ => M.Cache.cntle x)
theorem M.Field.cntle (x : M.Field) : M.Field.cnt x ≤ 40 + 40 * M.Field.sz x := by
  unfold M.Field.cnt
  simp only [M.Field.sz]
  omega
theorem M.FieldS.cntle (xs : List M.Field) : szSum M.Field.cnt xs ≤ 40 * ((xs.length + szSum M.Field.sz xs)) := szSum_mul (fun x _ => M.Field.cntle x)
theorem M.Item.cntle (x : M.Item) : M.Item.cnt x ≤ 40 + 40 * M.Item.sz x := by
  unfold M.Item.cnt
  simp only [M.Item.sz, M.Key.sz, M.Record.sz]
  have := M.FieldS.cntle x.Record.Fields
  omega
theorem M.ItemS.cntle (xs : List M.Item) : szSum M.Item.cnt xs ≤ 40 * ((xs.length + szSum M.Item.sz xs)) := szSum_mul (fun x _ => M.Item.cntle x)
theorem M.Store.cntle (x : M.Store) : M.Store.cnt x ≤ 40 + 40 * M.Store.sz x := by
  unfold M.Store.cnt
  simp only [M.Store.sz]
  have := M.ItemS.cntle x.Items
  omega
theorem M.StoreS.cntle (xs : List M.Store) : szSum M.Store.cnt xs ≤ 40 * ((xs.length + szSum M.Store.sz xs)) := szSum_mul (fun x _ => M.Store.cntle x)
theorem M.IndexDef.cntle (x : M.IndexDef) : M.IndexDef.cnt x ≤ 40 + 40 * M.IndexDef.sz x := by
  unfold M.IndexDef.cnt
  simp only [M.IndexDef.sz]
  omega
theorem M.IndexDefS.cntle (xs : List M.IndexDef) : szSum M.IndexDef.cnt xs ≤ 40 * ((xs.length + szSum M.IndexDef.sz xs)) := szSum_mul (fun x _ => M.IndexDef.cntle x)
theorem M.Write.cntle (x : M.Write) : M.Write.cnt x ≤ 40 + 40 * M.Write.sz x := by
  unfold M.Write.cnt
  simp only [M.Write.sz, M.Key.sz]
  omega
theorem M.WriteS.cntle (xs : List M.Write) : szSum M.Write.cnt xs ≤ 40 * ((xs.length + szSum M.Write.sz xs)) := szSum_mul (fun x _ => M.Write.cntle x)
theorem M.Bucket.cntle (x : M.Bucket) : M.Bucket.cnt x ≤ 40 + 40 * M.Bucket.sz x := by
  unfold M.Bucket.cnt
  simp only [M.Bucket.sz, M.Registration.sz, M.CacheSet.sz, M.Disk.sz, M.Database.sz, M.Replica.sz, M.Store.sz, M.Sync.sz, M.Outbox.sz]
  have := M.CacheS.cntle x.Caches.Caches
  have := M.StoreS.cntle x.Disk.Base.Stores
  have := M.IndexDefS.cntle x.Disk.Base.Unique
  have := M.ByteS.cntle x.Disk.Log
  have := M.ItemS.cntle x.Replica.Base.Items
  have := M.WriteS.cntle x.Replica.Sync.Outbox.Writes
  omega
theorem M.BucketS.cntle (xs : List M.Bucket) : szSum M.Bucket.cnt xs ≤ 40 * ((xs.length + szSum M.Bucket.sz xs)) := szSum_mul (fun x _ => M.Bucket.cntle x)
theorem M.Loaded.cntle (x : M.Loaded) : M.Loaded.cnt x ≤ 40 + 40 * M.Loaded.sz x := by
  unfold M.Loaded.cnt
  simp only [M.Loaded.sz]
  omega
theorem M.LoadedS.cntle (xs : List M.Loaded) : szSum M.Loaded.cnt xs ≤ 40 * ((xs.length + szSum M.Loaded.sz xs)) := szSum_mul (fun x _ => M.Loaded.cntle x)
theorem M.Instr.cntle (x : M.Instr) : M.Instr.cnt x ≤ 40 + 40 * M.Instr.sz x := by
  unfold M.Instr.cnt
  simp only [M.Instr.sz]
  omega
theorem M.InstrS.cntle (xs : List M.Instr) : szSum M.Instr.cnt xs ≤ 40 * ((xs.length + szSum M.Instr.sz xs)) := szSum_mul (fun x _ => M.Instr.cntle x)
theorem M.IntS.cntle (xs : List Int) : xs.length ≤ 40 * (xs.length) := by omega
theorem M.Page.cntle (x : M.Page) : M.Page.cnt x ≤ 40 + 40 * M.Page.sz x := by
  unfold M.Page.cnt
  simp only [M.Page.sz, M.Machine.sz]
  have := M.LoadedS.cntle x.Loaded
  have := M.InstrS.cntle x.Machine.Script
  have := M.IntS.cntle x.Machine.Regs
  omega
theorem M.PageS.cntle (xs : List M.Page) : szSum M.Page.cnt xs ≤ 40 * ((xs.length + szSum M.Page.sz xs)) := szSum_mul (fun x _ => M.Page.cntle x)
theorem M.Lock.cntle (x : M.Lock) : M.Lock.cnt x ≤ 40 + 40 * M.Lock.sz x := by
  unfold M.Lock.cnt
  simp only [M.Lock.sz]
  omega
theorem M.LockS.cntle (xs : List M.Lock) : szSum M.Lock.cnt xs ≤ 40 * ((xs.length + szSum M.Lock.sz xs)) := szSum_mul (fun x _ => M.Lock.cntle x)
theorem M.Mail.cntle (x : M.Mail) : M.Mail.cnt x ≤ 40 := by
  unfold M.Mail.cnt
  omega
theorem M.MailS.cntle (xs : List M.Mail) : szSum M.Mail.cnt xs ≤ 40 * (xs.length) := Nat.le_trans (szSum_const (fun x _ => M.Mail.cntle x)) (by omega)
theorem M.StringS.cntle (xs : List ByteArray) : xs.length ≤ 40 * ((xs.length + szSum ByteArray.size xs)) := by omega
theorem M.Site.cntle (x : M.Site) : M.Site.cnt x ≤ 40 + 40 * M.Site.sz x := by
  unfold M.Site.cnt
  simp only [M.Site.sz]
  have := M.StringS.cntle x.Files
  omega
theorem M.SiteS.cntle (xs : List M.Site) : szSum M.Site.cnt xs ≤ 40 * ((xs.length + szSum M.Site.sz xs)) := szSum_mul (fun x _ => M.Site.cntle x)
theorem M.Applied.cntle (x : M.Applied) : M.Applied.cnt x ≤ 40 := by
  unfold M.Applied.cnt
  omega
theorem M.AppliedS.cntle (xs : List M.Applied) : szSum M.Applied.cnt xs ≤ 40 * (xs.length) := Nat.le_trans (szSum_const (fun x _ => M.Applied.cntle x)) (by omega)
theorem M.Server.cntle (x : M.Server) : M.Server.cnt x ≤ 40 + 40 * M.Server.sz x := by
  unfold M.Server.cnt
  simp only [M.Server.sz, M.Store.sz]
  have := M.ItemS.cntle x.Store.Items
  have := M.AppliedS.cntle x.Applied
  have := M.WriteS.cntle x.Changes
  omega
theorem M.ServerS.cntle (xs : List M.Server) : szSum M.Server.cnt xs ≤ 40 * ((xs.length + szSum M.Server.sz xs)) := szSum_mul (fun x _ => M.Server.cntle x)
theorem M.World.cntsle (x : M.World) : M.World.cnts x ≤ 40 * M.World.sz x := by
  unfold M.World.cnts
  simp only [M.World.sz, M.Storage.sz, M.LockTable.sz, M.Channel.sz]
  have := M.BucketS.cntle x.Storage.Buckets
  have := M.PageS.cntle x.Pages
  have := M.LockS.cntle x.Locks.Locks
  have := M.MailS.cntle x.Channel.Mails
  have := M.SiteS.cntle x.Sites
  have := M.ServerS.cntle x.Servers
  omega
end Go.Proofs.YtcpahpbjjnekkaaGreat.gen
