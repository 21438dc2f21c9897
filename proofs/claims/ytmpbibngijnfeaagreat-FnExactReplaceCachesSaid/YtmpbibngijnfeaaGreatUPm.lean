/-
  Helper text: the plain laws of mark and held. No conditions beyond those of each law.
-/
import Derived.Test.YtmpbibngijnfeaaGreatUPz
namespace Go.Proofs.YtmpbibngijnfeaaGreat.gen
open Go Go.Sh
set_option linter.unusedVariables false
set_option linter.unusedSimpArgs false
theorem mtLoop : ∀ (n : Nat) (v : Int) (b : ByteArray), v.toNat < n → 0 ≤ v → (b.size : Int) + v ≤ KB → ∃ t, m_laws_markText_L1 n v b = some t ∧ t.size ≤ 4611686018427387905
  | 0, v, b, h, _, _ => by omega
  | n + 1, v, b, h, h0, hb => by
    unfold KB at hb
    simp only [m_laws_markText_L1]
    by_cases hv : v > 0
    · rw [if_pos (by simp; omega)]
      have h1 := Int.tmod_nonneg 10 h0
      have h2 := Int.tmod_lt_of_pos v (show (0 : Int) < 10 by omega)
      have hu := u8_range (IntKind.i64.wrap (48 + Int.tmod v 10))
      have hd : Int.tdiv v 10 = v / 10 := Int.tdiv_eq_ediv_of_nonneg h0
      have hs : toStr [IntKind.u8.wrap (IntKind.i64.wrap (48 + Int.tmod v 10))] = some (bytesStr [IntKind.u8.wrap (IntKind.i64.wrap (48 + Int.tmod v 10))]) := by
        unfold toStr; rw [if_pos (by simp; omega)]
      have hz : (bytesStr [IntKind.u8.wrap (IntKind.i64.wrap (48 + Int.tmod v 10))]).size = 1 := rfl
      rw [hs, Option.bind_some]
      unfold cat
      rw [if_pos (by rw [hz]; omega), Option.bind_some, hd, wrap_ok (by omega) (by omega)]
      refine mtLoop n (v / 10) _ (by omega) (by omega) ?_
      rw [ByteArray.size_append, hz]
      unfold KB
      omega
    · rw [if_neg (by simp; omega)]
      have hq : cat (⟨#[109]⟩ : ByteArray) b = some ((⟨#[109]⟩ : ByteArray) ++ b) := by
        unfold cat; rw [if_pos (by show 1 + b.size ≤ _; omega)]
      first | exact ⟨_, by rw [hq, Option.bind_some], by rw [ByteArray.size_append]; show 1 + b.size ≤ _; omega⟩ | exact ⟨_, by rw [hq]; rfl, by rw [ByteArray.size_append]; show 1 + b.size ≤ _; omega⟩
theorem mt_some (k : Int) (h0 : 0 ≤ k) (h : k < KB) : ∃ t, m_laws_markText k = some t := by
  unfold m_laws_markText
  by_cases hk : k ≤ 0
  · exact ⟨_, by rw [if_pos (by simpa using hk)]⟩
  · rw [if_neg (by simpa using hk)]
    obtain ⟨t, h1, _⟩ := mtLoop fuel k ⟨#[]⟩ (by unfold fuel KB at *; omega) h0 (by show ((0 : Nat) : Int) + k ≤ KB; omega)
    exact ⟨t, h1⟩
def mtx (k : Int) : ByteArray := (m_laws_markText k).getD ⟨#[]⟩
theorem mt {k : Int} (h0 : 0 ≤ k) (h : k < KB) : m_laws_markText k = some (mtx k) := by
  obtain ⟨t, ht⟩ := mt_some k h0 h
  unfold mtx; rw [ht]; rfl

def M.Field.cnt (x : M.Field) : Nat := 2
set_option maxHeartbeats 4000000 in
theorem M.Field.mstep (x : M.Field) (hx : M.Field.ok x) (k : Int) (h0 : 0 ≤ k) (hB : k + ((M.Field.cnt x : Nat) : Int) ≤ KB) : ∃ x' : M.Field, (∀ n (pre post : List M.Field), (pre ++ x :: post).length ≤ maxLen → m_laws_markFieldS_L1 (n + 1) k pre.length (pre ++ x :: post) = m_laws_markFieldS_L1 n (k + ((M.Field.cnt x : Nat) : Int)) ((pre.length + 1 : Nat) : Int) (pre ++ x' :: post)) ∧ ∀ n (l : List M.Field) (i : Nat), l[i]? = some x' → l.length ≤ maxLen → m_laws_heldFieldS_L1 l (n + 1) k i = m_laws_heldFieldS_L1 l n (k + ((M.Field.cnt x : Nat) : Int)) ((i + 1 : Nat) : Int) := by
  unfold KB at hB; unfold M.Field.cnt at hB ⊢
  have A : (0 ≤ k ∧ k ≤ KB) ∧ (0 ≤ k + 1 ∧ k + 1 ≤ KB) ∧ (0 ≤ k + 1 + 1 ∧ k + 1 + 1 ≤ KB) := by
    unfold KB
    refine ⟨?_, ?_, ?_⟩ <;> omega
  have hE : k + 1 + 1 = k + ((M.Field.cnt x : Nat) : Int) := by unfold M.Field.cnt; omega
  unfold M.Field.cnt at hE
  obtain ⟨q0, q1, q2⟩ := A
  have t0 : m_laws_markText (k) = some (mtx (k)) := mt q0.1 (Int.lt_of_add_one_le q1.2)
  have w0 := wk2 q0
  have w1 := wk2 q1
  refine ⟨⟨(mtx (k)), k + 1⟩, fun n pre post hl => ?_, fun n l i hi hl => ?_⟩
  · have hl' := le_max hl
    have hp : pre.length < 9223372036854775807 := by simp at hl'; omega
    simp only [m_laws_markFieldS_L1]
    rw [if_pos (lt_mid pre post x)]
    simp (maxSteps := 2000000) only [idx_mid, set_mid, Option.bind_some, wrapn hp, t0, w0, w1]
    rw [hE]
  · have hl' := le_max hl
    have hp : i < 9223372036854775807 := by have := (List.getElem?_eq_some_iff.1 hi).1; omega
    simp only [m_laws_heldFieldS_L1]
    rw [if_pos (lt_at hi)]
    simp (maxSteps := 2000000) only [idx_at hi, Option.bind_some, wrapn hp, t0, w0, w1, bne_self_eq_false, beq_self_eq_true, Bool.not_true, Bool.false_eq_true, if_false]
    rw [hE]
theorem M.FieldS.p_mark (xs : List M.Field) (hx : (xs.length ≤ maxLen ∧ ∀ y ∈ xs, M.Field.ok y)) (k : Int) (h0 : 0 ≤ k) (hB : k + ((szSum M.Field.cnt xs : Nat) : Int) ≤ KB) : ∃ ys, m_laws_markFieldS xs k = some (ys, k + ((szSum M.Field.cnt xs : Nat) : Int)) ∧ m_laws_heldFieldS ys k = some (k + ((szSum M.Field.cnt xs : Nat) : Int)) ∧ ys.length = xs.length := by
  have hm := le_max hx.1
  obtain ⟨ys, h1, h2, h3⟩ := markHeld (ML := m_laws_markFieldS_L1) (HL := m_laws_heldFieldS_L1) (c := M.Field.cnt) (ok := M.Field.ok) (fun x hx k h0 hB => M.Field.mstep x hx k h0 hB) (fun n k l => by simp only [m_laws_markFieldS_L1]; rw [if_neg (by rw [nlt_nat]; simp)]) (fun n k l => by simp only [m_laws_heldFieldS_L1]; rw [if_neg (by rw [nlt_nat]; simp)]) xs [] fuel k (by simpa using hx.1) (by unfold fuel; omega) hx.2 h0 hB
  refine ⟨ys, by unfold m_laws_markFieldS; simpa using h2, by unfold m_laws_heldFieldS; simpa using h3 fuel (by unfold fuel; omega), h1⟩
def M.Item.cnt (x : M.Item) : Nat := 3 + (szSum M.Field.cnt x.Record.Fields)
set_option maxHeartbeats 4000000 in
theorem M.Item.mstep (x : M.Item) (hx : M.Item.ok x) (k : Int) (h0 : 0 ≤ k) (hB : k + ((M.Item.cnt x : Nat) : Int) ≤ KB) : ∃ x' : M.Item, (∀ n (pre post : List M.Item), (pre ++ x :: post).length ≤ maxLen → m_laws_markItemS_L1 (n + 1) k pre.length (pre ++ x :: post) = m_laws_markItemS_L1 n (k + ((M.Item.cnt x : Nat) : Int)) ((pre.length + 1 : Nat) : Int) (pre ++ x' :: post)) ∧ ∀ n (l : List M.Item) (i : Nat), l[i]? = some x' → l.length ≤ maxLen → m_laws_heldItemS_L1 l (n + 1) k i = m_laws_heldItemS_L1 l n (k + ((M.Item.cnt x : Nat) : Int)) ((i + 1 : Nat) : Int) := by
  unfold KB at hB; unfold M.Item.cnt at hB ⊢
  have A : (0 ≤ k ∧ k ≤ KB) ∧ (0 ≤ k + 1 ∧ k + 1 ≤ KB) ∧ (0 ≤ k + 1 + 1 ∧ k + 1 + 1 ≤ KB) ∧ (0 ≤ k + 1 + 1 + 1 ∧ k + 1 + 1 + 1 ≤ KB) ∧ (0 ≤ k + 1 + 1 + 1 + ((szSum M.Field.cnt x.Record.Fields : Nat) : Int) ∧ k + 1 + 1 + 1 + ((szSum M.Field.cnt x.Record.Fields : Nat) : Int) ≤ KB) := by
    unfold KB
    refine ⟨?_, ?_, ?_, ?_, ?_⟩ <;> omega
  have hE : k + 1 + 1 + 1 + ((szSum M.Field.cnt x.Record.Fields : Nat) : Int) = k + ((M.Item.cnt x : Nat) : Int) := by unfold M.Item.cnt; omega
  unfold M.Item.cnt at hE
  obtain ⟨q0, q1, q2, q3, q4⟩ := A
  have w0 := wk2 q0
  have w1 := wk2 q1
  have t2 : m_laws_markText (k + 1 + 1) = some (mtx (k + 1 + 1)) := mt q2.1 (Int.lt_of_add_one_le q3.2)
  have w2 := wk2 q2
  obtain ⟨y1, a1, b1, _⟩ := M.FieldS.p_mark _ hx.Record.Fields (k + 1 + 1 + 1) q3.1 q4.2
  have d1 : (decide (k + 1 + 1 + 1 + ((szSum M.Field.cnt x.Record.Fields : Nat) : Int) < 0)) = false := dk q4.1
  refine ⟨⟨⟨k, k + 1, (mtx (k + 1 + 1))⟩, ⟨y1⟩⟩, fun n pre post hl => ?_, fun n l i hi hl => ?_⟩
  · have hl' := le_max hl
    have hp : pre.length < 9223372036854775807 := by simp at hl'; omega
    simp only [m_laws_markItemS_L1]
    rw [if_pos (lt_mid pre post x)]
    simp (maxSteps := 2000000) only [idx_mid, set_mid, Option.bind_some, wrapn hp, w0, w1, t2, w2, a1]
    rw [hE]
  · have hl' := le_max hl
    have hp : i < 9223372036854775807 := by have := (List.getElem?_eq_some_iff.1 hi).1; omega
    simp only [m_laws_heldItemS_L1]
    rw [if_pos (lt_at hi)]
    simp (maxSteps := 2000000) only [idx_at hi, Option.bind_some, wrapn hp, w0, w1, t2, w2, b1, d1, bne_self_eq_false, beq_self_eq_true, Bool.not_true, Bool.false_eq_true, if_false]
    rw [hE]
theorem M.ItemS.p_mark (xs : List M.Item) (hx : (xs.length ≤ maxLen ∧ ∀ y ∈ xs, M.Item.ok y)) (k : Int) (h0 : 0 ≤ k) (hB : k + ((szSum M.Item.cnt xs : Nat) : Int) ≤ KB) : ∃ ys, m_laws_markItemS xs k = some (ys, k + ((szSum M.Item.cnt xs : Nat) : Int)) ∧ m_laws_heldItemS ys k = some (k + ((szSum M.Item.cnt xs : Nat) : Int)) ∧ ys.length = xs.length := by
  have hm := le_max hx.1
  obtain ⟨ys, h1, h2, h3⟩ := markHeld (ML := m_laws_markItemS_L1) (HL := m_laws_heldItemS_L1) (c := M.Item.cnt) (ok := M.Item.ok) (fun x hx k h0 hB => M.Item.mstep x hx k h0 hB) (fun n k l => by simp only [m_laws_markItemS_L1]; rw [if_neg (by rw [nlt_nat]; simp)]) (fun n k l => by simp only [m_laws_heldItemS_L1]; rw [if_neg (by rw [nlt_nat]; simp)]) xs [] fuel k (by simpa using hx.1) (by unfold fuel; omega) hx.2 h0 hB
  refine ⟨ys, by unfold m_laws_markItemS; simpa using h2, by unfold m_laws_heldItemS; simpa using h3 fuel (by unfold fuel; omega), h1⟩
def M.Store.cnt (x : M.Store) : Nat := 2 + (szSum M.Item.cnt x.Items)
set_option maxHeartbeats 4000000 in
theorem M.Store.mstep (x : M.Store) (hx : M.Store.ok x) (k : Int) (h0 : 0 ≤ k) (hB : k + ((M.Store.cnt x : Nat) : Int) ≤ KB) : ∃ x' : M.Store, (∀ n (pre post : List M.Store), (pre ++ x :: post).length ≤ maxLen → m_laws_markStoreS_L1 (n + 1) k pre.length (pre ++ x :: post) = m_laws_markStoreS_L1 n (k + ((M.Store.cnt x : Nat) : Int)) ((pre.length + 1 : Nat) : Int) (pre ++ x' :: post)) ∧ ∀ n (l : List M.Store) (i : Nat), l[i]? = some x' → l.length ≤ maxLen → m_laws_heldStoreS_L1 l (n + 1) k i = m_laws_heldStoreS_L1 l n (k + ((M.Store.cnt x : Nat) : Int)) ((i + 1 : Nat) : Int) := by
  unfold KB at hB; unfold M.Store.cnt at hB ⊢
  have A : (0 ≤ k ∧ k ≤ KB) ∧ (0 ≤ k + 1 ∧ k + 1 ≤ KB) ∧ (0 ≤ k + 1 + ((szSum M.Item.cnt x.Items : Nat) : Int) ∧ k + 1 + ((szSum M.Item.cnt x.Items : Nat) : Int) ≤ KB) ∧ (0 ≤ k + 1 + ((szSum M.Item.cnt x.Items : Nat) : Int) + 1 ∧ k + 1 + ((szSum M.Item.cnt x.Items : Nat) : Int) + 1 ≤ KB) := by
    unfold KB
    refine ⟨?_, ?_, ?_, ?_⟩ <;> omega
  have hE : k + 1 + ((szSum M.Item.cnt x.Items : Nat) : Int) + 1 = k + ((M.Store.cnt x : Nat) : Int) := by unfold M.Store.cnt; omega
  unfold M.Store.cnt at hE
  obtain ⟨q0, q1, q2, q3⟩ := A
  have t0 : m_laws_markText (k) = some (mtx (k)) := mt q0.1 (Int.lt_of_add_one_le q1.2)
  have w0 := wk2 q0
  obtain ⟨y1, a1, b1, _⟩ := M.ItemS.p_mark _ hx.Items (k + 1) q1.1 q2.2
  have d1 : (decide (k + 1 + ((szSum M.Item.cnt x.Items : Nat) : Int) < 0)) = false := dk q2.1
  have w2 := wk2 q2
  refine ⟨⟨(mtx (k)), y1, k + 1 + ((szSum M.Item.cnt x.Items : Nat) : Int)⟩, fun n pre post hl => ?_, fun n l i hi hl => ?_⟩
  · have hl' := le_max hl
    have hp : pre.length < 9223372036854775807 := by simp at hl'; omega
    simp only [m_laws_markStoreS_L1]
    rw [if_pos (lt_mid pre post x)]
    simp (maxSteps := 2000000) only [idx_mid, set_mid, Option.bind_some, wrapn hp, t0, w0, a1, w2]
    rw [hE]
  · have hl' := le_max hl
    have hp : i < 9223372036854775807 := by have := (List.getElem?_eq_some_iff.1 hi).1; omega
    simp only [m_laws_heldStoreS_L1]
    rw [if_pos (lt_at hi)]
    simp (maxSteps := 2000000) only [idx_at hi, Option.bind_some, wrapn hp, t0, w0, b1, d1, w2, bne_self_eq_false, beq_self_eq_true, Bool.not_true, Bool.false_eq_true, if_false]
    rw [hE]
theorem M.StoreS.p_mark (xs : List M.Store) (hx : (xs.length ≤ maxLen ∧ ∀ y ∈ xs, M.Store.ok y)) (k : Int) (h0 : 0 ≤ k) (hB : k + ((szSum M.Store.cnt xs : Nat) : Int) ≤ KB) : ∃ ys, m_laws_markStoreS xs k = some (ys, k + ((szSum M.Store.cnt xs : Nat) : Int)) ∧ m_laws_heldStoreS ys k = some (k + ((szSum M.Store.cnt xs : Nat) : Int)) ∧ ys.length = xs.length := by
  have hm := le_max hx.1
  obtain ⟨ys, h1, h2, h3⟩ := markHeld (ML := m_laws_markStoreS_L1) (HL := m_laws_heldStoreS_L1) (c := M.Store.cnt) (ok := M.Store.ok) (fun x hx k h0 hB => M.Store.mstep x hx k h0 hB) (fun n k l => by simp only [m_laws_markStoreS_L1]; rw [if_neg (by rw [nlt_nat]; simp)]) (fun n k l => by simp only [m_laws_heldStoreS_L1]; rw [if_neg (by rw [nlt_nat]; simp)]) xs [] fuel k (by simpa using hx.1) (by unfold fuel; omega) hx.2 h0 hB
  refine ⟨ys, by unfold m_laws_markStoreS; simpa using h2, by unfold m_laws_heldStoreS; simpa using h3 fuel (by unfold fuel; omega), h1⟩
def M.IndexDef.cnt (x : M.IndexDef) : Nat := 2
set_option maxHeartbeats 4000000 in
theorem M.IndexDef.mstep (x : M.IndexDef) (hx : M.IndexDef.ok x) (k : Int) (h0 : 0 ≤ k) (hB : k + ((M.IndexDef.cnt x : Nat) : Int) ≤ KB) : ∃ x' : M.IndexDef, (∀ n (pre post : List M.IndexDef), (pre ++ x :: post).length ≤ maxLen → m_laws_markIndexDefS_L1 (n + 1) k pre.length (pre ++ x :: post) = m_laws_markIndexDefS_L1 n (k + ((M.IndexDef.cnt x : Nat) : Int)) ((pre.length + 1 : Nat) : Int) (pre ++ x' :: post)) ∧ ∀ n (l : List M.IndexDef) (i : Nat), l[i]? = some x' → l.length ≤ maxLen → m_laws_heldIndexDefS_L1 l (n + 1) k i = m_laws_heldIndexDefS_L1 l n (k + ((M.IndexDef.cnt x : Nat) : Int)) ((i + 1 : Nat) : Int) := by
  unfold KB at hB; unfold M.IndexDef.cnt at hB ⊢
  have A : (0 ≤ k ∧ k ≤ KB) ∧ (0 ≤ k + 1 ∧ k + 1 ≤ KB) ∧ (0 ≤ k + 1 + 1 ∧ k + 1 + 1 ≤ KB) := by
    unfold KB
    refine ⟨?_, ?_, ?_⟩ <;> omega
  have hE : k + 1 + 1 = k + ((M.IndexDef.cnt x : Nat) : Int) := by unfold M.IndexDef.cnt; omega
  unfold M.IndexDef.cnt at hE
  obtain ⟨q0, q1, q2⟩ := A
  have t0 : m_laws_markText (k) = some (mtx (k)) := mt q0.1 (Int.lt_of_add_one_le q1.2)
  have w0 := wk2 q0
  have t1 : m_laws_markText (k + 1) = some (mtx (k + 1)) := mt q1.1 (Int.lt_of_add_one_le q2.2)
  have w1 := wk2 q1
  refine ⟨⟨(mtx (k)), (mtx (k + 1))⟩, fun n pre post hl => ?_, fun n l i hi hl => ?_⟩
  · have hl' := le_max hl
    have hp : pre.length < 9223372036854775807 := by simp at hl'; omega
    simp only [m_laws_markIndexDefS_L1]
    rw [if_pos (lt_mid pre post x)]
    simp (maxSteps := 2000000) only [idx_mid, set_mid, Option.bind_some, wrapn hp, t0, w0, t1, w1]
    rw [hE]
  · have hl' := le_max hl
    have hp : i < 9223372036854775807 := by have := (List.getElem?_eq_some_iff.1 hi).1; omega
    simp only [m_laws_heldIndexDefS_L1]
    rw [if_pos (lt_at hi)]
    simp (maxSteps := 2000000) only [idx_at hi, Option.bind_some, wrapn hp, t0, w0, t1, w1, bne_self_eq_false, beq_self_eq_true, Bool.not_true, Bool.false_eq_true, if_false]
    rw [hE]
theorem M.IndexDefS.p_mark (xs : List M.IndexDef) (hx : (xs.length ≤ maxLen ∧ ∀ y ∈ xs, M.IndexDef.ok y)) (k : Int) (h0 : 0 ≤ k) (hB : k + ((szSum M.IndexDef.cnt xs : Nat) : Int) ≤ KB) : ∃ ys, m_laws_markIndexDefS xs k = some (ys, k + ((szSum M.IndexDef.cnt xs : Nat) : Int)) ∧ m_laws_heldIndexDefS ys k = some (k + ((szSum M.IndexDef.cnt xs : Nat) : Int)) ∧ ys.length = xs.length := by
  have hm := le_max hx.1
  obtain ⟨ys, h1, h2, h3⟩ := markHeld (ML := m_laws_markIndexDefS_L1) (HL := m_laws_heldIndexDefS_L1) (c := M.IndexDef.cnt) (ok := M.IndexDef.ok) (fun x hx k h0 hB => M.IndexDef.mstep x hx k h0 hB) (fun n k l => by simp only [m_laws_markIndexDefS_L1]; rw [if_neg (by rw [nlt_nat]; simp)]) (fun n k l => by simp only [m_laws_heldIndexDefS_L1]; rw [if_neg (by rw [nlt_nat]; simp)]) xs [] fuel k (by simpa using hx.1) (by unfold fuel; omega) hx.2 h0 hB
  refine ⟨ys, by unfold m_laws_markIndexDefS; simpa using h2, by unfold m_laws_heldIndexDefS; simpa using h3 fuel (by unfold fuel; omega), h1⟩
set_option maxHeartbeats 4000000 in
theorem M.ByteS.mstep (x : Int) (hx : True) (k : Int) (h0 : 0 ≤ k) (hB : k + (((fun _ : Int => 1) x : Nat) : Int) ≤ KB) : ∃ x' : Int, (∀ n (pre post : List Int), (pre ++ x :: post).length ≤ maxLen → m_laws_markByteS_L1 (n + 1) k pre.length (pre ++ x :: post) = m_laws_markByteS_L1 n (k + (((fun _ : Int => 1) x : Nat) : Int)) ((pre.length + 1 : Nat) : Int) (pre ++ x' :: post)) ∧ ∀ n (l : List Int) (i : Nat), l[i]? = some x' → l.length ≤ maxLen → m_laws_heldByteS_L1 l (n + 1) k i = m_laws_heldByteS_L1 l n (k + (((fun _ : Int => 1) x : Nat) : Int)) ((i + 1 : Nat) : Int) := by
  unfold KB at hB; (try simp only [] at hB ⊢)
  have A : (0 ≤ k ∧ k ≤ KB) ∧ (0 ≤ k + 1 ∧ k + 1 ≤ KB) := by
    unfold KB
    refine ⟨?_, ?_⟩ <;> omega
  have hE : k + 1 = k + (((fun _ : Int => 1) x : Nat) : Int) := by simp
  obtain ⟨q0, q1⟩ := A
  have w0 := wk2 q0
  refine ⟨(IntKind.u8.wrap k), fun n pre post hl => ?_, fun n l i hi hl => ?_⟩
  · have hl' := le_max hl
    have hp : pre.length < 9223372036854775807 := by simp at hl'; omega
    simp only [m_laws_markByteS_L1]
    rw [if_pos (lt_mid pre post x)]
    simp (maxSteps := 2000000) only [idx_mid, set_mid, Option.bind_some, wrapn hp, w0]
    rw [hE]
  · have hl' := le_max hl
    have hp : i < 9223372036854775807 := by have := (List.getElem?_eq_some_iff.1 hi).1; omega
    simp only [m_laws_heldByteS_L1]
    rw [if_pos (lt_at hi)]
    simp (maxSteps := 2000000) only [idx_at hi, Option.bind_some, wrapn hp, w0, bne_self_eq_false, beq_self_eq_true, Bool.not_true, Bool.false_eq_true, if_false]
    rw [hE]
theorem M.ByteS.cl (xs : List Int) : szSum (fun _ : Int => 1) xs = xs.length := by
  induction xs with
  | nil => rfl
  | cons x xs ih => simp only [szSum, ih, List.length_cons]; omega
theorem M.ByteS.p_mark (xs : List Int) (hx : okB xs) (k : Int) (h0 : 0 ≤ k) (hB : k + ((xs.length : Nat) : Int) ≤ KB) : ∃ ys, m_laws_markByteS xs k = some (ys, k + ((xs.length : Nat) : Int)) ∧ m_laws_heldByteS ys k = some (k + ((xs.length : Nat) : Int)) ∧ ys.length = xs.length := by
  have hm := le_max hx.1
  rw [← M.ByteS.cl xs] at hB ⊢
  obtain ⟨ys, h1, h2, h3⟩ := markHeld (ML := m_laws_markByteS_L1) (HL := m_laws_heldByteS_L1) (c := (fun _ : Int => 1)) (ok := (fun _ : Int => True)) (fun x hx k h0 hB => M.ByteS.mstep x hx k h0 hB) (fun n k l => by simp only [m_laws_markByteS_L1]; rw [if_neg (by rw [nlt_nat]; simp)]) (fun n k l => by simp only [m_laws_heldByteS_L1]; rw [if_neg (by rw [nlt_nat]; simp)]) xs [] fuel k (by simpa using hx.1) (by unfold fuel; omega) (fun _ _ => trivial) h0 hB
  refine ⟨ys, by unfold m_laws_markByteS; simpa using h2, by unfold m_laws_heldByteS; simpa using h3 fuel (by unfold fuel; omega), by have := M.ByteS.cl xs; omega⟩
def M.Disk.cnts (x : M.Disk) : Nat := (szSum M.Store.cnt x.Base.Stores) + (szSum M.IndexDef.cnt x.Base.Unique) + (x.Log.length)
theorem M.Disk.p_mark (x : M.Disk) (hx : M.Disk.ok x) (k : Int) (h0 : 0 ≤ k) (hB : k + ((M.Disk.cnts x : Nat) : Int) ≤ KB) : ∃ y1 y2 y3, m_laws_markDisk x k = some (y1, y2, y3, k + ((M.Disk.cnts x : Nat) : Int)) ∧ m_laws_heldDisk (⟨⟨x.Base.Name, x.Base.Version, y1, y2⟩, y3, x.Count⟩ : M.Disk) k = some (k + ((M.Disk.cnts x : Nat) : Int)) := by
  unfold KB at hB; unfold M.Disk.cnts at hB ⊢
  obtain ⟨y1, a1, b1, _⟩ := M.StoreS.p_mark _ hx.Base.Stores (k) (by omega) (by unfold KB; omega)
  obtain ⟨y2, a2, b2, _⟩ := M.IndexDefS.p_mark _ hx.Base.Unique (k + ((szSum M.Store.cnt x.Base.Stores : Nat) : Int)) (by omega) (by unfold KB; omega)
  obtain ⟨y3, a3, b3, _⟩ := M.ByteS.p_mark _ hx.Log (k + ((szSum M.Store.cnt x.Base.Stores : Nat) : Int) + ((szSum M.IndexDef.cnt x.Base.Unique : Nat) : Int)) (by omega) (by unfold KB; omega)
  refine ⟨y1, y2, y3, ?_, ?_⟩
  · unfold m_laws_markDisk
    simp only [m_laws_markDatabase, a1, a2, a3, Option.bind_some]
    try (simp only [Option.some.injEq, Prod.mk.injEq, true_and]; omega)
  · unfold m_laws_heldDisk
    simp (disch := (first | omega | (unfold KB; omega))) only [m_laws_heldDatabase, b1, b2, b3, Option.bind_some, dk, Bool.false_eq_true, if_false]
    try (simp only [Option.some.injEq]; omega)
def M.Cached.cnt (x : M.Cached) : Nat := 6 + (x.Response.Body.length)
set_option maxHeartbeats 4000000 in
theorem M.Cached.mstep (x : M.Cached) (hx : M.Cached.ok x) (k : Int) (h0 : 0 ≤ k) (hB : k + ((M.Cached.cnt x : Nat) : Int) ≤ KB) : ∃ x' : M.Cached, (∀ n (pre post : List M.Cached), (pre ++ x :: post).length ≤ maxLen → m_laws_markCachedS_L1 (n + 1) k pre.length (pre ++ x :: post) = m_laws_markCachedS_L1 n (k + ((M.Cached.cnt x : Nat) : Int)) ((pre.length + 1 : Nat) : Int) (pre ++ x' :: post)) ∧ ∀ n (l : List M.Cached) (i : Nat), l[i]? = some x' → l.length ≤ maxLen → m_laws_heldCachedS_L1 l (n + 1) k i = m_laws_heldCachedS_L1 l n (k + ((M.Cached.cnt x : Nat) : Int)) ((i + 1 : Nat) : Int) := by
  unfold KB at hB; unfold M.Cached.cnt at hB ⊢
  have A : (0 ≤ k ∧ k ≤ KB) ∧ (0 ≤ k + 1 ∧ k + 1 ≤ KB) ∧ (0 ≤ k + 1 + 1 ∧ k + 1 + 1 ≤ KB) ∧ (0 ≤ k + 1 + 1 + 1 ∧ k + 1 + 1 + 1 ≤ KB) ∧ (0 ≤ k + 1 + 1 + 1 + 1 ∧ k + 1 + 1 + 1 + 1 ≤ KB) ∧ (0 ≤ k + 1 + 1 + 1 + 1 + 1 ∧ k + 1 + 1 + 1 + 1 + 1 ≤ KB) ∧ (0 ≤ k + 1 + 1 + 1 + 1 + 1 + ((x.Response.Body.length : Nat) : Int) ∧ k + 1 + 1 + 1 + 1 + 1 + ((x.Response.Body.length : Nat) : Int) ≤ KB) ∧ (0 ≤ k + 1 + 1 + 1 + 1 + 1 + ((x.Response.Body.length : Nat) : Int) + 1 ∧ k + 1 + 1 + 1 + 1 + 1 + ((x.Response.Body.length : Nat) : Int) + 1 ≤ KB) := by
    unfold KB
    refine ⟨?_, ?_, ?_, ?_, ?_, ?_, ?_, ?_⟩ <;> omega
  have hE : k + 1 + 1 + 1 + 1 + 1 + ((x.Response.Body.length : Nat) : Int) + 1 = k + ((M.Cached.cnt x : Nat) : Int) := by unfold M.Cached.cnt; omega
  unfold M.Cached.cnt at hE
  obtain ⟨q0, q1, q2, q3, q4, q5, q6, q7⟩ := A
  have t0 : m_laws_markText (k) = some (mtx (k)) := mt q0.1 (Int.lt_of_add_one_le q1.2)
  have w0 := wk2 q0
  have t1 : m_laws_markText (k + 1) = some (mtx (k + 1)) := mt q1.1 (Int.lt_of_add_one_le q2.2)
  have w1 := wk2 q1
  have w2 := wk2 q2
  have w3 := wk2 q3
  have w4 := wk2 q4
  obtain ⟨y1, a1, b1, _⟩ := M.ByteS.p_mark _ hx.Response.Body (k + 1 + 1 + 1 + 1 + 1) q5.1 q6.2
  have d1 : (decide (k + 1 + 1 + 1 + 1 + 1 + ((x.Response.Body.length : Nat) : Int) < 0)) = false := dk q6.1
  have w6 := wk2 q6
  refine ⟨⟨(mtx (k)), (mtx (k + 1)), ⟨k + 1 + 1, k + 1 + 1 + 1, k + 1 + 1 + 1 + 1, y1, ((Int.tmod (k + 1 + 1 + 1 + 1 + 1 + ((x.Response.Body.length : Nat) : Int)) 3) == 0)⟩⟩, fun n pre post hl => ?_, fun n l i hi hl => ?_⟩
  · have hl' := le_max hl
    have hp : pre.length < 9223372036854775807 := by simp at hl'; omega
    simp only [m_laws_markCachedS_L1]
    rw [if_pos (lt_mid pre post x)]
    simp (maxSteps := 2000000) only [idx_mid, set_mid, Option.bind_some, wrapn hp, t0, w0, t1, w1, w2, w3, w4, a1, w6]
    rw [hE]
  · have hl' := le_max hl
    have hp : i < 9223372036854775807 := by have := (List.getElem?_eq_some_iff.1 hi).1; omega
    simp only [m_laws_heldCachedS_L1]
    rw [if_pos (lt_at hi)]
    simp (maxSteps := 2000000) only [idx_at hi, Option.bind_some, wrapn hp, t0, w0, t1, w1, w2, w3, w4, b1, d1, w6, bne_self_eq_false, beq_self_eq_true, Bool.not_true, Bool.false_eq_true, if_false]
    rw [hE]
theorem M.CachedS.p_mark (xs : List M.Cached) (hx : (xs.length ≤ maxLen ∧ ∀ y ∈ xs, M.Cached.ok y)) (k : Int) (h0 : 0 ≤ k) (hB : k + ((szSum M.Cached.cnt xs : Nat) : Int) ≤ KB) : ∃ ys, m_laws_markCachedS xs k = some (ys, k + ((szSum M.Cached.cnt xs : Nat) : Int)) ∧ m_laws_heldCachedS ys k = some (k + ((szSum M.Cached.cnt xs : Nat) : Int)) ∧ ys.length = xs.length := by
  have hm := le_max hx.1
  obtain ⟨ys, h1, h2, h3⟩ := markHeld (ML := m_laws_markCachedS_L1) (HL := m_laws_heldCachedS_L1) (c := M.Cached.cnt) (ok := M.Cached.ok) (fun x hx k h0 hB => M.Cached.mstep x hx k h0 hB) (fun n k l => by simp only [m_laws_markCachedS_L1]; rw [if_neg (by rw [nlt_nat]; simp)]) (fun n k l => by simp only [m_laws_heldCachedS_L1]; rw [if_neg (by rw [nlt_nat]; simp)]) xs [] fuel k (by simpa using hx.1) (by unfold fuel; omega) hx.2 h0 hB
  refine ⟨ys, by unfold m_laws_markCachedS; simpa using h2, by unfold m_laws_heldCachedS; simpa using h3 fuel (by unfold fuel; omega), h1⟩
def M.Cache.cnt (x : M.Cache) : Nat := 1 + (szSum M.Cached.cnt x.Entries)
set_option maxHeartbeats 4000000 in
theorem M.Cache.mstep (x : M.Cache) (hx : M.Cache.ok x) (k : Int) (h0 : 0 ≤ k) (hB : k + ((M.Cache.cnt x : Nat) : Int) ≤ KB) : ∃ x' : M.Cache, (∀ n (pre post : List M.Cache), (pre ++ x :: post).length ≤ maxLen → m_laws_markCacheS_L1 (n + 1) k pre.length (pre ++ x :: post) = m_laws_markCacheS_L1 n (k + ((M.Cache.cnt x : Nat) : Int)) ((pre.length + 1 : Nat) : Int) (pre ++ x' :: post)) ∧ ∀ n (l : List M.Cache) (i : Nat), l[i]? = some x' → l.length ≤ maxLen → m_laws_heldCacheS_L1 l (n + 1) k i = m_laws_heldCacheS_L1 l n (k + ((M.Cache.cnt x : Nat) : Int)) ((i + 1 : Nat) : Int) := by
  unfold KB at hB; unfold M.Cache.cnt at hB ⊢
  have A : (0 ≤ k ∧ k ≤ KB) ∧ (0 ≤ k + 1 ∧ k + 1 ≤ KB) ∧ (0 ≤ k + 1 + ((szSum M.Cached.cnt x.Entries : Nat) : Int) ∧ k + 1 + ((szSum M.Cached.cnt x.Entries : Nat) : Int) ≤ KB) := by
    unfold KB
    refine ⟨?_, ?_, ?_⟩ <;> omega
  have hE : k + 1 + ((szSum M.Cached.cnt x.Entries : Nat) : Int) = k + ((M.Cache.cnt x : Nat) : Int) := by unfold M.Cache.cnt; omega
  unfold M.Cache.cnt at hE
  obtain ⟨q0, q1, q2⟩ := A
  have w0 := wk2 q0
  obtain ⟨y1, a1, b1, _⟩ := M.CachedS.p_mark _ hx.Entries (k + 1) q1.1 q2.2
  have d1 : (decide (k + 1 + ((szSum M.Cached.cnt x.Entries : Nat) : Int) < 0)) = false := dk q2.1
  refine ⟨⟨k, y1⟩, fun n pre post hl => ?_, fun n l i hi hl => ?_⟩
  · have hl' := le_max hl
    have hp : pre.length < 9223372036854775807 := by simp at hl'; omega
    simp only [m_laws_markCacheS_L1]
    rw [if_pos (lt_mid pre post x)]
    simp (maxSteps := 2000000) only [idx_mid, set_mid, Option.bind_some, wrapn hp, w0, a1]
    rw [hE]
  · have hl' := le_max hl
    have hp : i < 9223372036854775807 := by have := (List.getElem?_eq_some_iff.1 hi).1; omega
    simp only [m_laws_heldCacheS_L1]
    rw [if_pos (lt_at hi)]
    simp (maxSteps := 2000000) only [idx_at hi, Option.bind_some, wrapn hp, w0, b1, d1, bne_self_eq_false, beq_self_eq_true, Bool.not_true, Bool.false_eq_true, if_false]
    rw [hE]
theorem M.CacheS.p_mark (xs : List M.Cache) (hx : (xs.length ≤ maxLen ∧ ∀ y ∈ xs, M.Cache.ok y)) (k : Int) (h0 : 0 ≤ k) (hB : k + ((szSum M.Cache.cnt xs : Nat) : Int) ≤ KB) : ∃ ys, m_laws_markCacheS xs k = some (ys, k + ((szSum M.Cache.cnt xs : Nat) : Int)) ∧ m_laws_heldCacheS ys k = some (k + ((szSum M.Cache.cnt xs : Nat) : Int)) ∧ ys.length = xs.length := by
  have hm := le_max hx.1
  obtain ⟨ys, h1, h2, h3⟩ := markHeld (ML := m_laws_markCacheS_L1) (HL := m_laws_heldCacheS_L1) (c := M.Cache.cnt) (ok := M.Cache.ok) (fun x hx k h0 hB => M.Cache.mstep x hx k h0 hB) (fun n k l => by simp only [m_laws_markCacheS_L1]; rw [if_neg (by rw [nlt_nat]; simp)]) (fun n k l => by simp only [m_laws_heldCacheS_L1]; rw [if_neg (by rw [nlt_nat]; simp)]) xs [] fuel k (by simpa using hx.1) (by unfold fuel; omega) hx.2 h0 hB
  refine ⟨ys, by unfold m_laws_markCacheS; simpa using h2, by unfold m_laws_heldCacheS; simpa using h3 fuel (by unfold fuel; omega), h1⟩
def M.Write.cnt (x : M.Write) : Nat := 7
set_option maxHeartbeats 4000000 in
theorem M.Write.mstep (x : M.Write) (hx : M.Write.ok x) (k : Int) (h0 : 0 ≤ k) (hB : k + ((M.Write.cnt x : Nat) : Int) ≤ KB) : ∃ x' : M.Write, (∀ n (pre post : List M.Write), (pre ++ x :: post).length ≤ maxLen → m_laws_markWriteS_L1 (n + 1) k pre.length (pre ++ x :: post) = m_laws_markWriteS_L1 n (k + ((M.Write.cnt x : Nat) : Int)) ((pre.length + 1 : Nat) : Int) (pre ++ x' :: post)) ∧ ∀ n (l : List M.Write) (i : Nat), l[i]? = some x' → l.length ≤ maxLen → m_laws_heldWriteS_L1 l (n + 1) k i = m_laws_heldWriteS_L1 l n (k + ((M.Write.cnt x : Nat) : Int)) ((i + 1 : Nat) : Int) := by
  unfold KB at hB; unfold M.Write.cnt at hB ⊢
  have A : (0 ≤ k ∧ k ≤ KB) ∧ (0 ≤ k + 1 ∧ k + 1 ≤ KB) ∧ (0 ≤ k + 1 + 1 ∧ k + 1 + 1 ≤ KB) ∧ (0 ≤ k + 1 + 1 + 1 ∧ k + 1 + 1 + 1 ≤ KB) ∧ (0 ≤ k + 1 + 1 + 1 + 1 ∧ k + 1 + 1 + 1 + 1 ≤ KB) ∧ (0 ≤ k + 1 + 1 + 1 + 1 + 1 ∧ k + 1 + 1 + 1 + 1 + 1 ≤ KB) ∧ (0 ≤ k + 1 + 1 + 1 + 1 + 1 + 1 ∧ k + 1 + 1 + 1 + 1 + 1 + 1 ≤ KB) ∧ (0 ≤ k + 1 + 1 + 1 + 1 + 1 + 1 + 1 ∧ k + 1 + 1 + 1 + 1 + 1 + 1 + 1 ≤ KB) := by
    unfold KB
    refine ⟨?_, ?_, ?_, ?_, ?_, ?_, ?_, ?_⟩ <;> omega
  have hE : k + 1 + 1 + 1 + 1 + 1 + 1 + 1 = k + ((M.Write.cnt x : Nat) : Int) := by unfold M.Write.cnt; omega
  unfold M.Write.cnt at hE
  obtain ⟨q0, q1, q2, q3, q4, q5, q6, q7⟩ := A
  have w0 := wk2 q0
  have w1 := wk2 q1
  have w2 := wk2 q2
  have w3 := wk2 q3
  have t4 : m_laws_markText (k + 1 + 1 + 1 + 1) = some (mtx (k + 1 + 1 + 1 + 1)) := mt q4.1 (Int.lt_of_add_one_le q5.2)
  have w4 := wk2 q4
  have t5 : m_laws_markText (k + 1 + 1 + 1 + 1 + 1) = some (mtx (k + 1 + 1 + 1 + 1 + 1)) := mt q5.1 (Int.lt_of_add_one_le q6.2)
  have w5 := wk2 q5
  have w6 := wk2 q6
  refine ⟨⟨k, k + 1, ⟨k + 1 + 1, k + 1 + 1 + 1, (mtx (k + 1 + 1 + 1 + 1))⟩, (mtx (k + 1 + 1 + 1 + 1 + 1)), k + 1 + 1 + 1 + 1 + 1 + 1⟩, fun n pre post hl => ?_, fun n l i hi hl => ?_⟩
  · have hl' := le_max hl
    have hp : pre.length < 9223372036854775807 := by simp at hl'; omega
    simp only [m_laws_markWriteS_L1]
    rw [if_pos (lt_mid pre post x)]
    simp (maxSteps := 2000000) only [idx_mid, set_mid, Option.bind_some, wrapn hp, w0, w1, w2, w3, t4, w4, t5, w5, w6]
    rw [hE]
  · have hl' := le_max hl
    have hp : i < 9223372036854775807 := by have := (List.getElem?_eq_some_iff.1 hi).1; omega
    simp only [m_laws_heldWriteS_L1]
    rw [if_pos (lt_at hi)]
    simp (maxSteps := 2000000) only [idx_at hi, Option.bind_some, wrapn hp, w0, w1, w2, w3, t4, w4, t5, w5, w6, bne_self_eq_false, beq_self_eq_true, Bool.not_true, Bool.false_eq_true, if_false]
    rw [hE]
theorem M.WriteS.p_mark (xs : List M.Write) (hx : (xs.length ≤ maxLen ∧ ∀ y ∈ xs, M.Write.ok y)) (k : Int) (h0 : 0 ≤ k) (hB : k + ((szSum M.Write.cnt xs : Nat) : Int) ≤ KB) : ∃ ys, m_laws_markWriteS xs k = some (ys, k + ((szSum M.Write.cnt xs : Nat) : Int)) ∧ m_laws_heldWriteS ys k = some (k + ((szSum M.Write.cnt xs : Nat) : Int)) ∧ ys.length = xs.length := by
  have hm := le_max hx.1
  obtain ⟨ys, h1, h2, h3⟩ := markHeld (ML := m_laws_markWriteS_L1) (HL := m_laws_heldWriteS_L1) (c := M.Write.cnt) (ok := M.Write.ok) (fun x hx k h0 hB => M.Write.mstep x hx k h0 hB) (fun n k l => by simp only [m_laws_markWriteS_L1]; rw [if_neg (by rw [nlt_nat]; simp)]) (fun n k l => by simp only [m_laws_heldWriteS_L1]; rw [if_neg (by rw [nlt_nat]; simp)]) xs [] fuel k (by simpa using hx.1) (by unfold fuel; omega) hx.2 h0 hB
  refine ⟨ys, by unfold m_laws_markWriteS; simpa using h2, by unfold m_laws_heldWriteS; simpa using h3 fuel (by unfold fuel; omega), h1⟩
def M.Bucket.cnts (x : M.Bucket) : Nat := (szSum M.Cache.cnt x.Caches.Caches) + (szSum M.Store.cnt x.Disk.Base.Stores) + (szSum M.IndexDef.cnt x.Disk.Base.Unique) + (x.Disk.Log.length) + (szSum M.Item.cnt x.Replica.Base.Items) + (szSum M.Write.cnt x.Replica.Sync.Outbox.Writes)
theorem M.Bucket.p_mark (x : M.Bucket) (hx : M.Bucket.ok x) (k : Int) (h0 : 0 ≤ k) (hB : k + ((M.Bucket.cnts x : Nat) : Int) ≤ KB) : ∃ y1 y2 y3 y4 y5 y6, m_laws_markBucket x k = some (y1, y2, y3, y4, y5, y6, k + ((M.Bucket.cnts x : Nat) : Int)) ∧ m_laws_heldBucket (⟨x.Site, x.Top, ⟨x.Registration.Site, x.Registration.Installing, x.Registration.Waiting, x.Registration.Active⟩, ⟨y1⟩, ⟨⟨x.Disk.Base.Name, x.Disk.Base.Version, y2, y3⟩, y4, x.Disk.Count⟩, ⟨⟨x.Replica.Base.Name, y5, x.Replica.Base.Auto⟩, x.Replica.Seen, ⟨⟨x.Replica.Sync.Outbox.Device, x.Replica.Sync.Outbox.Next, y6⟩, x.Replica.Sync.Tries, x.Replica.Sync.WaitUntil⟩⟩, x.LastUsed, x.Persistent⟩ : M.Bucket) k = some (k + ((M.Bucket.cnts x : Nat) : Int)) := by
  unfold KB at hB; unfold M.Bucket.cnts at hB ⊢
  obtain ⟨y1, a1, b1, _⟩ := M.CacheS.p_mark _ hx.Caches.Caches (k) (by omega) (by unfold KB; omega)
  obtain ⟨y2, a2, b2, _⟩ := M.StoreS.p_mark _ hx.Disk.Base.Stores (k + ((szSum M.Cache.cnt x.Caches.Caches : Nat) : Int)) (by omega) (by unfold KB; omega)
  obtain ⟨y3, a3, b3, _⟩ := M.IndexDefS.p_mark _ hx.Disk.Base.Unique (k + ((szSum M.Cache.cnt x.Caches.Caches : Nat) : Int) + ((szSum M.Store.cnt x.Disk.Base.Stores : Nat) : Int)) (by omega) (by unfold KB; omega)
  obtain ⟨y4, a4, b4, _⟩ := M.ByteS.p_mark _ hx.Disk.Log (k + ((szSum M.Cache.cnt x.Caches.Caches : Nat) : Int) + ((szSum M.Store.cnt x.Disk.Base.Stores : Nat) : Int) + ((szSum M.IndexDef.cnt x.Disk.Base.Unique : Nat) : Int)) (by omega) (by unfold KB; omega)
  obtain ⟨y5, a5, b5, _⟩ := M.ItemS.p_mark _ hx.Replica.Base.Items (k + ((szSum M.Cache.cnt x.Caches.Caches : Nat) : Int) + ((szSum M.Store.cnt x.Disk.Base.Stores : Nat) : Int) + ((szSum M.IndexDef.cnt x.Disk.Base.Unique : Nat) : Int) + ((x.Disk.Log.length : Nat) : Int)) (by omega) (by unfold KB; omega)
  obtain ⟨y6, a6, b6, _⟩ := M.WriteS.p_mark _ hx.Replica.Sync.Outbox.Writes (k + ((szSum M.Cache.cnt x.Caches.Caches : Nat) : Int) + ((szSum M.Store.cnt x.Disk.Base.Stores : Nat) : Int) + ((szSum M.IndexDef.cnt x.Disk.Base.Unique : Nat) : Int) + ((x.Disk.Log.length : Nat) : Int) + ((szSum M.Item.cnt x.Replica.Base.Items : Nat) : Int)) (by omega) (by unfold KB; omega)
  refine ⟨y1, y2, y3, y4, y5, y6, ?_, ?_⟩
  · unfold m_laws_markBucket
    simp only [m_laws_markCacheSet, m_laws_markDisk, m_laws_markDatabase, m_laws_markReplica, m_laws_markStore, m_laws_markSync, m_laws_markOutbox, a1, a2, a3, a4, a5, a6, Option.bind_some]
    try (simp only [Option.some.injEq, Prod.mk.injEq, true_and]; omega)
  · unfold m_laws_heldBucket
    simp (disch := (first | omega | (unfold KB; omega))) only [m_laws_heldCacheSet, m_laws_heldDisk, m_laws_heldDatabase, m_laws_heldReplica, m_laws_heldStore, m_laws_heldSync, m_laws_heldOutbox, b1, b2, b3, b4, b5, b6, Option.bind_some, dk, Bool.false_eq_true, if_false]
    try (simp only [Option.some.injEq]; omega)
def M.Replica.cnts (x : M.Replica) : Nat := (szSum M.Item.cnt x.Base.Items) + (szSum M.Write.cnt x.Sync.Outbox.Writes)
theorem M.Replica.p_mark (x : M.Replica) (hx : M.Replica.ok x) (k : Int) (h0 : 0 ≤ k) (hB : k + ((M.Replica.cnts x : Nat) : Int) ≤ KB) : ∃ y1 y2, m_laws_markReplica x k = some (y1, y2, k + ((M.Replica.cnts x : Nat) : Int)) ∧ m_laws_heldReplica (⟨⟨x.Base.Name, y1, x.Base.Auto⟩, x.Seen, ⟨⟨x.Sync.Outbox.Device, x.Sync.Outbox.Next, y2⟩, x.Sync.Tries, x.Sync.WaitUntil⟩⟩ : M.Replica) k = some (k + ((M.Replica.cnts x : Nat) : Int)) := by
  unfold KB at hB; unfold M.Replica.cnts at hB ⊢
  obtain ⟨y1, a1, b1, _⟩ := M.ItemS.p_mark _ hx.Base.Items (k) (by omega) (by unfold KB; omega)
  obtain ⟨y2, a2, b2, _⟩ := M.WriteS.p_mark _ hx.Sync.Outbox.Writes (k + ((szSum M.Item.cnt x.Base.Items : Nat) : Int)) (by omega) (by unfold KB; omega)
  refine ⟨y1, y2, ?_, ?_⟩
  · unfold m_laws_markReplica
    simp only [m_laws_markStore, m_laws_markSync, m_laws_markOutbox, a1, a2, Option.bind_some]
    try (simp only [Option.some.injEq, Prod.mk.injEq, true_and]; omega)
  · unfold m_laws_heldReplica
    simp (disch := (first | omega | (unfold KB; omega))) only [m_laws_heldStore, m_laws_heldSync, m_laws_heldOutbox, b1, b2, Option.bind_some, dk, Bool.false_eq_true, if_false]
    try (simp only [Option.some.injEq]; omega)
def M.CacheSet.cnts (x : M.CacheSet) : Nat := (szSum M.Cache.cnt x.Caches)
theorem M.CacheSet.p_mark (x : M.CacheSet) (hx : M.CacheSet.ok x) (k : Int) (h0 : 0 ≤ k) (hB : k + ((M.CacheSet.cnts x : Nat) : Int) ≤ KB) : ∃ y1, m_laws_markCacheSet x k = some (y1, k + ((M.CacheSet.cnts x : Nat) : Int)) ∧ m_laws_heldCacheSet (⟨y1⟩ : M.CacheSet) k = some (k + ((M.CacheSet.cnts x : Nat) : Int)) := by
  unfold KB at hB; unfold M.CacheSet.cnts at hB ⊢
  obtain ⟨y1, a1, b1, _⟩ := M.CacheS.p_mark _ hx.Caches (k) (by omega) (by unfold KB; omega)
  refine ⟨y1, ?_, ?_⟩
  · unfold m_laws_markCacheSet
    simp only [a1, Option.bind_some]
    try (simp only [Option.some.injEq, Prod.mk.injEq, true_and]; omega)
  · unfold m_laws_heldCacheSet
    simp (disch := (first | omega | (unfold KB; omega))) only [b1, Option.bind_some, dk, Bool.false_eq_true, if_false]
    try (simp only [Option.some.injEq]; omega)
theorem M.ByteS.cntle (xs : List Int) : xs.length ≤ 40 * (xs.length) := by omega
theorem M.Cached.cntle (x : M.Cached) : M.Cached.cnt x ≤ 40 + 40 * M.Cached.sz x := by
  unfold M.Cached.cnt
  simp only [M.Cached.sz, M.Response.sz]
  have := M.ByteS.cntle x.Response.Body
  omega
theorem M.CachedS.cntle (xs : List M.Cached) : szSum M.Cached.cnt xs ≤ 40 * ((xs.length + szSum M.Cached.sz xs)) := szSum_mul (fun x _ => M.Cached.cntle x)
theorem M.Cache.cntle (x : M.Cache) : M.Cache.cnt x ≤ 40 + 40 * M.Cache.sz x := by
  unfold M.Cache.cnt
  simp only [M.Cache.sz]
  have := M.CachedS.cntle x.Entries
  omega
theorem M.CacheS.cntle (xs : List M.Cache) : szSum M.Cache.cnt xs ≤ 40 * ((xs.length + szSum M.Cache.sz xs)) := szSum_mul (fun x _ => M.Cache.cntle x)
theorem M.Field.cntle (x : M.Field) : M.Field.cnt x ≤ 40 + 40 * M.Field.sz x := by
  unfold M.Field.cnt
  simp only [M.Field.sz]
  omega
theorem M.FieldS.cntle (xs : List M.Field) : szSum M.Field.cnt xs ≤ 40 * ((xs.length + szSum M.Field.sz xs)) := szSum_mul (fun x _ => M.Field.cntle x)
theorem M.Item.cntle (x : M.Item) : M.Item.cnt x ≤ 40 + 40 * M.Item.sz x := by
  unfold M.Item.cnt
  simp only [M.Item.sz, M.Key.sz, M.Record.sz]
  have := M.FieldS.cntle x.Record.Fields
  omega
theorem M.ItemS.cntle (xs : List M.Item) : szSum M.Item.cnt xs ≤ 40 * ((xs.length + szSum M.Item.sz xs)) := szSum_mul (fun x _ => M.Item.cntle x)
theorem M.Store.cntle (x : M.Store) : M.Store.cnt x ≤ 40 + 40 * M.Store.sz x := by
  unfold M.Store.cnt
  simp only [M.Store.sz]
  have := M.ItemS.cntle x.Items
  omega
theorem M.StoreS.cntle (xs : List M.Store) : szSum M.Store.cnt xs ≤ 40 * ((xs.length + szSum M.Store.sz xs)) := szSum_mul (fun x _ => M.Store.cntle x)
theorem M.IndexDef.cntle (x : M.IndexDef) : M.IndexDef.cnt x ≤ 40 + 40 * M.IndexDef.sz x := by
  unfold M.IndexDef.cnt
  simp only [M.IndexDef.sz]
  omega
theorem M.IndexDefS.cntle (xs : List M.IndexDef) : szSum M.IndexDef.cnt xs ≤ 40 * ((xs.length + szSum M.IndexDef.sz xs)) := szSum_mul (fun x _ => M.IndexDef.cntle x)
theorem M.Write.cntle (x : M.Write) : M.Write.cnt x ≤ 40 + 40 * M.Write.sz x := by
  unfold M.Write.cnt
  simp only [M.Write.sz, M.Key.sz]
  omega
theorem M.WriteS.cntle (xs : List M.Write) : szSum M.Write.cnt xs ≤ 40 * ((xs.length + szSum M.Write.sz xs)) := szSum_mul (fun x _ => M.Write.cntle x)
theorem M.Bucket.cntsle (x : M.Bucket) : M.Bucket.cnts x ≤ 40 * M.Bucket.sz x := by
  unfold M.Bucket.cnts
  simp only [M.Bucket.sz, M.Registration.sz, M.CacheSet.sz, M.Disk.sz, M.Database.sz, M.Replica.sz, M.Store.sz, M.Sync.sz, M.Outbox.sz]
  have := M.CacheS.cntle x.Caches.Caches
  have := M.StoreS.cntle x.Disk.Base.Stores
  have := M.IndexDefS.cntle x.Disk.Base.Unique
  have := M.ByteS.cntle x.Disk.Log
  have := M.ItemS.cntle x.Replica.Base.Items
  have := M.WriteS.cntle x.Replica.Sync.Outbox.Writes
  omega
theorem M.Disk.cntsle (x : M.Disk) : M.Disk.cnts x ≤ 40 * M.Disk.sz x := by
  unfold M.Disk.cnts
  simp only [M.Disk.sz, M.Database.sz]
  have := M.StoreS.cntle x.Base.Stores
  have := M.IndexDefS.cntle x.Base.Unique
  have := M.ByteS.cntle x.Log
  omega
theorem M.Replica.cntsle (x : M.Replica) : M.Replica.cnts x ≤ 40 * M.Replica.sz x := by
  unfold M.Replica.cnts
  simp only [M.Replica.sz, M.Store.sz, M.Sync.sz, M.Outbox.sz]
  have := M.ItemS.cntle x.Base.Items
  have := M.WriteS.cntle x.Sync.Outbox.Writes
  omega
theorem M.CacheSet.cntsle (x : M.CacheSet) : M.CacheSet.cnts x ≤ 40 * M.CacheSet.sz x := by
  unfold M.CacheSet.cnts
  simp only [M.CacheSet.sz]
  have := M.CacheS.cntle x.Caches
  omega
end Go.Proofs.YtmpbibngijnfeaaGreat.gen
