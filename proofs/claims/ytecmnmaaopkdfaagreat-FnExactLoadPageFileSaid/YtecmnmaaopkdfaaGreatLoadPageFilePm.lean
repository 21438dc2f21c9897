/-
  Helper text. No conditions.
-/
import Derived.Test.YtecmnmaaopkdfaaGreatLoadPageFilePz
namespace Go.Proofs.YtecmnmaaopkdfaaGreat.gen
open Go Go.Sh
set_option linter.unusedVariables false
set_option linter.unusedSimpArgs false
theorem aN0 : ∀ (n : Nat) (v : Int) (b : ByteArray), v.toNat < n → 0 ≤ v → (b.size : Int) + v ≤ KB → ∃ t, kX n v b = some t ∧ t.size ≤ 4611686018427387905
  | 0, v, b, h, _, _ => by omega
  | n + 1, v, b, h, h0, hb => by
    unfold KB at hb
    simp only [kX]
    by_cases hv : v > 0
    · rw [if_pos (by simp; omega)]
      have h1 := Int.tmod_nonneg 10 h0
      have h2 := Int.tmod_lt_of_pos v (show (0 : Int) < 10 by omega)
      have hu := aNf (IntKind.i64.wrap (48 + Int.tmod v 10))
      have hd : Int.tdiv v 10 = v / 10 := Int.tdiv_eq_ediv_of_nonneg h0
      have hs : toStr [IntKind.u8.wrap (IntKind.i64.wrap (48 + Int.tmod v 10))] = some (aCG [IntKind.u8.wrap (IntKind.i64.wrap (48 + Int.tmod v 10))]) := by
        unfold toStr; rw [if_pos (by simp; omega)]
      have hz : (aCG [IntKind.u8.wrap (IntKind.i64.wrap (48 + Int.tmod v 10))]).size = 1 := rfl
      rw [hs, Option.bind_some]
      unfold cat
      rw [if_pos (by rw [hz]; omega), Option.bind_some, hd, eS (by omega) (by omega)]
      refine aN0 n (v / 10) _ (by omega) (by omega) ?_
      rw [ByteArray.size_append, hz]
      unfold KB
      omega
    · rw [if_neg (by simp; omega)]
      have hq : cat (⟨#[109]⟩ : ByteArray) b = some ((⟨#[109]⟩ : ByteArray) ++ b) := by
        unfold cat; rw [if_pos (by show 1 + b.size ≤ _; omega)]
      first | exact ⟨_, by rw [hq, Option.bind_some], by rw [ByteArray.size_append]; show 1 + b.size ≤ _; omega⟩ | exact ⟨_, by rw [hq]; rfl, by rw [ByteArray.size_append]; show 1 + b.size ≤ _; omega⟩
theorem aOb (k : Int) (h0 : 0 ≤ k) (h : k < KB) : ∃ t, aF k = some t := by
  unfold aF
  by_cases hk : k ≤ 0
  · exact ⟨_, by rw [if_pos (by simpa using hk)]⟩
  · rw [if_neg (by simpa using hk)]
    obtain ⟨t, h1, _⟩ := aN0 fuel k ⟨#[]⟩ (by unfold fuel KB at *; omega) h0 (by show ((0 : Nat) : Int) + k ≤ KB; omega)
    exact ⟨t, h1⟩
def mtx (k : Int) : ByteArray := (aF k).getD ⟨#[]⟩
theorem mt {k : Int} (h0 : 0 ≤ k) (h : k < KB) : aF k = some (mtx k) := by
  obtain ⟨t, ht⟩ := aOb k h0 h
  unfold mtx; rw [ht]; rfl
set_option maxHeartbeats 4000000 in
theorem M.aCh.pL (x : Int) (hx : True) (k : Int) (h0 : 0 ≤ k) (hB : k + (((fun _ : Int => 1) x : Nat) : Int) ≤ KB) : ∃ x' : Int, (∀ n (pre post : List Int), (pre ++ x :: post).length ≤ maxLen → dZ (n + 1) k pre.length (pre ++ x :: post) = dZ n (k + (((fun _ : Int => 1) x : Nat) : Int)) ((pre.length + 1 : Nat) : Int) (pre ++ x' :: post)) ∧ ∀ n (l : List Int) (i : Nat), l[i]? = some x' → l.length ≤ maxLen → eW l (n + 1) k i = eW l n (k + (((fun _ : Int => 1) x : Nat) : Int)) ((i + 1 : Nat) : Int) := by
  unfold KB at hB; (try simp only [] at hB ⊢)
  have A : (0 ≤ k ∧ k ≤ KB) ∧ (0 ≤ k + 1 ∧ k + 1 ≤ KB) := by
    unfold KB
    refine ⟨?_, ?_⟩ <;> omega
  have hE : k + 1 = k + (((fun _ : Int => 1) x : Nat) : Int) := by simp
  obtain ⟨q0, q1⟩ := A
  have w0 := wk2 q0
  refine ⟨(IntKind.u8.wrap k), fun n pre post hl => ?_, fun n l i hi hl => ?_⟩
  · have hl' := le_max hl
    have hp : pre.length < 9223372036854775807 := by simp at hl'; omega
    simp only [dZ]
    rw [if_pos (aAl pre post x)]
    simp (maxSteps := 2000000) only [sX, sS, Option.bind_some, bD hp, w0]
    rw [hE]
  · have hl' := le_max hl
    have hp : i < 9223372036854775807 := by have := (List.getElem?_eq_some_iff.1 hi).1; omega
    simp only [eW]
    rw [if_pos (aCg hi)]
    simp (maxSteps := 2000000) only [aAe hi, Option.bind_some, bD hp, w0, bne_self_eq_false, beq_self_eq_true, Bool.not_true, Bool.false_eq_true, if_false]
    rw [hE]
theorem M.aCh.cl (xs : List Int) : aD (fun _ : Int => 1) xs = xs.length := by
  induction xs with
  | nil => rfl
  | cons x xs ih => simp only [aD, ih, List.length_cons]; omega
theorem M.aCh.hD (xs : List Int) (hx : okB xs) (k : Int) (h0 : 0 ≤ k) (hB : k + ((xs.length : Nat) : Int) ≤ KB) : ∃ ys, nN xs k = some (ys, k + ((xs.length : Nat) : Int)) ∧ nK ys k = some (k + ((xs.length : Nat) : Int)) ∧ ys.length = xs.length := by
  have hm := le_max hx.1
  rw [← M.aCh.cl xs] at hB ⊢
  obtain ⟨ys, h1, h2, h3⟩ := lB (ML := dZ) (HL := eW) (c := (fun _ : Int => 1)) (ok := (fun _ : Int => True)) (fun x hx k h0 hB => M.aCh.pL x hx k h0 hB) (fun n k l => by simp only [dZ]; rw [if_neg (by rw [aO]; simp)]) (fun n k l => by simp only [eW]; rw [if_neg (by rw [aO]; simp)]) xs [] fuel k (by simpa using hx.1) (by unfold fuel; omega) (fun _ _ => trivial) h0 hB
  refine ⟨ys, by unfold nN; simpa using h2, by unfold nK; simpa using h3 fuel (by unfold fuel; omega), by have := M.aCh.cl xs; omega⟩
def M.Cached.cnt (x : M.Cached) : Nat := 6 + (x.Response.Body.length)
set_option maxHeartbeats 4000000 in
theorem M.Cached.pL (x : M.Cached) (hx : M.Cached.ok x) (k : Int) (h0 : 0 ≤ k) (hB : k + ((M.Cached.cnt x : Nat) : Int) ≤ KB) : ∃ x' : M.Cached, (∀ n (pre post : List M.Cached), (pre ++ x :: post).length ≤ maxLen → cQ (n + 1) k pre.length (pre ++ x :: post) = cQ n (k + ((M.Cached.cnt x : Nat) : Int)) ((pre.length + 1 : Nat) : Int) (pre ++ x' :: post)) ∧ ∀ n (l : List M.Cached) (i : Nat), l[i]? = some x' → l.length ≤ maxLen → dL l (n + 1) k i = dL l n (k + ((M.Cached.cnt x : Nat) : Int)) ((i + 1 : Nat) : Int) := by
  unfold KB at hB; unfold M.Cached.cnt at hB ⊢
  have A : (0 ≤ k ∧ k ≤ KB) ∧ (0 ≤ k + 1 ∧ k + 1 ≤ KB) ∧ (0 ≤ k + 1 + 1 ∧ k + 1 + 1 ≤ KB) ∧ (0 ≤ k + 1 + 1 + 1 ∧ k + 1 + 1 + 1 ≤ KB) ∧ (0 ≤ k + 1 + 1 + 1 + 1 ∧ k + 1 + 1 + 1 + 1 ≤ KB) ∧ (0 ≤ k + 1 + 1 + 1 + 1 + 1 ∧ k + 1 + 1 + 1 + 1 + 1 ≤ KB) ∧ (0 ≤ k + 1 + 1 + 1 + 1 + 1 + ((x.Response.Body.length : Nat) : Int) ∧ k + 1 + 1 + 1 + 1 + 1 + ((x.Response.Body.length : Nat) : Int) ≤ KB) ∧ (0 ≤ k + 1 + 1 + 1 + 1 + 1 + ((x.Response.Body.length : Nat) : Int) + 1 ∧ k + 1 + 1 + 1 + 1 + 1 + ((x.Response.Body.length : Nat) : Int) + 1 ≤ KB) := by
    unfold KB
    refine ⟨?_, ?_, ?_, ?_, ?_, ?_, ?_, ?_⟩ <;> omega
  have hE : k + 1 + 1 + 1 + 1 + 1 + ((x.Response.Body.length : Nat) : Int) + 1 = k + ((M.Cached.cnt x : Nat) : Int) := by unfold M.Cached.cnt; omega
  unfold M.Cached.cnt at hE
  obtain ⟨q0, q1, q2, q3, q4, q5, q6, q7⟩ := A
  have t0 : aF (k) = some (mtx (k)) := mt q0.1 (Int.lt_of_add_one_le q1.2)
  have w0 := wk2 q0
  have t1 : aF (k + 1) = some (mtx (k + 1)) := mt q1.1 (Int.lt_of_add_one_le q2.2)
  have w1 := wk2 q1
  have w2 := wk2 q2
  have w3 := wk2 q3
  have w4 := wk2 q4
  obtain ⟨y1, a1, b1, _⟩ := M.aCh.hD _ hx.Response.Body (k + 1 + 1 + 1 + 1 + 1) q5.1 q6.2
  have d1 : (decide (k + 1 + 1 + 1 + 1 + 1 + ((x.Response.Body.length : Nat) : Int) < 0)) = false := dk q6.1
  have w6 := wk2 q6
  refine ⟨⟨(mtx (k)), (mtx (k + 1)), ⟨k + 1 + 1, k + 1 + 1 + 1, k + 1 + 1 + 1 + 1, y1, ((Int.tmod (k + 1 + 1 + 1 + 1 + 1 + ((x.Response.Body.length : Nat) : Int)) 3) == 0)⟩⟩, fun n pre post hl => ?_, fun n l i hi hl => ?_⟩
  · have hl' := le_max hl
    have hp : pre.length < 9223372036854775807 := by simp at hl'; omega
    simp only [cQ]
    rw [if_pos (aAl pre post x)]
    simp (maxSteps := 2000000) only [sX, sS, Option.bind_some, bD hp, t0, w0, t1, w1, w2, w3, w4, a1, w6]
    rw [hE]
  · have hl' := le_max hl
    have hp : i < 9223372036854775807 := by have := (List.getElem?_eq_some_iff.1 hi).1; omega
    simp only [dL]
    rw [if_pos (aCg hi)]
    simp (maxSteps := 2000000) only [aAe hi, Option.bind_some, bD hp, t0, w0, t1, w1, w2, w3, w4, b1, d1, w6, bne_self_eq_false, beq_self_eq_true, Bool.not_true, Bool.false_eq_true, if_false]
    rw [hE]
theorem M.aCe.hD (xs : List M.Cached) (hx : (xs.length ≤ maxLen ∧ ∀ y ∈ xs, M.Cached.ok y)) (k : Int) (h0 : 0 ≤ k) (hB : k + ((aD M.Cached.cnt xs : Nat) : Int) ≤ KB) : ∃ ys, oP xs k = some (ys, k + ((aD M.Cached.cnt xs : Nat) : Int)) ∧ oY ys k = some (k + ((aD M.Cached.cnt xs : Nat) : Int)) ∧ ys.length = xs.length := by
  have hm := le_max hx.1
  obtain ⟨ys, h1, h2, h3⟩ := lB (ML := cQ) (HL := dL) (c := M.Cached.cnt) (ok := M.Cached.ok) (fun x hx k h0 hB => M.Cached.pL x hx k h0 hB) (fun n k l => by simp only [cQ]; rw [if_neg (by rw [aO]; simp)]) (fun n k l => by simp only [dL]; rw [if_neg (by rw [aO]; simp)]) xs [] fuel k (by simpa using hx.1) (by unfold fuel; omega) hx.2 h0 hB
  refine ⟨ys, by unfold oP; simpa using h2, by unfold oY; simpa using h3 fuel (by unfold fuel; omega), h1⟩
def M.Cache.cnt (x : M.Cache) : Nat := 1 + (aD M.Cached.cnt x.Entries)
set_option maxHeartbeats 4000000 in
theorem M.Cache.pL (x : M.Cache) (hx : M.Cache.ok x) (k : Int) (h0 : 0 ≤ k) (hB : k + ((M.Cache.cnt x : Nat) : Int) ≤ KB) : ∃ x' : M.Cache, (∀ n (pre post : List M.Cache), (pre ++ x :: post).length ≤ maxLen → dA (n + 1) k pre.length (pre ++ x :: post) = dA n (k + ((M.Cache.cnt x : Nat) : Int)) ((pre.length + 1 : Nat) : Int) (pre ++ x' :: post)) ∧ ∀ n (l : List M.Cache) (i : Nat), l[i]? = some x' → l.length ≤ maxLen → eP l (n + 1) k i = eP l n (k + ((M.Cache.cnt x : Nat) : Int)) ((i + 1 : Nat) : Int) := by
  unfold KB at hB; unfold M.Cache.cnt at hB ⊢
  have A : (0 ≤ k ∧ k ≤ KB) ∧ (0 ≤ k + 1 ∧ k + 1 ≤ KB) ∧ (0 ≤ k + 1 + ((aD M.Cached.cnt x.Entries : Nat) : Int) ∧ k + 1 + ((aD M.Cached.cnt x.Entries : Nat) : Int) ≤ KB) := by
    unfold KB
    refine ⟨?_, ?_, ?_⟩ <;> omega
  have hE : k + 1 + ((aD M.Cached.cnt x.Entries : Nat) : Int) = k + ((M.Cache.cnt x : Nat) : Int) := by unfold M.Cache.cnt; omega
  unfold M.Cache.cnt at hE
  obtain ⟨q0, q1, q2⟩ := A
  have w0 := wk2 q0
  obtain ⟨y1, a1, b1, _⟩ := M.aCe.hD _ hx.Entries (k + 1) q1.1 q2.2
  have d1 : (decide (k + 1 + ((aD M.Cached.cnt x.Entries : Nat) : Int) < 0)) = false := dk q2.1
  refine ⟨⟨k, y1⟩, fun n pre post hl => ?_, fun n l i hi hl => ?_⟩
  · have hl' := le_max hl
    have hp : pre.length < 9223372036854775807 := by simp at hl'; omega
    simp only [dA]
    rw [if_pos (aAl pre post x)]
    simp (maxSteps := 2000000) only [sX, sS, Option.bind_some, bD hp, w0, a1]
    rw [hE]
  · have hl' := le_max hl
    have hp : i < 9223372036854775807 := by have := (List.getElem?_eq_some_iff.1 hi).1; omega
    simp only [eP]
    rw [if_pos (aCg hi)]
    simp (maxSteps := 2000000) only [aAe hi, Option.bind_some, bD hp, w0, b1, d1, bne_self_eq_false, beq_self_eq_true, Bool.not_true, Bool.false_eq_true, if_false]
    rw [hE]
theorem M.aEJ.hD (xs : List M.Cache) (hx : (xs.length ≤ maxLen ∧ ∀ y ∈ xs, M.Cache.ok y)) (k : Int) (h0 : 0 ≤ k) (hB : k + ((aD M.Cache.cnt xs : Nat) : Int) ≤ KB) : ∃ ys, rV xs k = some (ys, k + ((aD M.Cache.cnt xs : Nat) : Int)) ∧ qB ys k = some (k + ((aD M.Cache.cnt xs : Nat) : Int)) ∧ ys.length = xs.length := by
  have hm := le_max hx.1
  obtain ⟨ys, h1, h2, h3⟩ := lB (ML := dA) (HL := eP) (c := M.Cache.cnt) (ok := M.Cache.ok) (fun x hx k h0 hB => M.Cache.pL x hx k h0 hB) (fun n k l => by simp only [dA]; rw [if_neg (by rw [aO]; simp)]) (fun n k l => by simp only [eP]; rw [if_neg (by rw [aO]; simp)]) xs [] fuel k (by simpa using hx.1) (by unfold fuel; omega) hx.2 h0 hB
  refine ⟨ys, by unfold rV; simpa using h2, by unfold qB; simpa using h3 fuel (by unfold fuel; omega), h1⟩
def M.Field.cnt (x : M.Field) : Nat := 2
set_option maxHeartbeats 4000000 in
theorem M.Field.pL (x : M.Field) (hx : M.Field.ok x) (k : Int) (h0 : 0 ≤ k) (hB : k + ((M.Field.cnt x : Nat) : Int) ≤ KB) : ∃ x' : M.Field, (∀ n (pre post : List M.Field), (pre ++ x :: post).length ≤ maxLen → cW (n + 1) k pre.length (pre ++ x :: post) = cW n (k + ((M.Field.cnt x : Nat) : Int)) ((pre.length + 1 : Nat) : Int) (pre ++ x' :: post)) ∧ ∀ n (l : List M.Field) (i : Nat), l[i]? = some x' → l.length ≤ maxLen → eC l (n + 1) k i = eC l n (k + ((M.Field.cnt x : Nat) : Int)) ((i + 1 : Nat) : Int) := by
  unfold KB at hB; unfold M.Field.cnt at hB ⊢
  have A : (0 ≤ k ∧ k ≤ KB) ∧ (0 ≤ k + 1 ∧ k + 1 ≤ KB) ∧ (0 ≤ k + 1 + 1 ∧ k + 1 + 1 ≤ KB) := by
    unfold KB
    refine ⟨?_, ?_, ?_⟩ <;> omega
  have hE : k + 1 + 1 = k + ((M.Field.cnt x : Nat) : Int) := by unfold M.Field.cnt; omega
  unfold M.Field.cnt at hE
  obtain ⟨q0, q1, q2⟩ := A
  have t0 : aF (k) = some (mtx (k)) := mt q0.1 (Int.lt_of_add_one_le q1.2)
  have w0 := wk2 q0
  have w1 := wk2 q1
  refine ⟨⟨(mtx (k)), k + 1⟩, fun n pre post hl => ?_, fun n l i hi hl => ?_⟩
  · have hl' := le_max hl
    have hp : pre.length < 9223372036854775807 := by simp at hl'; omega
    simp only [cW]
    rw [if_pos (aAl pre post x)]
    simp (maxSteps := 2000000) only [sX, sS, Option.bind_some, bD hp, t0, w0, w1]
    rw [hE]
  · have hl' := le_max hl
    have hp : i < 9223372036854775807 := by have := (List.getElem?_eq_some_iff.1 hi).1; omega
    simp only [eC]
    rw [if_pos (aCg hi)]
    simp (maxSteps := 2000000) only [aAe hi, Option.bind_some, bD hp, t0, w0, w1, bne_self_eq_false, beq_self_eq_true, Bool.not_true, Bool.false_eq_true, if_false]
    rw [hE]
theorem M.aEv.hD (xs : List M.Field) (hx : (xs.length ≤ maxLen ∧ ∀ y ∈ xs, M.Field.ok y)) (k : Int) (h0 : 0 ≤ k) (hB : k + ((aD M.Field.cnt xs : Nat) : Int) ≤ KB) : ∃ ys, rE xs k = some (ys, k + ((aD M.Field.cnt xs : Nat) : Int)) ∧ rJ ys k = some (k + ((aD M.Field.cnt xs : Nat) : Int)) ∧ ys.length = xs.length := by
  have hm := le_max hx.1
  obtain ⟨ys, h1, h2, h3⟩ := lB (ML := cW) (HL := eC) (c := M.Field.cnt) (ok := M.Field.ok) (fun x hx k h0 hB => M.Field.pL x hx k h0 hB) (fun n k l => by simp only [cW]; rw [if_neg (by rw [aO]; simp)]) (fun n k l => by simp only [eC]; rw [if_neg (by rw [aO]; simp)]) xs [] fuel k (by simpa using hx.1) (by unfold fuel; omega) hx.2 h0 hB
  refine ⟨ys, by unfold rE; simpa using h2, by unfold rJ; simpa using h3 fuel (by unfold fuel; omega), h1⟩
def M.Item.cnt (x : M.Item) : Nat := 3 + (aD M.Field.cnt x.aU.Fields)
set_option maxHeartbeats 4000000 in
theorem M.Item.pL (x : M.Item) (hx : M.Item.ok x) (k : Int) (h0 : 0 ≤ k) (hB : k + ((M.Item.cnt x : Nat) : Int) ≤ KB) : ∃ x' : M.Item, (∀ n (pre post : List M.Item), (pre ++ x :: post).length ≤ maxLen → dR (n + 1) k pre.length (pre ++ x :: post) = dR n (k + ((M.Item.cnt x : Nat) : Int)) ((pre.length + 1 : Nat) : Int) (pre ++ x' :: post)) ∧ ∀ n (l : List M.Item) (i : Nat), l[i]? = some x' → l.length ≤ maxLen → fG l (n + 1) k i = fG l n (k + ((M.Item.cnt x : Nat) : Int)) ((i + 1 : Nat) : Int) := by
  unfold KB at hB; unfold M.Item.cnt at hB ⊢
  have A : (0 ≤ k ∧ k ≤ KB) ∧ (0 ≤ k + 1 ∧ k + 1 ≤ KB) ∧ (0 ≤ k + 1 + 1 ∧ k + 1 + 1 ≤ KB) ∧ (0 ≤ k + 1 + 1 + 1 ∧ k + 1 + 1 + 1 ≤ KB) ∧ (0 ≤ k + 1 + 1 + 1 + ((aD M.Field.cnt x.aU.Fields : Nat) : Int) ∧ k + 1 + 1 + 1 + ((aD M.Field.cnt x.aU.Fields : Nat) : Int) ≤ KB) := by
    unfold KB
    refine ⟨?_, ?_, ?_, ?_, ?_⟩ <;> omega
  have hE : k + 1 + 1 + 1 + ((aD M.Field.cnt x.aU.Fields : Nat) : Int) = k + ((M.Item.cnt x : Nat) : Int) := by unfold M.Item.cnt; omega
  unfold M.Item.cnt at hE
  obtain ⟨q0, q1, q2, q3, q4⟩ := A
  have w0 := wk2 q0
  have w1 := wk2 q1
  have t2 : aF (k + 1 + 1) = some (mtx (k + 1 + 1)) := mt q2.1 (Int.lt_of_add_one_le q3.2)
  have w2 := wk2 q2
  obtain ⟨y1, a1, b1, _⟩ := M.aEv.hD _ hx.aU.Fields (k + 1 + 1 + 1) q3.1 q4.2
  have d1 : (decide (k + 1 + 1 + 1 + ((aD M.Field.cnt x.aU.Fields : Nat) : Int) < 0)) = false := dk q4.1
  refine ⟨⟨⟨k, k + 1, (mtx (k + 1 + 1))⟩, ⟨y1⟩⟩, fun n pre post hl => ?_, fun n l i hi hl => ?_⟩
  · have hl' := le_max hl
    have hp : pre.length < 9223372036854775807 := by simp at hl'; omega
    simp only [dR]
    rw [if_pos (aAl pre post x)]
    simp (maxSteps := 2000000) only [sX, sS, Option.bind_some, bD hp, w0, w1, t2, w2, a1]
    rw [hE]
  · have hl' := le_max hl
    have hp : i < 9223372036854775807 := by have := (List.getElem?_eq_some_iff.1 hi).1; omega
    simp only [fG]
    rw [if_pos (aCg hi)]
    simp (maxSteps := 2000000) only [aAe hi, Option.bind_some, bD hp, w0, w1, t2, w2, b1, d1, bne_self_eq_false, beq_self_eq_true, Bool.not_true, Bool.false_eq_true, if_false]
    rw [hE]
theorem M.aFZ.hD (xs : List M.Item) (hx : (xs.length ≤ maxLen ∧ ∀ y ∈ xs, M.Item.ok y)) (k : Int) (h0 : 0 ≤ k) (hB : k + ((aD M.Item.cnt xs : Nat) : Int) ≤ KB) : ∃ ys, lJ xs k = some (ys, k + ((aD M.Item.cnt xs : Nat) : Int)) ∧ lG ys k = some (k + ((aD M.Item.cnt xs : Nat) : Int)) ∧ ys.length = xs.length := by
  have hm := le_max hx.1
  obtain ⟨ys, h1, h2, h3⟩ := lB (ML := dR) (HL := fG) (c := M.Item.cnt) (ok := M.Item.ok) (fun x hx k h0 hB => M.Item.pL x hx k h0 hB) (fun n k l => by simp only [dR]; rw [if_neg (by rw [aO]; simp)]) (fun n k l => by simp only [fG]; rw [if_neg (by rw [aO]; simp)]) xs [] fuel k (by simpa using hx.1) (by unfold fuel; omega) hx.2 h0 hB
  refine ⟨ys, by unfold lJ; simpa using h2, by unfold lG; simpa using h3 fuel (by unfold fuel; omega), h1⟩
def M.aG.cnt (x : M.aG) : Nat := 2 + (aD M.Item.cnt x.Items)
set_option maxHeartbeats 4000000 in
theorem M.aG.pL (x : M.aG) (hx : M.aG.ok x) (k : Int) (h0 : 0 ≤ k) (hB : k + ((M.aG.cnt x : Nat) : Int) ≤ KB) : ∃ x' : M.aG, (∀ n (pre post : List M.aG), (pre ++ x :: post).length ≤ maxLen → dD (n + 1) k pre.length (pre ++ x :: post) = dD n (k + ((M.aG.cnt x : Nat) : Int)) ((pre.length + 1 : Nat) : Int) (pre ++ x' :: post)) ∧ ∀ n (l : List M.aG) (i : Nat), l[i]? = some x' → l.length ≤ maxLen → eE l (n + 1) k i = eE l n (k + ((M.aG.cnt x : Nat) : Int)) ((i + 1 : Nat) : Int) := by
  unfold KB at hB; unfold M.aG.cnt at hB ⊢
  have A : (0 ≤ k ∧ k ≤ KB) ∧ (0 ≤ k + 1 ∧ k + 1 ≤ KB) ∧ (0 ≤ k + 1 + ((aD M.Item.cnt x.Items : Nat) : Int) ∧ k + 1 + ((aD M.Item.cnt x.Items : Nat) : Int) ≤ KB) ∧ (0 ≤ k + 1 + ((aD M.Item.cnt x.Items : Nat) : Int) + 1 ∧ k + 1 + ((aD M.Item.cnt x.Items : Nat) : Int) + 1 ≤ KB) := by
    unfold KB
    refine ⟨?_, ?_, ?_, ?_⟩ <;> omega
  have hE : k + 1 + ((aD M.Item.cnt x.Items : Nat) : Int) + 1 = k + ((M.aG.cnt x : Nat) : Int) := by unfold M.aG.cnt; omega
  unfold M.aG.cnt at hE
  obtain ⟨q0, q1, q2, q3⟩ := A
  have t0 : aF (k) = some (mtx (k)) := mt q0.1 (Int.lt_of_add_one_le q1.2)
  have w0 := wk2 q0
  obtain ⟨y1, a1, b1, _⟩ := M.aFZ.hD _ hx.Items (k + 1) q1.1 q2.2
  have d1 : (decide (k + 1 + ((aD M.Item.cnt x.Items : Nat) : Int) < 0)) = false := dk q2.1
  have w2 := wk2 q2
  refine ⟨⟨(mtx (k)), y1, k + 1 + ((aD M.Item.cnt x.Items : Nat) : Int)⟩, fun n pre post hl => ?_, fun n l i hi hl => ?_⟩
  · have hl' := le_max hl
    have hp : pre.length < 9223372036854775807 := by simp at hl'; omega
    simp only [dD]
    rw [if_pos (aAl pre post x)]
    simp (maxSteps := 2000000) only [sX, sS, Option.bind_some, bD hp, t0, w0, a1, w2]
    rw [hE]
  · have hl' := le_max hl
    have hp : i < 9223372036854775807 := by have := (List.getElem?_eq_some_iff.1 hi).1; omega
    simp only [eE]
    rw [if_pos (aCg hi)]
    simp (maxSteps := 2000000) only [aAe hi, Option.bind_some, bD hp, t0, w0, b1, d1, w2, bne_self_eq_false, beq_self_eq_true, Bool.not_true, Bool.false_eq_true, if_false]
    rw [hE]
theorem M.aEf.hD (xs : List M.aG) (hx : (xs.length ≤ maxLen ∧ ∀ y ∈ xs, M.aG.ok y)) (k : Int) (h0 : 0 ≤ k) (hB : k + ((aD M.aG.cnt xs : Nat) : Int) ≤ KB) : ∃ ys, qZ xs k = some (ys, k + ((aD M.aG.cnt xs : Nat) : Int)) ∧ qK ys k = some (k + ((aD M.aG.cnt xs : Nat) : Int)) ∧ ys.length = xs.length := by
  have hm := le_max hx.1
  obtain ⟨ys, h1, h2, h3⟩ := lB (ML := dD) (HL := eE) (c := M.aG.cnt) (ok := M.aG.ok) (fun x hx k h0 hB => M.aG.pL x hx k h0 hB) (fun n k l => by simp only [dD]; rw [if_neg (by rw [aO]; simp)]) (fun n k l => by simp only [eE]; rw [if_neg (by rw [aO]; simp)]) xs [] fuel k (by simpa using hx.1) (by unfold fuel; omega) hx.2 h0 hB
  refine ⟨ys, by unfold qZ; simpa using h2, by unfold qK; simpa using h3 fuel (by unfold fuel; omega), h1⟩
def M.aA.cnt (x : M.aA) : Nat := 2
set_option maxHeartbeats 4000000 in
theorem M.aA.pL (x : M.aA) (hx : M.aA.ok x) (k : Int) (h0 : 0 ≤ k) (hB : k + ((M.aA.cnt x : Nat) : Int) ≤ KB) : ∃ x' : M.aA, (∀ n (pre post : List M.aA), (pre ++ x :: post).length ≤ maxLen → bU (n + 1) k pre.length (pre ++ x :: post) = bU n (k + ((M.aA.cnt x : Nat) : Int)) ((pre.length + 1 : Nat) : Int) (pre ++ x' :: post)) ∧ ∀ n (l : List M.aA) (i : Nat), l[i]? = some x' → l.length ≤ maxLen → cH l (n + 1) k i = cH l n (k + ((M.aA.cnt x : Nat) : Int)) ((i + 1 : Nat) : Int) := by
  unfold KB at hB; unfold M.aA.cnt at hB ⊢
  have A : (0 ≤ k ∧ k ≤ KB) ∧ (0 ≤ k + 1 ∧ k + 1 ≤ KB) ∧ (0 ≤ k + 1 + 1 ∧ k + 1 + 1 ≤ KB) := by
    unfold KB
    refine ⟨?_, ?_, ?_⟩ <;> omega
  have hE : k + 1 + 1 = k + ((M.aA.cnt x : Nat) : Int) := by unfold M.aA.cnt; omega
  unfold M.aA.cnt at hE
  obtain ⟨q0, q1, q2⟩ := A
  have t0 : aF (k) = some (mtx (k)) := mt q0.1 (Int.lt_of_add_one_le q1.2)
  have w0 := wk2 q0
  have t1 : aF (k + 1) = some (mtx (k + 1)) := mt q1.1 (Int.lt_of_add_one_le q2.2)
  have w1 := wk2 q1
  refine ⟨⟨(mtx (k)), (mtx (k + 1))⟩, fun n pre post hl => ?_, fun n l i hi hl => ?_⟩
  · have hl' := le_max hl
    have hp : pre.length < 9223372036854775807 := by simp at hl'; omega
    simp only [bU]
    rw [if_pos (aAl pre post x)]
    simp (maxSteps := 2000000) only [sX, sS, Option.bind_some, bD hp, t0, w0, t1, w1]
    rw [hE]
  · have hl' := le_max hl
    have hp : i < 9223372036854775807 := by have := (List.getElem?_eq_some_iff.1 hi).1; omega
    simp only [cH]
    rw [if_pos (aCg hi)]
    simp (maxSteps := 2000000) only [aAe hi, Option.bind_some, bD hp, t0, w0, t1, w1, bne_self_eq_false, beq_self_eq_true, Bool.not_true, Bool.false_eq_true, if_false]
    rw [hE]
theorem M.aAx.hD (xs : List M.aA) (hx : (xs.length ≤ maxLen ∧ ∀ y ∈ xs, M.aA.ok y)) (k : Int) (h0 : 0 ≤ k) (hB : k + ((aD M.aA.cnt xs : Nat) : Int) ≤ KB) : ∃ ys, lO xs k = some (ys, k + ((aD M.aA.cnt xs : Nat) : Int)) ∧ lL ys k = some (k + ((aD M.aA.cnt xs : Nat) : Int)) ∧ ys.length = xs.length := by
  have hm := le_max hx.1
  obtain ⟨ys, h1, h2, h3⟩ := lB (ML := bU) (HL := cH) (c := M.aA.cnt) (ok := M.aA.ok) (fun x hx k h0 hB => M.aA.pL x hx k h0 hB) (fun n k l => by simp only [bU]; rw [if_neg (by rw [aO]; simp)]) (fun n k l => by simp only [cH]; rw [if_neg (by rw [aO]; simp)]) xs [] fuel k (by simpa using hx.1) (by unfold fuel; omega) hx.2 h0 hB
  refine ⟨ys, by unfold lO; simpa using h2, by unfold lL; simpa using h3 fuel (by unfold fuel; omega), h1⟩
def M.aW.cnt (x : M.aW) : Nat := 7
set_option maxHeartbeats 4000000 in
theorem M.aW.pL (x : M.aW) (hx : M.aW.ok x) (k : Int) (h0 : 0 ≤ k) (hB : k + ((M.aW.cnt x : Nat) : Int) ≤ KB) : ∃ x' : M.aW, (∀ n (pre post : List M.aW), (pre ++ x :: post).length ≤ maxLen → cX (n + 1) k pre.length (pre ++ x :: post) = cX n (k + ((M.aW.cnt x : Nat) : Int)) ((pre.length + 1 : Nat) : Int) (pre ++ x' :: post)) ∧ ∀ n (l : List M.aW) (i : Nat), l[i]? = some x' → l.length ≤ maxLen → eD l (n + 1) k i = eD l n (k + ((M.aW.cnt x : Nat) : Int)) ((i + 1 : Nat) : Int) := by
  unfold KB at hB; unfold M.aW.cnt at hB ⊢
  have A : (0 ≤ k ∧ k ≤ KB) ∧ (0 ≤ k + 1 ∧ k + 1 ≤ KB) ∧ (0 ≤ k + 1 + 1 ∧ k + 1 + 1 ≤ KB) ∧ (0 ≤ k + 1 + 1 + 1 ∧ k + 1 + 1 + 1 ≤ KB) ∧ (0 ≤ k + 1 + 1 + 1 + 1 ∧ k + 1 + 1 + 1 + 1 ≤ KB) ∧ (0 ≤ k + 1 + 1 + 1 + 1 + 1 ∧ k + 1 + 1 + 1 + 1 + 1 ≤ KB) ∧ (0 ≤ k + 1 + 1 + 1 + 1 + 1 + 1 ∧ k + 1 + 1 + 1 + 1 + 1 + 1 ≤ KB) ∧ (0 ≤ k + 1 + 1 + 1 + 1 + 1 + 1 + 1 ∧ k + 1 + 1 + 1 + 1 + 1 + 1 + 1 ≤ KB) := by
    unfold KB
    refine ⟨?_, ?_, ?_, ?_, ?_, ?_, ?_, ?_⟩ <;> omega
  have hE : k + 1 + 1 + 1 + 1 + 1 + 1 + 1 = k + ((M.aW.cnt x : Nat) : Int) := by unfold M.aW.cnt; omega
  unfold M.aW.cnt at hE
  obtain ⟨q0, q1, q2, q3, q4, q5, q6, q7⟩ := A
  have w0 := wk2 q0
  have w1 := wk2 q1
  have w2 := wk2 q2
  have w3 := wk2 q3
  have t4 : aF (k + 1 + 1 + 1 + 1) = some (mtx (k + 1 + 1 + 1 + 1)) := mt q4.1 (Int.lt_of_add_one_le q5.2)
  have w4 := wk2 q4
  have t5 : aF (k + 1 + 1 + 1 + 1 + 1) = some (mtx (k + 1 + 1 + 1 + 1 + 1)) := mt q5.1 (Int.lt_of_add_one_le q6.2)
  have w5 := wk2 q5
  have w6 := wk2 q6
  refine ⟨⟨k, k + 1, ⟨k + 1 + 1, k + 1 + 1 + 1, (mtx (k + 1 + 1 + 1 + 1))⟩, (mtx (k + 1 + 1 + 1 + 1 + 1)), k + 1 + 1 + 1 + 1 + 1 + 1⟩, fun n pre post hl => ?_, fun n l i hi hl => ?_⟩
  · have hl' := le_max hl
    have hp : pre.length < 9223372036854775807 := by simp at hl'; omega
    simp only [cX]
    rw [if_pos (aAl pre post x)]
    simp (maxSteps := 2000000) only [sX, sS, Option.bind_some, bD hp, w0, w1, w2, w3, t4, w4, t5, w5, w6]
    rw [hE]
  · have hl' := le_max hl
    have hp : i < 9223372036854775807 := by have := (List.getElem?_eq_some_iff.1 hi).1; omega
    simp only [eD]
    rw [if_pos (aCg hi)]
    simp (maxSteps := 2000000) only [aAe hi, Option.bind_some, bD hp, w0, w1, w2, w3, t4, w4, t5, w5, w6, bne_self_eq_false, beq_self_eq_true, Bool.not_true, Bool.false_eq_true, if_false]
    rw [hE]
theorem M.aCI.hD (xs : List M.aW) (hx : (xs.length ≤ maxLen ∧ ∀ y ∈ xs, M.aW.ok y)) (k : Int) (h0 : 0 ≤ k) (hB : k + ((aD M.aW.cnt xs : Nat) : Int) ≤ KB) : ∃ ys, mK xs k = some (ys, k + ((aD M.aW.cnt xs : Nat) : Int)) ∧ mB ys k = some (k + ((aD M.aW.cnt xs : Nat) : Int)) ∧ ys.length = xs.length := by
  have hm := le_max hx.1
  obtain ⟨ys, h1, h2, h3⟩ := lB (ML := cX) (HL := eD) (c := M.aW.cnt) (ok := M.aW.ok) (fun x hx k h0 hB => M.aW.pL x hx k h0 hB) (fun n k l => by simp only [cX]; rw [if_neg (by rw [aO]; simp)]) (fun n k l => by simp only [eD]; rw [if_neg (by rw [aO]; simp)]) xs [] fuel k (by simpa using hx.1) (by unfold fuel; omega) hx.2 h0 hB
  refine ⟨ys, by unfold mK; simpa using h2, by unfold mB; simpa using h3 fuel (by unfold fuel; omega), h1⟩
def M.aE.cnt (x : M.aE) : Nat := 18 + (aD M.Cache.cnt x.Caches.Caches) + (aD M.aG.cnt x.bF.Base.Stores) + (aD M.aA.cnt x.bF.Base.Unique) + (x.bF.Log.length) + (aD M.Item.cnt x.aC.Base.Items) + (aD M.aW.cnt x.aC.Sync.aV.Writes)
set_option maxHeartbeats 4000000 in
theorem M.aE.pL (x : M.aE) (hx : M.aE.ok x) (k : Int) (h0 : 0 ≤ k) (hB : k + ((M.aE.cnt x : Nat) : Int) ≤ KB) : ∃ x' : M.aE, (∀ n (pre post : List M.aE), (pre ++ x :: post).length ≤ maxLen → cN (n + 1) k pre.length (pre ++ x :: post) = cN n (k + ((M.aE.cnt x : Nat) : Int)) ((pre.length + 1 : Nat) : Int) (pre ++ x' :: post)) ∧ ∀ n (l : List M.aE) (i : Nat), l[i]? = some x' → l.length ≤ maxLen → cM l (n + 1) k i = cM l n (k + ((M.aE.cnt x : Nat) : Int)) ((i + 1 : Nat) : Int) := by
  unfold KB at hB; unfold M.aE.cnt at hB ⊢
  have A : (0 ≤ k ∧ k ≤ KB) ∧ (0 ≤ k + 1 ∧ k + 1 ≤ KB) ∧ (0 ≤ k + 1 + 1 ∧ k + 1 + 1 ≤ KB) ∧ (0 ≤ k + 1 + 1 + 1 ∧ k + 1 + 1 + 1 ≤ KB) ∧ (0 ≤ k + 1 + 1 + 1 + 1 ∧ k + 1 + 1 + 1 + 1 ≤ KB) ∧ (0 ≤ k + 1 + 1 + 1 + 1 + 1 ∧ k + 1 + 1 + 1 + 1 + 1 ≤ KB) ∧ (0 ≤ k + 1 + 1 + 1 + 1 + 1 + 1 ∧ k + 1 + 1 + 1 + 1 + 1 + 1 ≤ KB) ∧ (0 ≤ k + 1 + 1 + 1 + 1 + 1 + 1 + ((aD M.Cache.cnt x.Caches.Caches : Nat) : Int) ∧ k + 1 + 1 + 1 + 1 + 1 + 1 + ((aD M.Cache.cnt x.Caches.Caches : Nat) : Int) ≤ KB) ∧ (0 ≤ k + 1 + 1 + 1 + 1 + 1 + 1 + ((aD M.Cache.cnt x.Caches.Caches : Nat) : Int) + 1 ∧ k + 1 + 1 + 1 + 1 + 1 + 1 + ((aD M.Cache.cnt x.Caches.Caches : Nat) : Int) + 1 ≤ KB) ∧ (0 ≤ k + 1 + 1 + 1 + 1 + 1 + 1 + ((aD M.Cache.cnt x.Caches.Caches : Nat) : Int) + 1 + 1 ∧ k + 1 + 1 + 1 + 1 + 1 + 1 + ((aD M.Cache.cnt x.Caches.Caches : Nat) : Int) + 1 + 1 ≤ KB) ∧ (0 ≤ k + 1 + 1 + 1 + 1 + 1 + 1 + ((aD M.Cache.cnt x.Caches.Caches : Nat) : Int) + 1 + 1 + ((aD M.aG.cnt x.bF.Base.Stores : Nat) : Int) ∧ k + 1 + 1 + 1 + 1 + 1 + 1 + ((aD M.Cache.cnt x.Caches.Caches : Nat) : Int) + 1 + 1 + ((aD M.aG.cnt x.bF.Base.Stores : Nat) : Int) ≤ KB) ∧ (0 ≤ k + 1 + 1 + 1 + 1 + 1 + 1 + ((aD M.Cache.cnt x.Caches.Caches : Nat) : Int) + 1 + 1 + ((aD M.aG.cnt x.bF.Base.Stores : Nat) : Int) + ((aD M.aA.cnt x.bF.Base.Unique : Nat) : Int) ∧ k + 1 + 1 + 1 + 1 + 1 + 1 + ((aD M.Cache.cnt x.Caches.Caches : Nat) : Int) + 1 + 1 + ((aD M.aG.cnt x.bF.Base.Stores : Nat) : Int) + ((aD M.aA.cnt x.bF.Base.Unique : Nat) : Int) ≤ KB) ∧ (0 ≤ k + 1 + 1 + 1 + 1 + 1 + 1 + ((aD M.Cache.cnt x.Caches.Caches : Nat) : Int) + 1 + 1 + ((aD M.aG.cnt x.bF.Base.Stores : Nat) : Int) + ((aD M.aA.cnt x.bF.Base.Unique : Nat) : Int) + ((x.bF.Log.length : Nat) : Int) ∧ k + 1 + 1 + 1 + 1 + 1 + 1 + ((aD M.Cache.cnt x.Caches.Caches : Nat) : Int) + 1 + 1 + ((aD M.aG.cnt x.bF.Base.Stores : Nat) : Int) + ((aD M.aA.cnt x.bF.Base.Unique : Nat) : Int) + ((x.bF.Log.length : Nat) : Int) ≤ KB) ∧ (0 ≤ k + 1 + 1 + 1 + 1 + 1 + 1 + ((aD M.Cache.cnt x.Caches.Caches : Nat) : Int) + 1 + 1 + ((aD M.aG.cnt x.bF.Base.Stores : Nat) : Int) + ((aD M.aA.cnt x.bF.Base.Unique : Nat) : Int) + ((x.bF.Log.length : Nat) : Int) + 1 ∧ k + 1 + 1 + 1 + 1 + 1 + 1 + ((aD M.Cache.cnt x.Caches.Caches : Nat) : Int) + 1 + 1 + ((aD M.aG.cnt x.bF.Base.Stores : Nat) : Int) + ((aD M.aA.cnt x.bF.Base.Unique : Nat) : Int) + ((x.bF.Log.length : Nat) : Int) + 1 ≤ KB) ∧ (0 ≤ k + 1 + 1 + 1 + 1 + 1 + 1 + ((aD M.Cache.cnt x.Caches.Caches : Nat) : Int) + 1 + 1 + ((aD M.aG.cnt x.bF.Base.Stores : Nat) : Int) + ((aD M.aA.cnt x.bF.Base.Unique : Nat) : Int) + ((x.bF.Log.length : Nat) : Int) + 1 + 1 ∧ k + 1 + 1 + 1 + 1 + 1 + 1 + ((aD M.Cache.cnt x.Caches.Caches : Nat) : Int) + 1 + 1 + ((aD M.aG.cnt x.bF.Base.Stores : Nat) : Int) + ((aD M.aA.cnt x.bF.Base.Unique : Nat) : Int) + ((x.bF.Log.length : Nat) : Int) + 1 + 1 ≤ KB) ∧ (0 ≤ k + 1 + 1 + 1 + 1 + 1 + 1 + ((aD M.Cache.cnt x.Caches.Caches : Nat) : Int) + 1 + 1 + ((aD M.aG.cnt x.bF.Base.Stores : Nat) : Int) + ((aD M.aA.cnt x.bF.Base.Unique : Nat) : Int) + ((x.bF.Log.length : Nat) : Int) + 1 + 1 + ((aD M.Item.cnt x.aC.Base.Items : Nat) : Int) ∧ k + 1 + 1 + 1 + 1 + 1 + 1 + ((aD M.Cache.cnt x.Caches.Caches : Nat) : Int) + 1 + 1 + ((aD M.aG.cnt x.bF.Base.Stores : Nat) : Int) + ((aD M.aA.cnt x.bF.Base.Unique : Nat) : Int) + ((x.bF.Log.length : Nat) : Int) + 1 + 1 + ((aD M.Item.cnt x.aC.Base.Items : Nat) : Int) ≤ KB) ∧ (0 ≤ k + 1 + 1 + 1 + 1 + 1 + 1 + ((aD M.Cache.cnt x.Caches.Caches : Nat) : Int) + 1 + 1 + ((aD M.aG.cnt x.bF.Base.Stores : Nat) : Int) + ((aD M.aA.cnt x.bF.Base.Unique : Nat) : Int) + ((x.bF.Log.length : Nat) : Int) + 1 + 1 + ((aD M.Item.cnt x.aC.Base.Items : Nat) : Int) + 1 ∧ k + 1 + 1 + 1 + 1 + 1 + 1 + ((aD M.Cache.cnt x.Caches.Caches : Nat) : Int) + 1 + 1 + ((aD M.aG.cnt x.bF.Base.Stores : Nat) : Int) + ((aD M.aA.cnt x.bF.Base.Unique : Nat) : Int) + ((x.bF.Log.length : Nat) : Int) + 1 + 1 + ((aD M.Item.cnt x.aC.Base.Items : Nat) : Int) + 1 ≤ KB) ∧ (0 ≤ k + 1 + 1 + 1 + 1 + 1 + 1 + ((aD M.Cache.cnt x.Caches.Caches : Nat) : Int) + 1 + 1 + ((aD M.aG.cnt x.bF.Base.Stores : Nat) : Int) + ((aD M.aA.cnt x.bF.Base.Unique : Nat) : Int) + ((x.bF.Log.length : Nat) : Int) + 1 + 1 + ((aD M.Item.cnt x.aC.Base.Items : Nat) : Int) + 1 + 1 ∧ k + 1 + 1 + 1 + 1 + 1 + 1 + ((aD M.Cache.cnt x.Caches.Caches : Nat) : Int) + 1 + 1 + ((aD M.aG.cnt x.bF.Base.Stores : Nat) : Int) + ((aD M.aA.cnt x.bF.Base.Unique : Nat) : Int) + ((x.bF.Log.length : Nat) : Int) + 1 + 1 + ((aD M.Item.cnt x.aC.Base.Items : Nat) : Int) + 1 + 1 ≤ KB) ∧ (0 ≤ k + 1 + 1 + 1 + 1 + 1 + 1 + ((aD M.Cache.cnt x.Caches.Caches : Nat) : Int) + 1 + 1 + ((aD M.aG.cnt x.bF.Base.Stores : Nat) : Int) + ((aD M.aA.cnt x.bF.Base.Unique : Nat) : Int) + ((x.bF.Log.length : Nat) : Int) + 1 + 1 + ((aD M.Item.cnt x.aC.Base.Items : Nat) : Int) + 1 + 1 + 1 ∧ k + 1 + 1 + 1 + 1 + 1 + 1 + ((aD M.Cache.cnt x.Caches.Caches : Nat) : Int) + 1 + 1 + ((aD M.aG.cnt x.bF.Base.Stores : Nat) : Int) + ((aD M.aA.cnt x.bF.Base.Unique : Nat) : Int) + ((x.bF.Log.length : Nat) : Int) + 1 + 1 + ((aD M.Item.cnt x.aC.Base.Items : Nat) : Int) + 1 + 1 + 1 ≤ KB) ∧ (0 ≤ k + 1 + 1 + 1 + 1 + 1 + 1 + ((aD M.Cache.cnt x.Caches.Caches : Nat) : Int) + 1 + 1 + ((aD M.aG.cnt x.bF.Base.Stores : Nat) : Int) + ((aD M.aA.cnt x.bF.Base.Unique : Nat) : Int) + ((x.bF.Log.length : Nat) : Int) + 1 + 1 + ((aD M.Item.cnt x.aC.Base.Items : Nat) : Int) + 1 + 1 + 1 + 1 ∧ k + 1 + 1 + 1 + 1 + 1 + 1 + ((aD M.Cache.cnt x.Caches.Caches : Nat) : Int) + 1 + 1 + ((aD M.aG.cnt x.bF.Base.Stores : Nat) : Int) + ((aD M.aA.cnt x.bF.Base.Unique : Nat) : Int) + ((x.bF.Log.length : Nat) : Int) + 1 + 1 + ((aD M.Item.cnt x.aC.Base.Items : Nat) : Int) + 1 + 1 + 1 + 1 ≤ KB) ∧ (0 ≤ k + 1 + 1 + 1 + 1 + 1 + 1 + ((aD M.Cache.cnt x.Caches.Caches : Nat) : Int) + 1 + 1 + ((aD M.aG.cnt x.bF.Base.Stores : Nat) : Int) + ((aD M.aA.cnt x.bF.Base.Unique : Nat) : Int) + ((x.bF.Log.length : Nat) : Int) + 1 + 1 + ((aD M.Item.cnt x.aC.Base.Items : Nat) : Int) + 1 + 1 + 1 + 1 + ((aD M.aW.cnt x.aC.Sync.aV.Writes : Nat) : Int) ∧ k + 1 + 1 + 1 + 1 + 1 + 1 + ((aD M.Cache.cnt x.Caches.Caches : Nat) : Int) + 1 + 1 + ((aD M.aG.cnt x.bF.Base.Stores : Nat) : Int) + ((aD M.aA.cnt x.bF.Base.Unique : Nat) : Int) + ((x.bF.Log.length : Nat) : Int) + 1 + 1 + ((aD M.Item.cnt x.aC.Base.Items : Nat) : Int) + 1 + 1 + 1 + 1 + ((aD M.aW.cnt x.aC.Sync.aV.Writes : Nat) : Int) ≤ KB) ∧ (0 ≤ k + 1 + 1 + 1 + 1 + 1 + 1 + ((aD M.Cache.cnt x.Caches.Caches : Nat) : Int) + 1 + 1 + ((aD M.aG.cnt x.bF.Base.Stores : Nat) : Int) + ((aD M.aA.cnt x.bF.Base.Unique : Nat) : Int) + ((x.bF.Log.length : Nat) : Int) + 1 + 1 + ((aD M.Item.cnt x.aC.Base.Items : Nat) : Int) + 1 + 1 + 1 + 1 + ((aD M.aW.cnt x.aC.Sync.aV.Writes : Nat) : Int) + 1 ∧ k + 1 + 1 + 1 + 1 + 1 + 1 + ((aD M.Cache.cnt x.Caches.Caches : Nat) : Int) + 1 + 1 + ((aD M.aG.cnt x.bF.Base.Stores : Nat) : Int) + ((aD M.aA.cnt x.bF.Base.Unique : Nat) : Int) + ((x.bF.Log.length : Nat) : Int) + 1 + 1 + ((aD M.Item.cnt x.aC.Base.Items : Nat) : Int) + 1 + 1 + 1 + 1 + ((aD M.aW.cnt x.aC.Sync.aV.Writes : Nat) : Int) + 1 ≤ KB) ∧ (0 ≤ k + 1 + 1 + 1 + 1 + 1 + 1 + ((aD M.Cache.cnt x.Caches.Caches : Nat) : Int) + 1 + 1 + ((aD M.aG.cnt x.bF.Base.Stores : Nat) : Int) + ((aD M.aA.cnt x.bF.Base.Unique : Nat) : Int) + ((x.bF.Log.length : Nat) : Int) + 1 + 1 + ((aD M.Item.cnt x.aC.Base.Items : Nat) : Int) + 1 + 1 + 1 + 1 + ((aD M.aW.cnt x.aC.Sync.aV.Writes : Nat) : Int) + 1 + 1 ∧ k + 1 + 1 + 1 + 1 + 1 + 1 + ((aD M.Cache.cnt x.Caches.Caches : Nat) : Int) + 1 + 1 + ((aD M.aG.cnt x.bF.Base.Stores : Nat) : Int) + ((aD M.aA.cnt x.bF.Base.Unique : Nat) : Int) + ((x.bF.Log.length : Nat) : Int) + 1 + 1 + ((aD M.Item.cnt x.aC.Base.Items : Nat) : Int) + 1 + 1 + 1 + 1 + ((aD M.aW.cnt x.aC.Sync.aV.Writes : Nat) : Int) + 1 + 1 ≤ KB) ∧ (0 ≤ k + 1 + 1 + 1 + 1 + 1 + 1 + ((aD M.Cache.cnt x.Caches.Caches : Nat) : Int) + 1 + 1 + ((aD M.aG.cnt x.bF.Base.Stores : Nat) : Int) + ((aD M.aA.cnt x.bF.Base.Unique : Nat) : Int) + ((x.bF.Log.length : Nat) : Int) + 1 + 1 + ((aD M.Item.cnt x.aC.Base.Items : Nat) : Int) + 1 + 1 + 1 + 1 + ((aD M.aW.cnt x.aC.Sync.aV.Writes : Nat) : Int) + 1 + 1 + 1 ∧ k + 1 + 1 + 1 + 1 + 1 + 1 + ((aD M.Cache.cnt x.Caches.Caches : Nat) : Int) + 1 + 1 + ((aD M.aG.cnt x.bF.Base.Stores : Nat) : Int) + ((aD M.aA.cnt x.bF.Base.Unique : Nat) : Int) + ((x.bF.Log.length : Nat) : Int) + 1 + 1 + ((aD M.Item.cnt x.aC.Base.Items : Nat) : Int) + 1 + 1 + 1 + 1 + ((aD M.aW.cnt x.aC.Sync.aV.Writes : Nat) : Int) + 1 + 1 + 1 ≤ KB) ∧ (0 ≤ k + 1 + 1 + 1 + 1 + 1 + 1 + ((aD M.Cache.cnt x.Caches.Caches : Nat) : Int) + 1 + 1 + ((aD M.aG.cnt x.bF.Base.Stores : Nat) : Int) + ((aD M.aA.cnt x.bF.Base.Unique : Nat) : Int) + ((x.bF.Log.length : Nat) : Int) + 1 + 1 + ((aD M.Item.cnt x.aC.Base.Items : Nat) : Int) + 1 + 1 + 1 + 1 + ((aD M.aW.cnt x.aC.Sync.aV.Writes : Nat) : Int) + 1 + 1 + 1 + 1 ∧ k + 1 + 1 + 1 + 1 + 1 + 1 + ((aD M.Cache.cnt x.Caches.Caches : Nat) : Int) + 1 + 1 + ((aD M.aG.cnt x.bF.Base.Stores : Nat) : Int) + ((aD M.aA.cnt x.bF.Base.Unique : Nat) : Int) + ((x.bF.Log.length : Nat) : Int) + 1 + 1 + ((aD M.Item.cnt x.aC.Base.Items : Nat) : Int) + 1 + 1 + 1 + 1 + ((aD M.aW.cnt x.aC.Sync.aV.Writes : Nat) : Int) + 1 + 1 + 1 + 1 ≤ KB) := by
    unfold KB
    refine ⟨?_, ?_, ?_, ?_, ?_, ?_, ?_, ?_, ?_, ?_, ?_, ?_, ?_, ?_, ?_, ?_, ?_, ?_, ?_, ?_, ?_, ?_, ?_, ?_, ?_⟩ <;> omega
  have hE : k + 1 + 1 + 1 + 1 + 1 + 1 + ((aD M.Cache.cnt x.Caches.Caches : Nat) : Int) + 1 + 1 + ((aD M.aG.cnt x.bF.Base.Stores : Nat) : Int) + ((aD M.aA.cnt x.bF.Base.Unique : Nat) : Int) + ((x.bF.Log.length : Nat) : Int) + 1 + 1 + ((aD M.Item.cnt x.aC.Base.Items : Nat) : Int) + 1 + 1 + 1 + 1 + ((aD M.aW.cnt x.aC.Sync.aV.Writes : Nat) : Int) + 1 + 1 + 1 + 1 = k + ((M.aE.cnt x : Nat) : Int) := by unfold M.aE.cnt; omega
  unfold M.aE.cnt at hE
  obtain ⟨q0, q1, q2, q3, q4, q5, q6, q7, q8, q9, q10, q11, q12, q13, q14, q15, q16, q17, q18, q19, q20, q21, q22, q23, q24⟩ := A
  have t0 : aF (k) = some (mtx (k)) := mt q0.1 (Int.lt_of_add_one_le q1.2)
  have w0 := wk2 q0
  have t1 : aF (k + 1) = some (mtx (k + 1)) := mt q1.1 (Int.lt_of_add_one_le q2.2)
  have w1 := wk2 q1
  have t2 : aF (k + 1 + 1) = some (mtx (k + 1 + 1)) := mt q2.1 (Int.lt_of_add_one_le q3.2)
  have w2 := wk2 q2
  have w3 := wk2 q3
  have w4 := wk2 q4
  have w5 := wk2 q5
  obtain ⟨y1, a1, b1, _⟩ := M.aEJ.hD _ hx.Caches.Caches (k + 1 + 1 + 1 + 1 + 1 + 1) q6.1 q7.2
  have d1 : (decide (k + 1 + 1 + 1 + 1 + 1 + 1 + ((aD M.Cache.cnt x.Caches.Caches : Nat) : Int) < 0)) = false := dk q7.1
  have t7 : aF (k + 1 + 1 + 1 + 1 + 1 + 1 + ((aD M.Cache.cnt x.Caches.Caches : Nat) : Int)) = some (mtx (k + 1 + 1 + 1 + 1 + 1 + 1 + ((aD M.Cache.cnt x.Caches.Caches : Nat) : Int))) := mt q7.1 (Int.lt_of_add_one_le q8.2)
  have w7 := wk2 q7
  have w8 := wk2 q8
  obtain ⟨y2, a2, b2, _⟩ := M.aEf.hD _ hx.bF.Base.Stores (k + 1 + 1 + 1 + 1 + 1 + 1 + ((aD M.Cache.cnt x.Caches.Caches : Nat) : Int) + 1 + 1) q9.1 q10.2
  have d2 : (decide (k + 1 + 1 + 1 + 1 + 1 + 1 + ((aD M.Cache.cnt x.Caches.Caches : Nat) : Int) + 1 + 1 + ((aD M.aG.cnt x.bF.Base.Stores : Nat) : Int) < 0)) = false := dk q10.1
  obtain ⟨y3, a3, b3, _⟩ := M.aAx.hD _ hx.bF.Base.Unique (k + 1 + 1 + 1 + 1 + 1 + 1 + ((aD M.Cache.cnt x.Caches.Caches : Nat) : Int) + 1 + 1 + ((aD M.aG.cnt x.bF.Base.Stores : Nat) : Int)) q10.1 q11.2
  have d3 : (decide (k + 1 + 1 + 1 + 1 + 1 + 1 + ((aD M.Cache.cnt x.Caches.Caches : Nat) : Int) + 1 + 1 + ((aD M.aG.cnt x.bF.Base.Stores : Nat) : Int) + ((aD M.aA.cnt x.bF.Base.Unique : Nat) : Int) < 0)) = false := dk q11.1
  obtain ⟨y4, a4, b4, _⟩ := M.aCh.hD _ hx.bF.Log (k + 1 + 1 + 1 + 1 + 1 + 1 + ((aD M.Cache.cnt x.Caches.Caches : Nat) : Int) + 1 + 1 + ((aD M.aG.cnt x.bF.Base.Stores : Nat) : Int) + ((aD M.aA.cnt x.bF.Base.Unique : Nat) : Int)) q11.1 q12.2
  have d4 : (decide (k + 1 + 1 + 1 + 1 + 1 + 1 + ((aD M.Cache.cnt x.Caches.Caches : Nat) : Int) + 1 + 1 + ((aD M.aG.cnt x.bF.Base.Stores : Nat) : Int) + ((aD M.aA.cnt x.bF.Base.Unique : Nat) : Int) + ((x.bF.Log.length : Nat) : Int) < 0)) = false := dk q12.1
  have w12 := wk2 q12
  have t13 : aF (k + 1 + 1 + 1 + 1 + 1 + 1 + ((aD M.Cache.cnt x.Caches.Caches : Nat) : Int) + 1 + 1 + ((aD M.aG.cnt x.bF.Base.Stores : Nat) : Int) + ((aD M.aA.cnt x.bF.Base.Unique : Nat) : Int) + ((x.bF.Log.length : Nat) : Int) + 1) = some (mtx (k + 1 + 1 + 1 + 1 + 1 + 1 + ((aD M.Cache.cnt x.Caches.Caches : Nat) : Int) + 1 + 1 + ((aD M.aG.cnt x.bF.Base.Stores : Nat) : Int) + ((aD M.aA.cnt x.bF.Base.Unique : Nat) : Int) + ((x.bF.Log.length : Nat) : Int) + 1)) := mt q13.1 (Int.lt_of_add_one_le q14.2)
  have w13 := wk2 q13
  obtain ⟨y5, a5, b5, _⟩ := M.aFZ.hD _ hx.aC.Base.Items (k + 1 + 1 + 1 + 1 + 1 + 1 + ((aD M.Cache.cnt x.Caches.Caches : Nat) : Int) + 1 + 1 + ((aD M.aG.cnt x.bF.Base.Stores : Nat) : Int) + ((aD M.aA.cnt x.bF.Base.Unique : Nat) : Int) + ((x.bF.Log.length : Nat) : Int) + 1 + 1) q14.1 q15.2
  have d5 : (decide (k + 1 + 1 + 1 + 1 + 1 + 1 + ((aD M.Cache.cnt x.Caches.Caches : Nat) : Int) + 1 + 1 + ((aD M.aG.cnt x.bF.Base.Stores : Nat) : Int) + ((aD M.aA.cnt x.bF.Base.Unique : Nat) : Int) + ((x.bF.Log.length : Nat) : Int) + 1 + 1 + ((aD M.Item.cnt x.aC.Base.Items : Nat) : Int) < 0)) = false := dk q15.1
  have w15 := wk2 q15
  have w16 := wk2 q16
  have w17 := wk2 q17
  have w18 := wk2 q18
  obtain ⟨y6, a6, b6, _⟩ := M.aCI.hD _ hx.aC.Sync.aV.Writes (k + 1 + 1 + 1 + 1 + 1 + 1 + ((aD M.Cache.cnt x.Caches.Caches : Nat) : Int) + 1 + 1 + ((aD M.aG.cnt x.bF.Base.Stores : Nat) : Int) + ((aD M.aA.cnt x.bF.Base.Unique : Nat) : Int) + ((x.bF.Log.length : Nat) : Int) + 1 + 1 + ((aD M.Item.cnt x.aC.Base.Items : Nat) : Int) + 1 + 1 + 1 + 1) q19.1 q20.2
  have d6 : (decide (k + 1 + 1 + 1 + 1 + 1 + 1 + ((aD M.Cache.cnt x.Caches.Caches : Nat) : Int) + 1 + 1 + ((aD M.aG.cnt x.bF.Base.Stores : Nat) : Int) + ((aD M.aA.cnt x.bF.Base.Unique : Nat) : Int) + ((x.bF.Log.length : Nat) : Int) + 1 + 1 + ((aD M.Item.cnt x.aC.Base.Items : Nat) : Int) + 1 + 1 + 1 + 1 + ((aD M.aW.cnt x.aC.Sync.aV.Writes : Nat) : Int) < 0)) = false := dk q20.1
  have w20 := wk2 q20
  have w21 := wk2 q21
  have w22 := wk2 q22
  have w23 := wk2 q23
  refine ⟨⟨(mtx (k)), (mtx (k + 1)), ⟨(mtx (k + 1 + 1)), k + 1 + 1 + 1, k + 1 + 1 + 1 + 1, k + 1 + 1 + 1 + 1 + 1⟩, ⟨y1⟩, ⟨⟨(mtx (k + 1 + 1 + 1 + 1 + 1 + 1 + ((aD M.Cache.cnt x.Caches.Caches : Nat) : Int))), k + 1 + 1 + 1 + 1 + 1 + 1 + ((aD M.Cache.cnt x.Caches.Caches : Nat) : Int) + 1, y2, y3⟩, y4, k + 1 + 1 + 1 + 1 + 1 + 1 + ((aD M.Cache.cnt x.Caches.Caches : Nat) : Int) + 1 + 1 + ((aD M.aG.cnt x.bF.Base.Stores : Nat) : Int) + ((aD M.aA.cnt x.bF.Base.Unique : Nat) : Int) + ((x.bF.Log.length : Nat) : Int)⟩, ⟨⟨(mtx (k + 1 + 1 + 1 + 1 + 1 + 1 + ((aD M.Cache.cnt x.Caches.Caches : Nat) : Int) + 1 + 1 + ((aD M.aG.cnt x.bF.Base.Stores : Nat) : Int) + ((aD M.aA.cnt x.bF.Base.Unique : Nat) : Int) + ((x.bF.Log.length : Nat) : Int) + 1)), y5, k + 1 + 1 + 1 + 1 + 1 + 1 + ((aD M.Cache.cnt x.Caches.Caches : Nat) : Int) + 1 + 1 + ((aD M.aG.cnt x.bF.Base.Stores : Nat) : Int) + ((aD M.aA.cnt x.bF.Base.Unique : Nat) : Int) + ((x.bF.Log.length : Nat) : Int) + 1 + 1 + ((aD M.Item.cnt x.aC.Base.Items : Nat) : Int)⟩, k + 1 + 1 + 1 + 1 + 1 + 1 + ((aD M.Cache.cnt x.Caches.Caches : Nat) : Int) + 1 + 1 + ((aD M.aG.cnt x.bF.Base.Stores : Nat) : Int) + ((aD M.aA.cnt x.bF.Base.Unique : Nat) : Int) + ((x.bF.Log.length : Nat) : Int) + 1 + 1 + ((aD M.Item.cnt x.aC.Base.Items : Nat) : Int) + 1, ⟨⟨k + 1 + 1 + 1 + 1 + 1 + 1 + ((aD M.Cache.cnt x.Caches.Caches : Nat) : Int) + 1 + 1 + ((aD M.aG.cnt x.bF.Base.Stores : Nat) : Int) + ((aD M.aA.cnt x.bF.Base.Unique : Nat) : Int) + ((x.bF.Log.length : Nat) : Int) + 1 + 1 + ((aD M.Item.cnt x.aC.Base.Items : Nat) : Int) + 1 + 1, k + 1 + 1 + 1 + 1 + 1 + 1 + ((aD M.Cache.cnt x.Caches.Caches : Nat) : Int) + 1 + 1 + ((aD M.aG.cnt x.bF.Base.Stores : Nat) : Int) + ((aD M.aA.cnt x.bF.Base.Unique : Nat) : Int) + ((x.bF.Log.length : Nat) : Int) + 1 + 1 + ((aD M.Item.cnt x.aC.Base.Items : Nat) : Int) + 1 + 1 + 1, y6⟩, k + 1 + 1 + 1 + 1 + 1 + 1 + ((aD M.Cache.cnt x.Caches.Caches : Nat) : Int) + 1 + 1 + ((aD M.aG.cnt x.bF.Base.Stores : Nat) : Int) + ((aD M.aA.cnt x.bF.Base.Unique : Nat) : Int) + ((x.bF.Log.length : Nat) : Int) + 1 + 1 + ((aD M.Item.cnt x.aC.Base.Items : Nat) : Int) + 1 + 1 + 1 + 1 + ((aD M.aW.cnt x.aC.Sync.aV.Writes : Nat) : Int), k + 1 + 1 + 1 + 1 + 1 + 1 + ((aD M.Cache.cnt x.Caches.Caches : Nat) : Int) + 1 + 1 + ((aD M.aG.cnt x.bF.Base.Stores : Nat) : Int) + ((aD M.aA.cnt x.bF.Base.Unique : Nat) : Int) + ((x.bF.Log.length : Nat) : Int) + 1 + 1 + ((aD M.Item.cnt x.aC.Base.Items : Nat) : Int) + 1 + 1 + 1 + 1 + ((aD M.aW.cnt x.aC.Sync.aV.Writes : Nat) : Int) + 1⟩⟩, k + 1 + 1 + 1 + 1 + 1 + 1 + ((aD M.Cache.cnt x.Caches.Caches : Nat) : Int) + 1 + 1 + ((aD M.aG.cnt x.bF.Base.Stores : Nat) : Int) + ((aD M.aA.cnt x.bF.Base.Unique : Nat) : Int) + ((x.bF.Log.length : Nat) : Int) + 1 + 1 + ((aD M.Item.cnt x.aC.Base.Items : Nat) : Int) + 1 + 1 + 1 + 1 + ((aD M.aW.cnt x.aC.Sync.aV.Writes : Nat) : Int) + 1 + 1, ((Int.tmod (k + 1 + 1 + 1 + 1 + 1 + 1 + ((aD M.Cache.cnt x.Caches.Caches : Nat) : Int) + 1 + 1 + ((aD M.aG.cnt x.bF.Base.Stores : Nat) : Int) + ((aD M.aA.cnt x.bF.Base.Unique : Nat) : Int) + ((x.bF.Log.length : Nat) : Int) + 1 + 1 + ((aD M.Item.cnt x.aC.Base.Items : Nat) : Int) + 1 + 1 + 1 + 1 + ((aD M.aW.cnt x.aC.Sync.aV.Writes : Nat) : Int) + 1 + 1 + 1) 3) == 0)⟩, fun n pre post hl => ?_, fun n l i hi hl => ?_⟩
  · have hl' := le_max hl
    have hp : pre.length < 9223372036854775807 := by simp at hl'; omega
    simp only [cN]
    rw [if_pos (aAl pre post x)]
    simp (maxSteps := 2000000) only [sX, sS, Option.bind_some, bD hp, t0, w0, t1, w1, t2, w2, w3, w4, w5, a1, t7, w7, w8, a2, a3, a4, w12, t13, w13, a5, w15, w16, w17, w18, a6, w20, w21, w22, w23]
    rw [hE]
  · have hl' := le_max hl
    have hp : i < 9223372036854775807 := by have := (List.getElem?_eq_some_iff.1 hi).1; omega
    simp only [cM]
    rw [if_pos (aCg hi)]
    simp (maxSteps := 2000000) only [aAe hi, Option.bind_some, bD hp, t0, w0, t1, w1, t2, w2, w3, w4, w5, b1, d1, t7, w7, w8, b2, d2, b3, d3, b4, d4, w12, t13, w13, b5, d5, w15, w16, w17, w18, b6, d6, w20, w21, w22, w23, bne_self_eq_false, beq_self_eq_true, Bool.not_true, Bool.false_eq_true, if_false]
    rw [hE]
theorem M.aCp.hD (xs : List M.aE) (hx : (xs.length ≤ maxLen ∧ ∀ y ∈ xs, M.aE.ok y)) (k : Int) (h0 : 0 ≤ k) (hB : k + ((aD M.aE.cnt xs : Nat) : Int) ≤ KB) : ∃ ys, oI xs k = some (ys, k + ((aD M.aE.cnt xs : Nat) : Int)) ∧ pH ys k = some (k + ((aD M.aE.cnt xs : Nat) : Int)) ∧ ys.length = xs.length := by
  have hm := le_max hx.1
  obtain ⟨ys, h1, h2, h3⟩ := lB (ML := cN) (HL := cM) (c := M.aE.cnt) (ok := M.aE.ok) (fun x hx k h0 hB => M.aE.pL x hx k h0 hB) (fun n k l => by simp only [cN]; rw [if_neg (by rw [aO]; simp)]) (fun n k l => by simp only [cM]; rw [if_neg (by rw [aO]; simp)]) xs [] fuel k (by simpa using hx.1) (by unfold fuel; omega) hx.2 h0 hB
  refine ⟨ys, by unfold oI; simpa using h2, by unfold pH; simpa using h3 fuel (by unfold fuel; omega), h1⟩
def M.aJ.cnt (x : M.aJ) : Nat := 2
set_option maxHeartbeats 4000000 in
theorem M.aJ.pL (x : M.aJ) (hx : M.aJ.ok x) (k : Int) (h0 : 0 ≤ k) (hB : k + ((M.aJ.cnt x : Nat) : Int) ≤ KB) : ∃ x' : M.aJ, (∀ n (pre post : List M.aJ), (pre ++ x :: post).length ≤ maxLen → cK (n + 1) k pre.length (pre ++ x :: post) = cK n (k + ((M.aJ.cnt x : Nat) : Int)) ((pre.length + 1 : Nat) : Int) (pre ++ x' :: post)) ∧ ∀ n (l : List M.aJ) (i : Nat), l[i]? = some x' → l.length ≤ maxLen → dO l (n + 1) k i = dO l n (k + ((M.aJ.cnt x : Nat) : Int)) ((i + 1 : Nat) : Int) := by
  unfold KB at hB; unfold M.aJ.cnt at hB ⊢
  have A : (0 ≤ k ∧ k ≤ KB) ∧ (0 ≤ k + 1 ∧ k + 1 ≤ KB) ∧ (0 ≤ k + 1 + 1 ∧ k + 1 + 1 ≤ KB) := by
    unfold KB
    refine ⟨?_, ?_, ?_⟩ <;> omega
  have hE : k + 1 + 1 = k + ((M.aJ.cnt x : Nat) : Int) := by unfold M.aJ.cnt; omega
  unfold M.aJ.cnt at hE
  obtain ⟨q0, q1, q2⟩ := A
  have t0 : aF (k) = some (mtx (k)) := mt q0.1 (Int.lt_of_add_one_le q1.2)
  have w0 := wk2 q0
  have w1 := wk2 q1
  refine ⟨⟨(mtx (k)), k + 1⟩, fun n pre post hl => ?_, fun n l i hi hl => ?_⟩
  · have hl' := le_max hl
    have hp : pre.length < 9223372036854775807 := by simp at hl'; omega
    simp only [cK]
    rw [if_pos (aAl pre post x)]
    simp (maxSteps := 2000000) only [sX, sS, Option.bind_some, bD hp, t0, w0, w1]
    rw [hE]
  · have hl' := le_max hl
    have hp : i < 9223372036854775807 := by have := (List.getElem?_eq_some_iff.1 hi).1; omega
    simp only [dO]
    rw [if_pos (aCg hi)]
    simp (maxSteps := 2000000) only [aAe hi, Option.bind_some, bD hp, t0, w0, w1, bne_self_eq_false, beq_self_eq_true, Bool.not_true, Bool.false_eq_true, if_false]
    rw [hE]
theorem M.aCo.hD (xs : List M.aJ) (hx : (xs.length ≤ maxLen ∧ ∀ y ∈ xs, M.aJ.ok y)) (k : Int) (h0 : 0 ≤ k) (hB : k + ((aD M.aJ.cnt xs : Nat) : Int) ≤ KB) : ∃ ys, oA xs k = some (ys, k + ((aD M.aJ.cnt xs : Nat) : Int)) ∧ pA ys k = some (k + ((aD M.aJ.cnt xs : Nat) : Int)) ∧ ys.length = xs.length := by
  have hm := le_max hx.1
  obtain ⟨ys, h1, h2, h3⟩ := lB (ML := cK) (HL := dO) (c := M.aJ.cnt) (ok := M.aJ.ok) (fun x hx k h0 hB => M.aJ.pL x hx k h0 hB) (fun n k l => by simp only [cK]; rw [if_neg (by rw [aO]; simp)]) (fun n k l => by simp only [dO]; rw [if_neg (by rw [aO]; simp)]) xs [] fuel k (by simpa using hx.1) (by unfold fuel; omega) hx.2 h0 hB
  refine ⟨ys, by unfold oA; simpa using h2, by unfold pA; simpa using h3 fuel (by unfold fuel; omega), h1⟩
def M.Instr.cnt (x : M.Instr) : Nat := 4
set_option maxHeartbeats 4000000 in
theorem M.Instr.pL (x : M.Instr) (hx : M.Instr.ok x) (k : Int) (h0 : 0 ≤ k) (hB : k + ((M.Instr.cnt x : Nat) : Int) ≤ KB) : ∃ x' : M.Instr, (∀ n (pre post : List M.Instr), (pre ++ x :: post).length ≤ maxLen → dC (n + 1) k pre.length (pre ++ x :: post) = dC n (k + ((M.Instr.cnt x : Nat) : Int)) ((pre.length + 1 : Nat) : Int) (pre ++ x' :: post)) ∧ ∀ n (l : List M.Instr) (i : Nat), l[i]? = some x' → l.length ≤ maxLen → eO l (n + 1) k i = eO l n (k + ((M.Instr.cnt x : Nat) : Int)) ((i + 1 : Nat) : Int) := by
  unfold KB at hB; unfold M.Instr.cnt at hB ⊢
  have A : (0 ≤ k ∧ k ≤ KB) ∧ (0 ≤ k + 1 ∧ k + 1 ≤ KB) ∧ (0 ≤ k + 1 + 1 ∧ k + 1 + 1 ≤ KB) ∧ (0 ≤ k + 1 + 1 + 1 ∧ k + 1 + 1 + 1 ≤ KB) ∧ (0 ≤ k + 1 + 1 + 1 + 1 ∧ k + 1 + 1 + 1 + 1 ≤ KB) := by
    unfold KB
    refine ⟨?_, ?_, ?_, ?_, ?_⟩ <;> omega
  have hE : k + 1 + 1 + 1 + 1 = k + ((M.Instr.cnt x : Nat) : Int) := by unfold M.Instr.cnt; omega
  unfold M.Instr.cnt at hE
  obtain ⟨q0, q1, q2, q3, q4⟩ := A
  have w0 := wk2 q0
  have w1 := wk2 q1
  have w2 := wk2 q2
  have t3 : aF (k + 1 + 1 + 1) = some (mtx (k + 1 + 1 + 1)) := mt q3.1 (Int.lt_of_add_one_le q4.2)
  have w3 := wk2 q3
  refine ⟨⟨k, k + 1, k + 1 + 1, (mtx (k + 1 + 1 + 1))⟩, fun n pre post hl => ?_, fun n l i hi hl => ?_⟩
  · have hl' := le_max hl
    have hp : pre.length < 9223372036854775807 := by simp at hl'; omega
    simp only [dC]
    rw [if_pos (aAl pre post x)]
    simp (maxSteps := 2000000) only [sX, sS, Option.bind_some, bD hp, w0, w1, w2, t3, w3]
    rw [hE]
  · have hl' := le_max hl
    have hp : i < 9223372036854775807 := by have := (List.getElem?_eq_some_iff.1 hi).1; omega
    simp only [eO]
    rw [if_pos (aCg hi)]
    simp (maxSteps := 2000000) only [aAe hi, Option.bind_some, bD hp, w0, w1, w2, t3, w3, bne_self_eq_false, beq_self_eq_true, Bool.not_true, Bool.false_eq_true, if_false]
    rw [hE]
theorem M.aE6.hD (xs : List M.Instr) (hx : (xs.length ≤ maxLen ∧ ∀ y ∈ xs, M.Instr.ok y)) (k : Int) (h0 : 0 ≤ k) (hB : k + ((aD M.Instr.cnt xs : Nat) : Int) ≤ KB) : ∃ ys, rQ xs k = some (ys, k + ((aD M.Instr.cnt xs : Nat) : Int)) ∧ rR ys k = some (k + ((aD M.Instr.cnt xs : Nat) : Int)) ∧ ys.length = xs.length := by
  have hm := le_max hx.1
  obtain ⟨ys, h1, h2, h3⟩ := lB (ML := dC) (HL := eO) (c := M.Instr.cnt) (ok := M.Instr.ok) (fun x hx k h0 hB => M.Instr.pL x hx k h0 hB) (fun n k l => by simp only [dC]; rw [if_neg (by rw [aO]; simp)]) (fun n k l => by simp only [eO]; rw [if_neg (by rw [aO]; simp)]) xs [] fuel k (by simpa using hx.1) (by unfold fuel; omega) hx.2 h0 hB
  refine ⟨ys, by unfold rQ; simpa using h2, by unfold rR; simpa using h3 fuel (by unfold fuel; omega), h1⟩
set_option maxHeartbeats 4000000 in
theorem M.aKi.pL (x : Int) (hx : True) (k : Int) (h0 : 0 ≤ k) (hB : k + (((fun _ : Int => 1) x : Nat) : Int) ≤ KB) : ∃ x' : Int, (∀ n (pre post : List Int), (pre ++ x :: post).length ≤ maxLen → eR (n + 1) k pre.length (pre ++ x :: post) = eR n (k + (((fun _ : Int => 1) x : Nat) : Int)) ((pre.length + 1 : Nat) : Int) (pre ++ x' :: post)) ∧ ∀ n (l : List Int) (i : Nat), l[i]? = some x' → l.length ≤ maxLen → fV l (n + 1) k i = fV l n (k + (((fun _ : Int => 1) x : Nat) : Int)) ((i + 1 : Nat) : Int) := by
  unfold KB at hB; (try simp only [] at hB ⊢)
  have A : (0 ≤ k ∧ k ≤ KB) ∧ (0 ≤ k + 1 ∧ k + 1 ≤ KB) := by
    unfold KB
    refine ⟨?_, ?_⟩ <;> omega
  have hE : k + 1 = k + (((fun _ : Int => 1) x : Nat) : Int) := by simp
  obtain ⟨q0, q1⟩ := A
  have w0 := wk2 q0
  refine ⟨k, fun n pre post hl => ?_, fun n l i hi hl => ?_⟩
  · have hl' := le_max hl
    have hp : pre.length < 9223372036854775807 := by simp at hl'; omega
    simp only [eR]
    rw [if_pos (aAl pre post x)]
    simp (maxSteps := 2000000) only [sX, sS, Option.bind_some, bD hp, w0]
    rw [hE]
  · have hl' := le_max hl
    have hp : i < 9223372036854775807 := by have := (List.getElem?_eq_some_iff.1 hi).1; omega
    simp only [fV]
    rw [if_pos (aCg hi)]
    simp (maxSteps := 2000000) only [aAe hi, Option.bind_some, bD hp, w0, bne_self_eq_false, beq_self_eq_true, Bool.not_true, Bool.false_eq_true, if_false]
    rw [hE]
theorem M.aKi.cl (xs : List Int) : aD (fun _ : Int => 1) xs = xs.length := by
  induction xs with
  | nil => rfl
  | cons x xs ih => simp only [aD, ih, List.length_cons]; omega
theorem M.aKi.hD (xs : List Int) (hx : okI xs) (k : Int) (h0 : 0 ≤ k) (hB : k + ((xs.length : Nat) : Int) ≤ KB) : ∃ ys, wC xs k = some (ys, k + ((xs.length : Nat) : Int)) ∧ xG ys k = some (k + ((xs.length : Nat) : Int)) ∧ ys.length = xs.length := by
  have hm := le_max hx.1
  rw [← M.aKi.cl xs] at hB ⊢
  obtain ⟨ys, h1, h2, h3⟩ := lB (ML := eR) (HL := fV) (c := (fun _ : Int => 1)) (ok := (fun _ : Int => True)) (fun x hx k h0 hB => M.aKi.pL x hx k h0 hB) (fun n k l => by simp only [eR]; rw [if_neg (by rw [aO]; simp)]) (fun n k l => by simp only [fV]; rw [if_neg (by rw [aO]; simp)]) xs [] fuel k (by simpa using hx.1) (by unfold fuel; omega) (fun _ _ => trivial) h0 hB
  refine ⟨ys, by unfold wC; simpa using h2, by unfold xG; simpa using h3 fuel (by unfold fuel; omega), by have := M.aKi.cl xs; omega⟩
def M.bG.cnt (x : M.bG) : Nat := 8 + (aD M.aJ.cnt x.aJ) + (aD M.Instr.cnt x.Machine.Script) + (x.Machine.Regs.length)
set_option maxHeartbeats 4000000 in
theorem M.bG.pL (x : M.bG) (hx : M.bG.ok x) (k : Int) (h0 : 0 ≤ k) (hB : k + ((M.bG.cnt x : Nat) : Int) ≤ KB) : ∃ x' : M.bG, (∀ n (pre post : List M.bG), (pre ++ x :: post).length ≤ maxLen → dX (n + 1) k pre.length (pre ++ x :: post) = dX n (k + ((M.bG.cnt x : Nat) : Int)) ((pre.length + 1 : Nat) : Int) (pre ++ x' :: post)) ∧ ∀ n (l : List M.bG) (i : Nat), l[i]? = some x' → l.length ≤ maxLen → dS l (n + 1) k i = dS l n (k + ((M.bG.cnt x : Nat) : Int)) ((i + 1 : Nat) : Int) := by
  unfold KB at hB; unfold M.bG.cnt at hB ⊢
  have A : (0 ≤ k ∧ k ≤ KB) ∧ (0 ≤ k + 1 ∧ k + 1 ≤ KB) ∧ (0 ≤ k + 1 + 1 ∧ k + 1 + 1 ≤ KB) ∧ (0 ≤ k + 1 + 1 + 1 ∧ k + 1 + 1 + 1 ≤ KB) ∧ (0 ≤ k + 1 + 1 + 1 + 1 ∧ k + 1 + 1 + 1 + 1 ≤ KB) ∧ (0 ≤ k + 1 + 1 + 1 + 1 + ((aD M.aJ.cnt x.aJ : Nat) : Int) ∧ k + 1 + 1 + 1 + 1 + ((aD M.aJ.cnt x.aJ : Nat) : Int) ≤ KB) ∧ (0 ≤ k + 1 + 1 + 1 + 1 + ((aD M.aJ.cnt x.aJ : Nat) : Int) + ((aD M.Instr.cnt x.Machine.Script : Nat) : Int) ∧ k + 1 + 1 + 1 + 1 + ((aD M.aJ.cnt x.aJ : Nat) : Int) + ((aD M.Instr.cnt x.Machine.Script : Nat) : Int) ≤ KB) ∧ (0 ≤ k + 1 + 1 + 1 + 1 + ((aD M.aJ.cnt x.aJ : Nat) : Int) + ((aD M.Instr.cnt x.Machine.Script : Nat) : Int) + 1 ∧ k + 1 + 1 + 1 + 1 + ((aD M.aJ.cnt x.aJ : Nat) : Int) + ((aD M.Instr.cnt x.Machine.Script : Nat) : Int) + 1 ≤ KB) ∧ (0 ≤ k + 1 + 1 + 1 + 1 + ((aD M.aJ.cnt x.aJ : Nat) : Int) + ((aD M.Instr.cnt x.Machine.Script : Nat) : Int) + 1 + ((x.Machine.Regs.length : Nat) : Int) ∧ k + 1 + 1 + 1 + 1 + ((aD M.aJ.cnt x.aJ : Nat) : Int) + ((aD M.Instr.cnt x.Machine.Script : Nat) : Int) + 1 + ((x.Machine.Regs.length : Nat) : Int) ≤ KB) ∧ (0 ≤ k + 1 + 1 + 1 + 1 + ((aD M.aJ.cnt x.aJ : Nat) : Int) + ((aD M.Instr.cnt x.Machine.Script : Nat) : Int) + 1 + ((x.Machine.Regs.length : Nat) : Int) + 1 ∧ k + 1 + 1 + 1 + 1 + ((aD M.aJ.cnt x.aJ : Nat) : Int) + ((aD M.Instr.cnt x.Machine.Script : Nat) : Int) + 1 + ((x.Machine.Regs.length : Nat) : Int) + 1 ≤ KB) ∧ (0 ≤ k + 1 + 1 + 1 + 1 + ((aD M.aJ.cnt x.aJ : Nat) : Int) + ((aD M.Instr.cnt x.Machine.Script : Nat) : Int) + 1 + ((x.Machine.Regs.length : Nat) : Int) + 1 + 1 ∧ k + 1 + 1 + 1 + 1 + ((aD M.aJ.cnt x.aJ : Nat) : Int) + ((aD M.Instr.cnt x.Machine.Script : Nat) : Int) + 1 + ((x.Machine.Regs.length : Nat) : Int) + 1 + 1 ≤ KB) ∧ (0 ≤ k + 1 + 1 + 1 + 1 + ((aD M.aJ.cnt x.aJ : Nat) : Int) + ((aD M.Instr.cnt x.Machine.Script : Nat) : Int) + 1 + ((x.Machine.Regs.length : Nat) : Int) + 1 + 1 + 1 ∧ k + 1 + 1 + 1 + 1 + ((aD M.aJ.cnt x.aJ : Nat) : Int) + ((aD M.Instr.cnt x.Machine.Script : Nat) : Int) + 1 + ((x.Machine.Regs.length : Nat) : Int) + 1 + 1 + 1 ≤ KB) := by
    unfold KB
    refine ⟨?_, ?_, ?_, ?_, ?_, ?_, ?_, ?_, ?_, ?_, ?_, ?_⟩ <;> omega
  have hE : k + 1 + 1 + 1 + 1 + ((aD M.aJ.cnt x.aJ : Nat) : Int) + ((aD M.Instr.cnt x.Machine.Script : Nat) : Int) + 1 + ((x.Machine.Regs.length : Nat) : Int) + 1 + 1 + 1 = k + ((M.bG.cnt x : Nat) : Int) := by unfold M.bG.cnt; omega
  unfold M.bG.cnt at hE
  obtain ⟨q0, q1, q2, q3, q4, q5, q6, q7, q8, q9, q10, q11⟩ := A
  have w0 := wk2 q0
  have t1 : aF (k + 1) = some (mtx (k + 1)) := mt q1.1 (Int.lt_of_add_one_le q2.2)
  have w1 := wk2 q1
  have t2 : aF (k + 1 + 1) = some (mtx (k + 1 + 1)) := mt q2.1 (Int.lt_of_add_one_le q3.2)
  have w2 := wk2 q2
  have w3 := wk2 q3
  obtain ⟨y1, a1, b1, _⟩ := M.aCo.hD _ hx.aJ (k + 1 + 1 + 1 + 1) q4.1 q5.2
  have d1 : (decide (k + 1 + 1 + 1 + 1 + ((aD M.aJ.cnt x.aJ : Nat) : Int) < 0)) = false := dk q5.1
  obtain ⟨y2, a2, b2, _⟩ := M.aE6.hD _ hx.Machine.Script (k + 1 + 1 + 1 + 1 + ((aD M.aJ.cnt x.aJ : Nat) : Int)) q5.1 q6.2
  have d2 : (decide (k + 1 + 1 + 1 + 1 + ((aD M.aJ.cnt x.aJ : Nat) : Int) + ((aD M.Instr.cnt x.Machine.Script : Nat) : Int) < 0)) = false := dk q6.1
  have w6 := wk2 q6
  obtain ⟨y3, a3, b3, _⟩ := M.aKi.hD _ hx.Machine.Regs (k + 1 + 1 + 1 + 1 + ((aD M.aJ.cnt x.aJ : Nat) : Int) + ((aD M.Instr.cnt x.Machine.Script : Nat) : Int) + 1) q7.1 q8.2
  have d3 : (decide (k + 1 + 1 + 1 + 1 + ((aD M.aJ.cnt x.aJ : Nat) : Int) + ((aD M.Instr.cnt x.Machine.Script : Nat) : Int) + 1 + ((x.Machine.Regs.length : Nat) : Int) < 0)) = false := dk q8.1
  have w8 := wk2 q8
  have w9 := wk2 q9
  have w10 := wk2 q10
  refine ⟨⟨k, (mtx (k + 1)), (mtx (k + 1 + 1)), k + 1 + 1 + 1, y1, ⟨y2, k + 1 + 1 + 1 + 1 + ((aD M.aJ.cnt x.aJ : Nat) : Int) + ((aD M.Instr.cnt x.Machine.Script : Nat) : Int), y3, k + 1 + 1 + 1 + 1 + ((aD M.aJ.cnt x.aJ : Nat) : Int) + ((aD M.Instr.cnt x.Machine.Script : Nat) : Int) + 1 + ((x.Machine.Regs.length : Nat) : Int), ((Int.tmod (k + 1 + 1 + 1 + 1 + ((aD M.aJ.cnt x.aJ : Nat) : Int) + ((aD M.Instr.cnt x.Machine.Script : Nat) : Int) + 1 + ((x.Machine.Regs.length : Nat) : Int) + 1) 3) == 0), ((Int.tmod (k + 1 + 1 + 1 + 1 + ((aD M.aJ.cnt x.aJ : Nat) : Int) + ((aD M.Instr.cnt x.Machine.Script : Nat) : Int) + 1 + ((x.Machine.Regs.length : Nat) : Int) + 1 + 1) 3) == 0)⟩⟩, fun n pre post hl => ?_, fun n l i hi hl => ?_⟩
  · have hl' := le_max hl
    have hp : pre.length < 9223372036854775807 := by simp at hl'; omega
    simp only [dX]
    rw [if_pos (aAl pre post x)]
    simp (maxSteps := 2000000) only [sX, sS, Option.bind_some, bD hp, w0, t1, w1, t2, w2, w3, a1, a2, w6, a3, w8, w9, w10]
    rw [hE]
  · have hl' := le_max hl
    have hp : i < 9223372036854775807 := by have := (List.getElem?_eq_some_iff.1 hi).1; omega
    simp only [dS]
    rw [if_pos (aCg hi)]
    simp (maxSteps := 2000000) only [aAe hi, Option.bind_some, bD hp, w0, t1, w1, t2, w2, w3, b1, d1, b2, d2, w6, b3, d3, w8, w9, w10, bne_self_eq_false, beq_self_eq_true, Bool.not_true, Bool.false_eq_true, if_false]
    rw [hE]
theorem M.aIf.hD (xs : List M.bG) (hx : (xs.length ≤ maxLen ∧ ∀ y ∈ xs, M.bG.ok y)) (k : Int) (h0 : 0 ≤ k) (hB : k + ((aD M.bG.cnt xs : Nat) : Int) ≤ KB) : ∃ ys, uS xs k = some (ys, k + ((aD M.bG.cnt xs : Nat) : Int)) ∧ tN ys k = some (k + ((aD M.bG.cnt xs : Nat) : Int)) ∧ ys.length = xs.length := by
  have hm := le_max hx.1
  obtain ⟨ys, h1, h2, h3⟩ := lB (ML := dX) (HL := dS) (c := M.bG.cnt) (ok := M.bG.ok) (fun x hx k h0 hB => M.bG.pL x hx k h0 hB) (fun n k l => by simp only [dX]; rw [if_neg (by rw [aO]; simp)]) (fun n k l => by simp only [dS]; rw [if_neg (by rw [aO]; simp)]) xs [] fuel k (by simpa using hx.1) (by unfold fuel; omega) hx.2 h0 hB
  refine ⟨ys, by unfold uS; simpa using h2, by unfold tN; simpa using h3 fuel (by unfold fuel; omega), h1⟩
def M.cF.cnt (x : M.cF) : Nat := 4
set_option maxHeartbeats 4000000 in
theorem M.cF.pL (x : M.cF) (hx : M.cF.ok x) (k : Int) (h0 : 0 ≤ k) (hB : k + ((M.cF.cnt x : Nat) : Int) ≤ KB) : ∃ x' : M.cF, (∀ n (pre post : List M.cF), (pre ++ x :: post).length ≤ maxLen → dQ (n + 1) k pre.length (pre ++ x :: post) = dQ n (k + ((M.cF.cnt x : Nat) : Int)) ((pre.length + 1 : Nat) : Int) (pre ++ x' :: post)) ∧ ∀ n (l : List M.cF) (i : Nat), l[i]? = some x' → l.length ≤ maxLen → fA l (n + 1) k i = fA l n (k + ((M.cF.cnt x : Nat) : Int)) ((i + 1 : Nat) : Int) := by
  unfold KB at hB; unfold M.cF.cnt at hB ⊢
  have A : (0 ≤ k ∧ k ≤ KB) ∧ (0 ≤ k + 1 ∧ k + 1 ≤ KB) ∧ (0 ≤ k + 1 + 1 ∧ k + 1 + 1 ≤ KB) ∧ (0 ≤ k + 1 + 1 + 1 ∧ k + 1 + 1 + 1 ≤ KB) ∧ (0 ≤ k + 1 + 1 + 1 + 1 ∧ k + 1 + 1 + 1 + 1 ≤ KB) := by
    unfold KB
    refine ⟨?_, ?_, ?_, ?_, ?_⟩ <;> omega
  have hE : k + 1 + 1 + 1 + 1 = k + ((M.cF.cnt x : Nat) : Int) := by unfold M.cF.cnt; omega
  unfold M.cF.cnt at hE
  obtain ⟨q0, q1, q2, q3, q4⟩ := A
  have t0 : aF (k) = some (mtx (k)) := mt q0.1 (Int.lt_of_add_one_le q1.2)
  have w0 := wk2 q0
  have w1 := wk2 q1
  have w2 := wk2 q2
  have w3 := wk2 q3
  refine ⟨⟨(mtx (k)), k + 1, ((Int.tmod (k + 1 + 1) 3) == 0), ((Int.tmod (k + 1 + 1 + 1) 3) == 0)⟩, fun n pre post hl => ?_, fun n l i hi hl => ?_⟩
  · have hl' := le_max hl
    have hp : pre.length < 9223372036854775807 := by simp at hl'; omega
    simp only [dQ]
    rw [if_pos (aAl pre post x)]
    simp (maxSteps := 2000000) only [sX, sS, Option.bind_some, bD hp, t0, w0, w1, w2, w3]
    rw [hE]
  · have hl' := le_max hl
    have hp : i < 9223372036854775807 := by have := (List.getElem?_eq_some_iff.1 hi).1; omega
    simp only [fA]
    rw [if_pos (aCg hi)]
    simp (maxSteps := 2000000) only [aAe hi, Option.bind_some, bD hp, t0, w0, w1, w2, w3, bne_self_eq_false, beq_self_eq_true, Bool.not_true, Bool.false_eq_true, if_false]
    rw [hE]
theorem M.aIz.hD (xs : List M.cF) (hx : (xs.length ≤ maxLen ∧ ∀ y ∈ xs, M.cF.ok y)) (k : Int) (h0 : 0 ≤ k) (hB : k + ((aD M.cF.cnt xs : Nat) : Int) ≤ KB) : ∃ ys, uK xs k = some (ys, k + ((aD M.cF.cnt xs : Nat) : Int)) ∧ uD ys k = some (k + ((aD M.cF.cnt xs : Nat) : Int)) ∧ ys.length = xs.length := by
  have hm := le_max hx.1
  obtain ⟨ys, h1, h2, h3⟩ := lB (ML := dQ) (HL := fA) (c := M.cF.cnt) (ok := M.cF.ok) (fun x hx k h0 hB => M.cF.pL x hx k h0 hB) (fun n k l => by simp only [dQ]; rw [if_neg (by rw [aO]; simp)]) (fun n k l => by simp only [fA]; rw [if_neg (by rw [aO]; simp)]) xs [] fuel k (by simpa using hx.1) (by unfold fuel; omega) hx.2 h0 hB
  refine ⟨ys, by unfold uK; simpa using h2, by unfold uD; simpa using h3 fuel (by unfold fuel; omega), h1⟩
def M.fH.cnt (x : M.fH) : Nat := 3
set_option maxHeartbeats 4000000 in
theorem M.fH.pL (x : M.fH) (hx : M.fH.ok x) (k : Int) (h0 : 0 ≤ k) (hB : k + ((M.fH.cnt x : Nat) : Int) ≤ KB) : ∃ x' : M.fH, (∀ n (pre post : List M.fH), (pre ++ x :: post).length ≤ maxLen → dW (n + 1) k pre.length (pre ++ x :: post) = dW n (k + ((M.fH.cnt x : Nat) : Int)) ((pre.length + 1 : Nat) : Int) (pre ++ x' :: post)) ∧ ∀ n (l : List M.fH) (i : Nat), l[i]? = some x' → l.length ≤ maxLen → fB l (n + 1) k i = fB l n (k + ((M.fH.cnt x : Nat) : Int)) ((i + 1 : Nat) : Int) := by
  unfold KB at hB; unfold M.fH.cnt at hB ⊢
  have A : (0 ≤ k ∧ k ≤ KB) ∧ (0 ≤ k + 1 ∧ k + 1 ≤ KB) ∧ (0 ≤ k + 1 + 1 ∧ k + 1 + 1 ≤ KB) ∧ (0 ≤ k + 1 + 1 + 1 ∧ k + 1 + 1 + 1 ≤ KB) := by
    unfold KB
    refine ⟨?_, ?_, ?_, ?_⟩ <;> omega
  have hE : k + 1 + 1 + 1 = k + ((M.fH.cnt x : Nat) : Int) := by unfold M.fH.cnt; omega
  unfold M.fH.cnt at hE
  obtain ⟨q0, q1, q2, q3⟩ := A
  have w0 := wk2 q0
  have w1 := wk2 q1
  have w2 := wk2 q2
  refine ⟨⟨k, k + 1, k + 1 + 1⟩, fun n pre post hl => ?_, fun n l i hi hl => ?_⟩
  · have hl' := le_max hl
    have hp : pre.length < 9223372036854775807 := by simp at hl'; omega
    simp only [dW]
    rw [if_pos (aAl pre post x)]
    simp (maxSteps := 2000000) only [sX, sS, Option.bind_some, bD hp, w0, w1, w2]
    rw [hE]
  · have hl' := le_max hl
    have hp : i < 9223372036854775807 := by have := (List.getElem?_eq_some_iff.1 hi).1; omega
    simp only [fB]
    rw [if_pos (aCg hi)]
    simp (maxSteps := 2000000) only [aAe hi, Option.bind_some, bD hp, w0, w1, w2, bne_self_eq_false, beq_self_eq_true, Bool.not_true, Bool.false_eq_true, if_false]
    rw [hE]
theorem M.aIs.hD (xs : List M.fH) (hx : (xs.length ≤ maxLen ∧ ∀ y ∈ xs, M.fH.ok y)) (k : Int) (h0 : 0 ≤ k) (hB : k + ((aD M.fH.cnt xs : Nat) : Int) ≤ KB) : ∃ ys, uV xs k = some (ys, k + ((aD M.fH.cnt xs : Nat) : Int)) ∧ sY ys k = some (k + ((aD M.fH.cnt xs : Nat) : Int)) ∧ ys.length = xs.length := by
  have hm := le_max hx.1
  obtain ⟨ys, h1, h2, h3⟩ := lB (ML := dW) (HL := fB) (c := M.fH.cnt) (ok := M.fH.ok) (fun x hx k h0 hB => M.fH.pL x hx k h0 hB) (fun n k l => by simp only [dW]; rw [if_neg (by rw [aO]; simp)]) (fun n k l => by simp only [fB]; rw [if_neg (by rw [aO]; simp)]) xs [] fuel k (by simpa using hx.1) (by unfold fuel; omega) hx.2 h0 hB
  refine ⟨ys, by unfold uV; simpa using h2, by unfold sY; simpa using h3 fuel (by unfold fuel; omega), h1⟩
set_option maxHeartbeats 4000000 in
theorem M.aBE.pL (x : ByteArray) (hx : True) (k : Int) (h0 : 0 ≤ k) (hB : k + (((fun _ : ByteArray => 1) x : Nat) : Int) ≤ KB) : ∃ x' : ByteArray, (∀ n (pre post : List ByteArray), (pre ++ x :: post).length ≤ maxLen → cR (n + 1) k pre.length (pre ++ x :: post) = cR n (k + (((fun _ : ByteArray => 1) x : Nat) : Int)) ((pre.length + 1 : Nat) : Int) (pre ++ x' :: post)) ∧ ∀ n (l : List ByteArray) (i : Nat), l[i]? = some x' → l.length ≤ maxLen → dN l (n + 1) k i = dN l n (k + (((fun _ : ByteArray => 1) x : Nat) : Int)) ((i + 1 : Nat) : Int) := by
  unfold KB at hB; (try simp only [] at hB ⊢)
  have A : (0 ≤ k ∧ k ≤ KB) ∧ (0 ≤ k + 1 ∧ k + 1 ≤ KB) := by
    unfold KB
    refine ⟨?_, ?_⟩ <;> omega
  have hE : k + 1 = k + (((fun _ : ByteArray => 1) x : Nat) : Int) := by simp
  obtain ⟨q0, q1⟩ := A
  have t0 : aF (k) = some (mtx (k)) := mt q0.1 (Int.lt_of_add_one_le q1.2)
  have w0 := wk2 q0
  refine ⟨(mtx (k)), fun n pre post hl => ?_, fun n l i hi hl => ?_⟩
  · have hl' := le_max hl
    have hp : pre.length < 9223372036854775807 := by simp at hl'; omega
    simp only [cR]
    rw [if_pos (aAl pre post x)]
    simp (maxSteps := 2000000) only [sX, sS, Option.bind_some, bD hp, t0, w0]
    rw [hE]
  · have hl' := le_max hl
    have hp : i < 9223372036854775807 := by have := (List.getElem?_eq_some_iff.1 hi).1; omega
    simp only [dN]
    rw [if_pos (aCg hi)]
    simp (maxSteps := 2000000) only [aAe hi, Option.bind_some, bD hp, t0, w0, bne_self_eq_false, beq_self_eq_true, Bool.not_true, Bool.false_eq_true, if_false]
    rw [hE]
theorem M.aBE.cl (xs : List ByteArray) : aD (fun _ : ByteArray => 1) xs = xs.length := by
  induction xs with
  | nil => rfl
  | cons x xs ih => simp only [aD, ih, List.length_cons]; omega
theorem M.aBE.hD (xs : List ByteArray) (hx : okS xs) (k : Int) (h0 : 0 ≤ k) (hB : k + ((xs.length : Nat) : Int) ≤ KB) : ∃ ys, oR xs k = some (ys, k + ((xs.length : Nat) : Int)) ∧ oC ys k = some (k + ((xs.length : Nat) : Int)) ∧ ys.length = xs.length := by
  have hm := le_max hx.1
  rw [← M.aBE.cl xs] at hB ⊢
  obtain ⟨ys, h1, h2, h3⟩ := lB (ML := cR) (HL := dN) (c := (fun _ : ByteArray => 1)) (ok := (fun _ : ByteArray => True)) (fun x hx k h0 hB => M.aBE.pL x hx k h0 hB) (fun n k l => by simp only [cR]; rw [if_neg (by rw [aO]; simp)]) (fun n k l => by simp only [dN]; rw [if_neg (by rw [aO]; simp)]) xs [] fuel k (by simpa using hx.1) (by unfold fuel; omega) (fun _ _ => trivial) h0 hB
  refine ⟨ys, by unfold oR; simpa using h2, by unfold oC; simpa using h3 fuel (by unfold fuel; omega), by have := M.aBE.cl xs; omega⟩
def M.Site.cnt (x : M.Site) : Nat := 3 + (x.Files.length)
set_option maxHeartbeats 4000000 in
theorem M.Site.pL (x : M.Site) (hx : M.Site.ok x) (k : Int) (h0 : 0 ≤ k) (hB : k + ((M.Site.cnt x : Nat) : Int) ≤ KB) : ∃ x' : M.Site, (∀ n (pre post : List M.Site), (pre ++ x :: post).length ≤ maxLen → dV (n + 1) k pre.length (pre ++ x :: post) = dV n (k + ((M.Site.cnt x : Nat) : Int)) ((pre.length + 1 : Nat) : Int) (pre ++ x' :: post)) ∧ ∀ n (l : List M.Site) (i : Nat), l[i]? = some x' → l.length ≤ maxLen → eX l (n + 1) k i = eX l n (k + ((M.Site.cnt x : Nat) : Int)) ((i + 1 : Nat) : Int) := by
  unfold KB at hB; unfold M.Site.cnt at hB ⊢
  have A : (0 ≤ k ∧ k ≤ KB) ∧ (0 ≤ k + 1 ∧ k + 1 ≤ KB) ∧ (0 ≤ k + 1 + 1 ∧ k + 1 + 1 ≤ KB) ∧ (0 ≤ k + 1 + 1 + ((x.Files.length : Nat) : Int) ∧ k + 1 + 1 + ((x.Files.length : Nat) : Int) ≤ KB) ∧ (0 ≤ k + 1 + 1 + ((x.Files.length : Nat) : Int) + 1 ∧ k + 1 + 1 + ((x.Files.length : Nat) : Int) + 1 ≤ KB) := by
    unfold KB
    refine ⟨?_, ?_, ?_, ?_, ?_⟩ <;> omega
  have hE : k + 1 + 1 + ((x.Files.length : Nat) : Int) + 1 = k + ((M.Site.cnt x : Nat) : Int) := by unfold M.Site.cnt; omega
  unfold M.Site.cnt at hE
  obtain ⟨q0, q1, q2, q3, q4⟩ := A
  have t0 : aF (k) = some (mtx (k)) := mt q0.1 (Int.lt_of_add_one_le q1.2)
  have w0 := wk2 q0
  have w1 := wk2 q1
  obtain ⟨y1, a1, b1, _⟩ := M.aBE.hD _ hx.Files (k + 1 + 1) q2.1 q3.2
  have d1 : (decide (k + 1 + 1 + ((x.Files.length : Nat) : Int) < 0)) = false := dk q3.1
  have w3 := wk2 q3
  refine ⟨⟨(mtx (k)), k + 1, y1, ((Int.tmod (k + 1 + 1 + ((x.Files.length : Nat) : Int)) 3) == 0)⟩, fun n pre post hl => ?_, fun n l i hi hl => ?_⟩
  · have hl' := le_max hl
    have hp : pre.length < 9223372036854775807 := by simp at hl'; omega
    simp only [dV]
    rw [if_pos (aAl pre post x)]
    simp (maxSteps := 2000000) only [sX, sS, Option.bind_some, bD hp, t0, w0, w1, a1, w3]
    rw [hE]
  · have hl' := le_max hl
    have hp : i < 9223372036854775807 := by have := (List.getElem?_eq_some_iff.1 hi).1; omega
    simp only [eX]
    rw [if_pos (aCg hi)]
    simp (maxSteps := 2000000) only [aAe hi, Option.bind_some, bD hp, t0, w0, w1, b1, d1, w3, bne_self_eq_false, beq_self_eq_true, Bool.not_true, Bool.false_eq_true, if_false]
    rw [hE]
theorem M.aIj.hD (xs : List M.Site) (hx : (xs.length ≤ maxLen ∧ ∀ y ∈ xs, M.Site.ok y)) (k : Int) (h0 : 0 ≤ k) (hB : k + ((aD M.Site.cnt xs : Nat) : Int) ≤ KB) : ∃ ys, tD xs k = some (ys, k + ((aD M.Site.cnt xs : Nat) : Int)) ∧ tA ys k = some (k + ((aD M.Site.cnt xs : Nat) : Int)) ∧ ys.length = xs.length := by
  have hm := le_max hx.1
  obtain ⟨ys, h1, h2, h3⟩ := lB (ML := dV) (HL := eX) (c := M.Site.cnt) (ok := M.Site.ok) (fun x hx k h0 hB => M.Site.pL x hx k h0 hB) (fun n k l => by simp only [dV]; rw [if_neg (by rw [aO]; simp)]) (fun n k l => by simp only [eX]; rw [if_neg (by rw [aO]; simp)]) xs [] fuel k (by simpa using hx.1) (by unfold fuel; omega) hx.2 h0 hB
  refine ⟨ys, by unfold tD; simpa using h2, by unfold tA; simpa using h3 fuel (by unfold fuel; omega), h1⟩
def M.aH.cnt (x : M.aH) : Nat := 2
set_option maxHeartbeats 4000000 in
theorem M.aH.pL (x : M.aH) (hx : M.aH.ok x) (k : Int) (h0 : 0 ≤ k) (hB : k + ((M.aH.cnt x : Nat) : Int) ≤ KB) : ∃ x' : M.aH, (∀ n (pre post : List M.aH), (pre ++ x :: post).length ≤ maxLen → cC (n + 1) k pre.length (pre ++ x :: post) = cC n (k + ((M.aH.cnt x : Nat) : Int)) ((pre.length + 1 : Nat) : Int) (pre ++ x' :: post)) ∧ ∀ n (l : List M.aH) (i : Nat), l[i]? = some x' → l.length ≤ maxLen → cU l (n + 1) k i = cU l n (k + ((M.aH.cnt x : Nat) : Int)) ((i + 1 : Nat) : Int) := by
  unfold KB at hB; unfold M.aH.cnt at hB ⊢
  have A : (0 ≤ k ∧ k ≤ KB) ∧ (0 ≤ k + 1 ∧ k + 1 ≤ KB) ∧ (0 ≤ k + 1 + 1 ∧ k + 1 + 1 ≤ KB) := by
    unfold KB
    refine ⟨?_, ?_, ?_⟩ <;> omega
  have hE : k + 1 + 1 = k + ((M.aH.cnt x : Nat) : Int) := by unfold M.aH.cnt; omega
  unfold M.aH.cnt at hE
  obtain ⟨q0, q1, q2⟩ := A
  have w0 := wk2 q0
  have w1 := wk2 q1
  refine ⟨⟨k, k + 1⟩, fun n pre post hl => ?_, fun n l i hi hl => ?_⟩
  · have hl' := le_max hl
    have hp : pre.length < 9223372036854775807 := by simp at hl'; omega
    simp only [cC]
    rw [if_pos (aAl pre post x)]
    simp (maxSteps := 2000000) only [sX, sS, Option.bind_some, bD hp, w0, w1]
    rw [hE]
  · have hl' := le_max hl
    have hp : i < 9223372036854775807 := by have := (List.getElem?_eq_some_iff.1 hi).1; omega
    simp only [cU]
    rw [if_pos (aCg hi)]
    simp (maxSteps := 2000000) only [aAe hi, Option.bind_some, bD hp, w0, w1, bne_self_eq_false, beq_self_eq_true, Bool.not_true, Bool.false_eq_true, if_false]
    rw [hE]
theorem M.aBl.hD (xs : List M.aH) (hx : (xs.length ≤ maxLen ∧ ∀ y ∈ xs, M.aH.ok y)) (k : Int) (h0 : 0 ≤ k) (hB : k + ((aD M.aH.cnt xs : Nat) : Int) ≤ KB) : ∃ ys, mR xs k = some (ys, k + ((aD M.aH.cnt xs : Nat) : Int)) ∧ mS ys k = some (k + ((aD M.aH.cnt xs : Nat) : Int)) ∧ ys.length = xs.length := by
  have hm := le_max hx.1
  obtain ⟨ys, h1, h2, h3⟩ := lB (ML := cC) (HL := cU) (c := M.aH.cnt) (ok := M.aH.ok) (fun x hx k h0 hB => M.aH.pL x hx k h0 hB) (fun n k l => by simp only [cC]; rw [if_neg (by rw [aO]; simp)]) (fun n k l => by simp only [cU]; rw [if_neg (by rw [aO]; simp)]) xs [] fuel k (by simpa using hx.1) (by unfold fuel; omega) hx.2 h0 hB
  refine ⟨ys, by unfold mR; simpa using h2, by unfold mS; simpa using h3 fuel (by unfold fuel; omega), h1⟩
def M.Server.cnt (x : M.Server) : Nat := 2 + (aD M.Item.cnt x.aG.Items) + (aD M.aH.cnt x.aH) + (aD M.aW.cnt x.Changes)
set_option maxHeartbeats 4000000 in
theorem M.Server.pL (x : M.Server) (hx : M.Server.ok x) (k : Int) (h0 : 0 ≤ k) (hB : k + ((M.Server.cnt x : Nat) : Int) ≤ KB) : ∃ x' : M.Server, (∀ n (pre post : List M.Server), (pre ++ x :: post).length ≤ maxLen → cP (n + 1) k pre.length (pre ++ x :: post) = cP n (k + ((M.Server.cnt x : Nat) : Int)) ((pre.length + 1 : Nat) : Int) (pre ++ x' :: post)) ∧ ∀ n (l : List M.Server) (i : Nat), l[i]? = some x' → l.length ≤ maxLen → cO l (n + 1) k i = cO l n (k + ((M.Server.cnt x : Nat) : Int)) ((i + 1 : Nat) : Int) := by
  unfold KB at hB; unfold M.Server.cnt at hB ⊢
  have A : (0 ≤ k ∧ k ≤ KB) ∧ (0 ≤ k + 1 ∧ k + 1 ≤ KB) ∧ (0 ≤ k + 1 + ((aD M.Item.cnt x.aG.Items : Nat) : Int) ∧ k + 1 + ((aD M.Item.cnt x.aG.Items : Nat) : Int) ≤ KB) ∧ (0 ≤ k + 1 + ((aD M.Item.cnt x.aG.Items : Nat) : Int) + 1 ∧ k + 1 + ((aD M.Item.cnt x.aG.Items : Nat) : Int) + 1 ≤ KB) ∧ (0 ≤ k + 1 + ((aD M.Item.cnt x.aG.Items : Nat) : Int) + 1 + ((aD M.aH.cnt x.aH : Nat) : Int) ∧ k + 1 + ((aD M.Item.cnt x.aG.Items : Nat) : Int) + 1 + ((aD M.aH.cnt x.aH : Nat) : Int) ≤ KB) ∧ (0 ≤ k + 1 + ((aD M.Item.cnt x.aG.Items : Nat) : Int) + 1 + ((aD M.aH.cnt x.aH : Nat) : Int) + ((aD M.aW.cnt x.Changes : Nat) : Int) ∧ k + 1 + ((aD M.Item.cnt x.aG.Items : Nat) : Int) + 1 + ((aD M.aH.cnt x.aH : Nat) : Int) + ((aD M.aW.cnt x.Changes : Nat) : Int) ≤ KB) := by
    unfold KB
    refine ⟨?_, ?_, ?_, ?_, ?_, ?_⟩ <;> omega
  have hE : k + 1 + ((aD M.Item.cnt x.aG.Items : Nat) : Int) + 1 + ((aD M.aH.cnt x.aH : Nat) : Int) + ((aD M.aW.cnt x.Changes : Nat) : Int) = k + ((M.Server.cnt x : Nat) : Int) := by unfold M.Server.cnt; omega
  unfold M.Server.cnt at hE
  obtain ⟨q0, q1, q2, q3, q4, q5⟩ := A
  have t0 : aF (k) = some (mtx (k)) := mt q0.1 (Int.lt_of_add_one_le q1.2)
  have w0 := wk2 q0
  obtain ⟨y1, a1, b1, _⟩ := M.aFZ.hD _ hx.aG.Items (k + 1) q1.1 q2.2
  have d1 : (decide (k + 1 + ((aD M.Item.cnt x.aG.Items : Nat) : Int) < 0)) = false := dk q2.1
  have w2 := wk2 q2
  obtain ⟨y2, a2, b2, _⟩ := M.aBl.hD _ hx.aH (k + 1 + ((aD M.Item.cnt x.aG.Items : Nat) : Int) + 1) q3.1 q4.2
  have d2 : (decide (k + 1 + ((aD M.Item.cnt x.aG.Items : Nat) : Int) + 1 + ((aD M.aH.cnt x.aH : Nat) : Int) < 0)) = false := dk q4.1
  obtain ⟨y3, a3, b3, _⟩ := M.aCI.hD _ hx.Changes (k + 1 + ((aD M.Item.cnt x.aG.Items : Nat) : Int) + 1 + ((aD M.aH.cnt x.aH : Nat) : Int)) q4.1 q5.2
  have d3 : (decide (k + 1 + ((aD M.Item.cnt x.aG.Items : Nat) : Int) + 1 + ((aD M.aH.cnt x.aH : Nat) : Int) + ((aD M.aW.cnt x.Changes : Nat) : Int) < 0)) = false := dk q5.1
  refine ⟨⟨⟨(mtx (k)), y1, k + 1 + ((aD M.Item.cnt x.aG.Items : Nat) : Int)⟩, y2, y3⟩, fun n pre post hl => ?_, fun n l i hi hl => ?_⟩
  · have hl' := le_max hl
    have hp : pre.length < 9223372036854775807 := by simp at hl'; omega
    simp only [cP]
    rw [if_pos (aAl pre post x)]
    simp (maxSteps := 2000000) only [sX, sS, Option.bind_some, bD hp, t0, w0, a1, w2, a2, a3]
    rw [hE]
  · have hl' := le_max hl
    have hp : i < 9223372036854775807 := by have := (List.getElem?_eq_some_iff.1 hi).1; omega
    simp only [cO]
    rw [if_pos (aCg hi)]
    simp (maxSteps := 2000000) only [aAe hi, Option.bind_some, bD hp, t0, w0, b1, d1, w2, b2, d2, b3, d3, bne_self_eq_false, beq_self_eq_true, Bool.not_true, Bool.false_eq_true, if_false]
    rw [hE]
theorem M.aCl.hD (xs : List M.Server) (hx : (xs.length ≤ maxLen ∧ ∀ y ∈ xs, M.Server.ok y)) (k : Int) (h0 : 0 ≤ k) (hB : k + ((aD M.Server.cnt xs : Nat) : Int) ≤ KB) : ∃ ys, oN xs k = some (ys, k + ((aD M.Server.cnt xs : Nat) : Int)) ∧ nT ys k = some (k + ((aD M.Server.cnt xs : Nat) : Int)) ∧ ys.length = xs.length := by
  have hm := le_max hx.1
  obtain ⟨ys, h1, h2, h3⟩ := lB (ML := cP) (HL := cO) (c := M.Server.cnt) (ok := M.Server.ok) (fun x hx k h0 hB => M.Server.pL x hx k h0 hB) (fun n k l => by simp only [cP]; rw [if_neg (by rw [aO]; simp)]) (fun n k l => by simp only [cO]; rw [if_neg (by rw [aO]; simp)]) xs [] fuel k (by simpa using hx.1) (by unfold fuel; omega) hx.2 h0 hB
  refine ⟨ys, by unfold oN; simpa using h2, by unfold nT; simpa using h3 fuel (by unfold fuel; omega), h1⟩
def M.World.aNS (x : M.World) : Nat := (aD M.aE.cnt x.aK.Buckets) + (aD M.bG.cnt x.Pages) + (aD M.cF.cnt x.Locks.Locks) + (aD M.fH.cnt x.Channel.Mails) + (aD M.Site.cnt x.Sites) + (aD M.Server.cnt x.Servers)
theorem M.World.hD (x : M.World) (hx : M.World.ok x) (k : Int) (h0 : 0 ≤ k) (hB : k + ((M.World.aNS x : Nat) : Int) ≤ KB) : ∃ y1 y2 y3 y4 y5 y6, nL x k = some (y1, y2, y3, y4, y5, y6, k + ((M.World.aNS x : Nat) : Int)) ∧ nJ (⟨x.Now, x.Online, x.Device, ⟨y1⟩, y2, x.NextPage, ⟨y3⟩, ⟨y4⟩, y5, y6⟩ : M.World) k = some (k + ((M.World.aNS x : Nat) : Int)) := by
  unfold KB at hB; unfold M.World.aNS at hB ⊢
  obtain ⟨y1, a1, b1, _⟩ := M.aCp.hD _ hx.aK.Buckets (k) (by omega) (by unfold KB; omega)
  obtain ⟨y2, a2, b2, _⟩ := M.aIf.hD _ hx.Pages (k + ((aD M.aE.cnt x.aK.Buckets : Nat) : Int)) (by omega) (by unfold KB; omega)
  obtain ⟨y3, a3, b3, _⟩ := M.aIz.hD _ hx.Locks.Locks (k + ((aD M.aE.cnt x.aK.Buckets : Nat) : Int) + ((aD M.bG.cnt x.Pages : Nat) : Int)) (by omega) (by unfold KB; omega)
  obtain ⟨y4, a4, b4, _⟩ := M.aIs.hD _ hx.Channel.Mails (k + ((aD M.aE.cnt x.aK.Buckets : Nat) : Int) + ((aD M.bG.cnt x.Pages : Nat) : Int) + ((aD M.cF.cnt x.Locks.Locks : Nat) : Int)) (by omega) (by unfold KB; omega)
  obtain ⟨y5, a5, b5, _⟩ := M.aIj.hD _ hx.Sites (k + ((aD M.aE.cnt x.aK.Buckets : Nat) : Int) + ((aD M.bG.cnt x.Pages : Nat) : Int) + ((aD M.cF.cnt x.Locks.Locks : Nat) : Int) + ((aD M.fH.cnt x.Channel.Mails : Nat) : Int)) (by omega) (by unfold KB; omega)
  obtain ⟨y6, a6, b6, _⟩ := M.aCl.hD _ hx.Servers (k + ((aD M.aE.cnt x.aK.Buckets : Nat) : Int) + ((aD M.bG.cnt x.Pages : Nat) : Int) + ((aD M.cF.cnt x.Locks.Locks : Nat) : Int) + ((aD M.fH.cnt x.Channel.Mails : Nat) : Int) + ((aD M.Site.cnt x.Sites : Nat) : Int)) (by omega) (by unfold KB; omega)
  refine ⟨y1, y2, y3, y4, y5, y6, ?_, ?_⟩
  · unfold nL
    simp only [vU, pY, vV, a1, a2, a3, a4, a5, a6, Option.bind_some]
    try (simp only [Option.some.injEq, Prod.mk.injEq, true_and]; omega)
  · unfold nJ
    simp (disch := (first | omega | (unfold KB; omega))) only [vM, pW, vO, b1, b2, b3, b4, b5, b6, Option.bind_some, dk, Bool.false_eq_true, if_false]
    try (simp only [Option.some.injEq]; omega)
theorem M.aCh.fX (xs : List Int) : xs.length ≤ 40 * (xs.length) := by omega
theorem M.Cached.fX (x : M.Cached) : M.Cached.cnt x ≤ 40 + 40 * M.Cached.sz x := by
  unfold M.Cached.cnt
  simp only [M.Cached.sz, M.Response.sz]
  have := M.aCh.fX x.Response.Body
  omega
theorem M.aCe.fX (xs : List M.Cached) : aD M.Cached.cnt xs ≤ 40 * ((xs.length + aD M.Cached.sz xs)) := mM (fun x _ => M.Cached.fX x)
theorem M.Cache.fX (x : M.Cache) : M.Cache.cnt x ≤ 40 + 40 * M.Cache.sz x := by
  unfold M.Cache.cnt
  simp only [M.Cache.sz]
  have := M.aCe.fX x.Entries
  omega
theorem M.aEJ.fX (xs : List M.Cache) : aD M.Cache.cnt xs ≤ 40 * ((xs.length + aD M.Cache.sz xs)) := mM (fun x _ => M.Cache.fX x)
theorem M.Field.fX (x : M.Field) : M.Field.cnt x ≤ 40 + 40 * M.Field.sz x := by
  unfold M.Field.cnt
  simp only [M.Field.sz]
  omega
theorem M.aEv.fX (xs : List M.Field) : aD M.Field.cnt xs ≤ 40 * ((xs.length + aD M.Field.sz xs)) := mM (fun x _ => M.Field.fX x)
theorem M.Item.fX (x : M.Item) : M.Item.cnt x ≤ 40 + 40 * M.Item.sz x := by
  unfold M.Item.cnt
  simp only [M.Item.sz, M.Key.sz, M.aU.sz]
  have := M.aEv.fX x.aU.Fields
  omega
theorem M.aFZ.fX (xs : List M.Item) : aD M.Item.cnt xs ≤ 40 * ((xs.length + aD M.Item.sz xs)) := mM (fun x _ => M.Item.fX x)
theorem M.aG.fX (x : M.aG) : M.aG.cnt x ≤ 40 + 40 * M.aG.sz x := by
  unfold M.aG.cnt
  simp only [M.aG.sz]
  have := M.aFZ.fX x.Items
  omega
theorem M.aEf.fX (xs : List M.aG) : aD M.aG.cnt xs ≤ 40 * ((xs.length + aD M.aG.sz xs)) := mM (fun x _ => M.aG.fX x)
theorem M.aA.fX (x : M.aA) : M.aA.cnt x ≤ 40 + 40 * M.aA.sz x := by
  unfold M.aA.cnt
  simp only [M.aA.sz]
  omega
theorem M.aAx.fX (xs : List M.aA) : aD M.aA.cnt xs ≤ 40 * ((xs.length + aD M.aA.sz xs)) := mM (fun x _ => M.aA.fX x)
theorem M.aW.fX (x : M.aW) : M.aW.cnt x ≤ 40 + 40 * M.aW.sz x := by
  unfold M.aW.cnt
  simp only [M.aW.sz, M.Key.sz]
  omega
theorem M.aCI.fX (xs : List M.aW) : aD M.aW.cnt xs ≤ 40 * ((xs.length + aD M.aW.sz xs)) := mM (fun x _ => M.aW.fX x)
theorem M.aE.fX (x : M.aE) : M.aE.cnt x ≤ 40 + 40 * M.aE.sz x := by
  unfold M.aE.cnt
  simp only [M.aE.sz, M.Registration.sz, M.aP.sz, M.bF.sz, M.Database.sz, M.aC.sz, M.aG.sz, M.Sync.sz, M.aV.sz]
  have := M.aEJ.fX x.Caches.Caches
  have := M.aEf.fX x.bF.Base.Stores
  have := M.aAx.fX x.bF.Base.Unique
  have := M.aCh.fX x.bF.Log
  have := M.aFZ.fX x.aC.Base.Items
  have := M.aCI.fX x.aC.Sync.aV.Writes
  omega
theorem M.aCp.fX (xs : List M.aE) : aD M.aE.cnt xs ≤ 40 * ((xs.length + aD M.aE.sz xs)) := mM (fun x _ => M.aE.fX x)
theorem M.aJ.fX (x : M.aJ) : M.aJ.cnt x ≤ 40 + 40 * M.aJ.sz x := by
  unfold M.aJ.cnt
  simp only [M.aJ.sz]
  omega
theorem M.aCo.fX (xs : List M.aJ) : aD M.aJ.cnt xs ≤ 40 * ((xs.length + aD M.aJ.sz xs)) := mM (fun x _ => M.aJ.fX x)
theorem M.Instr.fX (x : M.Instr) : M.Instr.cnt x ≤ 40 + 40 * M.Instr.sz x := by
  unfold M.Instr.cnt
  simp only [M.Instr.sz]
  omega
theorem M.aE6.fX (xs : List M.Instr) : aD M.Instr.cnt xs ≤ 40 * ((xs.length + aD M.Instr.sz xs)) := mM (fun x _ => M.Instr.fX x)
theorem M.aKi.fX (xs : List Int) : xs.length ≤ 40 * (xs.length) := by omega
theorem M.bG.fX (x : M.bG) : M.bG.cnt x ≤ 40 + 40 * M.bG.sz x := by
  unfold M.bG.cnt
  simp only [M.bG.sz, M.Machine.sz]
  have := M.aCo.fX x.aJ
  have := M.aE6.fX x.Machine.Script
  have := M.aKi.fX x.Machine.Regs
  omega
theorem M.aIf.fX (xs : List M.bG) : aD M.bG.cnt xs ≤ 40 * ((xs.length + aD M.bG.sz xs)) := mM (fun x _ => M.bG.fX x)
theorem M.cF.fX (x : M.cF) : M.cF.cnt x ≤ 40 + 40 * M.cF.sz x := by
  unfold M.cF.cnt
  simp only [M.cF.sz]
  omega
theorem M.aIz.fX (xs : List M.cF) : aD M.cF.cnt xs ≤ 40 * ((xs.length + aD M.cF.sz xs)) := mM (fun x _ => M.cF.fX x)
theorem M.fH.fX (x : M.fH) : M.fH.cnt x ≤ 40 := by
  unfold M.fH.cnt
  omega
theorem M.aIs.fX (xs : List M.fH) : aD M.fH.cnt xs ≤ 40 * (xs.length) := Nat.le_trans (aD3 (fun x _ => M.fH.fX x)) (by omega)
theorem M.aBE.fX (xs : List ByteArray) : xs.length ≤ 40 * ((xs.length + aD ByteArray.size xs)) := by omega
theorem M.Site.fX (x : M.Site) : M.Site.cnt x ≤ 40 + 40 * M.Site.sz x := by
  unfold M.Site.cnt
  simp only [M.Site.sz]
  have := M.aBE.fX x.Files
  omega
theorem M.aIj.fX (xs : List M.Site) : aD M.Site.cnt xs ≤ 40 * ((xs.length + aD M.Site.sz xs)) := mM (fun x _ => M.Site.fX x)
theorem M.aH.fX (x : M.aH) : M.aH.cnt x ≤ 40 := by
  unfold M.aH.cnt
  omega
theorem M.aBl.fX (xs : List M.aH) : aD M.aH.cnt xs ≤ 40 * (xs.length) := Nat.le_trans (aD3 (fun x _ => M.aH.fX x)) (by omega)
theorem M.Server.fX (x : M.Server) : M.Server.cnt x ≤ 40 + 40 * M.Server.sz x := by
  unfold M.Server.cnt
  simp only [M.Server.sz, M.aG.sz]
  have := M.aFZ.fX x.aG.Items
  have := M.aBl.fX x.aH
  have := M.aCI.fX x.Changes
  omega
theorem M.aCl.fX (xs : List M.Server) : aD M.Server.cnt xs ≤ 40 * ((xs.length + aD M.Server.sz xs)) := mM (fun x _ => M.Server.fX x)
theorem M.World.aN8 (x : M.World) : M.World.aNS x ≤ 40 * M.World.sz x := by
  unfold M.World.aNS
  simp only [M.World.sz, M.aK.sz, M.aR.sz, M.Channel.sz]
  have := M.aCp.fX x.aK.Buckets
  have := M.aIf.fX x.Pages
  have := M.aIz.fX x.Locks.Locks
  have := M.aIs.fX x.Channel.Mails
  have := M.aIj.fX x.Sites
  have := M.aCl.fX x.Servers
  omega
end Go.Proofs.YtecmnmaaopkdfaaGreat.gen
