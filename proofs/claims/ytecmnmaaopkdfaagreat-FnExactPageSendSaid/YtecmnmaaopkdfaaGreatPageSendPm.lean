/-
  Helper text. No conditions.
-/
import Derived.Test.YtecmnmaaopkdfaaGreatPageSendPz
namespace Go.Proofs.YtecmnmaaopkdfaaGreat.gen
open Go Go.Sh
set_option linter.unusedVariables false
set_option linter.unusedSimpArgs false
theorem aMs : ∀ (n : Nat) (v : Int) (b : ByteArray), v.toNat < n → 0 ≤ v → (b.size : Int) + v ≤ KB → ∃ t, kA n v b = some t ∧ t.size ≤ 4611686018427387905
  | 0, v, b, h, _, _ => by omega
  | n + 1, v, b, h, h0, hb => by
    unfold KB at hb
    simp only [kA]
    by_cases hv : v > 0
    · rw [if_pos (by simp; omega)]
      have h1 := Int.tmod_nonneg 10 h0
      have h2 := Int.tmod_lt_of_pos v (show (0 : Int) < 10 by omega)
      have hu := aL3 (IntKind.i64.wrap (48 + Int.tmod v 10))
      have hd : Int.tdiv v 10 = v / 10 := Int.tdiv_eq_ediv_of_nonneg h0
      have hs : toStr [IntKind.u8.wrap (IntKind.i64.wrap (48 + Int.tmod v 10))] = some (aBW [IntKind.u8.wrap (IntKind.i64.wrap (48 + Int.tmod v 10))]) := by
        unfold toStr; rw [if_pos (by simp; omega)]
      have hz : (aBW [IntKind.u8.wrap (IntKind.i64.wrap (48 + Int.tmod v 10))]).size = 1 := rfl
      rw [hs, Option.bind_some]
      unfold cat
      rw [if_pos (by rw [hz]; omega), Option.bind_some, hd, iG (by omega) (by omega)]
      refine aMs n (v / 10) _ (by omega) (by omega) ?_
      rw [ByteArray.size_append, hz]
      unfold KB
      omega
    · rw [if_neg (by simp; omega)]
      have hq : cat (⟨#[109]⟩ : ByteArray) b = some ((⟨#[109]⟩ : ByteArray) ++ b) := by
        unfold cat; rw [if_pos (by show 1 + b.size ≤ _; omega)]
      first | exact ⟨_, by rw [hq, Option.bind_some], by rw [ByteArray.size_append]; show 1 + b.size ≤ _; omega⟩ | exact ⟨_, by rw [hq]; rfl, by rw [ByteArray.size_append]; show 1 + b.size ≤ _; omega⟩
theorem aM7 (k : Int) (h0 : 0 ≤ k) (h : k < KB) : ∃ t, aF k = some t := by
  unfold aF
  by_cases hk : k ≤ 0
  · exact ⟨_, by rw [if_pos (by simpa using hk)]⟩
  · rw [if_neg (by simpa using hk)]
    obtain ⟨t, h1, _⟩ := aMs fuel k ⟨#[]⟩ (by unfold fuel KB at *; omega) h0 (by show ((0 : Nat) : Int) + k ≤ KB; omega)
    exact ⟨t, h1⟩
def mtx (k : Int) : ByteArray := (aF k).getD ⟨#[]⟩
theorem mt {k : Int} (h0 : 0 ≤ k) (h : k < KB) : aF k = some (mtx k) := by
  obtain ⟨t, ht⟩ := aM7 k h0 h
  unfold mtx; rw [ht]; rfl
set_option maxHeartbeats 4000000 in
theorem M.aB9.oI (x : Int) (hx : True) (k : Int) (h0 : 0 ≤ k) (hB : k + (((fun _ : Int => 1) x : Nat) : Int) ≤ KB) : ∃ x' : Int, (∀ n (pre post : List Int), (pre ++ x :: post).length ≤ maxLen → dM (n + 1) k pre.length (pre ++ x :: post) = dM n (k + (((fun _ : Int => 1) x : Nat) : Int)) ((pre.length + 1 : Nat) : Int) (pre ++ x' :: post)) ∧ ∀ n (l : List Int) (i : Nat), l[i]? = some x' → l.length ≤ maxLen → eY l (n + 1) k i = eY l n (k + (((fun _ : Int => 1) x : Nat) : Int)) ((i + 1 : Nat) : Int) := by
  unfold KB at hB; (try simp only [] at hB ⊢)
  have A : (0 ≤ k ∧ k ≤ KB) ∧ (0 ≤ k + 1 ∧ k + 1 ≤ KB) := by
    unfold KB
    refine ⟨?_, ?_⟩ <;> omega
  have hE : k + 1 = k + (((fun _ : Int => 1) x : Nat) : Int) := by simp
  obtain ⟨q0, q1⟩ := A
  have w0 := wk2 q0
  refine ⟨(IntKind.u8.wrap k), fun n pre post hl => ?_, fun n l i hi hl => ?_⟩
  · have hl' := le_max hl
    have hp : pre.length < 9223372036854775807 := by simp at hl'; omega
    simp only [dM]
    rw [if_pos (zT pre post x)]
    simp (maxSteps := 2000000) only [qV, rA, Option.bind_some, bE hp, w0]
    rw [hE]
  · have hl' := le_max hl
    have hp : i < 9223372036854775807 := by have := (List.getElem?_eq_some_iff.1 hi).1; omega
    simp only [eY]
    rw [if_pos (aB1 hi)]
    simp (maxSteps := 2000000) only [yN hi, Option.bind_some, bE hp, w0, bne_self_eq_false, beq_self_eq_true, Bool.not_true, Bool.false_eq_true, if_false]
    rw [hE]
theorem M.aB9.cl (xs : List Int) : aD (fun _ : Int => 1) xs = xs.length := by
  induction xs with
  | nil => rfl
  | cons x xs ih => simp only [aD, ih, List.length_cons]; omega
theorem M.aB9.gT (xs : List Int) (hx : okB xs) (k : Int) (h0 : 0 ≤ k) (hB : k + ((xs.length : Nat) : Int) ≤ KB) : ∃ ys, mQ xs k = some (ys, k + ((xs.length : Nat) : Int)) ∧ mT ys k = some (k + ((xs.length : Nat) : Int)) ∧ ys.length = xs.length := by
  have hm := le_max hx.1
  rw [← M.aB9.cl xs] at hB ⊢
  obtain ⟨ys, h1, h2, h3⟩ := jR (ML := dM) (HL := eY) (c := (fun _ : Int => 1)) (ok := (fun _ : Int => True)) (fun x hx k h0 hB => M.aB9.oI x hx k h0 hB) (fun n k l => by simp only [dM]; rw [if_neg (by rw [aO]; simp)]) (fun n k l => by simp only [eY]; rw [if_neg (by rw [aO]; simp)]) xs [] fuel k (by simpa using hx.1) (by unfold fuel; omega) (fun _ _ => trivial) h0 hB
  refine ⟨ys, by unfold mQ; simpa using h2, by unfold mT; simpa using h3 fuel (by unfold fuel; omega), by have := M.aB9.cl xs; omega⟩
def M.Cached.cnt (x : M.Cached) : Nat := 6 + (x.Response.Body.length)
set_option maxHeartbeats 4000000 in
theorem M.Cached.oI (x : M.Cached) (hx : M.Cached.ok x) (k : Int) (h0 : 0 ≤ k) (hB : k + ((M.Cached.cnt x : Nat) : Int) ≤ KB) : ∃ x' : M.Cached, (∀ n (pre post : List M.Cached), (pre ++ x :: post).length ≤ maxLen → cF (n + 1) k pre.length (pre ++ x :: post) = cF n (k + ((M.Cached.cnt x : Nat) : Int)) ((pre.length + 1 : Nat) : Int) (pre ++ x' :: post)) ∧ ∀ n (l : List M.Cached) (i : Nat), l[i]? = some x' → l.length ≤ maxLen → dF l (n + 1) k i = dF l n (k + ((M.Cached.cnt x : Nat) : Int)) ((i + 1 : Nat) : Int) := by
  unfold KB at hB; unfold M.Cached.cnt at hB ⊢
  have A : (0 ≤ k ∧ k ≤ KB) ∧ (0 ≤ k + 1 ∧ k + 1 ≤ KB) ∧ (0 ≤ k + 1 + 1 ∧ k + 1 + 1 ≤ KB) ∧ (0 ≤ k + 1 + 1 + 1 ∧ k + 1 + 1 + 1 ≤ KB) ∧ (0 ≤ k + 1 + 1 + 1 + 1 ∧ k + 1 + 1 + 1 + 1 ≤ KB) ∧ (0 ≤ k + 1 + 1 + 1 + 1 + 1 ∧ k + 1 + 1 + 1 + 1 + 1 ≤ KB) ∧ (0 ≤ k + 1 + 1 + 1 + 1 + 1 + ((x.Response.Body.length : Nat) : Int) ∧ k + 1 + 1 + 1 + 1 + 1 + ((x.Response.Body.length : Nat) : Int) ≤ KB) ∧ (0 ≤ k + 1 + 1 + 1 + 1 + 1 + ((x.Response.Body.length : Nat) : Int) + 1 ∧ k + 1 + 1 + 1 + 1 + 1 + ((x.Response.Body.length : Nat) : Int) + 1 ≤ KB) := by
    unfold KB
    refine ⟨?_, ?_, ?_, ?_, ?_, ?_, ?_, ?_⟩ <;> omega
  have hE : k + 1 + 1 + 1 + 1 + 1 + ((x.Response.Body.length : Nat) : Int) + 1 = k + ((M.Cached.cnt x : Nat) : Int) := by unfold M.Cached.cnt; omega
  unfold M.Cached.cnt at hE
  obtain ⟨q0, q1, q2, q3, q4, q5, q6, q7⟩ := A
  have t0 : aF (k) = some (mtx (k)) := mt q0.1 (Int.lt_of_add_one_le q1.2)
  have w0 := wk2 q0
  have t1 : aF (k + 1) = some (mtx (k + 1)) := mt q1.1 (Int.lt_of_add_one_le q2.2)
  have w1 := wk2 q1
  have w2 := wk2 q2
  have w3 := wk2 q3
  have w4 := wk2 q4
  obtain ⟨y1, a1, b1, _⟩ := M.aB9.gT _ hx.Response.Body (k + 1 + 1 + 1 + 1 + 1) q5.1 q6.2
  have d1 : (decide (k + 1 + 1 + 1 + 1 + 1 + ((x.Response.Body.length : Nat) : Int) < 0)) = false := dk q6.1
  have w6 := wk2 q6
  refine ⟨⟨(mtx (k)), (mtx (k + 1)), ⟨k + 1 + 1, k + 1 + 1 + 1, k + 1 + 1 + 1 + 1, y1, ((Int.tmod (k + 1 + 1 + 1 + 1 + 1 + ((x.Response.Body.length : Nat) : Int)) 3) == 0)⟩⟩, fun n pre post hl => ?_, fun n l i hi hl => ?_⟩
  · have hl' := le_max hl
    have hp : pre.length < 9223372036854775807 := by simp at hl'; omega
    simp only [cF]
    rw [if_pos (zT pre post x)]
    simp (maxSteps := 2000000) only [qV, rA, Option.bind_some, bE hp, t0, w0, t1, w1, w2, w3, w4, a1, w6]
    rw [hE]
  · have hl' := le_max hl
    have hp : i < 9223372036854775807 := by have := (List.getElem?_eq_some_iff.1 hi).1; omega
    simp only [dF]
    rw [if_pos (aB1 hi)]
    simp (maxSteps := 2000000) only [yN hi, Option.bind_some, bE hp, t0, w0, t1, w1, w2, w3, w4, b1, d1, w6, bne_self_eq_false, beq_self_eq_true, Bool.not_true, Bool.false_eq_true, if_false]
    rw [hE]
theorem M.aBy.gT (xs : List M.Cached) (hx : (xs.length ≤ maxLen ∧ ∀ y ∈ xs, M.Cached.ok y)) (k : Int) (h0 : 0 ≤ k) (hB : k + ((aD M.Cached.cnt xs : Nat) : Int) ≤ KB) : ∃ ys, nJ xs k = some (ys, k + ((aD M.Cached.cnt xs : Nat) : Int)) ∧ mX ys k = some (k + ((aD M.Cached.cnt xs : Nat) : Int)) ∧ ys.length = xs.length := by
  have hm := le_max hx.1
  obtain ⟨ys, h1, h2, h3⟩ := jR (ML := cF) (HL := dF) (c := M.Cached.cnt) (ok := M.Cached.ok) (fun x hx k h0 hB => M.Cached.oI x hx k h0 hB) (fun n k l => by simp only [cF]; rw [if_neg (by rw [aO]; simp)]) (fun n k l => by simp only [dF]; rw [if_neg (by rw [aO]; simp)]) xs [] fuel k (by simpa using hx.1) (by unfold fuel; omega) hx.2 h0 hB
  refine ⟨ys, by unfold nJ; simpa using h2, by unfold mX; simpa using h3 fuel (by unfold fuel; omega), h1⟩
def M.Cache.cnt (x : M.Cache) : Nat := 1 + (aD M.Cached.cnt x.Entries)
set_option maxHeartbeats 4000000 in
theorem M.Cache.oI (x : M.Cache) (hx : M.Cache.ok x) (k : Int) (h0 : 0 ≤ k) (hB : k + ((M.Cache.cnt x : Nat) : Int) ≤ KB) : ∃ x' : M.Cache, (∀ n (pre post : List M.Cache), (pre ++ x :: post).length ≤ maxLen → cT (n + 1) k pre.length (pre ++ x :: post) = cT n (k + ((M.Cache.cnt x : Nat) : Int)) ((pre.length + 1 : Nat) : Int) (pre ++ x' :: post)) ∧ ∀ n (l : List M.Cache) (i : Nat), l[i]? = some x' → l.length ≤ maxLen → eE l (n + 1) k i = eE l n (k + ((M.Cache.cnt x : Nat) : Int)) ((i + 1 : Nat) : Int) := by
  unfold KB at hB; unfold M.Cache.cnt at hB ⊢
  have A : (0 ≤ k ∧ k ≤ KB) ∧ (0 ≤ k + 1 ∧ k + 1 ≤ KB) ∧ (0 ≤ k + 1 + ((aD M.Cached.cnt x.Entries : Nat) : Int) ∧ k + 1 + ((aD M.Cached.cnt x.Entries : Nat) : Int) ≤ KB) := by
    unfold KB
    refine ⟨?_, ?_, ?_⟩ <;> omega
  have hE : k + 1 + ((aD M.Cached.cnt x.Entries : Nat) : Int) = k + ((M.Cache.cnt x : Nat) : Int) := by unfold M.Cache.cnt; omega
  unfold M.Cache.cnt at hE
  obtain ⟨q0, q1, q2⟩ := A
  have w0 := wk2 q0
  obtain ⟨y1, a1, b1, _⟩ := M.aBy.gT _ hx.Entries (k + 1) q1.1 q2.2
  have d1 : (decide (k + 1 + ((aD M.Cached.cnt x.Entries : Nat) : Int) < 0)) = false := dk q2.1
  refine ⟨⟨k, y1⟩, fun n pre post hl => ?_, fun n l i hi hl => ?_⟩
  · have hl' := le_max hl
    have hp : pre.length < 9223372036854775807 := by simp at hl'; omega
    simp only [cT]
    rw [if_pos (zT pre post x)]
    simp (maxSteps := 2000000) only [qV, rA, Option.bind_some, bE hp, w0, a1]
    rw [hE]
  · have hl' := le_max hl
    have hp : i < 9223372036854775807 := by have := (List.getElem?_eq_some_iff.1 hi).1; omega
    simp only [eE]
    rw [if_pos (aB1 hi)]
    simp (maxSteps := 2000000) only [yN hi, Option.bind_some, bE hp, w0, b1, d1, bne_self_eq_false, beq_self_eq_true, Bool.not_true, Bool.false_eq_true, if_false]
    rw [hE]
theorem M.aDg.gT (xs : List M.Cache) (hx : (xs.length ≤ maxLen ∧ ∀ y ∈ xs, M.Cache.ok y)) (k : Int) (h0 : 0 ≤ k) (hB : k + ((aD M.Cache.cnt xs : Nat) : Int) ≤ KB) : ∃ ys, pD xs k = some (ys, k + ((aD M.Cache.cnt xs : Nat) : Int)) ∧ pT ys k = some (k + ((aD M.Cache.cnt xs : Nat) : Int)) ∧ ys.length = xs.length := by
  have hm := le_max hx.1
  obtain ⟨ys, h1, h2, h3⟩ := jR (ML := cT) (HL := eE) (c := M.Cache.cnt) (ok := M.Cache.ok) (fun x hx k h0 hB => M.Cache.oI x hx k h0 hB) (fun n k l => by simp only [cT]; rw [if_neg (by rw [aO]; simp)]) (fun n k l => by simp only [eE]; rw [if_neg (by rw [aO]; simp)]) xs [] fuel k (by simpa using hx.1) (by unfold fuel; omega) hx.2 h0 hB
  refine ⟨ys, by unfold pD; simpa using h2, by unfold pT; simpa using h3 fuel (by unfold fuel; omega), h1⟩
def M.Field.cnt (x : M.Field) : Nat := 2
set_option maxHeartbeats 4000000 in
theorem M.Field.oI (x : M.Field) (hx : M.Field.ok x) (k : Int) (h0 : 0 ≤ k) (hB : k + ((M.Field.cnt x : Nat) : Int) ≤ KB) : ∃ x' : M.Field, (∀ n (pre post : List M.Field), (pre ++ x :: post).length ≤ maxLen → cV (n + 1) k pre.length (pre ++ x :: post) = cV n (k + ((M.Field.cnt x : Nat) : Int)) ((pre.length + 1 : Nat) : Int) (pre ++ x' :: post)) ∧ ∀ n (l : List M.Field) (i : Nat), l[i]? = some x' → l.length ≤ maxLen → eK l (n + 1) k i = eK l n (k + ((M.Field.cnt x : Nat) : Int)) ((i + 1 : Nat) : Int) := by
  unfold KB at hB; unfold M.Field.cnt at hB ⊢
  have A : (0 ≤ k ∧ k ≤ KB) ∧ (0 ≤ k + 1 ∧ k + 1 ≤ KB) ∧ (0 ≤ k + 1 + 1 ∧ k + 1 + 1 ≤ KB) := by
    unfold KB
    refine ⟨?_, ?_, ?_⟩ <;> omega
  have hE : k + 1 + 1 = k + ((M.Field.cnt x : Nat) : Int) := by unfold M.Field.cnt; omega
  unfold M.Field.cnt at hE
  obtain ⟨q0, q1, q2⟩ := A
  have t0 : aF (k) = some (mtx (k)) := mt q0.1 (Int.lt_of_add_one_le q1.2)
  have w0 := wk2 q0
  have w1 := wk2 q1
  refine ⟨⟨(mtx (k)), k + 1⟩, fun n pre post hl => ?_, fun n l i hi hl => ?_⟩
  · have hl' := le_max hl
    have hp : pre.length < 9223372036854775807 := by simp at hl'; omega
    simp only [cV]
    rw [if_pos (zT pre post x)]
    simp (maxSteps := 2000000) only [qV, rA, Option.bind_some, bE hp, t0, w0, w1]
    rw [hE]
  · have hl' := le_max hl
    have hp : i < 9223372036854775807 := by have := (List.getElem?_eq_some_iff.1 hi).1; omega
    simp only [eK]
    rw [if_pos (aB1 hi)]
    simp (maxSteps := 2000000) only [yN hi, Option.bind_some, bE hp, t0, w0, w1, bne_self_eq_false, beq_self_eq_true, Bool.not_true, Bool.false_eq_true, if_false]
    rw [hE]
theorem M.aDj.gT (xs : List M.Field) (hx : (xs.length ≤ maxLen ∧ ∀ y ∈ xs, M.Field.ok y)) (k : Int) (h0 : 0 ≤ k) (hB : k + ((aD M.Field.cnt xs : Nat) : Int) ≤ KB) : ∃ ys, pW xs k = some (ys, k + ((aD M.Field.cnt xs : Nat) : Int)) ∧ qD ys k = some (k + ((aD M.Field.cnt xs : Nat) : Int)) ∧ ys.length = xs.length := by
  have hm := le_max hx.1
  obtain ⟨ys, h1, h2, h3⟩ := jR (ML := cV) (HL := eK) (c := M.Field.cnt) (ok := M.Field.ok) (fun x hx k h0 hB => M.Field.oI x hx k h0 hB) (fun n k l => by simp only [cV]; rw [if_neg (by rw [aO]; simp)]) (fun n k l => by simp only [eK]; rw [if_neg (by rw [aO]; simp)]) xs [] fuel k (by simpa using hx.1) (by unfold fuel; omega) hx.2 h0 hB
  refine ⟨ys, by unfold pW; simpa using h2, by unfold qD; simpa using h3 fuel (by unfold fuel; omega), h1⟩
def M.Item.cnt (x : M.Item) : Nat := 3 + (aD M.Field.cnt x.aU.Fields)
set_option maxHeartbeats 4000000 in
theorem M.Item.oI (x : M.Item) (hx : M.Item.ok x) (k : Int) (h0 : 0 ≤ k) (hB : k + ((M.Item.cnt x : Nat) : Int) ≤ KB) : ∃ x' : M.Item, (∀ n (pre post : List M.Item), (pre ++ x :: post).length ≤ maxLen → dO (n + 1) k pre.length (pre ++ x :: post) = dO n (k + ((M.Item.cnt x : Nat) : Int)) ((pre.length + 1 : Nat) : Int) (pre ++ x' :: post)) ∧ ∀ n (l : List M.Item) (i : Nat), l[i]? = some x' → l.length ≤ maxLen → fD l (n + 1) k i = fD l n (k + ((M.Item.cnt x : Nat) : Int)) ((i + 1 : Nat) : Int) := by
  unfold KB at hB; unfold M.Item.cnt at hB ⊢
  have A : (0 ≤ k ∧ k ≤ KB) ∧ (0 ≤ k + 1 ∧ k + 1 ≤ KB) ∧ (0 ≤ k + 1 + 1 ∧ k + 1 + 1 ≤ KB) ∧ (0 ≤ k + 1 + 1 + 1 ∧ k + 1 + 1 + 1 ≤ KB) ∧ (0 ≤ k + 1 + 1 + 1 + ((aD M.Field.cnt x.aU.Fields : Nat) : Int) ∧ k + 1 + 1 + 1 + ((aD M.Field.cnt x.aU.Fields : Nat) : Int) ≤ KB) := by
    unfold KB
    refine ⟨?_, ?_, ?_, ?_, ?_⟩ <;> omega
  have hE : k + 1 + 1 + 1 + ((aD M.Field.cnt x.aU.Fields : Nat) : Int) = k + ((M.Item.cnt x : Nat) : Int) := by unfold M.Item.cnt; omega
  unfold M.Item.cnt at hE
  obtain ⟨q0, q1, q2, q3, q4⟩ := A
  have w0 := wk2 q0
  have w1 := wk2 q1
  have t2 : aF (k + 1 + 1) = some (mtx (k + 1 + 1)) := mt q2.1 (Int.lt_of_add_one_le q3.2)
  have w2 := wk2 q2
  obtain ⟨y1, a1, b1, _⟩ := M.aDj.gT _ hx.aU.Fields (k + 1 + 1 + 1) q3.1 q4.2
  have d1 : (decide (k + 1 + 1 + 1 + ((aD M.Field.cnt x.aU.Fields : Nat) : Int) < 0)) = false := dk q4.1
  refine ⟨⟨⟨k, k + 1, (mtx (k + 1 + 1))⟩, ⟨y1⟩⟩, fun n pre post hl => ?_, fun n l i hi hl => ?_⟩
  · have hl' := le_max hl
    have hp : pre.length < 9223372036854775807 := by simp at hl'; omega
    simp only [dO]
    rw [if_pos (zT pre post x)]
    simp (maxSteps := 2000000) only [qV, rA, Option.bind_some, bE hp, w0, w1, t2, w2, a1]
    rw [hE]
  · have hl' := le_max hl
    have hp : i < 9223372036854775807 := by have := (List.getElem?_eq_some_iff.1 hi).1; omega
    simp only [fD]
    rw [if_pos (aB1 hi)]
    simp (maxSteps := 2000000) only [yN hi, Option.bind_some, bE hp, w0, w1, t2, w2, b1, d1, bne_self_eq_false, beq_self_eq_true, Bool.not_true, Bool.false_eq_true, if_false]
    rw [hE]
theorem M.aEm.gT (xs : List M.Item) (hx : (xs.length ≤ maxLen ∧ ∀ y ∈ xs, M.Item.ok y)) (k : Int) (h0 : 0 ≤ k) (hB : k + ((aD M.Item.cnt xs : Nat) : Int) ≤ KB) : ∃ ys, kL xs k = some (ys, k + ((aD M.Item.cnt xs : Nat) : Int)) ∧ kI ys k = some (k + ((aD M.Item.cnt xs : Nat) : Int)) ∧ ys.length = xs.length := by
  have hm := le_max hx.1
  obtain ⟨ys, h1, h2, h3⟩ := jR (ML := dO) (HL := fD) (c := M.Item.cnt) (ok := M.Item.ok) (fun x hx k h0 hB => M.Item.oI x hx k h0 hB) (fun n k l => by simp only [dO]; rw [if_neg (by rw [aO]; simp)]) (fun n k l => by simp only [fD]; rw [if_neg (by rw [aO]; simp)]) xs [] fuel k (by simpa using hx.1) (by unfold fuel; omega) hx.2 h0 hB
  refine ⟨ys, by unfold kL; simpa using h2, by unfold kI; simpa using h3 fuel (by unfold fuel; omega), h1⟩
def M.aG.cnt (x : M.aG) : Nat := 2 + (aD M.Item.cnt x.Items)
set_option maxHeartbeats 4000000 in
theorem M.aG.oI (x : M.aG) (hx : M.aG.ok x) (k : Int) (h0 : 0 ≤ k) (hB : k + ((M.aG.cnt x : Nat) : Int) ≤ KB) : ∃ x' : M.aG, (∀ n (pre post : List M.aG), (pre ++ x :: post).length ≤ maxLen → cZ (n + 1) k pre.length (pre ++ x :: post) = cZ n (k + ((M.aG.cnt x : Nat) : Int)) ((pre.length + 1 : Nat) : Int) (pre ++ x' :: post)) ∧ ∀ n (l : List M.aG) (i : Nat), l[i]? = some x' → l.length ≤ maxLen → eM l (n + 1) k i = eM l n (k + ((M.aG.cnt x : Nat) : Int)) ((i + 1 : Nat) : Int) := by
  unfold KB at hB; unfold M.aG.cnt at hB ⊢
  have A : (0 ≤ k ∧ k ≤ KB) ∧ (0 ≤ k + 1 ∧ k + 1 ≤ KB) ∧ (0 ≤ k + 1 + ((aD M.Item.cnt x.Items : Nat) : Int) ∧ k + 1 + ((aD M.Item.cnt x.Items : Nat) : Int) ≤ KB) ∧ (0 ≤ k + 1 + ((aD M.Item.cnt x.Items : Nat) : Int) + 1 ∧ k + 1 + ((aD M.Item.cnt x.Items : Nat) : Int) + 1 ≤ KB) := by
    unfold KB
    refine ⟨?_, ?_, ?_, ?_⟩ <;> omega
  have hE : k + 1 + ((aD M.Item.cnt x.Items : Nat) : Int) + 1 = k + ((M.aG.cnt x : Nat) : Int) := by unfold M.aG.cnt; omega
  unfold M.aG.cnt at hE
  obtain ⟨q0, q1, q2, q3⟩ := A
  have t0 : aF (k) = some (mtx (k)) := mt q0.1 (Int.lt_of_add_one_le q1.2)
  have w0 := wk2 q0
  obtain ⟨y1, a1, b1, _⟩ := M.aEm.gT _ hx.Items (k + 1) q1.1 q2.2
  have d1 : (decide (k + 1 + ((aD M.Item.cnt x.Items : Nat) : Int) < 0)) = false := dk q2.1
  have w2 := wk2 q2
  refine ⟨⟨(mtx (k)), y1, k + 1 + ((aD M.Item.cnt x.Items : Nat) : Int)⟩, fun n pre post hl => ?_, fun n l i hi hl => ?_⟩
  · have hl' := le_max hl
    have hp : pre.length < 9223372036854775807 := by simp at hl'; omega
    simp only [cZ]
    rw [if_pos (zT pre post x)]
    simp (maxSteps := 2000000) only [qV, rA, Option.bind_some, bE hp, t0, w0, a1, w2]
    rw [hE]
  · have hl' := le_max hl
    have hp : i < 9223372036854775807 := by have := (List.getElem?_eq_some_iff.1 hi).1; omega
    simp only [eM]
    rw [if_pos (aB1 hi)]
    simp (maxSteps := 2000000) only [yN hi, Option.bind_some, bE hp, t0, w0, b1, d1, w2, bne_self_eq_false, beq_self_eq_true, Bool.not_true, Bool.false_eq_true, if_false]
    rw [hE]
theorem M.aEE.gT (xs : List M.aG) (hx : (xs.length ≤ maxLen ∧ ∀ y ∈ xs, M.aG.ok y)) (k : Int) (h0 : 0 ≤ k) (hB : k + ((aD M.aG.cnt xs : Nat) : Int) ≤ KB) : ∃ ys, pB xs k = some (ys, k + ((aD M.aG.cnt xs : Nat) : Int)) ∧ pO ys k = some (k + ((aD M.aG.cnt xs : Nat) : Int)) ∧ ys.length = xs.length := by
  have hm := le_max hx.1
  obtain ⟨ys, h1, h2, h3⟩ := jR (ML := cZ) (HL := eM) (c := M.aG.cnt) (ok := M.aG.ok) (fun x hx k h0 hB => M.aG.oI x hx k h0 hB) (fun n k l => by simp only [cZ]; rw [if_neg (by rw [aO]; simp)]) (fun n k l => by simp only [eM]; rw [if_neg (by rw [aO]; simp)]) xs [] fuel k (by simpa using hx.1) (by unfold fuel; omega) hx.2 h0 hB
  refine ⟨ys, by unfold pB; simpa using h2, by unfold pO; simpa using h3 fuel (by unfold fuel; omega), h1⟩
def M.aA.cnt (x : M.aA) : Nat := 2
set_option maxHeartbeats 4000000 in
theorem M.aA.oI (x : M.aA) (hx : M.aA.ok x) (k : Int) (h0 : 0 ≤ k) (hB : k + ((M.aA.cnt x : Nat) : Int) ≤ KB) : ∃ x' : M.aA, (∀ n (pre post : List M.aA), (pre ++ x :: post).length ≤ maxLen → bS (n + 1) k pre.length (pre ++ x :: post) = bS n (k + ((M.aA.cnt x : Nat) : Int)) ((pre.length + 1 : Nat) : Int) (pre ++ x' :: post)) ∧ ∀ n (l : List M.aA) (i : Nat), l[i]? = some x' → l.length ≤ maxLen → cC l (n + 1) k i = cC l n (k + ((M.aA.cnt x : Nat) : Int)) ((i + 1 : Nat) : Int) := by
  unfold KB at hB; unfold M.aA.cnt at hB ⊢
  have A : (0 ≤ k ∧ k ≤ KB) ∧ (0 ≤ k + 1 ∧ k + 1 ≤ KB) ∧ (0 ≤ k + 1 + 1 ∧ k + 1 + 1 ≤ KB) := by
    unfold KB
    refine ⟨?_, ?_, ?_⟩ <;> omega
  have hE : k + 1 + 1 = k + ((M.aA.cnt x : Nat) : Int) := by unfold M.aA.cnt; omega
  unfold M.aA.cnt at hE
  obtain ⟨q0, q1, q2⟩ := A
  have t0 : aF (k) = some (mtx (k)) := mt q0.1 (Int.lt_of_add_one_le q1.2)
  have w0 := wk2 q0
  have t1 : aF (k + 1) = some (mtx (k + 1)) := mt q1.1 (Int.lt_of_add_one_le q2.2)
  have w1 := wk2 q1
  refine ⟨⟨(mtx (k)), (mtx (k + 1))⟩, fun n pre post hl => ?_, fun n l i hi hl => ?_⟩
  · have hl' := le_max hl
    have hp : pre.length < 9223372036854775807 := by simp at hl'; omega
    simp only [bS]
    rw [if_pos (zT pre post x)]
    simp (maxSteps := 2000000) only [qV, rA, Option.bind_some, bE hp, t0, w0, t1, w1]
    rw [hE]
  · have hl' := le_max hl
    have hp : i < 9223372036854775807 := by have := (List.getElem?_eq_some_iff.1 hi).1; omega
    simp only [cC]
    rw [if_pos (aB1 hi)]
    simp (maxSteps := 2000000) only [yN hi, Option.bind_some, bE hp, t0, w0, t1, w1, bne_self_eq_false, beq_self_eq_true, Bool.not_true, Bool.false_eq_true, if_false]
    rw [hE]
theorem M.aAA.gT (xs : List M.aA) (hx : (xs.length ≤ maxLen ∧ ∀ y ∈ xs, M.aA.ok y)) (k : Int) (h0 : 0 ≤ k) (hB : k + ((aD M.aA.cnt xs : Nat) : Int) ≤ KB) : ∃ ys, kR xs k = some (ys, k + ((aD M.aA.cnt xs : Nat) : Int)) ∧ kQ ys k = some (k + ((aD M.aA.cnt xs : Nat) : Int)) ∧ ys.length = xs.length := by
  have hm := le_max hx.1
  obtain ⟨ys, h1, h2, h3⟩ := jR (ML := bS) (HL := cC) (c := M.aA.cnt) (ok := M.aA.ok) (fun x hx k h0 hB => M.aA.oI x hx k h0 hB) (fun n k l => by simp only [bS]; rw [if_neg (by rw [aO]; simp)]) (fun n k l => by simp only [cC]; rw [if_neg (by rw [aO]; simp)]) xs [] fuel k (by simpa using hx.1) (by unfold fuel; omega) hx.2 h0 hB
  refine ⟨ys, by unfold kR; simpa using h2, by unfold kQ; simpa using h3 fuel (by unfold fuel; omega), h1⟩
def M.aW.cnt (x : M.aW) : Nat := 7
set_option maxHeartbeats 4000000 in
theorem M.aW.oI (x : M.aW) (hx : M.aW.ok x) (k : Int) (h0 : 0 ≤ k) (hB : k + ((M.aW.cnt x : Nat) : Int) ≤ KB) : ∃ x' : M.aW, (∀ n (pre post : List M.aW), (pre ++ x :: post).length ≤ maxLen → cW (n + 1) k pre.length (pre ++ x :: post) = cW n (k + ((M.aW.cnt x : Nat) : Int)) ((pre.length + 1 : Nat) : Int) (pre ++ x' :: post)) ∧ ∀ n (l : List M.aW) (i : Nat), l[i]? = some x' → l.length ≤ maxLen → eG l (n + 1) k i = eG l n (k + ((M.aW.cnt x : Nat) : Int)) ((i + 1 : Nat) : Int) := by
  unfold KB at hB; unfold M.aW.cnt at hB ⊢
  have A : (0 ≤ k ∧ k ≤ KB) ∧ (0 ≤ k + 1 ∧ k + 1 ≤ KB) ∧ (0 ≤ k + 1 + 1 ∧ k + 1 + 1 ≤ KB) ∧ (0 ≤ k + 1 + 1 + 1 ∧ k + 1 + 1 + 1 ≤ KB) ∧ (0 ≤ k + 1 + 1 + 1 + 1 ∧ k + 1 + 1 + 1 + 1 ≤ KB) ∧ (0 ≤ k + 1 + 1 + 1 + 1 + 1 ∧ k + 1 + 1 + 1 + 1 + 1 ≤ KB) ∧ (0 ≤ k + 1 + 1 + 1 + 1 + 1 + 1 ∧ k + 1 + 1 + 1 + 1 + 1 + 1 ≤ KB) ∧ (0 ≤ k + 1 + 1 + 1 + 1 + 1 + 1 + 1 ∧ k + 1 + 1 + 1 + 1 + 1 + 1 + 1 ≤ KB) := by
    unfold KB
    refine ⟨?_, ?_, ?_, ?_, ?_, ?_, ?_, ?_⟩ <;> omega
  have hE : k + 1 + 1 + 1 + 1 + 1 + 1 + 1 = k + ((M.aW.cnt x : Nat) : Int) := by unfold M.aW.cnt; omega
  unfold M.aW.cnt at hE
  obtain ⟨q0, q1, q2, q3, q4, q5, q6, q7⟩ := A
  have w0 := wk2 q0
  have w1 := wk2 q1
  have w2 := wk2 q2
  have w3 := wk2 q3
  have t4 : aF (k + 1 + 1 + 1 + 1) = some (mtx (k + 1 + 1 + 1 + 1)) := mt q4.1 (Int.lt_of_add_one_le q5.2)
  have w4 := wk2 q4
  have t5 : aF (k + 1 + 1 + 1 + 1 + 1) = some (mtx (k + 1 + 1 + 1 + 1 + 1)) := mt q5.1 (Int.lt_of_add_one_le q6.2)
  have w5 := wk2 q5
  have w6 := wk2 q6
  refine ⟨⟨k, k + 1, ⟨k + 1 + 1, k + 1 + 1 + 1, (mtx (k + 1 + 1 + 1 + 1))⟩, (mtx (k + 1 + 1 + 1 + 1 + 1)), k + 1 + 1 + 1 + 1 + 1 + 1⟩, fun n pre post hl => ?_, fun n l i hi hl => ?_⟩
  · have hl' := le_max hl
    have hp : pre.length < 9223372036854775807 := by simp at hl'; omega
    simp only [cW]
    rw [if_pos (zT pre post x)]
    simp (maxSteps := 2000000) only [qV, rA, Option.bind_some, bE hp, w0, w1, w2, w3, t4, w4, t5, w5, w6]
    rw [hE]
  · have hl' := le_max hl
    have hp : i < 9223372036854775807 := by have := (List.getElem?_eq_some_iff.1 hi).1; omega
    simp only [eG]
    rw [if_pos (aB1 hi)]
    simp (maxSteps := 2000000) only [yN hi, Option.bind_some, bE hp, w0, w1, w2, w3, t4, w4, t5, w5, w6, bne_self_eq_false, beq_self_eq_true, Bool.not_true, Bool.false_eq_true, if_false]
    rw [hE]
theorem M.aBX.gT (xs : List M.aW) (hx : (xs.length ≤ maxLen ∧ ∀ y ∈ xs, M.aW.ok y)) (k : Int) (h0 : 0 ≤ k) (hB : k + ((aD M.aW.cnt xs : Nat) : Int) ≤ KB) : ∃ ys, lE xs k = some (ys, k + ((aD M.aW.cnt xs : Nat) : Int)) ∧ lG ys k = some (k + ((aD M.aW.cnt xs : Nat) : Int)) ∧ ys.length = xs.length := by
  have hm := le_max hx.1
  obtain ⟨ys, h1, h2, h3⟩ := jR (ML := cW) (HL := eG) (c := M.aW.cnt) (ok := M.aW.ok) (fun x hx k h0 hB => M.aW.oI x hx k h0 hB) (fun n k l => by simp only [cW]; rw [if_neg (by rw [aO]; simp)]) (fun n k l => by simp only [eG]; rw [if_neg (by rw [aO]; simp)]) xs [] fuel k (by simpa using hx.1) (by unfold fuel; omega) hx.2 h0 hB
  refine ⟨ys, by unfold lE; simpa using h2, by unfold lG; simpa using h3 fuel (by unfold fuel; omega), h1⟩
def M.aE.cnt (x : M.aE) : Nat := 18 + (aD M.Cache.cnt x.Caches.Caches) + (aD M.aG.cnt x.bG.Base.Stores) + (aD M.aA.cnt x.bG.Base.Unique) + (x.bG.Log.length) + (aD M.Item.cnt x.aC.Base.Items) + (aD M.aW.cnt x.aC.Sync.aV.Writes)
set_option maxHeartbeats 4000000 in
theorem M.aE.oI (x : M.aE) (hx : M.aE.ok x) (k : Int) (h0 : 0 ≤ k) (hB : k + ((M.aE.cnt x : Nat) : Int) ≤ KB) : ∃ x' : M.aE, (∀ n (pre post : List M.aE), (pre ++ x :: post).length ≤ maxLen → cM (n + 1) k pre.length (pre ++ x :: post) = cM n (k + ((M.aE.cnt x : Nat) : Int)) ((pre.length + 1 : Nat) : Int) (pre ++ x' :: post)) ∧ ∀ n (l : List M.aE) (i : Nat), l[i]? = some x' → l.length ≤ maxLen → cG l (n + 1) k i = cG l n (k + ((M.aE.cnt x : Nat) : Int)) ((i + 1 : Nat) : Int) := by
  unfold KB at hB; unfold M.aE.cnt at hB ⊢
  have A : (0 ≤ k ∧ k ≤ KB) ∧ (0 ≤ k + 1 ∧ k + 1 ≤ KB) ∧ (0 ≤ k + 1 + 1 ∧ k + 1 + 1 ≤ KB) ∧ (0 ≤ k + 1 + 1 + 1 ∧ k + 1 + 1 + 1 ≤ KB) ∧ (0 ≤ k + 1 + 1 + 1 + 1 ∧ k + 1 + 1 + 1 + 1 ≤ KB) ∧ (0 ≤ k + 1 + 1 + 1 + 1 + 1 ∧ k + 1 + 1 + 1 + 1 + 1 ≤ KB) ∧ (0 ≤ k + 1 + 1 + 1 + 1 + 1 + 1 ∧ k + 1 + 1 + 1 + 1 + 1 + 1 ≤ KB) ∧ (0 ≤ k + 1 + 1 + 1 + 1 + 1 + 1 + ((aD M.Cache.cnt x.Caches.Caches : Nat) : Int) ∧ k + 1 + 1 + 1 + 1 + 1 + 1 + ((aD M.Cache.cnt x.Caches.Caches : Nat) : Int) ≤ KB) ∧ (0 ≤ k + 1 + 1 + 1 + 1 + 1 + 1 + ((aD M.Cache.cnt x.Caches.Caches : Nat) : Int) + 1 ∧ k + 1 + 1 + 1 + 1 + 1 + 1 + ((aD M.Cache.cnt x.Caches.Caches : Nat) : Int) + 1 ≤ KB) ∧ (0 ≤ k + 1 + 1 + 1 + 1 + 1 + 1 + ((aD M.Cache.cnt x.Caches.Caches : Nat) : Int) + 1 + 1 ∧ k + 1 + 1 + 1 + 1 + 1 + 1 + ((aD M.Cache.cnt x.Caches.Caches : Nat) : Int) + 1 + 1 ≤ KB) ∧ (0 ≤ k + 1 + 1 + 1 + 1 + 1 + 1 + ((aD M.Cache.cnt x.Caches.Caches : Nat) : Int) + 1 + 1 + ((aD M.aG.cnt x.bG.Base.Stores : Nat) : Int) ∧ k + 1 + 1 + 1 + 1 + 1 + 1 + ((aD M.Cache.cnt x.Caches.Caches : Nat) : Int) + 1 + 1 + ((aD M.aG.cnt x.bG.Base.Stores : Nat) : Int) ≤ KB) ∧ (0 ≤ k + 1 + 1 + 1 + 1 + 1 + 1 + ((aD M.Cache.cnt x.Caches.Caches : Nat) : Int) + 1 + 1 + ((aD M.aG.cnt x.bG.Base.Stores : Nat) : Int) + ((aD M.aA.cnt x.bG.Base.Unique : Nat) : Int) ∧ k + 1 + 1 + 1 + 1 + 1 + 1 + ((aD M.Cache.cnt x.Caches.Caches : Nat) : Int) + 1 + 1 + ((aD M.aG.cnt x.bG.Base.Stores : Nat) : Int) + ((aD M.aA.cnt x.bG.Base.Unique : Nat) : Int) ≤ KB) ∧ (0 ≤ k + 1 + 1 + 1 + 1 + 1 + 1 + ((aD M.Cache.cnt x.Caches.Caches : Nat) : Int) + 1 + 1 + ((aD M.aG.cnt x.bG.Base.Stores : Nat) : Int) + ((aD M.aA.cnt x.bG.Base.Unique : Nat) : Int) + ((x.bG.Log.length : Nat) : Int) ∧ k + 1 + 1 + 1 + 1 + 1 + 1 + ((aD M.Cache.cnt x.Caches.Caches : Nat) : Int) + 1 + 1 + ((aD M.aG.cnt x.bG.Base.Stores : Nat) : Int) + ((aD M.aA.cnt x.bG.Base.Unique : Nat) : Int) + ((x.bG.Log.length : Nat) : Int) ≤ KB) ∧ (0 ≤ k + 1 + 1 + 1 + 1 + 1 + 1 + ((aD M.Cache.cnt x.Caches.Caches : Nat) : Int) + 1 + 1 + ((aD M.aG.cnt x.bG.Base.Stores : Nat) : Int) + ((aD M.aA.cnt x.bG.Base.Unique : Nat) : Int) + ((x.bG.Log.length : Nat) : Int) + 1 ∧ k + 1 + 1 + 1 + 1 + 1 + 1 + ((aD M.Cache.cnt x.Caches.Caches : Nat) : Int) + 1 + 1 + ((aD M.aG.cnt x.bG.Base.Stores : Nat) : Int) + ((aD M.aA.cnt x.bG.Base.Unique : Nat) : Int) + ((x.bG.Log.length : Nat) : Int) + 1 ≤ KB) ∧ (0 ≤ k + 1 + 1 + 1 + 1 + 1 + 1 + ((aD M.Cache.cnt x.Caches.Caches : Nat) : Int) + 1 + 1 + ((aD M.aG.cnt x.bG.Base.Stores : Nat) : Int) + ((aD M.aA.cnt x.bG.Base.Unique : Nat) : Int) + ((x.bG.Log.length : Nat) : Int) + 1 + 1 ∧ k + 1 + 1 + 1 + 1 + 1 + 1 + ((aD M.Cache.cnt x.Caches.Caches : Nat) : Int) + 1 + 1 + ((aD M.aG.cnt x.bG.Base.Stores : Nat) : Int) + ((aD M.aA.cnt x.bG.Base.Unique : Nat) : Int) + ((x.bG.Log.length : Nat) : Int) + 1 + 1 ≤ KB) ∧ (0 ≤ k + 1 + 1 + 1 + 1 + 1 + 1 + ((aD M.Cache.cnt x.Caches.Caches : Nat) : Int) + 1 + 1 + ((aD M.aG.cnt x.bG.Base.Stores : Nat) : Int) + ((aD M.aA.cnt x.bG.Base.Unique : Nat) : Int) + ((x.bG.Log.length : Nat) : Int) + 1 + 1 + ((aD M.Item.cnt x.aC.Base.Items : Nat) : Int) ∧ k + 1 + 1 + 1 + 1 + 1 + 1 + ((aD M.Cache.cnt x.Caches.Caches : Nat) : Int) + 1 + 1 + ((aD M.aG.cnt x.bG.Base.Stores : Nat) : Int) + ((aD M.aA.cnt x.bG.Base.Unique : Nat) : Int) + ((x.bG.Log.length : Nat) : Int) + 1 + 1 + ((aD M.Item.cnt x.aC.Base.Items : Nat) : Int) ≤ KB) ∧ (0 ≤ k + 1 + 1 + 1 + 1 + 1 + 1 + ((aD M.Cache.cnt x.Caches.Caches : Nat) : Int) + 1 + 1 + ((aD M.aG.cnt x.bG.Base.Stores : Nat) : Int) + ((aD M.aA.cnt x.bG.Base.Unique : Nat) : Int) + ((x.bG.Log.length : Nat) : Int) + 1 + 1 + ((aD M.Item.cnt x.aC.Base.Items : Nat) : Int) + 1 ∧ k + 1 + 1 + 1 + 1 + 1 + 1 + ((aD M.Cache.cnt x.Caches.Caches : Nat) : Int) + 1 + 1 + ((aD M.aG.cnt x.bG.Base.Stores : Nat) : Int) + ((aD M.aA.cnt x.bG.Base.Unique : Nat) : Int) + ((x.bG.Log.length : Nat) : Int) + 1 + 1 + ((aD M.Item.cnt x.aC.Base.Items : Nat) : Int) + 1 ≤ KB) ∧ (0 ≤ k + 1 + 1 + 1 + 1 + 1 + 1 + ((aD M.Cache.cnt x.Caches.Caches : Nat) : Int) + 1 + 1 + ((aD M.aG.cnt x.bG.Base.Stores : Nat) : Int) + ((aD M.aA.cnt x.bG.Base.Unique : Nat) : Int) + ((x.bG.Log.length : Nat) : Int) + 1 + 1 + ((aD M.Item.cnt x.aC.Base.Items : Nat) : Int) + 1 + 1 ∧ k + 1 + 1 + 1 + 1 + 1 + 1 + ((aD M.Cache.cnt x.Caches.Caches : Nat) : Int) + 1 + 1 + ((aD M.aG.cnt x.bG.Base.Stores : Nat) : Int) + ((aD M.aA.cnt x.bG.Base.Unique : Nat) : Int) + ((x.bG.Log.length : Nat) : Int) + 1 + 1 + ((aD M.Item.cnt x.aC.Base.Items : Nat) : Int) + 1 + 1 ≤ KB) ∧ (0 ≤ k + 1 + 1 + 1 + 1 + 1 + 1 + ((aD M.Cache.cnt x.Caches.Caches : Nat) : Int) + 1 + 1 + ((aD M.aG.cnt x.bG.Base.Stores : Nat) : Int) + ((aD M.aA.cnt x.bG.Base.Unique : Nat) : Int) + ((x.bG.Log.length : Nat) : Int) + 1 + 1 + ((aD M.Item.cnt x.aC.Base.Items : Nat) : Int) + 1 + 1 + 1 ∧ k + 1 + 1 + 1 + 1 + 1 + 1 + ((aD M.Cache.cnt x.Caches.Caches : Nat) : Int) + 1 + 1 + ((aD M.aG.cnt x.bG.Base.Stores : Nat) : Int) + ((aD M.aA.cnt x.bG.Base.Unique : Nat) : Int) + ((x.bG.Log.length : Nat) : Int) + 1 + 1 + ((aD M.Item.cnt x.aC.Base.Items : Nat) : Int) + 1 + 1 + 1 ≤ KB) ∧ (0 ≤ k + 1 + 1 + 1 + 1 + 1 + 1 + ((aD M.Cache.cnt x.Caches.Caches : Nat) : Int) + 1 + 1 + ((aD M.aG.cnt x.bG.Base.Stores : Nat) : Int) + ((aD M.aA.cnt x.bG.Base.Unique : Nat) : Int) + ((x.bG.Log.length : Nat) : Int) + 1 + 1 + ((aD M.Item.cnt x.aC.Base.Items : Nat) : Int) + 1 + 1 + 1 + 1 ∧ k + 1 + 1 + 1 + 1 + 1 + 1 + ((aD M.Cache.cnt x.Caches.Caches : Nat) : Int) + 1 + 1 + ((aD M.aG.cnt x.bG.Base.Stores : Nat) : Int) + ((aD M.aA.cnt x.bG.Base.Unique : Nat) : Int) + ((x.bG.Log.length : Nat) : Int) + 1 + 1 + ((aD M.Item.cnt x.aC.Base.Items : Nat) : Int) + 1 + 1 + 1 + 1 ≤ KB) ∧ (0 ≤ k + 1 + 1 + 1 + 1 + 1 + 1 + ((aD M.Cache.cnt x.Caches.Caches : Nat) : Int) + 1 + 1 + ((aD M.aG.cnt x.bG.Base.Stores : Nat) : Int) + ((aD M.aA.cnt x.bG.Base.Unique : Nat) : Int) + ((x.bG.Log.length : Nat) : Int) + 1 + 1 + ((aD M.Item.cnt x.aC.Base.Items : Nat) : Int) + 1 + 1 + 1 + 1 + ((aD M.aW.cnt x.aC.Sync.aV.Writes : Nat) : Int) ∧ k + 1 + 1 + 1 + 1 + 1 + 1 + ((aD M.Cache.cnt x.Caches.Caches : Nat) : Int) + 1 + 1 + ((aD M.aG.cnt x.bG.Base.Stores : Nat) : Int) + ((aD M.aA.cnt x.bG.Base.Unique : Nat) : Int) + ((x.bG.Log.length : Nat) : Int) + 1 + 1 + ((aD M.Item.cnt x.aC.Base.Items : Nat) : Int) + 1 + 1 + 1 + 1 + ((aD M.aW.cnt x.aC.Sync.aV.Writes : Nat) : Int) ≤ KB) ∧ (0 ≤ k + 1 + 1 + 1 + 1 + 1 + 1 + ((aD M.Cache.cnt x.Caches.Caches : Nat) : Int) + 1 + 1 + ((aD M.aG.cnt x.bG.Base.Stores : Nat) : Int) + ((aD M.aA.cnt x.bG.Base.Unique : Nat) : Int) + ((x.bG.Log.length : Nat) : Int) + 1 + 1 + ((aD M.Item.cnt x.aC.Base.Items : Nat) : Int) + 1 + 1 + 1 + 1 + ((aD M.aW.cnt x.aC.Sync.aV.Writes : Nat) : Int) + 1 ∧ k + 1 + 1 + 1 + 1 + 1 + 1 + ((aD M.Cache.cnt x.Caches.Caches : Nat) : Int) + 1 + 1 + ((aD M.aG.cnt x.bG.Base.Stores : Nat) : Int) + ((aD M.aA.cnt x.bG.Base.Unique : Nat) : Int) + ((x.bG.Log.length : Nat) : Int) + 1 + 1 + ((aD M.Item.cnt x.aC.Base.Items : Nat) : Int) + 1 + 1 + 1 + 1 + ((aD M.aW.cnt x.aC.Sync.aV.Writes : Nat) : Int) + 1 ≤ KB) ∧ (0 ≤ k + 1 + 1 + 1 + 1 + 1 + 1 + ((aD M.Cache.cnt x.Caches.Caches : Nat) : Int) + 1 + 1 + ((aD M.aG.cnt x.bG.Base.Stores : Nat) : Int) + ((aD M.aA.cnt x.bG.Base.Unique : Nat) : Int) + ((x.bG.Log.length : Nat) : Int) + 1 + 1 + ((aD M.Item.cnt x.aC.Base.Items : Nat) : Int) + 1 + 1 + 1 + 1 + ((aD M.aW.cnt x.aC.Sync.aV.Writes : Nat) : Int) + 1 + 1 ∧ k + 1 + 1 + 1 + 1 + 1 + 1 + ((aD M.Cache.cnt x.Caches.Caches : Nat) : Int) + 1 + 1 + ((aD M.aG.cnt x.bG.Base.Stores : Nat) : Int) + ((aD M.aA.cnt x.bG.Base.Unique : Nat) : Int) + ((x.bG.Log.length : Nat) : Int) + 1 + 1 + ((aD M.Item.cnt x.aC.Base.Items : Nat) : Int) + 1 + 1 + 1 + 1 + ((aD M.aW.cnt x.aC.Sync.aV.Writes : Nat) : Int) + 1 + 1 ≤ KB) ∧ (0 ≤ k + 1 + 1 + 1 + 1 + 1 + 1 + ((aD M.Cache.cnt x.Caches.Caches : Nat) : Int) + 1 + 1 + ((aD M.aG.cnt x.bG.Base.Stores : Nat) : Int) + ((aD M.aA.cnt x.bG.Base.Unique : Nat) : Int) + ((x.bG.Log.length : Nat) : Int) + 1 + 1 + ((aD M.Item.cnt x.aC.Base.Items : Nat) : Int) + 1 + 1 + 1 + 1 + ((aD M.aW.cnt x.aC.Sync.aV.Writes : Nat) : Int) + 1 + 1 + 1 ∧ k + 1 + 1 + 1 + 1 + 1 + 1 + ((aD M.Cache.cnt x.Caches.Caches : Nat) : Int) + 1 + 1 + ((aD M.aG.cnt x.bG.Base.Stores : Nat) : Int) + ((aD M.aA.cnt x.bG.Base.Unique : Nat) : Int) + ((x.bG.Log.length : Nat) : Int) + 1 + 1 + ((aD M.Item.cnt x.aC.Base.Items : Nat) : Int) + 1 + 1 + 1 + 1 + ((aD M.aW.cnt x.aC.Sync.aV.Writes : Nat) : Int) + 1 + 1 + 1 ≤ KB) ∧ (0 ≤ k + 1 + 1 + 1 + 1 + 1 + 1 + ((aD M.Cache.cnt x.Caches.Caches : Nat) : Int) + 1 + 1 + ((aD M.aG.cnt x.bG.Base.Stores : Nat) : Int) + ((aD M.aA.cnt x.bG.Base.Unique : Nat) : Int) + ((x.bG.Log.length : Nat) : Int) + 1 + 1 + ((aD M.Item.cnt x.aC.Base.Items : Nat) : Int) + 1 + 1 + 1 + 1 + ((aD M.aW.cnt x.aC.Sync.aV.Writes : Nat) : Int) + 1 + 1 + 1 + 1 ∧ k + 1 + 1 + 1 + 1 + 1 + 1 + ((aD M.Cache.cnt x.Caches.Caches : Nat) : Int) + 1 + 1 + ((aD M.aG.cnt x.bG.Base.Stores : Nat) : Int) + ((aD M.aA.cnt x.bG.Base.Unique : Nat) : Int) + ((x.bG.Log.length : Nat) : Int) + 1 + 1 + ((aD M.Item.cnt x.aC.Base.Items : Nat) : Int) + 1 + 1 + 1 + 1 + ((aD M.aW.cnt x.aC.Sync.aV.Writes : Nat) : Int) + 1 + 1 + 1 + 1 ≤ KB) := by
    unfold KB
    refine ⟨?_, ?_, ?_, ?_, ?_, ?_, ?_, ?_, ?_, ?_, ?_, ?_, ?_, ?_, ?_, ?_, ?_, ?_, ?_, ?_, ?_, ?_, ?_, ?_, ?_⟩ <;> omega
  have hE : k + 1 + 1 + 1 + 1 + 1 + 1 + ((aD M.Cache.cnt x.Caches.Caches : Nat) : Int) + 1 + 1 + ((aD M.aG.cnt x.bG.Base.Stores : Nat) : Int) + ((aD M.aA.cnt x.bG.Base.Unique : Nat) : Int) + ((x.bG.Log.length : Nat) : Int) + 1 + 1 + ((aD M.Item.cnt x.aC.Base.Items : Nat) : Int) + 1 + 1 + 1 + 1 + ((aD M.aW.cnt x.aC.Sync.aV.Writes : Nat) : Int) + 1 + 1 + 1 + 1 = k + ((M.aE.cnt x : Nat) : Int) := by unfold M.aE.cnt; omega
  unfold M.aE.cnt at hE
  obtain ⟨q0, q1, q2, q3, q4, q5, q6, q7, q8, q9, q10, q11, q12, q13, q14, q15, q16, q17, q18, q19, q20, q21, q22, q23, q24⟩ := A
  have t0 : aF (k) = some (mtx (k)) := mt q0.1 (Int.lt_of_add_one_le q1.2)
  have w0 := wk2 q0
  have t1 : aF (k + 1) = some (mtx (k + 1)) := mt q1.1 (Int.lt_of_add_one_le q2.2)
  have w1 := wk2 q1
  have t2 : aF (k + 1 + 1) = some (mtx (k + 1 + 1)) := mt q2.1 (Int.lt_of_add_one_le q3.2)
  have w2 := wk2 q2
  have w3 := wk2 q3
  have w4 := wk2 q4
  have w5 := wk2 q5
  obtain ⟨y1, a1, b1, _⟩ := M.aDg.gT _ hx.Caches.Caches (k + 1 + 1 + 1 + 1 + 1 + 1) q6.1 q7.2
  have d1 : (decide (k + 1 + 1 + 1 + 1 + 1 + 1 + ((aD M.Cache.cnt x.Caches.Caches : Nat) : Int) < 0)) = false := dk q7.1
  have t7 : aF (k + 1 + 1 + 1 + 1 + 1 + 1 + ((aD M.Cache.cnt x.Caches.Caches : Nat) : Int)) = some (mtx (k + 1 + 1 + 1 + 1 + 1 + 1 + ((aD M.Cache.cnt x.Caches.Caches : Nat) : Int))) := mt q7.1 (Int.lt_of_add_one_le q8.2)
  have w7 := wk2 q7
  have w8 := wk2 q8
  obtain ⟨y2, a2, b2, _⟩ := M.aEE.gT _ hx.bG.Base.Stores (k + 1 + 1 + 1 + 1 + 1 + 1 + ((aD M.Cache.cnt x.Caches.Caches : Nat) : Int) + 1 + 1) q9.1 q10.2
  have d2 : (decide (k + 1 + 1 + 1 + 1 + 1 + 1 + ((aD M.Cache.cnt x.Caches.Caches : Nat) : Int) + 1 + 1 + ((aD M.aG.cnt x.bG.Base.Stores : Nat) : Int) < 0)) = false := dk q10.1
  obtain ⟨y3, a3, b3, _⟩ := M.aAA.gT _ hx.bG.Base.Unique (k + 1 + 1 + 1 + 1 + 1 + 1 + ((aD M.Cache.cnt x.Caches.Caches : Nat) : Int) + 1 + 1 + ((aD M.aG.cnt x.bG.Base.Stores : Nat) : Int)) q10.1 q11.2
  have d3 : (decide (k + 1 + 1 + 1 + 1 + 1 + 1 + ((aD M.Cache.cnt x.Caches.Caches : Nat) : Int) + 1 + 1 + ((aD M.aG.cnt x.bG.Base.Stores : Nat) : Int) + ((aD M.aA.cnt x.bG.Base.Unique : Nat) : Int) < 0)) = false := dk q11.1
  obtain ⟨y4, a4, b4, _⟩ := M.aB9.gT _ hx.bG.Log (k + 1 + 1 + 1 + 1 + 1 + 1 + ((aD M.Cache.cnt x.Caches.Caches : Nat) : Int) + 1 + 1 + ((aD M.aG.cnt x.bG.Base.Stores : Nat) : Int) + ((aD M.aA.cnt x.bG.Base.Unique : Nat) : Int)) q11.1 q12.2
  have d4 : (decide (k + 1 + 1 + 1 + 1 + 1 + 1 + ((aD M.Cache.cnt x.Caches.Caches : Nat) : Int) + 1 + 1 + ((aD M.aG.cnt x.bG.Base.Stores : Nat) : Int) + ((aD M.aA.cnt x.bG.Base.Unique : Nat) : Int) + ((x.bG.Log.length : Nat) : Int) < 0)) = false := dk q12.1
  have w12 := wk2 q12
  have t13 : aF (k + 1 + 1 + 1 + 1 + 1 + 1 + ((aD M.Cache.cnt x.Caches.Caches : Nat) : Int) + 1 + 1 + ((aD M.aG.cnt x.bG.Base.Stores : Nat) : Int) + ((aD M.aA.cnt x.bG.Base.Unique : Nat) : Int) + ((x.bG.Log.length : Nat) : Int) + 1) = some (mtx (k + 1 + 1 + 1 + 1 + 1 + 1 + ((aD M.Cache.cnt x.Caches.Caches : Nat) : Int) + 1 + 1 + ((aD M.aG.cnt x.bG.Base.Stores : Nat) : Int) + ((aD M.aA.cnt x.bG.Base.Unique : Nat) : Int) + ((x.bG.Log.length : Nat) : Int) + 1)) := mt q13.1 (Int.lt_of_add_one_le q14.2)
  have w13 := wk2 q13
  obtain ⟨y5, a5, b5, _⟩ := M.aEm.gT _ hx.aC.Base.Items (k + 1 + 1 + 1 + 1 + 1 + 1 + ((aD M.Cache.cnt x.Caches.Caches : Nat) : Int) + 1 + 1 + ((aD M.aG.cnt x.bG.Base.Stores : Nat) : Int) + ((aD M.aA.cnt x.bG.Base.Unique : Nat) : Int) + ((x.bG.Log.length : Nat) : Int) + 1 + 1) q14.1 q15.2
  have d5 : (decide (k + 1 + 1 + 1 + 1 + 1 + 1 + ((aD M.Cache.cnt x.Caches.Caches : Nat) : Int) + 1 + 1 + ((aD M.aG.cnt x.bG.Base.Stores : Nat) : Int) + ((aD M.aA.cnt x.bG.Base.Unique : Nat) : Int) + ((x.bG.Log.length : Nat) : Int) + 1 + 1 + ((aD M.Item.cnt x.aC.Base.Items : Nat) : Int) < 0)) = false := dk q15.1
  have w15 := wk2 q15
  have w16 := wk2 q16
  have w17 := wk2 q17
  have w18 := wk2 q18
  obtain ⟨y6, a6, b6, _⟩ := M.aBX.gT _ hx.aC.Sync.aV.Writes (k + 1 + 1 + 1 + 1 + 1 + 1 + ((aD M.Cache.cnt x.Caches.Caches : Nat) : Int) + 1 + 1 + ((aD M.aG.cnt x.bG.Base.Stores : Nat) : Int) + ((aD M.aA.cnt x.bG.Base.Unique : Nat) : Int) + ((x.bG.Log.length : Nat) : Int) + 1 + 1 + ((aD M.Item.cnt x.aC.Base.Items : Nat) : Int) + 1 + 1 + 1 + 1) q19.1 q20.2
  have d6 : (decide (k + 1 + 1 + 1 + 1 + 1 + 1 + ((aD M.Cache.cnt x.Caches.Caches : Nat) : Int) + 1 + 1 + ((aD M.aG.cnt x.bG.Base.Stores : Nat) : Int) + ((aD M.aA.cnt x.bG.Base.Unique : Nat) : Int) + ((x.bG.Log.length : Nat) : Int) + 1 + 1 + ((aD M.Item.cnt x.aC.Base.Items : Nat) : Int) + 1 + 1 + 1 + 1 + ((aD M.aW.cnt x.aC.Sync.aV.Writes : Nat) : Int) < 0)) = false := dk q20.1
  have w20 := wk2 q20
  have w21 := wk2 q21
  have w22 := wk2 q22
  have w23 := wk2 q23
  refine ⟨⟨(mtx (k)), (mtx (k + 1)), ⟨(mtx (k + 1 + 1)), k + 1 + 1 + 1, k + 1 + 1 + 1 + 1, k + 1 + 1 + 1 + 1 + 1⟩, ⟨y1⟩, ⟨⟨(mtx (k + 1 + 1 + 1 + 1 + 1 + 1 + ((aD M.Cache.cnt x.Caches.Caches : Nat) : Int))), k + 1 + 1 + 1 + 1 + 1 + 1 + ((aD M.Cache.cnt x.Caches.Caches : Nat) : Int) + 1, y2, y3⟩, y4, k + 1 + 1 + 1 + 1 + 1 + 1 + ((aD M.Cache.cnt x.Caches.Caches : Nat) : Int) + 1 + 1 + ((aD M.aG.cnt x.bG.Base.Stores : Nat) : Int) + ((aD M.aA.cnt x.bG.Base.Unique : Nat) : Int) + ((x.bG.Log.length : Nat) : Int)⟩, ⟨⟨(mtx (k + 1 + 1 + 1 + 1 + 1 + 1 + ((aD M.Cache.cnt x.Caches.Caches : Nat) : Int) + 1 + 1 + ((aD M.aG.cnt x.bG.Base.Stores : Nat) : Int) + ((aD M.aA.cnt x.bG.Base.Unique : Nat) : Int) + ((x.bG.Log.length : Nat) : Int) + 1)), y5, k + 1 + 1 + 1 + 1 + 1 + 1 + ((aD M.Cache.cnt x.Caches.Caches : Nat) : Int) + 1 + 1 + ((aD M.aG.cnt x.bG.Base.Stores : Nat) : Int) + ((aD M.aA.cnt x.bG.Base.Unique : Nat) : Int) + ((x.bG.Log.length : Nat) : Int) + 1 + 1 + ((aD M.Item.cnt x.aC.Base.Items : Nat) : Int)⟩, k + 1 + 1 + 1 + 1 + 1 + 1 + ((aD M.Cache.cnt x.Caches.Caches : Nat) : Int) + 1 + 1 + ((aD M.aG.cnt x.bG.Base.Stores : Nat) : Int) + ((aD M.aA.cnt x.bG.Base.Unique : Nat) : Int) + ((x.bG.Log.length : Nat) : Int) + 1 + 1 + ((aD M.Item.cnt x.aC.Base.Items : Nat) : Int) + 1, ⟨⟨k + 1 + 1 + 1 + 1 + 1 + 1 + ((aD M.Cache.cnt x.Caches.Caches : Nat) : Int) + 1 + 1 + ((aD M.aG.cnt x.bG.Base.Stores : Nat) : Int) + ((aD M.aA.cnt x.bG.Base.Unique : Nat) : Int) + ((x.bG.Log.length : Nat) : Int) + 1 + 1 + ((aD M.Item.cnt x.aC.Base.Items : Nat) : Int) + 1 + 1, k + 1 + 1 + 1 + 1 + 1 + 1 + ((aD M.Cache.cnt x.Caches.Caches : Nat) : Int) + 1 + 1 + ((aD M.aG.cnt x.bG.Base.Stores : Nat) : Int) + ((aD M.aA.cnt x.bG.Base.Unique : Nat) : Int) + ((x.bG.Log.length : Nat) : Int) + 1 + 1 + ((aD M.Item.cnt x.aC.Base.Items : Nat) : Int) + 1 + 1 + 1, y6⟩, k + 1 + 1 + 1 + 1 + 1 + 1 + ((aD M.Cache.cnt x.Caches.Caches : Nat) : Int) + 1 + 1 + ((aD M.aG.cnt x.bG.Base.Stores : Nat) : Int) + ((aD M.aA.cnt x.bG.Base.Unique : Nat) : Int) + ((x.bG.Log.length : Nat) : Int) + 1 + 1 + ((aD M.Item.cnt x.aC.Base.Items : Nat) : Int) + 1 + 1 + 1 + 1 + ((aD M.aW.cnt x.aC.Sync.aV.Writes : Nat) : Int), k + 1 + 1 + 1 + 1 + 1 + 1 + ((aD M.Cache.cnt x.Caches.Caches : Nat) : Int) + 1 + 1 + ((aD M.aG.cnt x.bG.Base.Stores : Nat) : Int) + ((aD M.aA.cnt x.bG.Base.Unique : Nat) : Int) + ((x.bG.Log.length : Nat) : Int) + 1 + 1 + ((aD M.Item.cnt x.aC.Base.Items : Nat) : Int) + 1 + 1 + 1 + 1 + ((aD M.aW.cnt x.aC.Sync.aV.Writes : Nat) : Int) + 1⟩⟩, k + 1 + 1 + 1 + 1 + 1 + 1 + ((aD M.Cache.cnt x.Caches.Caches : Nat) : Int) + 1 + 1 + ((aD M.aG.cnt x.bG.Base.Stores : Nat) : Int) + ((aD M.aA.cnt x.bG.Base.Unique : Nat) : Int) + ((x.bG.Log.length : Nat) : Int) + 1 + 1 + ((aD M.Item.cnt x.aC.Base.Items : Nat) : Int) + 1 + 1 + 1 + 1 + ((aD M.aW.cnt x.aC.Sync.aV.Writes : Nat) : Int) + 1 + 1, ((Int.tmod (k + 1 + 1 + 1 + 1 + 1 + 1 + ((aD M.Cache.cnt x.Caches.Caches : Nat) : Int) + 1 + 1 + ((aD M.aG.cnt x.bG.Base.Stores : Nat) : Int) + ((aD M.aA.cnt x.bG.Base.Unique : Nat) : Int) + ((x.bG.Log.length : Nat) : Int) + 1 + 1 + ((aD M.Item.cnt x.aC.Base.Items : Nat) : Int) + 1 + 1 + 1 + 1 + ((aD M.aW.cnt x.aC.Sync.aV.Writes : Nat) : Int) + 1 + 1 + 1) 3) == 0)⟩, fun n pre post hl => ?_, fun n l i hi hl => ?_⟩
  · have hl' := le_max hl
    have hp : pre.length < 9223372036854775807 := by simp at hl'; omega
    simp only [cM]
    rw [if_pos (zT pre post x)]
    simp (maxSteps := 2000000) only [qV, rA, Option.bind_some, bE hp, t0, w0, t1, w1, t2, w2, w3, w4, w5, a1, t7, w7, w8, a2, a3, a4, w12, t13, w13, a5, w15, w16, w17, w18, a6, w20, w21, w22, w23]
    rw [hE]
  · have hl' := le_max hl
    have hp : i < 9223372036854775807 := by have := (List.getElem?_eq_some_iff.1 hi).1; omega
    simp only [cG]
    rw [if_pos (aB1 hi)]
    simp (maxSteps := 2000000) only [yN hi, Option.bind_some, bE hp, t0, w0, t1, w1, t2, w2, w3, w4, w5, b1, d1, t7, w7, w8, b2, d2, b3, d3, b4, d4, w12, t13, w13, b5, d5, w15, w16, w17, w18, b6, d6, w20, w21, w22, w23, bne_self_eq_false, beq_self_eq_true, Bool.not_true, Bool.false_eq_true, if_false]
    rw [hE]
theorem M.aB5.gT (xs : List M.aE) (hx : (xs.length ≤ maxLen ∧ ∀ y ∈ xs, M.aE.ok y)) (k : Int) (h0 : 0 ≤ k) (hB : k + ((aD M.aE.cnt xs : Nat) : Int) ≤ KB) : ∃ ys, nB xs k = some (ys, k + ((aD M.aE.cnt xs : Nat) : Int)) ∧ oE ys k = some (k + ((aD M.aE.cnt xs : Nat) : Int)) ∧ ys.length = xs.length := by
  have hm := le_max hx.1
  obtain ⟨ys, h1, h2, h3⟩ := jR (ML := cM) (HL := cG) (c := M.aE.cnt) (ok := M.aE.ok) (fun x hx k h0 hB => M.aE.oI x hx k h0 hB) (fun n k l => by simp only [cM]; rw [if_neg (by rw [aO]; simp)]) (fun n k l => by simp only [cG]; rw [if_neg (by rw [aO]; simp)]) xs [] fuel k (by simpa using hx.1) (by unfold fuel; omega) hx.2 h0 hB
  refine ⟨ys, by unfold nB; simpa using h2, by unfold oE; simpa using h3 fuel (by unfold fuel; omega), h1⟩
def M.aM.cnt (x : M.aM) : Nat := 2
set_option maxHeartbeats 4000000 in
theorem M.aM.oI (x : M.aM) (hx : M.aM.ok x) (k : Int) (h0 : 0 ≤ k) (hB : k + ((M.aM.cnt x : Nat) : Int) ≤ KB) : ∃ x' : M.aM, (∀ n (pre post : List M.aM), (pre ++ x :: post).length ≤ maxLen → cE (n + 1) k pre.length (pre ++ x :: post) = cE n (k + ((M.aM.cnt x : Nat) : Int)) ((pre.length + 1 : Nat) : Int) (pre ++ x' :: post)) ∧ ∀ n (l : List M.aM) (i : Nat), l[i]? = some x' → l.length ≤ maxLen → dG l (n + 1) k i = dG l n (k + ((M.aM.cnt x : Nat) : Int)) ((i + 1 : Nat) : Int) := by
  unfold KB at hB; unfold M.aM.cnt at hB ⊢
  have A : (0 ≤ k ∧ k ≤ KB) ∧ (0 ≤ k + 1 ∧ k + 1 ≤ KB) ∧ (0 ≤ k + 1 + 1 ∧ k + 1 + 1 ≤ KB) := by
    unfold KB
    refine ⟨?_, ?_, ?_⟩ <;> omega
  have hE : k + 1 + 1 = k + ((M.aM.cnt x : Nat) : Int) := by unfold M.aM.cnt; omega
  unfold M.aM.cnt at hE
  obtain ⟨q0, q1, q2⟩ := A
  have t0 : aF (k) = some (mtx (k)) := mt q0.1 (Int.lt_of_add_one_le q1.2)
  have w0 := wk2 q0
  have w1 := wk2 q1
  refine ⟨⟨(mtx (k)), k + 1⟩, fun n pre post hl => ?_, fun n l i hi hl => ?_⟩
  · have hl' := le_max hl
    have hp : pre.length < 9223372036854775807 := by simp at hl'; omega
    simp only [cE]
    rw [if_pos (zT pre post x)]
    simp (maxSteps := 2000000) only [qV, rA, Option.bind_some, bE hp, t0, w0, w1]
    rw [hE]
  · have hl' := le_max hl
    have hp : i < 9223372036854775807 := by have := (List.getElem?_eq_some_iff.1 hi).1; omega
    simp only [dG]
    rw [if_pos (aB1 hi)]
    simp (maxSteps := 2000000) only [yN hi, Option.bind_some, bE hp, t0, w0, w1, bne_self_eq_false, beq_self_eq_true, Bool.not_true, Bool.false_eq_true, if_false]
    rw [hE]
theorem M.aB3.gT (xs : List M.aM) (hx : (xs.length ≤ maxLen ∧ ∀ y ∈ xs, M.aM.ok y)) (k : Int) (h0 : 0 ≤ k) (hB : k + ((aD M.aM.cnt xs : Nat) : Int) ≤ KB) : ∃ ys, nF xs k = some (ys, k + ((aD M.aM.cnt xs : Nat) : Int)) ∧ nH ys k = some (k + ((aD M.aM.cnt xs : Nat) : Int)) ∧ ys.length = xs.length := by
  have hm := le_max hx.1
  obtain ⟨ys, h1, h2, h3⟩ := jR (ML := cE) (HL := dG) (c := M.aM.cnt) (ok := M.aM.ok) (fun x hx k h0 hB => M.aM.oI x hx k h0 hB) (fun n k l => by simp only [cE]; rw [if_neg (by rw [aO]; simp)]) (fun n k l => by simp only [dG]; rw [if_neg (by rw [aO]; simp)]) xs [] fuel k (by simpa using hx.1) (by unfold fuel; omega) hx.2 h0 hB
  refine ⟨ys, by unfold nF; simpa using h2, by unfold nH; simpa using h3 fuel (by unfold fuel; omega), h1⟩
def M.Instr.cnt (x : M.Instr) : Nat := 4
set_option maxHeartbeats 4000000 in
theorem M.Instr.oI (x : M.Instr) (hx : M.Instr.ok x) (k : Int) (h0 : 0 ≤ k) (hB : k + ((M.Instr.cnt x : Nat) : Int) ≤ KB) : ∃ x' : M.Instr, (∀ n (pre post : List M.Instr), (pre ++ x :: post).length ≤ maxLen → cU (n + 1) k pre.length (pre ++ x :: post) = cU n (k + ((M.Instr.cnt x : Nat) : Int)) ((pre.length + 1 : Nat) : Int) (pre ++ x' :: post)) ∧ ∀ n (l : List M.Instr) (i : Nat), l[i]? = some x' → l.length ≤ maxLen → dZ l (n + 1) k i = dZ l n (k + ((M.Instr.cnt x : Nat) : Int)) ((i + 1 : Nat) : Int) := by
  unfold KB at hB; unfold M.Instr.cnt at hB ⊢
  have A : (0 ≤ k ∧ k ≤ KB) ∧ (0 ≤ k + 1 ∧ k + 1 ≤ KB) ∧ (0 ≤ k + 1 + 1 ∧ k + 1 + 1 ≤ KB) ∧ (0 ≤ k + 1 + 1 + 1 ∧ k + 1 + 1 + 1 ≤ KB) ∧ (0 ≤ k + 1 + 1 + 1 + 1 ∧ k + 1 + 1 + 1 + 1 ≤ KB) := by
    unfold KB
    refine ⟨?_, ?_, ?_, ?_, ?_⟩ <;> omega
  have hE : k + 1 + 1 + 1 + 1 = k + ((M.Instr.cnt x : Nat) : Int) := by unfold M.Instr.cnt; omega
  unfold M.Instr.cnt at hE
  obtain ⟨q0, q1, q2, q3, q4⟩ := A
  have w0 := wk2 q0
  have w1 := wk2 q1
  have w2 := wk2 q2
  have t3 : aF (k + 1 + 1 + 1) = some (mtx (k + 1 + 1 + 1)) := mt q3.1 (Int.lt_of_add_one_le q4.2)
  have w3 := wk2 q3
  refine ⟨⟨k, k + 1, k + 1 + 1, (mtx (k + 1 + 1 + 1))⟩, fun n pre post hl => ?_, fun n l i hi hl => ?_⟩
  · have hl' := le_max hl
    have hp : pre.length < 9223372036854775807 := by simp at hl'; omega
    simp only [cU]
    rw [if_pos (zT pre post x)]
    simp (maxSteps := 2000000) only [qV, rA, Option.bind_some, bE hp, w0, w1, w2, t3, w3]
    rw [hE]
  · have hl' := le_max hl
    have hp : i < 9223372036854775807 := by have := (List.getElem?_eq_some_iff.1 hi).1; omega
    simp only [dZ]
    rw [if_pos (aB1 hi)]
    simp (maxSteps := 2000000) only [yN hi, Option.bind_some, bE hp, w0, w1, w2, t3, w3, bne_self_eq_false, beq_self_eq_true, Bool.not_true, Bool.false_eq_true, if_false]
    rw [hE]
theorem M.aDo.gT (xs : List M.Instr) (hx : (xs.length ≤ maxLen ∧ ∀ y ∈ xs, M.Instr.ok y)) (k : Int) (h0 : 0 ≤ k) (hB : k + ((aD M.Instr.cnt xs : Nat) : Int) ≤ KB) : ∃ ys, qE xs k = some (ys, k + ((aD M.Instr.cnt xs : Nat) : Int)) ∧ qM ys k = some (k + ((aD M.Instr.cnt xs : Nat) : Int)) ∧ ys.length = xs.length := by
  have hm := le_max hx.1
  obtain ⟨ys, h1, h2, h3⟩ := jR (ML := cU) (HL := dZ) (c := M.Instr.cnt) (ok := M.Instr.ok) (fun x hx k h0 hB => M.Instr.oI x hx k h0 hB) (fun n k l => by simp only [cU]; rw [if_neg (by rw [aO]; simp)]) (fun n k l => by simp only [dZ]; rw [if_neg (by rw [aO]; simp)]) xs [] fuel k (by simpa using hx.1) (by unfold fuel; omega) hx.2 h0 hB
  refine ⟨ys, by unfold qE; simpa using h2, by unfold qM; simpa using h3 fuel (by unfold fuel; omega), h1⟩
set_option maxHeartbeats 4000000 in
theorem M.aKB.oI (x : Int) (hx : True) (k : Int) (h0 : 0 ≤ k) (hB : k + (((fun _ : Int => 1) x : Nat) : Int) ≤ KB) : ∃ x' : Int, (∀ n (pre post : List Int), (pre ++ x :: post).length ≤ maxLen → eQ (n + 1) k pre.length (pre ++ x :: post) = eQ n (k + (((fun _ : Int => 1) x : Nat) : Int)) ((pre.length + 1 : Nat) : Int) (pre ++ x' :: post)) ∧ ∀ n (l : List Int) (i : Nat), l[i]? = some x' → l.length ≤ maxLen → fR l (n + 1) k i = fR l n (k + (((fun _ : Int => 1) x : Nat) : Int)) ((i + 1 : Nat) : Int) := by
  unfold KB at hB; (try simp only [] at hB ⊢)
  have A : (0 ≤ k ∧ k ≤ KB) ∧ (0 ≤ k + 1 ∧ k + 1 ≤ KB) := by
    unfold KB
    refine ⟨?_, ?_⟩ <;> omega
  have hE : k + 1 = k + (((fun _ : Int => 1) x : Nat) : Int) := by simp
  obtain ⟨q0, q1⟩ := A
  have w0 := wk2 q0
  refine ⟨k, fun n pre post hl => ?_, fun n l i hi hl => ?_⟩
  · have hl' := le_max hl
    have hp : pre.length < 9223372036854775807 := by simp at hl'; omega
    simp only [eQ]
    rw [if_pos (zT pre post x)]
    simp (maxSteps := 2000000) only [qV, rA, Option.bind_some, bE hp, w0]
    rw [hE]
  · have hl' := le_max hl
    have hp : i < 9223372036854775807 := by have := (List.getElem?_eq_some_iff.1 hi).1; omega
    simp only [fR]
    rw [if_pos (aB1 hi)]
    simp (maxSteps := 2000000) only [yN hi, Option.bind_some, bE hp, w0, bne_self_eq_false, beq_self_eq_true, Bool.not_true, Bool.false_eq_true, if_false]
    rw [hE]
theorem M.aKB.cl (xs : List Int) : aD (fun _ : Int => 1) xs = xs.length := by
  induction xs with
  | nil => rfl
  | cons x xs ih => simp only [aD, ih, List.length_cons]; omega
theorem M.aKB.gT (xs : List Int) (hx : okI xs) (k : Int) (h0 : 0 ≤ k) (hB : k + ((xs.length : Nat) : Int) ≤ KB) : ∃ ys, wD xs k = some (ys, k + ((xs.length : Nat) : Int)) ∧ wF ys k = some (k + ((xs.length : Nat) : Int)) ∧ ys.length = xs.length := by
  have hm := le_max hx.1
  rw [← M.aKB.cl xs] at hB ⊢
  obtain ⟨ys, h1, h2, h3⟩ := jR (ML := eQ) (HL := fR) (c := (fun _ : Int => 1)) (ok := (fun _ : Int => True)) (fun x hx k h0 hB => M.aKB.oI x hx k h0 hB) (fun n k l => by simp only [eQ]; rw [if_neg (by rw [aO]; simp)]) (fun n k l => by simp only [fR]; rw [if_neg (by rw [aO]; simp)]) xs [] fuel k (by simpa using hx.1) (by unfold fuel; omega) (fun _ _ => trivial) h0 hB
  refine ⟨ys, by unfold wD; simpa using h2, by unfold wF; simpa using h3 fuel (by unfold fuel; omega), by have := M.aKB.cl xs; omega⟩
def M.bF.cnt (x : M.bF) : Nat := 8 + (aD M.aM.cnt x.aM) + (aD M.Instr.cnt x.Machine.Script) + (x.Machine.Regs.length)
set_option maxHeartbeats 4000000 in
theorem M.bF.oI (x : M.bF) (hx : M.bF.ok x) (k : Int) (h0 : 0 ≤ k) (hB : k + ((M.bF.cnt x : Nat) : Int) ≤ KB) : ∃ x' : M.bF, (∀ n (pre post : List M.bF), (pre ++ x :: post).length ≤ maxLen → dR (n + 1) k pre.length (pre ++ x :: post) = dR n (k + ((M.bF.cnt x : Nat) : Int)) ((pre.length + 1 : Nat) : Int) (pre ++ x' :: post)) ∧ ∀ n (l : List M.bF) (i : Nat), l[i]? = some x' → l.length ≤ maxLen → dQ l (n + 1) k i = dQ l n (k + ((M.bF.cnt x : Nat) : Int)) ((i + 1 : Nat) : Int) := by
  unfold KB at hB; unfold M.bF.cnt at hB ⊢
  have A : (0 ≤ k ∧ k ≤ KB) ∧ (0 ≤ k + 1 ∧ k + 1 ≤ KB) ∧ (0 ≤ k + 1 + 1 ∧ k + 1 + 1 ≤ KB) ∧ (0 ≤ k + 1 + 1 + 1 ∧ k + 1 + 1 + 1 ≤ KB) ∧ (0 ≤ k + 1 + 1 + 1 + 1 ∧ k + 1 + 1 + 1 + 1 ≤ KB) ∧ (0 ≤ k + 1 + 1 + 1 + 1 + ((aD M.aM.cnt x.aM : Nat) : Int) ∧ k + 1 + 1 + 1 + 1 + ((aD M.aM.cnt x.aM : Nat) : Int) ≤ KB) ∧ (0 ≤ k + 1 + 1 + 1 + 1 + ((aD M.aM.cnt x.aM : Nat) : Int) + ((aD M.Instr.cnt x.Machine.Script : Nat) : Int) ∧ k + 1 + 1 + 1 + 1 + ((aD M.aM.cnt x.aM : Nat) : Int) + ((aD M.Instr.cnt x.Machine.Script : Nat) : Int) ≤ KB) ∧ (0 ≤ k + 1 + 1 + 1 + 1 + ((aD M.aM.cnt x.aM : Nat) : Int) + ((aD M.Instr.cnt x.Machine.Script : Nat) : Int) + 1 ∧ k + 1 + 1 + 1 + 1 + ((aD M.aM.cnt x.aM : Nat) : Int) + ((aD M.Instr.cnt x.Machine.Script : Nat) : Int) + 1 ≤ KB) ∧ (0 ≤ k + 1 + 1 + 1 + 1 + ((aD M.aM.cnt x.aM : Nat) : Int) + ((aD M.Instr.cnt x.Machine.Script : Nat) : Int) + 1 + ((x.Machine.Regs.length : Nat) : Int) ∧ k + 1 + 1 + 1 + 1 + ((aD M.aM.cnt x.aM : Nat) : Int) + ((aD M.Instr.cnt x.Machine.Script : Nat) : Int) + 1 + ((x.Machine.Regs.length : Nat) : Int) ≤ KB) ∧ (0 ≤ k + 1 + 1 + 1 + 1 + ((aD M.aM.cnt x.aM : Nat) : Int) + ((aD M.Instr.cnt x.Machine.Script : Nat) : Int) + 1 + ((x.Machine.Regs.length : Nat) : Int) + 1 ∧ k + 1 + 1 + 1 + 1 + ((aD M.aM.cnt x.aM : Nat) : Int) + ((aD M.Instr.cnt x.Machine.Script : Nat) : Int) + 1 + ((x.Machine.Regs.length : Nat) : Int) + 1 ≤ KB) ∧ (0 ≤ k + 1 + 1 + 1 + 1 + ((aD M.aM.cnt x.aM : Nat) : Int) + ((aD M.Instr.cnt x.Machine.Script : Nat) : Int) + 1 + ((x.Machine.Regs.length : Nat) : Int) + 1 + 1 ∧ k + 1 + 1 + 1 + 1 + ((aD M.aM.cnt x.aM : Nat) : Int) + ((aD M.Instr.cnt x.Machine.Script : Nat) : Int) + 1 + ((x.Machine.Regs.length : Nat) : Int) + 1 + 1 ≤ KB) ∧ (0 ≤ k + 1 + 1 + 1 + 1 + ((aD M.aM.cnt x.aM : Nat) : Int) + ((aD M.Instr.cnt x.Machine.Script : Nat) : Int) + 1 + ((x.Machine.Regs.length : Nat) : Int) + 1 + 1 + 1 ∧ k + 1 + 1 + 1 + 1 + ((aD M.aM.cnt x.aM : Nat) : Int) + ((aD M.Instr.cnt x.Machine.Script : Nat) : Int) + 1 + ((x.Machine.Regs.length : Nat) : Int) + 1 + 1 + 1 ≤ KB) := by
    unfold KB
    refine ⟨?_, ?_, ?_, ?_, ?_, ?_, ?_, ?_, ?_, ?_, ?_, ?_⟩ <;> omega
  have hE : k + 1 + 1 + 1 + 1 + ((aD M.aM.cnt x.aM : Nat) : Int) + ((aD M.Instr.cnt x.Machine.Script : Nat) : Int) + 1 + ((x.Machine.Regs.length : Nat) : Int) + 1 + 1 + 1 = k + ((M.bF.cnt x : Nat) : Int) := by unfold M.bF.cnt; omega
  unfold M.bF.cnt at hE
  obtain ⟨q0, q1, q2, q3, q4, q5, q6, q7, q8, q9, q10, q11⟩ := A
  have w0 := wk2 q0
  have t1 : aF (k + 1) = some (mtx (k + 1)) := mt q1.1 (Int.lt_of_add_one_le q2.2)
  have w1 := wk2 q1
  have t2 : aF (k + 1 + 1) = some (mtx (k + 1 + 1)) := mt q2.1 (Int.lt_of_add_one_le q3.2)
  have w2 := wk2 q2
  have w3 := wk2 q3
  obtain ⟨y1, a1, b1, _⟩ := M.aB3.gT _ hx.aM (k + 1 + 1 + 1 + 1) q4.1 q5.2
  have d1 : (decide (k + 1 + 1 + 1 + 1 + ((aD M.aM.cnt x.aM : Nat) : Int) < 0)) = false := dk q5.1
  obtain ⟨y2, a2, b2, _⟩ := M.aDo.gT _ hx.Machine.Script (k + 1 + 1 + 1 + 1 + ((aD M.aM.cnt x.aM : Nat) : Int)) q5.1 q6.2
  have d2 : (decide (k + 1 + 1 + 1 + 1 + ((aD M.aM.cnt x.aM : Nat) : Int) + ((aD M.Instr.cnt x.Machine.Script : Nat) : Int) < 0)) = false := dk q6.1
  have w6 := wk2 q6
  obtain ⟨y3, a3, b3, _⟩ := M.aKB.gT _ hx.Machine.Regs (k + 1 + 1 + 1 + 1 + ((aD M.aM.cnt x.aM : Nat) : Int) + ((aD M.Instr.cnt x.Machine.Script : Nat) : Int) + 1) q7.1 q8.2
  have d3 : (decide (k + 1 + 1 + 1 + 1 + ((aD M.aM.cnt x.aM : Nat) : Int) + ((aD M.Instr.cnt x.Machine.Script : Nat) : Int) + 1 + ((x.Machine.Regs.length : Nat) : Int) < 0)) = false := dk q8.1
  have w8 := wk2 q8
  have w9 := wk2 q9
  have w10 := wk2 q10
  refine ⟨⟨k, (mtx (k + 1)), (mtx (k + 1 + 1)), k + 1 + 1 + 1, y1, ⟨y2, k + 1 + 1 + 1 + 1 + ((aD M.aM.cnt x.aM : Nat) : Int) + ((aD M.Instr.cnt x.Machine.Script : Nat) : Int), y3, k + 1 + 1 + 1 + 1 + ((aD M.aM.cnt x.aM : Nat) : Int) + ((aD M.Instr.cnt x.Machine.Script : Nat) : Int) + 1 + ((x.Machine.Regs.length : Nat) : Int), ((Int.tmod (k + 1 + 1 + 1 + 1 + ((aD M.aM.cnt x.aM : Nat) : Int) + ((aD M.Instr.cnt x.Machine.Script : Nat) : Int) + 1 + ((x.Machine.Regs.length : Nat) : Int) + 1) 3) == 0), ((Int.tmod (k + 1 + 1 + 1 + 1 + ((aD M.aM.cnt x.aM : Nat) : Int) + ((aD M.Instr.cnt x.Machine.Script : Nat) : Int) + 1 + ((x.Machine.Regs.length : Nat) : Int) + 1 + 1) 3) == 0)⟩⟩, fun n pre post hl => ?_, fun n l i hi hl => ?_⟩
  · have hl' := le_max hl
    have hp : pre.length < 9223372036854775807 := by simp at hl'; omega
    simp only [dR]
    rw [if_pos (zT pre post x)]
    simp (maxSteps := 2000000) only [qV, rA, Option.bind_some, bE hp, w0, t1, w1, t2, w2, w3, a1, a2, w6, a3, w8, w9, w10]
    rw [hE]
  · have hl' := le_max hl
    have hp : i < 9223372036854775807 := by have := (List.getElem?_eq_some_iff.1 hi).1; omega
    simp only [dQ]
    rw [if_pos (aB1 hi)]
    simp (maxSteps := 2000000) only [yN hi, Option.bind_some, bE hp, w0, t1, w1, t2, w2, w3, b1, d1, b2, d2, w6, b3, d3, w8, w9, w10, bne_self_eq_false, beq_self_eq_true, Bool.not_true, Bool.false_eq_true, if_false]
    rw [hE]
theorem M.aHr.gT (xs : List M.bF) (hx : (xs.length ≤ maxLen ∧ ∀ y ∈ xs, M.bF.ok y)) (k : Int) (h0 : 0 ≤ k) (hB : k + ((aD M.bF.cnt xs : Nat) : Int) ≤ KB) : ∃ ys, sP xs k = some (ys, k + ((aD M.bF.cnt xs : Nat) : Int)) ∧ sE ys k = some (k + ((aD M.bF.cnt xs : Nat) : Int)) ∧ ys.length = xs.length := by
  have hm := le_max hx.1
  obtain ⟨ys, h1, h2, h3⟩ := jR (ML := dR) (HL := dQ) (c := M.bF.cnt) (ok := M.bF.ok) (fun x hx k h0 hB => M.bF.oI x hx k h0 hB) (fun n k l => by simp only [dR]; rw [if_neg (by rw [aO]; simp)]) (fun n k l => by simp only [dQ]; rw [if_neg (by rw [aO]; simp)]) xs [] fuel k (by simpa using hx.1) (by unfold fuel; omega) hx.2 h0 hB
  refine ⟨ys, by unfold sP; simpa using h2, by unfold sE; simpa using h3 fuel (by unfold fuel; omega), h1⟩
def M.bZ.cnt (x : M.bZ) : Nat := 4
set_option maxHeartbeats 4000000 in
theorem M.bZ.oI (x : M.bZ) (hx : M.bZ.ok x) (k : Int) (h0 : 0 ≤ k) (hB : k + ((M.bZ.cnt x : Nat) : Int) ≤ KB) : ∃ x' : M.bZ, (∀ n (pre post : List M.bZ), (pre ++ x :: post).length ≤ maxLen → dU (n + 1) k pre.length (pre ++ x :: post) = dU n (k + ((M.bZ.cnt x : Nat) : Int)) ((pre.length + 1 : Nat) : Int) (pre ++ x' :: post)) ∧ ∀ n (l : List M.bZ) (i : Nat), l[i]? = some x' → l.length ≤ maxLen → fC l (n + 1) k i = fC l n (k + ((M.bZ.cnt x : Nat) : Int)) ((i + 1 : Nat) : Int) := by
  unfold KB at hB; unfold M.bZ.cnt at hB ⊢
  have A : (0 ≤ k ∧ k ≤ KB) ∧ (0 ≤ k + 1 ∧ k + 1 ≤ KB) ∧ (0 ≤ k + 1 + 1 ∧ k + 1 + 1 ≤ KB) ∧ (0 ≤ k + 1 + 1 + 1 ∧ k + 1 + 1 + 1 ≤ KB) ∧ (0 ≤ k + 1 + 1 + 1 + 1 ∧ k + 1 + 1 + 1 + 1 ≤ KB) := by
    unfold KB
    refine ⟨?_, ?_, ?_, ?_, ?_⟩ <;> omega
  have hE : k + 1 + 1 + 1 + 1 = k + ((M.bZ.cnt x : Nat) : Int) := by unfold M.bZ.cnt; omega
  unfold M.bZ.cnt at hE
  obtain ⟨q0, q1, q2, q3, q4⟩ := A
  have t0 : aF (k) = some (mtx (k)) := mt q0.1 (Int.lt_of_add_one_le q1.2)
  have w0 := wk2 q0
  have w1 := wk2 q1
  have w2 := wk2 q2
  have w3 := wk2 q3
  refine ⟨⟨(mtx (k)), k + 1, ((Int.tmod (k + 1 + 1) 3) == 0), ((Int.tmod (k + 1 + 1 + 1) 3) == 0)⟩, fun n pre post hl => ?_, fun n l i hi hl => ?_⟩
  · have hl' := le_max hl
    have hp : pre.length < 9223372036854775807 := by simp at hl'; omega
    simp only [dU]
    rw [if_pos (zT pre post x)]
    simp (maxSteps := 2000000) only [qV, rA, Option.bind_some, bE hp, t0, w0, w1, w2, w3]
    rw [hE]
  · have hl' := le_max hl
    have hp : i < 9223372036854775807 := by have := (List.getElem?_eq_some_iff.1 hi).1; omega
    simp only [fC]
    rw [if_pos (aB1 hi)]
    simp (maxSteps := 2000000) only [yN hi, Option.bind_some, bE hp, t0, w0, w1, w2, w3, bne_self_eq_false, beq_self_eq_true, Bool.not_true, Bool.false_eq_true, if_false]
    rw [hE]
theorem M.aH3.gT (xs : List M.bZ) (hx : (xs.length ≤ maxLen ∧ ∀ y ∈ xs, M.bZ.ok y)) (k : Int) (h0 : 0 ≤ k) (hB : k + ((aD M.bZ.cnt xs : Nat) : Int) ≤ KB) : ∃ ys, rK xs k = some (ys, k + ((aD M.bZ.cnt xs : Nat) : Int)) ∧ tH ys k = some (k + ((aD M.bZ.cnt xs : Nat) : Int)) ∧ ys.length = xs.length := by
  have hm := le_max hx.1
  obtain ⟨ys, h1, h2, h3⟩ := jR (ML := dU) (HL := fC) (c := M.bZ.cnt) (ok := M.bZ.ok) (fun x hx k h0 hB => M.bZ.oI x hx k h0 hB) (fun n k l => by simp only [dU]; rw [if_neg (by rw [aO]; simp)]) (fun n k l => by simp only [fC]; rw [if_neg (by rw [aO]; simp)]) xs [] fuel k (by simpa using hx.1) (by unfold fuel; omega) hx.2 h0 hB
  refine ⟨ys, by unfold rK; simpa using h2, by unfold tH; simpa using h3 fuel (by unfold fuel; omega), h1⟩
def M.cN.cnt (x : M.cN) : Nat := 3
set_option maxHeartbeats 4000000 in
theorem M.cN.oI (x : M.cN) (hx : M.cN.ok x) (k : Int) (h0 : 0 ≤ k) (hB : k + ((M.cN.cnt x : Nat) : Int) ≤ KB) : ∃ x' : M.cN, (∀ n (pre post : List M.cN), (pre ++ x :: post).length ≤ maxLen → dV (n + 1) k pre.length (pre ++ x :: post) = dV n (k + ((M.cN.cnt x : Nat) : Int)) ((pre.length + 1 : Nat) : Int) (pre ++ x' :: post)) ∧ ∀ n (l : List M.cN) (i : Nat), l[i]? = some x' → l.length ≤ maxLen → fA l (n + 1) k i = fA l n (k + ((M.cN.cnt x : Nat) : Int)) ((i + 1 : Nat) : Int) := by
  unfold KB at hB; unfold M.cN.cnt at hB ⊢
  have A : (0 ≤ k ∧ k ≤ KB) ∧ (0 ≤ k + 1 ∧ k + 1 ≤ KB) ∧ (0 ≤ k + 1 + 1 ∧ k + 1 + 1 ≤ KB) ∧ (0 ≤ k + 1 + 1 + 1 ∧ k + 1 + 1 + 1 ≤ KB) := by
    unfold KB
    refine ⟨?_, ?_, ?_, ?_⟩ <;> omega
  have hE : k + 1 + 1 + 1 = k + ((M.cN.cnt x : Nat) : Int) := by unfold M.cN.cnt; omega
  unfold M.cN.cnt at hE
  obtain ⟨q0, q1, q2, q3⟩ := A
  have w0 := wk2 q0
  have w1 := wk2 q1
  have w2 := wk2 q2
  refine ⟨⟨k, k + 1, k + 1 + 1⟩, fun n pre post hl => ?_, fun n l i hi hl => ?_⟩
  · have hl' := le_max hl
    have hp : pre.length < 9223372036854775807 := by simp at hl'; omega
    simp only [dV]
    rw [if_pos (zT pre post x)]
    simp (maxSteps := 2000000) only [qV, rA, Option.bind_some, bE hp, w0, w1, w2]
    rw [hE]
  · have hl' := le_max hl
    have hp : i < 9223372036854775807 := by have := (List.getElem?_eq_some_iff.1 hi).1; omega
    simp only [fA]
    rw [if_pos (aB1 hi)]
    simp (maxSteps := 2000000) only [yN hi, Option.bind_some, bE hp, w0, w1, w2, bne_self_eq_false, beq_self_eq_true, Bool.not_true, Bool.false_eq_true, if_false]
    rw [hE]
theorem M.aH4.gT (xs : List M.cN) (hx : (xs.length ≤ maxLen ∧ ∀ y ∈ xs, M.cN.ok y)) (k : Int) (h0 : 0 ≤ k) (hB : k + ((aD M.cN.cnt xs : Nat) : Int) ≤ KB) : ∃ ys, rR xs k = some (ys, k + ((aD M.cN.cnt xs : Nat) : Int)) ∧ rL ys k = some (k + ((aD M.cN.cnt xs : Nat) : Int)) ∧ ys.length = xs.length := by
  have hm := le_max hx.1
  obtain ⟨ys, h1, h2, h3⟩ := jR (ML := dV) (HL := fA) (c := M.cN.cnt) (ok := M.cN.ok) (fun x hx k h0 hB => M.cN.oI x hx k h0 hB) (fun n k l => by simp only [dV]; rw [if_neg (by rw [aO]; simp)]) (fun n k l => by simp only [fA]; rw [if_neg (by rw [aO]; simp)]) xs [] fuel k (by simpa using hx.1) (by unfold fuel; omega) hx.2 h0 hB
  refine ⟨ys, by unfold rR; simpa using h2, by unfold rL; simpa using h3 fuel (by unfold fuel; omega), h1⟩
set_option maxHeartbeats 4000000 in
theorem M.aAE.oI (x : ByteArray) (hx : True) (k : Int) (h0 : 0 ≤ k) (hB : k + (((fun _ : ByteArray => 1) x : Nat) : Int) ≤ KB) : ∃ x' : ByteArray, (∀ n (pre post : List ByteArray), (pre ++ x :: post).length ≤ maxLen → cK (n + 1) k pre.length (pre ++ x :: post) = cK n (k + (((fun _ : ByteArray => 1) x : Nat) : Int)) ((pre.length + 1 : Nat) : Int) (pre ++ x' :: post)) ∧ ∀ n (l : List ByteArray) (i : Nat), l[i]? = some x' → l.length ≤ maxLen → dJ l (n + 1) k i = dJ l n (k + (((fun _ : ByteArray => 1) x : Nat) : Int)) ((i + 1 : Nat) : Int) := by
  unfold KB at hB; (try simp only [] at hB ⊢)
  have A : (0 ≤ k ∧ k ≤ KB) ∧ (0 ≤ k + 1 ∧ k + 1 ≤ KB) := by
    unfold KB
    refine ⟨?_, ?_⟩ <;> omega
  have hE : k + 1 = k + (((fun _ : ByteArray => 1) x : Nat) : Int) := by simp
  obtain ⟨q0, q1⟩ := A
  have t0 : aF (k) = some (mtx (k)) := mt q0.1 (Int.lt_of_add_one_le q1.2)
  have w0 := wk2 q0
  refine ⟨(mtx (k)), fun n pre post hl => ?_, fun n l i hi hl => ?_⟩
  · have hl' := le_max hl
    have hp : pre.length < 9223372036854775807 := by simp at hl'; omega
    simp only [cK]
    rw [if_pos (zT pre post x)]
    simp (maxSteps := 2000000) only [qV, rA, Option.bind_some, bE hp, t0, w0]
    rw [hE]
  · have hl' := le_max hl
    have hp : i < 9223372036854775807 := by have := (List.getElem?_eq_some_iff.1 hi).1; omega
    simp only [dJ]
    rw [if_pos (aB1 hi)]
    simp (maxSteps := 2000000) only [yN hi, Option.bind_some, bE hp, t0, w0, bne_self_eq_false, beq_self_eq_true, Bool.not_true, Bool.false_eq_true, if_false]
    rw [hE]
theorem M.aAE.cl (xs : List ByteArray) : aD (fun _ : ByteArray => 1) xs = xs.length := by
  induction xs with
  | nil => rfl
  | cons x xs ih => simp only [aD, ih, List.length_cons]; omega
theorem M.aAE.gT (xs : List ByteArray) (hx : okS xs) (k : Int) (h0 : 0 ≤ k) (hB : k + ((xs.length : Nat) : Int) ≤ KB) : ∃ ys, mY xs k = some (ys, k + ((xs.length : Nat) : Int)) ∧ mW ys k = some (k + ((xs.length : Nat) : Int)) ∧ ys.length = xs.length := by
  have hm := le_max hx.1
  rw [← M.aAE.cl xs] at hB ⊢
  obtain ⟨ys, h1, h2, h3⟩ := jR (ML := cK) (HL := dJ) (c := (fun _ : ByteArray => 1)) (ok := (fun _ : ByteArray => True)) (fun x hx k h0 hB => M.aAE.oI x hx k h0 hB) (fun n k l => by simp only [cK]; rw [if_neg (by rw [aO]; simp)]) (fun n k l => by simp only [dJ]; rw [if_neg (by rw [aO]; simp)]) xs [] fuel k (by simpa using hx.1) (by unfold fuel; omega) (fun _ _ => trivial) h0 hB
  refine ⟨ys, by unfold mY; simpa using h2, by unfold mW; simpa using h3 fuel (by unfold fuel; omega), by have := M.aAE.cl xs; omega⟩
def M.Site.cnt (x : M.Site) : Nat := 3 + (x.Files.length)
set_option maxHeartbeats 4000000 in
theorem M.Site.oI (x : M.Site) (hx : M.Site.ok x) (k : Int) (h0 : 0 ≤ k) (hB : k + ((M.Site.cnt x : Nat) : Int) ≤ KB) : ∃ x' : M.Site, (∀ n (pre post : List M.Site), (pre ++ x :: post).length ≤ maxLen → dN (n + 1) k pre.length (pre ++ x :: post) = dN n (k + ((M.Site.cnt x : Nat) : Int)) ((pre.length + 1 : Nat) : Int) (pre ++ x' :: post)) ∧ ∀ n (l : List M.Site) (i : Nat), l[i]? = some x' → l.length ≤ maxLen → eU l (n + 1) k i = eU l n (k + ((M.Site.cnt x : Nat) : Int)) ((i + 1 : Nat) : Int) := by
  unfold KB at hB; unfold M.Site.cnt at hB ⊢
  have A : (0 ≤ k ∧ k ≤ KB) ∧ (0 ≤ k + 1 ∧ k + 1 ≤ KB) ∧ (0 ≤ k + 1 + 1 ∧ k + 1 + 1 ≤ KB) ∧ (0 ≤ k + 1 + 1 + ((x.Files.length : Nat) : Int) ∧ k + 1 + 1 + ((x.Files.length : Nat) : Int) ≤ KB) ∧ (0 ≤ k + 1 + 1 + ((x.Files.length : Nat) : Int) + 1 ∧ k + 1 + 1 + ((x.Files.length : Nat) : Int) + 1 ≤ KB) := by
    unfold KB
    refine ⟨?_, ?_, ?_, ?_, ?_⟩ <;> omega
  have hE : k + 1 + 1 + ((x.Files.length : Nat) : Int) + 1 = k + ((M.Site.cnt x : Nat) : Int) := by unfold M.Site.cnt; omega
  unfold M.Site.cnt at hE
  obtain ⟨q0, q1, q2, q3, q4⟩ := A
  have t0 : aF (k) = some (mtx (k)) := mt q0.1 (Int.lt_of_add_one_le q1.2)
  have w0 := wk2 q0
  have w1 := wk2 q1
  obtain ⟨y1, a1, b1, _⟩ := M.aAE.gT _ hx.Files (k + 1 + 1) q2.1 q3.2
  have d1 : (decide (k + 1 + 1 + ((x.Files.length : Nat) : Int) < 0)) = false := dk q3.1
  have w3 := wk2 q3
  refine ⟨⟨(mtx (k)), k + 1, y1, ((Int.tmod (k + 1 + 1 + ((x.Files.length : Nat) : Int)) 3) == 0)⟩, fun n pre post hl => ?_, fun n l i hi hl => ?_⟩
  · have hl' := le_max hl
    have hp : pre.length < 9223372036854775807 := by simp at hl'; omega
    simp only [dN]
    rw [if_pos (zT pre post x)]
    simp (maxSteps := 2000000) only [qV, rA, Option.bind_some, bE hp, t0, w0, w1, a1, w3]
    rw [hE]
  · have hl' := le_max hl
    have hp : i < 9223372036854775807 := by have := (List.getElem?_eq_some_iff.1 hi).1; omega
    simp only [eU]
    rw [if_pos (aB1 hi)]
    simp (maxSteps := 2000000) only [yN hi, Option.bind_some, bE hp, t0, w0, w1, b1, d1, w3, bne_self_eq_false, beq_self_eq_true, Bool.not_true, Bool.false_eq_true, if_false]
    rw [hE]
theorem M.aHb.gT (xs : List M.Site) (hx : (xs.length ≤ maxLen ∧ ∀ y ∈ xs, M.Site.ok y)) (k : Int) (h0 : 0 ≤ k) (hB : k + ((aD M.Site.cnt xs : Nat) : Int) ≤ KB) : ∃ ys, tM xs k = some (ys, k + ((aD M.Site.cnt xs : Nat) : Int)) ∧ tF ys k = some (k + ((aD M.Site.cnt xs : Nat) : Int)) ∧ ys.length = xs.length := by
  have hm := le_max hx.1
  obtain ⟨ys, h1, h2, h3⟩ := jR (ML := dN) (HL := eU) (c := M.Site.cnt) (ok := M.Site.ok) (fun x hx k h0 hB => M.Site.oI x hx k h0 hB) (fun n k l => by simp only [dN]; rw [if_neg (by rw [aO]; simp)]) (fun n k l => by simp only [eU]; rw [if_neg (by rw [aO]; simp)]) xs [] fuel k (by simpa using hx.1) (by unfold fuel; omega) hx.2 h0 hB
  refine ⟨ys, by unfold tM; simpa using h2, by unfold tF; simpa using h3 fuel (by unfold fuel; omega), h1⟩
def M.aH.cnt (x : M.aH) : Nat := 2
set_option maxHeartbeats 4000000 in
theorem M.aH.oI (x : M.aH) (hx : M.aH.ok x) (k : Int) (h0 : 0 ≤ k) (hB : k + ((M.aH.cnt x : Nat) : Int) ≤ KB) : ∃ x' : M.aH, (∀ n (pre post : List M.aH), (pre ++ x :: post).length ≤ maxLen → bW (n + 1) k pre.length (pre ++ x :: post) = bW n (k + ((M.aH.cnt x : Nat) : Int)) ((pre.length + 1 : Nat) : Int) (pre ++ x' :: post)) ∧ ∀ n (l : List M.aH) (i : Nat), l[i]? = some x' → l.length ≤ maxLen → cQ l (n + 1) k i = cQ l n (k + ((M.aH.cnt x : Nat) : Int)) ((i + 1 : Nat) : Int) := by
  unfold KB at hB; unfold M.aH.cnt at hB ⊢
  have A : (0 ≤ k ∧ k ≤ KB) ∧ (0 ≤ k + 1 ∧ k + 1 ≤ KB) ∧ (0 ≤ k + 1 + 1 ∧ k + 1 + 1 ≤ KB) := by
    unfold KB
    refine ⟨?_, ?_, ?_⟩ <;> omega
  have hE : k + 1 + 1 = k + ((M.aH.cnt x : Nat) : Int) := by unfold M.aH.cnt; omega
  unfold M.aH.cnt at hE
  obtain ⟨q0, q1, q2⟩ := A
  have w0 := wk2 q0
  have w1 := wk2 q1
  refine ⟨⟨k, k + 1⟩, fun n pre post hl => ?_, fun n l i hi hl => ?_⟩
  · have hl' := le_max hl
    have hp : pre.length < 9223372036854775807 := by simp at hl'; omega
    simp only [bW]
    rw [if_pos (zT pre post x)]
    simp (maxSteps := 2000000) only [qV, rA, Option.bind_some, bE hp, w0, w1]
    rw [hE]
  · have hl' := le_max hl
    have hp : i < 9223372036854775807 := by have := (List.getElem?_eq_some_iff.1 hi).1; omega
    simp only [cQ]
    rw [if_pos (aB1 hi)]
    simp (maxSteps := 2000000) only [yN hi, Option.bind_some, bE hp, w0, w1, bne_self_eq_false, beq_self_eq_true, Bool.not_true, Bool.false_eq_true, if_false]
    rw [hE]
theorem M.aBG.gT (xs : List M.aH) (hx : (xs.length ≤ maxLen ∧ ∀ y ∈ xs, M.aH.ok y)) (k : Int) (h0 : 0 ≤ k) (hB : k + ((aD M.aH.cnt xs : Nat) : Int) ≤ KB) : ∃ ys, lX xs k = some (ys, k + ((aD M.aH.cnt xs : Nat) : Int)) ∧ lU ys k = some (k + ((aD M.aH.cnt xs : Nat) : Int)) ∧ ys.length = xs.length := by
  have hm := le_max hx.1
  obtain ⟨ys, h1, h2, h3⟩ := jR (ML := bW) (HL := cQ) (c := M.aH.cnt) (ok := M.aH.ok) (fun x hx k h0 hB => M.aH.oI x hx k h0 hB) (fun n k l => by simp only [bW]; rw [if_neg (by rw [aO]; simp)]) (fun n k l => by simp only [cQ]; rw [if_neg (by rw [aO]; simp)]) xs [] fuel k (by simpa using hx.1) (by unfold fuel; omega) hx.2 h0 hB
  refine ⟨ys, by unfold lX; simpa using h2, by unfold lU; simpa using h3 fuel (by unfold fuel; omega), h1⟩
def M.Server.cnt (x : M.Server) : Nat := 2 + (aD M.Item.cnt x.aG.Items) + (aD M.aH.cnt x.aH) + (aD M.aW.cnt x.Changes)
set_option maxHeartbeats 4000000 in
theorem M.Server.oI (x : M.Server) (hx : M.Server.ok x) (k : Int) (h0 : 0 ≤ k) (hB : k + ((M.Server.cnt x : Nat) : Int) ≤ KB) : ∃ x' : M.Server, (∀ n (pre post : List M.Server), (pre ++ x :: post).length ≤ maxLen → cH (n + 1) k pre.length (pre ++ x :: post) = cH n (k + ((M.Server.cnt x : Nat) : Int)) ((pre.length + 1 : Nat) : Int) (pre ++ x' :: post)) ∧ ∀ n (l : List M.Server) (i : Nat), l[i]? = some x' → l.length ≤ maxLen → cJ l (n + 1) k i = cJ l n (k + ((M.Server.cnt x : Nat) : Int)) ((i + 1 : Nat) : Int) := by
  unfold KB at hB; unfold M.Server.cnt at hB ⊢
  have A : (0 ≤ k ∧ k ≤ KB) ∧ (0 ≤ k + 1 ∧ k + 1 ≤ KB) ∧ (0 ≤ k + 1 + ((aD M.Item.cnt x.aG.Items : Nat) : Int) ∧ k + 1 + ((aD M.Item.cnt x.aG.Items : Nat) : Int) ≤ KB) ∧ (0 ≤ k + 1 + ((aD M.Item.cnt x.aG.Items : Nat) : Int) + 1 ∧ k + 1 + ((aD M.Item.cnt x.aG.Items : Nat) : Int) + 1 ≤ KB) ∧ (0 ≤ k + 1 + ((aD M.Item.cnt x.aG.Items : Nat) : Int) + 1 + ((aD M.aH.cnt x.aH : Nat) : Int) ∧ k + 1 + ((aD M.Item.cnt x.aG.Items : Nat) : Int) + 1 + ((aD M.aH.cnt x.aH : Nat) : Int) ≤ KB) ∧ (0 ≤ k + 1 + ((aD M.Item.cnt x.aG.Items : Nat) : Int) + 1 + ((aD M.aH.cnt x.aH : Nat) : Int) + ((aD M.aW.cnt x.Changes : Nat) : Int) ∧ k + 1 + ((aD M.Item.cnt x.aG.Items : Nat) : Int) + 1 + ((aD M.aH.cnt x.aH : Nat) : Int) + ((aD M.aW.cnt x.Changes : Nat) : Int) ≤ KB) := by
    unfold KB
    refine ⟨?_, ?_, ?_, ?_, ?_, ?_⟩ <;> omega
  have hE : k + 1 + ((aD M.Item.cnt x.aG.Items : Nat) : Int) + 1 + ((aD M.aH.cnt x.aH : Nat) : Int) + ((aD M.aW.cnt x.Changes : Nat) : Int) = k + ((M.Server.cnt x : Nat) : Int) := by unfold M.Server.cnt; omega
  unfold M.Server.cnt at hE
  obtain ⟨q0, q1, q2, q3, q4, q5⟩ := A
  have t0 : aF (k) = some (mtx (k)) := mt q0.1 (Int.lt_of_add_one_le q1.2)
  have w0 := wk2 q0
  obtain ⟨y1, a1, b1, _⟩ := M.aEm.gT _ hx.aG.Items (k + 1) q1.1 q2.2
  have d1 : (decide (k + 1 + ((aD M.Item.cnt x.aG.Items : Nat) : Int) < 0)) = false := dk q2.1
  have w2 := wk2 q2
  obtain ⟨y2, a2, b2, _⟩ := M.aBG.gT _ hx.aH (k + 1 + ((aD M.Item.cnt x.aG.Items : Nat) : Int) + 1) q3.1 q4.2
  have d2 : (decide (k + 1 + ((aD M.Item.cnt x.aG.Items : Nat) : Int) + 1 + ((aD M.aH.cnt x.aH : Nat) : Int) < 0)) = false := dk q4.1
  obtain ⟨y3, a3, b3, _⟩ := M.aBX.gT _ hx.Changes (k + 1 + ((aD M.Item.cnt x.aG.Items : Nat) : Int) + 1 + ((aD M.aH.cnt x.aH : Nat) : Int)) q4.1 q5.2
  have d3 : (decide (k + 1 + ((aD M.Item.cnt x.aG.Items : Nat) : Int) + 1 + ((aD M.aH.cnt x.aH : Nat) : Int) + ((aD M.aW.cnt x.Changes : Nat) : Int) < 0)) = false := dk q5.1
  refine ⟨⟨⟨(mtx (k)), y1, k + 1 + ((aD M.Item.cnt x.aG.Items : Nat) : Int)⟩, y2, y3⟩, fun n pre post hl => ?_, fun n l i hi hl => ?_⟩
  · have hl' := le_max hl
    have hp : pre.length < 9223372036854775807 := by simp at hl'; omega
    simp only [cH]
    rw [if_pos (zT pre post x)]
    simp (maxSteps := 2000000) only [qV, rA, Option.bind_some, bE hp, t0, w0, a1, w2, a2, a3]
    rw [hE]
  · have hl' := le_max hl
    have hp : i < 9223372036854775807 := by have := (List.getElem?_eq_some_iff.1 hi).1; omega
    simp only [cJ]
    rw [if_pos (aB1 hi)]
    simp (maxSteps := 2000000) only [yN hi, Option.bind_some, bE hp, t0, w0, b1, d1, w2, b2, d2, b3, d3, bne_self_eq_false, beq_self_eq_true, Bool.not_true, Bool.false_eq_true, if_false]
    rw [hE]
theorem M.aBz.gT (xs : List M.Server) (hx : (xs.length ≤ maxLen ∧ ∀ y ∈ xs, M.Server.ok y)) (k : Int) (h0 : 0 ≤ k) (hB : k + ((aD M.Server.cnt xs : Nat) : Int) ≤ KB) : ∃ ys, oA xs k = some (ys, k + ((aD M.Server.cnt xs : Nat) : Int)) ∧ nN ys k = some (k + ((aD M.Server.cnt xs : Nat) : Int)) ∧ ys.length = xs.length := by
  have hm := le_max hx.1
  obtain ⟨ys, h1, h2, h3⟩ := jR (ML := cH) (HL := cJ) (c := M.Server.cnt) (ok := M.Server.ok) (fun x hx k h0 hB => M.Server.oI x hx k h0 hB) (fun n k l => by simp only [cH]; rw [if_neg (by rw [aO]; simp)]) (fun n k l => by simp only [cJ]; rw [if_neg (by rw [aO]; simp)]) xs [] fuel k (by simpa using hx.1) (by unfold fuel; omega) hx.2 h0 hB
  refine ⟨ys, by unfold oA; simpa using h2, by unfold nN; simpa using h3 fuel (by unfold fuel; omega), h1⟩
def M.World.aKn (x : M.World) : Nat := (aD M.aE.cnt x.aK.Buckets) + (aD M.bF.cnt x.Pages) + (aD M.bZ.cnt x.Locks.Locks) + (aD M.cN.cnt x.Channel.Mails) + (aD M.Site.cnt x.Sites) + (aD M.Server.cnt x.Servers)
theorem M.World.gT (x : M.World) (hx : M.World.ok x) (k : Int) (h0 : 0 ≤ k) (hB : k + ((M.World.aKn x : Nat) : Int) ≤ KB) : ∃ y1 y2 y3 y4 y5 y6, mU x k = some (y1, y2, y3, y4, y5, y6, k + ((M.World.aKn x : Nat) : Int)) ∧ mS (⟨x.Now, x.Online, x.Device, ⟨y1⟩, y2, x.NextPage, ⟨y3⟩, ⟨y4⟩, y5, y6⟩ : M.World) k = some (k + ((M.World.aKn x : Nat) : Int)) := by
  unfold KB at hB; unfold M.World.aKn at hB ⊢
  obtain ⟨y1, a1, b1, _⟩ := M.aB5.gT _ hx.aK.Buckets (k) (by omega) (by unfold KB; omega)
  obtain ⟨y2, a2, b2, _⟩ := M.aHr.gT _ hx.Pages (k + ((aD M.aE.cnt x.aK.Buckets : Nat) : Int)) (by omega) (by unfold KB; omega)
  obtain ⟨y3, a3, b3, _⟩ := M.aH3.gT _ hx.Locks.Locks (k + ((aD M.aE.cnt x.aK.Buckets : Nat) : Int) + ((aD M.bF.cnt x.Pages : Nat) : Int)) (by omega) (by unfold KB; omega)
  obtain ⟨y4, a4, b4, _⟩ := M.aH4.gT _ hx.Channel.Mails (k + ((aD M.aE.cnt x.aK.Buckets : Nat) : Int) + ((aD M.bF.cnt x.Pages : Nat) : Int) + ((aD M.bZ.cnt x.Locks.Locks : Nat) : Int)) (by omega) (by unfold KB; omega)
  obtain ⟨y5, a5, b5, _⟩ := M.aHb.gT _ hx.Sites (k + ((aD M.aE.cnt x.aK.Buckets : Nat) : Int) + ((aD M.bF.cnt x.Pages : Nat) : Int) + ((aD M.bZ.cnt x.Locks.Locks : Nat) : Int) + ((aD M.cN.cnt x.Channel.Mails : Nat) : Int)) (by omega) (by unfold KB; omega)
  obtain ⟨y6, a6, b6, _⟩ := M.aBz.gT _ hx.Servers (k + ((aD M.aE.cnt x.aK.Buckets : Nat) : Int) + ((aD M.bF.cnt x.Pages : Nat) : Int) + ((aD M.bZ.cnt x.Locks.Locks : Nat) : Int) + ((aD M.cN.cnt x.Channel.Mails : Nat) : Int) + ((aD M.Site.cnt x.Sites : Nat) : Int)) (by omega) (by unfold KB; omega)
  refine ⟨y1, y2, y3, y4, y5, y6, ?_, ?_⟩
  · unfold mU
    simp only [uA, oR, uG, a1, a2, a3, a4, a5, a6, Option.bind_some]
    try (simp only [Option.some.injEq, Prod.mk.injEq, true_and]; omega)
  · unfold mS
    simp (disch := (first | omega | (unfold KB; omega))) only [uD, oP, uE, b1, b2, b3, b4, b5, b6, Option.bind_some, dk, Bool.false_eq_true, if_false]
    try (simp only [Option.some.injEq]; omega)
theorem M.aB9.fU (xs : List Int) : xs.length ≤ 40 * (xs.length) := by omega
theorem M.Cached.fU (x : M.Cached) : M.Cached.cnt x ≤ 40 + 40 * M.Cached.sz x := by
  unfold M.Cached.cnt
  simp only [M.Cached.sz, M.Response.sz]
  have := M.aB9.fU x.Response.Body
  omega
theorem M.aBy.fU (xs : List M.Cached) : aD M.Cached.cnt xs ≤ 40 * ((xs.length + aD M.Cached.sz xs)) := lZ (fun x _ => M.Cached.fU x)
theorem M.Cache.fU (x : M.Cache) : M.Cache.cnt x ≤ 40 + 40 * M.Cache.sz x := by
  unfold M.Cache.cnt
  simp only [M.Cache.sz]
  have := M.aBy.fU x.Entries
  omega
theorem M.aDg.fU (xs : List M.Cache) : aD M.Cache.cnt xs ≤ 40 * ((xs.length + aD M.Cache.sz xs)) := lZ (fun x _ => M.Cache.fU x)
theorem M.Field.fU (x : M.Field) : M.Field.cnt x ≤ 40 + 40 * M.Field.sz x := by
  unfold M.Field.cnt
  simp only [M.Field.sz]
  omega
theorem M.aDj.fU (xs : List M.Field) : aD M.Field.cnt xs ≤ 40 * ((xs.length + aD M.Field.sz xs)) := lZ (fun x _ => M.Field.fU x)
theorem M.Item.fU (x : M.Item) : M.Item.cnt x ≤ 40 + 40 * M.Item.sz x := by
  unfold M.Item.cnt
  simp only [M.Item.sz, M.Key.sz, M.aU.sz]
  have := M.aDj.fU x.aU.Fields
  omega
theorem M.aEm.fU (xs : List M.Item) : aD M.Item.cnt xs ≤ 40 * ((xs.length + aD M.Item.sz xs)) := lZ (fun x _ => M.Item.fU x)
theorem M.aG.fU (x : M.aG) : M.aG.cnt x ≤ 40 + 40 * M.aG.sz x := by
  unfold M.aG.cnt
  simp only [M.aG.sz]
  have := M.aEm.fU x.Items
  omega
theorem M.aEE.fU (xs : List M.aG) : aD M.aG.cnt xs ≤ 40 * ((xs.length + aD M.aG.sz xs)) := lZ (fun x _ => M.aG.fU x)
theorem M.aA.fU (x : M.aA) : M.aA.cnt x ≤ 40 + 40 * M.aA.sz x := by
  unfold M.aA.cnt
  simp only [M.aA.sz]
  omega
theorem M.aAA.fU (xs : List M.aA) : aD M.aA.cnt xs ≤ 40 * ((xs.length + aD M.aA.sz xs)) := lZ (fun x _ => M.aA.fU x)
theorem M.aW.fU (x : M.aW) : M.aW.cnt x ≤ 40 + 40 * M.aW.sz x := by
  unfold M.aW.cnt
  simp only [M.aW.sz, M.Key.sz]
  omega
theorem M.aBX.fU (xs : List M.aW) : aD M.aW.cnt xs ≤ 40 * ((xs.length + aD M.aW.sz xs)) := lZ (fun x _ => M.aW.fU x)
theorem M.aE.fU (x : M.aE) : M.aE.cnt x ≤ 40 + 40 * M.aE.sz x := by
  unfold M.aE.cnt
  simp only [M.aE.sz, M.Registration.sz, M.aT.sz, M.bG.sz, M.Database.sz, M.aC.sz, M.aG.sz, M.Sync.sz, M.aV.sz]
  have := M.aDg.fU x.Caches.Caches
  have := M.aEE.fU x.bG.Base.Stores
  have := M.aAA.fU x.bG.Base.Unique
  have := M.aB9.fU x.bG.Log
  have := M.aEm.fU x.aC.Base.Items
  have := M.aBX.fU x.aC.Sync.aV.Writes
  omega
theorem M.aB5.fU (xs : List M.aE) : aD M.aE.cnt xs ≤ 40 * ((xs.length + aD M.aE.sz xs)) := lZ (fun x _ => M.aE.fU x)
theorem M.aM.fU (x : M.aM) : M.aM.cnt x ≤ 40 + 40 * M.aM.sz x := by
  unfold M.aM.cnt
  simp only [M.aM.sz]
  omega
theorem M.aB3.fU (xs : List M.aM) : aD M.aM.cnt xs ≤ 40 * ((xs.length + aD M.aM.sz xs)) := lZ (fun x _ => M.aM.fU x)
theorem M.Instr.fU (x : M.Instr) : M.Instr.cnt x ≤ 40 + 40 * M.Instr.sz x := by
  unfold M.Instr.cnt
  simp only [M.Instr.sz]
  omega
theorem M.aDo.fU (xs : List M.Instr) : aD M.Instr.cnt xs ≤ 40 * ((xs.length + aD M.Instr.sz xs)) := lZ (fun x _ => M.Instr.fU x)
theorem M.aKB.fU (xs : List Int) : xs.length ≤ 40 * (xs.length) := by omega
theorem M.bF.fU (x : M.bF) : M.bF.cnt x ≤ 40 + 40 * M.bF.sz x := by
  unfold M.bF.cnt
  simp only [M.bF.sz, M.Machine.sz]
  have := M.aB3.fU x.aM
  have := M.aDo.fU x.Machine.Script
  have := M.aKB.fU x.Machine.Regs
  omega
theorem M.aHr.fU (xs : List M.bF) : aD M.bF.cnt xs ≤ 40 * ((xs.length + aD M.bF.sz xs)) := lZ (fun x _ => M.bF.fU x)
theorem M.bZ.fU (x : M.bZ) : M.bZ.cnt x ≤ 40 + 40 * M.bZ.sz x := by
  unfold M.bZ.cnt
  simp only [M.bZ.sz]
  omega
theorem M.aH3.fU (xs : List M.bZ) : aD M.bZ.cnt xs ≤ 40 * ((xs.length + aD M.bZ.sz xs)) := lZ (fun x _ => M.bZ.fU x)
theorem M.cN.fU (x : M.cN) : M.cN.cnt x ≤ 40 := by
  unfold M.cN.cnt
  omega
theorem M.aH4.fU (xs : List M.cN) : aD M.cN.cnt xs ≤ 40 * (xs.length) := Nat.le_trans (aB0 (fun x _ => M.cN.fU x)) (by omega)
theorem M.aAE.fU (xs : List ByteArray) : xs.length ≤ 40 * ((xs.length + aD ByteArray.size xs)) := by omega
theorem M.Site.fU (x : M.Site) : M.Site.cnt x ≤ 40 + 40 * M.Site.sz x := by
  unfold M.Site.cnt
  simp only [M.Site.sz]
  have := M.aAE.fU x.Files
  omega
theorem M.aHb.fU (xs : List M.Site) : aD M.Site.cnt xs ≤ 40 * ((xs.length + aD M.Site.sz xs)) := lZ (fun x _ => M.Site.fU x)
theorem M.aH.fU (x : M.aH) : M.aH.cnt x ≤ 40 := by
  unfold M.aH.cnt
  omega
theorem M.aBG.fU (xs : List M.aH) : aD M.aH.cnt xs ≤ 40 * (xs.length) := Nat.le_trans (aB0 (fun x _ => M.aH.fU x)) (by omega)
theorem M.Server.fU (x : M.Server) : M.Server.cnt x ≤ 40 + 40 * M.Server.sz x := by
  unfold M.Server.cnt
  simp only [M.Server.sz, M.aG.sz]
  have := M.aEm.fU x.aG.Items
  have := M.aBG.fU x.aH
  have := M.aBX.fU x.Changes
  omega
theorem M.aBz.fU (xs : List M.Server) : aD M.Server.cnt xs ≤ 40 * ((xs.length + aD M.Server.sz xs)) := lZ (fun x _ => M.Server.fU x)
theorem M.World.aMm (x : M.World) : M.World.aKn x ≤ 40 * M.World.sz x := by
  unfold M.World.aKn
  simp only [M.World.sz, M.aK.sz, M.aQ.sz, M.Channel.sz]
  have := M.aB5.fU x.aK.Buckets
  have := M.aHr.fU x.Pages
  have := M.aH3.fU x.Locks.Locks
  have := M.aH4.fU x.Channel.Mails
  have := M.aHb.fU x.Sites
  have := M.aBz.fU x.Servers
  omega
end Go.Proofs.YtecmnmaaopkdfaaGreat.gen
