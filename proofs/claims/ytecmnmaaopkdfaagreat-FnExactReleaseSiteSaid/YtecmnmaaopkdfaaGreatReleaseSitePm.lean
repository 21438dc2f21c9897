/-
  Helper text. No conditions.
-/
import Derived.Test.YtecmnmaaopkdfaaGreatReleaseSitePz
namespace Go.Proofs.YtecmnmaaopkdfaaGreat.gen
open Go Go.Sh
set_option linter.unusedVariables false
set_option linter.unusedSimpArgs false
theorem aMP : ∀ (n : Nat) (v : Int) (b : ByteArray), v.toNat < n → 0 ≤ v → (b.size : Int) + v ≤ KB → ∃ t, jO n v b = some t ∧ t.size ≤ 4611686018427387905
  | 0, v, b, h, _, _ => by omega
  | n + 1, v, b, h, h0, hb => by
    unfold KB at hb
    simp only [jO]
    by_cases hv : v > 0
    · rw [if_pos (by simp; omega)]
      have h1 := Int.tmod_nonneg 10 h0
      have h2 := Int.tmod_lt_of_pos v (show (0 : Int) < 10 by omega)
      have hu := aLq (IntKind.i64.wrap (48 + Int.tmod v 10))
      have hd : Int.tdiv v 10 = v / 10 := Int.tdiv_eq_ediv_of_nonneg h0
      have hs : toStr [IntKind.u8.wrap (IntKind.i64.wrap (48 + Int.tmod v 10))] = some (aBM [IntKind.u8.wrap (IntKind.i64.wrap (48 + Int.tmod v 10))]) := by
        unfold toStr; rw [if_pos (by simp; omega)]
      have hz : (aBM [IntKind.u8.wrap (IntKind.i64.wrap (48 + Int.tmod v 10))]).size = 1 := rfl
      rw [hs, Option.bind_some]
      unfold cat
      rw [if_pos (by rw [hz]; omega), Option.bind_some, hd, iN (by omega) (by omega)]
      refine aMP n (v / 10) _ (by omega) (by omega) ?_
      rw [ByteArray.size_append, hz]
      unfold KB
      omega
    · rw [if_neg (by simp; omega)]
      have hq : cat (⟨#[109]⟩ : ByteArray) b = some ((⟨#[109]⟩ : ByteArray) ++ b) := by
        unfold cat; rw [if_pos (by show 1 + b.size ≤ _; omega)]
      first | exact ⟨_, by rw [hq, Option.bind_some], by rw [ByteArray.size_append]; show 1 + b.size ≤ _; omega⟩ | exact ⟨_, by rw [hq]; rfl, by rw [ByteArray.size_append]; show 1 + b.size ≤ _; omega⟩
theorem aMk (k : Int) (h0 : 0 ≤ k) (h : k < KB) : ∃ t, aF k = some t := by
  unfold aF
  by_cases hk : k ≤ 0
  · exact ⟨_, by rw [if_pos (by simpa using hk)]⟩
  · rw [if_neg (by simpa using hk)]
    obtain ⟨t, h1, _⟩ := aMP fuel k ⟨#[]⟩ (by unfold fuel KB at *; omega) h0 (by show ((0 : Nat) : Int) + k ≤ KB; omega)
    exact ⟨t, h1⟩
def mtx (k : Int) : ByteArray := (aF k).getD ⟨#[]⟩
theorem mt {k : Int} (h0 : 0 ≤ k) (h : k < KB) : aF k = some (mtx k) := by
  obtain ⟨t, ht⟩ := aMk k h0 h
  unfold mtx; rw [ht]; rfl
set_option maxHeartbeats 4000000 in
theorem M.aBm.oC (x : Int) (hx : True) (k : Int) (h0 : 0 ≤ k) (hB : k + (((fun _ : Int => 1) x : Nat) : Int) ≤ KB) : ∃ x' : Int, (∀ n (pre post : List Int), (pre ++ x :: post).length ≤ maxLen → dL (n + 1) k pre.length (pre ++ x :: post) = dL n (k + (((fun _ : Int => 1) x : Nat) : Int)) ((pre.length + 1 : Nat) : Int) (pre ++ x' :: post)) ∧ ∀ n (l : List Int) (i : Nat), l[i]? = some x' → l.length ≤ maxLen → eX l (n + 1) k i = eX l n (k + (((fun _ : Int => 1) x : Nat) : Int)) ((i + 1 : Nat) : Int) := by
  unfold KB at hB; (try simp only [] at hB ⊢)
  have A : (0 ≤ k ∧ k ≤ KB) ∧ (0 ≤ k + 1 ∧ k + 1 ≤ KB) := by
    unfold KB
    refine ⟨?_, ?_⟩ <;> omega
  have hE : k + 1 = k + (((fun _ : Int => 1) x : Nat) : Int) := by simp
  obtain ⟨q0, q1⟩ := A
  have w0 := wk2 q0
  refine ⟨(IntKind.u8.wrap k), fun n pre post hl => ?_, fun n l i hi hl => ?_⟩
  · have hl' := le_max hl
    have hp : pre.length < 9223372036854775807 := by simp at hl'; omega
    simp only [dL]
    rw [if_pos (aAF pre post x)]
    simp (maxSteps := 2000000) only [qZ, qU, Option.bind_some, bE hp, w0]
    rw [hE]
  · have hl' := le_max hl
    have hp : i < 9223372036854775807 := by have := (List.getElem?_eq_some_iff.1 hi).1; omega
    simp only [eX]
    rw [if_pos (aBl hi)]
    simp (maxSteps := 2000000) only [zK hi, Option.bind_some, bE hp, w0, bne_self_eq_false, beq_self_eq_true, Bool.not_true, Bool.false_eq_true, if_false]
    rw [hE]
theorem M.aBm.cl (xs : List Int) : aD (fun _ : Int => 1) xs = xs.length := by
  induction xs with
  | nil => rfl
  | cons x xs ih => simp only [aD, ih, List.length_cons]; omega
theorem M.aBm.gP (xs : List Int) (hx : okB xs) (k : Int) (h0 : 0 ≤ k) (hB : k + ((xs.length : Nat) : Int) ≤ KB) : ∃ ys, mK xs k = some (ys, k + ((xs.length : Nat) : Int)) ∧ mL ys k = some (k + ((xs.length : Nat) : Int)) ∧ ys.length = xs.length := by
  have hm := le_max hx.1
  rw [← M.aBm.cl xs] at hB ⊢
  obtain ⟨ys, h1, h2, h3⟩ := kB (ML := dL) (HL := eX) (c := (fun _ : Int => 1)) (ok := (fun _ : Int => True)) (fun x hx k h0 hB => M.aBm.oC x hx k h0 hB) (fun n k l => by simp only [dL]; rw [if_neg (by rw [aO]; simp)]) (fun n k l => by simp only [eX]; rw [if_neg (by rw [aO]; simp)]) xs [] fuel k (by simpa using hx.1) (by unfold fuel; omega) (fun _ _ => trivial) h0 hB
  refine ⟨ys, by unfold mK; simpa using h2, by unfold mL; simpa using h3 fuel (by unfold fuel; omega), by have := M.aBm.cl xs; omega⟩
def M.Cached.cnt (x : M.Cached) : Nat := 6 + (x.Response.Body.length)
set_option maxHeartbeats 4000000 in
theorem M.Cached.oC (x : M.Cached) (hx : M.Cached.ok x) (k : Int) (h0 : 0 ≤ k) (hB : k + ((M.Cached.cnt x : Nat) : Int) ≤ KB) : ∃ x' : M.Cached, (∀ n (pre post : List M.Cached), (pre ++ x :: post).length ≤ maxLen → cJ (n + 1) k pre.length (pre ++ x :: post) = cJ n (k + ((M.Cached.cnt x : Nat) : Int)) ((pre.length + 1 : Nat) : Int) (pre ++ x' :: post)) ∧ ∀ n (l : List M.Cached) (i : Nat), l[i]? = some x' → l.length ≤ maxLen → dC l (n + 1) k i = dC l n (k + ((M.Cached.cnt x : Nat) : Int)) ((i + 1 : Nat) : Int) := by
  unfold KB at hB; unfold M.Cached.cnt at hB ⊢
  have A : (0 ≤ k ∧ k ≤ KB) ∧ (0 ≤ k + 1 ∧ k + 1 ≤ KB) ∧ (0 ≤ k + 1 + 1 ∧ k + 1 + 1 ≤ KB) ∧ (0 ≤ k + 1 + 1 + 1 ∧ k + 1 + 1 + 1 ≤ KB) ∧ (0 ≤ k + 1 + 1 + 1 + 1 ∧ k + 1 + 1 + 1 + 1 ≤ KB) ∧ (0 ≤ k + 1 + 1 + 1 + 1 + 1 ∧ k + 1 + 1 + 1 + 1 + 1 ≤ KB) ∧ (0 ≤ k + 1 + 1 + 1 + 1 + 1 + ((x.Response.Body.length : Nat) : Int) ∧ k + 1 + 1 + 1 + 1 + 1 + ((x.Response.Body.length : Nat) : Int) ≤ KB) ∧ (0 ≤ k + 1 + 1 + 1 + 1 + 1 + ((x.Response.Body.length : Nat) : Int) + 1 ∧ k + 1 + 1 + 1 + 1 + 1 + ((x.Response.Body.length : Nat) : Int) + 1 ≤ KB) := by
    unfold KB
    refine ⟨?_, ?_, ?_, ?_, ?_, ?_, ?_, ?_⟩ <;> omega
  have hE : k + 1 + 1 + 1 + 1 + 1 + ((x.Response.Body.length : Nat) : Int) + 1 = k + ((M.Cached.cnt x : Nat) : Int) := by unfold M.Cached.cnt; omega
  unfold M.Cached.cnt at hE
  obtain ⟨q0, q1, q2, q3, q4, q5, q6, q7⟩ := A
  have t0 : aF (k) = some (mtx (k)) := mt q0.1 (Int.lt_of_add_one_le q1.2)
  have w0 := wk2 q0
  have t1 : aF (k + 1) = some (mtx (k + 1)) := mt q1.1 (Int.lt_of_add_one_le q2.2)
  have w1 := wk2 q1
  have w2 := wk2 q2
  have w3 := wk2 q3
  have w4 := wk2 q4
  obtain ⟨y1, a1, b1, _⟩ := M.aBm.gP _ hx.Response.Body (k + 1 + 1 + 1 + 1 + 1) q5.1 q6.2
  have d1 : (decide (k + 1 + 1 + 1 + 1 + 1 + ((x.Response.Body.length : Nat) : Int) < 0)) = false := dk q6.1
  have w6 := wk2 q6
  refine ⟨⟨(mtx (k)), (mtx (k + 1)), ⟨k + 1 + 1, k + 1 + 1 + 1, k + 1 + 1 + 1 + 1, y1, ((Int.tmod (k + 1 + 1 + 1 + 1 + 1 + ((x.Response.Body.length : Nat) : Int)) 3) == 0)⟩⟩, fun n pre post hl => ?_, fun n l i hi hl => ?_⟩
  · have hl' := le_max hl
    have hp : pre.length < 9223372036854775807 := by simp at hl'; omega
    simp only [cJ]
    rw [if_pos (aAF pre post x)]
    simp (maxSteps := 2000000) only [qZ, qU, Option.bind_some, bE hp, t0, w0, t1, w1, w2, w3, w4, a1, w6]
    rw [hE]
  · have hl' := le_max hl
    have hp : i < 9223372036854775807 := by have := (List.getElem?_eq_some_iff.1 hi).1; omega
    simp only [dC]
    rw [if_pos (aBl hi)]
    simp (maxSteps := 2000000) only [zK hi, Option.bind_some, bE hp, t0, w0, t1, w1, w2, w3, w4, b1, d1, w6, bne_self_eq_false, beq_self_eq_true, Bool.not_true, Bool.false_eq_true, if_false]
    rw [hE]
theorem M.aBp.gP (xs : List M.Cached) (hx : (xs.length ≤ maxLen ∧ ∀ y ∈ xs, M.Cached.ok y)) (k : Int) (h0 : 0 ≤ k) (hB : k + ((aD M.Cached.cnt xs : Nat) : Int) ≤ KB) : ∃ ys, nW xs k = some (ys, k + ((aD M.Cached.cnt xs : Nat) : Int)) ∧ nH ys k = some (k + ((aD M.Cached.cnt xs : Nat) : Int)) ∧ ys.length = xs.length := by
  have hm := le_max hx.1
  obtain ⟨ys, h1, h2, h3⟩ := kB (ML := cJ) (HL := dC) (c := M.Cached.cnt) (ok := M.Cached.ok) (fun x hx k h0 hB => M.Cached.oC x hx k h0 hB) (fun n k l => by simp only [cJ]; rw [if_neg (by rw [aO]; simp)]) (fun n k l => by simp only [dC]; rw [if_neg (by rw [aO]; simp)]) xs [] fuel k (by simpa using hx.1) (by unfold fuel; omega) hx.2 h0 hB
  refine ⟨ys, by unfold nW; simpa using h2, by unfold nH; simpa using h3 fuel (by unfold fuel; omega), h1⟩
def M.Cache.cnt (x : M.Cache) : Nat := 1 + (aD M.Cached.cnt x.Entries)
set_option maxHeartbeats 4000000 in
theorem M.Cache.oC (x : M.Cache) (hx : M.Cache.ok x) (k : Int) (h0 : 0 ≤ k) (hB : k + ((M.Cache.cnt x : Nat) : Int) ≤ KB) : ∃ x' : M.Cache, (∀ n (pre post : List M.Cache), (pre ++ x :: post).length ≤ maxLen → cT (n + 1) k pre.length (pre ++ x :: post) = cT n (k + ((M.Cache.cnt x : Nat) : Int)) ((pre.length + 1 : Nat) : Int) (pre ++ x' :: post)) ∧ ∀ n (l : List M.Cache) (i : Nat), l[i]? = some x' → l.length ≤ maxLen → dU l (n + 1) k i = dU l n (k + ((M.Cache.cnt x : Nat) : Int)) ((i + 1 : Nat) : Int) := by
  unfold KB at hB; unfold M.Cache.cnt at hB ⊢
  have A : (0 ≤ k ∧ k ≤ KB) ∧ (0 ≤ k + 1 ∧ k + 1 ≤ KB) ∧ (0 ≤ k + 1 + ((aD M.Cached.cnt x.Entries : Nat) : Int) ∧ k + 1 + ((aD M.Cached.cnt x.Entries : Nat) : Int) ≤ KB) := by
    unfold KB
    refine ⟨?_, ?_, ?_⟩ <;> omega
  have hE : k + 1 + ((aD M.Cached.cnt x.Entries : Nat) : Int) = k + ((M.Cache.cnt x : Nat) : Int) := by unfold M.Cache.cnt; omega
  unfold M.Cache.cnt at hE
  obtain ⟨q0, q1, q2⟩ := A
  have w0 := wk2 q0
  obtain ⟨y1, a1, b1, _⟩ := M.aBp.gP _ hx.Entries (k + 1) q1.1 q2.2
  have d1 : (decide (k + 1 + ((aD M.Cached.cnt x.Entries : Nat) : Int) < 0)) = false := dk q2.1
  refine ⟨⟨k, y1⟩, fun n pre post hl => ?_, fun n l i hi hl => ?_⟩
  · have hl' := le_max hl
    have hp : pre.length < 9223372036854775807 := by simp at hl'; omega
    simp only [cT]
    rw [if_pos (aAF pre post x)]
    simp (maxSteps := 2000000) only [qZ, qU, Option.bind_some, bE hp, w0, a1]
    rw [hE]
  · have hl' := le_max hl
    have hp : i < 9223372036854775807 := by have := (List.getElem?_eq_some_iff.1 hi).1; omega
    simp only [dU]
    rw [if_pos (aBl hi)]
    simp (maxSteps := 2000000) only [zK hi, Option.bind_some, bE hp, w0, b1, d1, bne_self_eq_false, beq_self_eq_true, Bool.not_true, Bool.false_eq_true, if_false]
    rw [hE]
theorem M.aDU.gP (xs : List M.Cache) (hx : (xs.length ≤ maxLen ∧ ∀ y ∈ xs, M.Cache.ok y)) (k : Int) (h0 : 0 ≤ k) (hB : k + ((aD M.Cache.cnt xs : Nat) : Int) ≤ KB) : ∃ ys, qB xs k = some (ys, k + ((aD M.Cache.cnt xs : Nat) : Int)) ∧ oY ys k = some (k + ((aD M.Cache.cnt xs : Nat) : Int)) ∧ ys.length = xs.length := by
  have hm := le_max hx.1
  obtain ⟨ys, h1, h2, h3⟩ := kB (ML := cT) (HL := dU) (c := M.Cache.cnt) (ok := M.Cache.ok) (fun x hx k h0 hB => M.Cache.oC x hx k h0 hB) (fun n k l => by simp only [cT]; rw [if_neg (by rw [aO]; simp)]) (fun n k l => by simp only [dU]; rw [if_neg (by rw [aO]; simp)]) xs [] fuel k (by simpa using hx.1) (by unfold fuel; omega) hx.2 h0 hB
  refine ⟨ys, by unfold qB; simpa using h2, by unfold oY; simpa using h3 fuel (by unfold fuel; omega), h1⟩
def M.Field.cnt (x : M.Field) : Nat := 2
set_option maxHeartbeats 4000000 in
theorem M.Field.oC (x : M.Field) (hx : M.Field.ok x) (k : Int) (h0 : 0 ≤ k) (hB : k + ((M.Field.cnt x : Nat) : Int) ≤ KB) : ∃ x' : M.Field, (∀ n (pre post : List M.Field), (pre ++ x :: post).length ≤ maxLen → cV (n + 1) k pre.length (pre ++ x :: post) = cV n (k + ((M.Field.cnt x : Nat) : Int)) ((pre.length + 1 : Nat) : Int) (pre ++ x' :: post)) ∧ ∀ n (l : List M.Field) (i : Nat), l[i]? = some x' → l.length ≤ maxLen → dY l (n + 1) k i = dY l n (k + ((M.Field.cnt x : Nat) : Int)) ((i + 1 : Nat) : Int) := by
  unfold KB at hB; unfold M.Field.cnt at hB ⊢
  have A : (0 ≤ k ∧ k ≤ KB) ∧ (0 ≤ k + 1 ∧ k + 1 ≤ KB) ∧ (0 ≤ k + 1 + 1 ∧ k + 1 + 1 ≤ KB) := by
    unfold KB
    refine ⟨?_, ?_, ?_⟩ <;> omega
  have hE : k + 1 + 1 = k + ((M.Field.cnt x : Nat) : Int) := by unfold M.Field.cnt; omega
  unfold M.Field.cnt at hE
  obtain ⟨q0, q1, q2⟩ := A
  have t0 : aF (k) = some (mtx (k)) := mt q0.1 (Int.lt_of_add_one_le q1.2)
  have w0 := wk2 q0
  have w1 := wk2 q1
  refine ⟨⟨(mtx (k)), k + 1⟩, fun n pre post hl => ?_, fun n l i hi hl => ?_⟩
  · have hl' := le_max hl
    have hp : pre.length < 9223372036854775807 := by simp at hl'; omega
    simp only [cV]
    rw [if_pos (aAF pre post x)]
    simp (maxSteps := 2000000) only [qZ, qU, Option.bind_some, bE hp, t0, w0, w1]
    rw [hE]
  · have hl' := le_max hl
    have hp : i < 9223372036854775807 := by have := (List.getElem?_eq_some_iff.1 hi).1; omega
    simp only [dY]
    rw [if_pos (aBl hi)]
    simp (maxSteps := 2000000) only [zK hi, Option.bind_some, bE hp, t0, w0, w1, bne_self_eq_false, beq_self_eq_true, Bool.not_true, Bool.false_eq_true, if_false]
    rw [hE]
theorem M.aDi.gP (xs : List M.Field) (hx : (xs.length ≤ maxLen ∧ ∀ y ∈ xs, M.Field.ok y)) (k : Int) (h0 : 0 ≤ k) (hB : k + ((aD M.Field.cnt xs : Nat) : Int) ≤ KB) : ∃ ys, oT xs k = some (ys, k + ((aD M.Field.cnt xs : Nat) : Int)) ∧ qA ys k = some (k + ((aD M.Field.cnt xs : Nat) : Int)) ∧ ys.length = xs.length := by
  have hm := le_max hx.1
  obtain ⟨ys, h1, h2, h3⟩ := kB (ML := cV) (HL := dY) (c := M.Field.cnt) (ok := M.Field.ok) (fun x hx k h0 hB => M.Field.oC x hx k h0 hB) (fun n k l => by simp only [cV]; rw [if_neg (by rw [aO]; simp)]) (fun n k l => by simp only [dY]; rw [if_neg (by rw [aO]; simp)]) xs [] fuel k (by simpa using hx.1) (by unfold fuel; omega) hx.2 h0 hB
  refine ⟨ys, by unfold oT; simpa using h2, by unfold qA; simpa using h3 fuel (by unfold fuel; omega), h1⟩
def M.Item.cnt (x : M.Item) : Nat := 3 + (aD M.Field.cnt x.aU.Fields)
set_option maxHeartbeats 4000000 in
theorem M.Item.oC (x : M.Item) (hx : M.Item.ok x) (k : Int) (h0 : 0 ≤ k) (hB : k + ((M.Item.cnt x : Nat) : Int) ≤ KB) : ∃ x' : M.Item, (∀ n (pre post : List M.Item), (pre ++ x :: post).length ≤ maxLen → dN (n + 1) k pre.length (pre ++ x :: post) = dN n (k + ((M.Item.cnt x : Nat) : Int)) ((pre.length + 1 : Nat) : Int) (pre ++ x' :: post)) ∧ ∀ n (l : List M.Item) (i : Nat), l[i]? = some x' → l.length ≤ maxLen → eU l (n + 1) k i = eU l n (k + ((M.Item.cnt x : Nat) : Int)) ((i + 1 : Nat) : Int) := by
  unfold KB at hB; unfold M.Item.cnt at hB ⊢
  have A : (0 ≤ k ∧ k ≤ KB) ∧ (0 ≤ k + 1 ∧ k + 1 ≤ KB) ∧ (0 ≤ k + 1 + 1 ∧ k + 1 + 1 ≤ KB) ∧ (0 ≤ k + 1 + 1 + 1 ∧ k + 1 + 1 + 1 ≤ KB) ∧ (0 ≤ k + 1 + 1 + 1 + ((aD M.Field.cnt x.aU.Fields : Nat) : Int) ∧ k + 1 + 1 + 1 + ((aD M.Field.cnt x.aU.Fields : Nat) : Int) ≤ KB) := by
    unfold KB
    refine ⟨?_, ?_, ?_, ?_, ?_⟩ <;> omega
  have hE : k + 1 + 1 + 1 + ((aD M.Field.cnt x.aU.Fields : Nat) : Int) = k + ((M.Item.cnt x : Nat) : Int) := by unfold M.Item.cnt; omega
  unfold M.Item.cnt at hE
  obtain ⟨q0, q1, q2, q3, q4⟩ := A
  have w0 := wk2 q0
  have w1 := wk2 q1
  have t2 : aF (k + 1 + 1) = some (mtx (k + 1 + 1)) := mt q2.1 (Int.lt_of_add_one_le q3.2)
  have w2 := wk2 q2
  obtain ⟨y1, a1, b1, _⟩ := M.aDi.gP _ hx.aU.Fields (k + 1 + 1 + 1) q3.1 q4.2
  have d1 : (decide (k + 1 + 1 + 1 + ((aD M.Field.cnt x.aU.Fields : Nat) : Int) < 0)) = false := dk q4.1
  refine ⟨⟨⟨k, k + 1, (mtx (k + 1 + 1))⟩, ⟨y1⟩⟩, fun n pre post hl => ?_, fun n l i hi hl => ?_⟩
  · have hl' := le_max hl
    have hp : pre.length < 9223372036854775807 := by simp at hl'; omega
    simp only [dN]
    rw [if_pos (aAF pre post x)]
    simp (maxSteps := 2000000) only [qZ, qU, Option.bind_some, bE hp, w0, w1, t2, w2, a1]
    rw [hE]
  · have hl' := le_max hl
    have hp : i < 9223372036854775807 := by have := (List.getElem?_eq_some_iff.1 hi).1; omega
    simp only [eU]
    rw [if_pos (aBl hi)]
    simp (maxSteps := 2000000) only [zK hi, Option.bind_some, bE hp, w0, w1, t2, w2, b1, d1, bne_self_eq_false, beq_self_eq_true, Bool.not_true, Bool.false_eq_true, if_false]
    rw [hE]
theorem M.aEH.gP (xs : List M.Item) (hx : (xs.length ≤ maxLen ∧ ∀ y ∈ xs, M.Item.ok y)) (k : Int) (h0 : 0 ≤ k) (hB : k + ((aD M.Item.cnt xs : Nat) : Int) ≤ KB) : ∃ ys, kH xs k = some (ys, k + ((aD M.Item.cnt xs : Nat) : Int)) ∧ kK ys k = some (k + ((aD M.Item.cnt xs : Nat) : Int)) ∧ ys.length = xs.length := by
  have hm := le_max hx.1
  obtain ⟨ys, h1, h2, h3⟩ := kB (ML := dN) (HL := eU) (c := M.Item.cnt) (ok := M.Item.ok) (fun x hx k h0 hB => M.Item.oC x hx k h0 hB) (fun n k l => by simp only [dN]; rw [if_neg (by rw [aO]; simp)]) (fun n k l => by simp only [eU]; rw [if_neg (by rw [aO]; simp)]) xs [] fuel k (by simpa using hx.1) (by unfold fuel; omega) hx.2 h0 hB
  refine ⟨ys, by unfold kH; simpa using h2, by unfold kK; simpa using h3 fuel (by unfold fuel; omega), h1⟩
def M.aH.cnt (x : M.aH) : Nat := 2 + (aD M.Item.cnt x.Items)
set_option maxHeartbeats 4000000 in
theorem M.aH.oC (x : M.aH) (hx : M.aH.ok x) (k : Int) (h0 : 0 ≤ k) (hB : k + ((M.aH.cnt x : Nat) : Int) ≤ KB) : ∃ x' : M.aH, (∀ n (pre post : List M.aH), (pre ++ x :: post).length ≤ maxLen → cW (n + 1) k pre.length (pre ++ x :: post) = cW n (k + ((M.aH.cnt x : Nat) : Int)) ((pre.length + 1 : Nat) : Int) (pre ++ x' :: post)) ∧ ∀ n (l : List M.aH) (i : Nat), l[i]? = some x' → l.length ≤ maxLen → eJ l (n + 1) k i = eJ l n (k + ((M.aH.cnt x : Nat) : Int)) ((i + 1 : Nat) : Int) := by
  unfold KB at hB; unfold M.aH.cnt at hB ⊢
  have A : (0 ≤ k ∧ k ≤ KB) ∧ (0 ≤ k + 1 ∧ k + 1 ≤ KB) ∧ (0 ≤ k + 1 + ((aD M.Item.cnt x.Items : Nat) : Int) ∧ k + 1 + ((aD M.Item.cnt x.Items : Nat) : Int) ≤ KB) ∧ (0 ≤ k + 1 + ((aD M.Item.cnt x.Items : Nat) : Int) + 1 ∧ k + 1 + ((aD M.Item.cnt x.Items : Nat) : Int) + 1 ≤ KB) := by
    unfold KB
    refine ⟨?_, ?_, ?_, ?_⟩ <;> omega
  have hE : k + 1 + ((aD M.Item.cnt x.Items : Nat) : Int) + 1 = k + ((M.aH.cnt x : Nat) : Int) := by unfold M.aH.cnt; omega
  unfold M.aH.cnt at hE
  obtain ⟨q0, q1, q2, q3⟩ := A
  have t0 : aF (k) = some (mtx (k)) := mt q0.1 (Int.lt_of_add_one_le q1.2)
  have w0 := wk2 q0
  obtain ⟨y1, a1, b1, _⟩ := M.aEH.gP _ hx.Items (k + 1) q1.1 q2.2
  have d1 : (decide (k + 1 + ((aD M.Item.cnt x.Items : Nat) : Int) < 0)) = false := dk q2.1
  have w2 := wk2 q2
  refine ⟨⟨(mtx (k)), y1, k + 1 + ((aD M.Item.cnt x.Items : Nat) : Int)⟩, fun n pre post hl => ?_, fun n l i hi hl => ?_⟩
  · have hl' := le_max hl
    have hp : pre.length < 9223372036854775807 := by simp at hl'; omega
    simp only [cW]
    rw [if_pos (aAF pre post x)]
    simp (maxSteps := 2000000) only [qZ, qU, Option.bind_some, bE hp, t0, w0, a1, w2]
    rw [hE]
  · have hl' := le_max hl
    have hp : i < 9223372036854775807 := by have := (List.getElem?_eq_some_iff.1 hi).1; omega
    simp only [eJ]
    rw [if_pos (aBl hi)]
    simp (maxSteps := 2000000) only [zK hi, Option.bind_some, bE hp, t0, w0, b1, d1, w2, bne_self_eq_false, beq_self_eq_true, Bool.not_true, Bool.false_eq_true, if_false]
    rw [hE]
theorem M.aDw.gP (xs : List M.aH) (hx : (xs.length ≤ maxLen ∧ ∀ y ∈ xs, M.aH.ok y)) (k : Int) (h0 : 0 ≤ k) (hB : k + ((aD M.aH.cnt xs : Nat) : Int) ≤ KB) : ∃ ys, oU xs k = some (ys, k + ((aD M.aH.cnt xs : Nat) : Int)) ∧ pF ys k = some (k + ((aD M.aH.cnt xs : Nat) : Int)) ∧ ys.length = xs.length := by
  have hm := le_max hx.1
  obtain ⟨ys, h1, h2, h3⟩ := kB (ML := cW) (HL := eJ) (c := M.aH.cnt) (ok := M.aH.ok) (fun x hx k h0 hB => M.aH.oC x hx k h0 hB) (fun n k l => by simp only [cW]; rw [if_neg (by rw [aO]; simp)]) (fun n k l => by simp only [eJ]; rw [if_neg (by rw [aO]; simp)]) xs [] fuel k (by simpa using hx.1) (by unfold fuel; omega) hx.2 h0 hB
  refine ⟨ys, by unfold oU; simpa using h2, by unfold pF; simpa using h3 fuel (by unfold fuel; omega), h1⟩
def M.aA.cnt (x : M.aA) : Nat := 2
set_option maxHeartbeats 4000000 in
theorem M.aA.oC (x : M.aA) (hx : M.aA.ok x) (k : Int) (h0 : 0 ≤ k) (hB : k + ((M.aA.cnt x : Nat) : Int) ≤ KB) : ∃ x' : M.aA, (∀ n (pre post : List M.aA), (pre ++ x :: post).length ≤ maxLen → bR (n + 1) k pre.length (pre ++ x :: post) = bR n (k + ((M.aA.cnt x : Nat) : Int)) ((pre.length + 1 : Nat) : Int) (pre ++ x' :: post)) ∧ ∀ n (l : List M.aA) (i : Nat), l[i]? = some x' → l.length ≤ maxLen → cC l (n + 1) k i = cC l n (k + ((M.aA.cnt x : Nat) : Int)) ((i + 1 : Nat) : Int) := by
  unfold KB at hB; unfold M.aA.cnt at hB ⊢
  have A : (0 ≤ k ∧ k ≤ KB) ∧ (0 ≤ k + 1 ∧ k + 1 ≤ KB) ∧ (0 ≤ k + 1 + 1 ∧ k + 1 + 1 ≤ KB) := by
    unfold KB
    refine ⟨?_, ?_, ?_⟩ <;> omega
  have hE : k + 1 + 1 = k + ((M.aA.cnt x : Nat) : Int) := by unfold M.aA.cnt; omega
  unfold M.aA.cnt at hE
  obtain ⟨q0, q1, q2⟩ := A
  have t0 : aF (k) = some (mtx (k)) := mt q0.1 (Int.lt_of_add_one_le q1.2)
  have w0 := wk2 q0
  have t1 : aF (k + 1) = some (mtx (k + 1)) := mt q1.1 (Int.lt_of_add_one_le q2.2)
  have w1 := wk2 q1
  refine ⟨⟨(mtx (k)), (mtx (k + 1))⟩, fun n pre post hl => ?_, fun n l i hi hl => ?_⟩
  · have hl' := le_max hl
    have hp : pre.length < 9223372036854775807 := by simp at hl'; omega
    simp only [bR]
    rw [if_pos (aAF pre post x)]
    simp (maxSteps := 2000000) only [qZ, qU, Option.bind_some, bE hp, t0, w0, t1, w1]
    rw [hE]
  · have hl' := le_max hl
    have hp : i < 9223372036854775807 := by have := (List.getElem?_eq_some_iff.1 hi).1; omega
    simp only [cC]
    rw [if_pos (aBl hi)]
    simp (maxSteps := 2000000) only [zK hi, Option.bind_some, bE hp, t0, w0, t1, w1, bne_self_eq_false, beq_self_eq_true, Bool.not_true, Bool.false_eq_true, if_false]
    rw [hE]
theorem M.zS.gP (xs : List M.aA) (hx : (xs.length ≤ maxLen ∧ ∀ y ∈ xs, M.aA.ok y)) (k : Int) (h0 : 0 ≤ k) (hB : k + ((aD M.aA.cnt xs : Nat) : Int) ≤ KB) : ∃ ys, kN xs k = some (ys, k + ((aD M.aA.cnt xs : Nat) : Int)) ∧ kM ys k = some (k + ((aD M.aA.cnt xs : Nat) : Int)) ∧ ys.length = xs.length := by
  have hm := le_max hx.1
  obtain ⟨ys, h1, h2, h3⟩ := kB (ML := bR) (HL := cC) (c := M.aA.cnt) (ok := M.aA.ok) (fun x hx k h0 hB => M.aA.oC x hx k h0 hB) (fun n k l => by simp only [bR]; rw [if_neg (by rw [aO]; simp)]) (fun n k l => by simp only [cC]; rw [if_neg (by rw [aO]; simp)]) xs [] fuel k (by simpa using hx.1) (by unfold fuel; omega) hx.2 h0 hB
  refine ⟨ys, by unfold kN; simpa using h2, by unfold kM; simpa using h3 fuel (by unfold fuel; omega), h1⟩
def M.aW.cnt (x : M.aW) : Nat := 7
set_option maxHeartbeats 4000000 in
theorem M.aW.oC (x : M.aW) (hx : M.aW.ok x) (k : Int) (h0 : 0 ≤ k) (hB : k + ((M.aW.cnt x : Nat) : Int) ≤ KB) : ∃ x' : M.aW, (∀ n (pre post : List M.aW), (pre ++ x :: post).length ≤ maxLen → cY (n + 1) k pre.length (pre ++ x :: post) = cY n (k + ((M.aW.cnt x : Nat) : Int)) ((pre.length + 1 : Nat) : Int) (pre ++ x' :: post)) ∧ ∀ n (l : List M.aW) (i : Nat), l[i]? = some x' → l.length ≤ maxLen → eH l (n + 1) k i = eH l n (k + ((M.aW.cnt x : Nat) : Int)) ((i + 1 : Nat) : Int) := by
  unfold KB at hB; unfold M.aW.cnt at hB ⊢
  have A : (0 ≤ k ∧ k ≤ KB) ∧ (0 ≤ k + 1 ∧ k + 1 ≤ KB) ∧ (0 ≤ k + 1 + 1 ∧ k + 1 + 1 ≤ KB) ∧ (0 ≤ k + 1 + 1 + 1 ∧ k + 1 + 1 + 1 ≤ KB) ∧ (0 ≤ k + 1 + 1 + 1 + 1 ∧ k + 1 + 1 + 1 + 1 ≤ KB) ∧ (0 ≤ k + 1 + 1 + 1 + 1 + 1 ∧ k + 1 + 1 + 1 + 1 + 1 ≤ KB) ∧ (0 ≤ k + 1 + 1 + 1 + 1 + 1 + 1 ∧ k + 1 + 1 + 1 + 1 + 1 + 1 ≤ KB) ∧ (0 ≤ k + 1 + 1 + 1 + 1 + 1 + 1 + 1 ∧ k + 1 + 1 + 1 + 1 + 1 + 1 + 1 ≤ KB) := by
    unfold KB
    refine ⟨?_, ?_, ?_, ?_, ?_, ?_, ?_, ?_⟩ <;> omega
  have hE : k + 1 + 1 + 1 + 1 + 1 + 1 + 1 = k + ((M.aW.cnt x : Nat) : Int) := by unfold M.aW.cnt; omega
  unfold M.aW.cnt at hE
  obtain ⟨q0, q1, q2, q3, q4, q5, q6, q7⟩ := A
  have w0 := wk2 q0
  have w1 := wk2 q1
  have w2 := wk2 q2
  have w3 := wk2 q3
  have t4 : aF (k + 1 + 1 + 1 + 1) = some (mtx (k + 1 + 1 + 1 + 1)) := mt q4.1 (Int.lt_of_add_one_le q5.2)
  have w4 := wk2 q4
  have t5 : aF (k + 1 + 1 + 1 + 1 + 1) = some (mtx (k + 1 + 1 + 1 + 1 + 1)) := mt q5.1 (Int.lt_of_add_one_le q6.2)
  have w5 := wk2 q5
  have w6 := wk2 q6
  refine ⟨⟨k, k + 1, ⟨k + 1 + 1, k + 1 + 1 + 1, (mtx (k + 1 + 1 + 1 + 1))⟩, (mtx (k + 1 + 1 + 1 + 1 + 1)), k + 1 + 1 + 1 + 1 + 1 + 1⟩, fun n pre post hl => ?_, fun n l i hi hl => ?_⟩
  · have hl' := le_max hl
    have hp : pre.length < 9223372036854775807 := by simp at hl'; omega
    simp only [cY]
    rw [if_pos (aAF pre post x)]
    simp (maxSteps := 2000000) only [qZ, qU, Option.bind_some, bE hp, w0, w1, w2, w3, t4, w4, t5, w5, w6]
    rw [hE]
  · have hl' := le_max hl
    have hp : i < 9223372036854775807 := by have := (List.getElem?_eq_some_iff.1 hi).1; omega
    simp only [eH]
    rw [if_pos (aBl hi)]
    simp (maxSteps := 2000000) only [zK hi, Option.bind_some, bE hp, w0, w1, w2, w3, t4, w4, t5, w5, w6, bne_self_eq_false, beq_self_eq_true, Bool.not_true, Bool.false_eq_true, if_false]
    rw [hE]
theorem M.aBT.gP (xs : List M.aW) (hx : (xs.length ≤ maxLen ∧ ∀ y ∈ xs, M.aW.ok y)) (k : Int) (h0 : 0 ≤ k) (hB : k + ((aD M.aW.cnt xs : Nat) : Int) ≤ KB) : ∃ ys, lH xs k = some (ys, k + ((aD M.aW.cnt xs : Nat) : Int)) ∧ kV ys k = some (k + ((aD M.aW.cnt xs : Nat) : Int)) ∧ ys.length = xs.length := by
  have hm := le_max hx.1
  obtain ⟨ys, h1, h2, h3⟩ := kB (ML := cY) (HL := eH) (c := M.aW.cnt) (ok := M.aW.ok) (fun x hx k h0 hB => M.aW.oC x hx k h0 hB) (fun n k l => by simp only [cY]; rw [if_neg (by rw [aO]; simp)]) (fun n k l => by simp only [eH]; rw [if_neg (by rw [aO]; simp)]) xs [] fuel k (by simpa using hx.1) (by unfold fuel; omega) hx.2 h0 hB
  refine ⟨ys, by unfold lH; simpa using h2, by unfold kV; simpa using h3 fuel (by unfold fuel; omega), h1⟩
def M.aE.cnt (x : M.aE) : Nat := 18 + (aD M.Cache.cnt x.Caches.Caches) + (aD M.aH.cnt x.bC.Base.Stores) + (aD M.aA.cnt x.bC.Base.Unique) + (x.bC.Log.length) + (aD M.Item.cnt x.aC.Base.Items) + (aD M.aW.cnt x.aC.Sync.aV.Writes)
set_option maxHeartbeats 4000000 in
theorem M.aE.oC (x : M.aE) (hx : M.aE.ok x) (k : Int) (h0 : 0 ≤ k) (hB : k + ((M.aE.cnt x : Nat) : Int) ≤ KB) : ∃ x' : M.aE, (∀ n (pre post : List M.aE), (pre ++ x :: post).length ≤ maxLen → cF (n + 1) k pre.length (pre ++ x :: post) = cF n (k + ((M.aE.cnt x : Nat) : Int)) ((pre.length + 1 : Nat) : Int) (pre ++ x' :: post)) ∧ ∀ n (l : List M.aE) (i : Nat), l[i]? = some x' → l.length ≤ maxLen → cK l (n + 1) k i = cK l n (k + ((M.aE.cnt x : Nat) : Int)) ((i + 1 : Nat) : Int) := by
  unfold KB at hB; unfold M.aE.cnt at hB ⊢
  have A : (0 ≤ k ∧ k ≤ KB) ∧ (0 ≤ k + 1 ∧ k + 1 ≤ KB) ∧ (0 ≤ k + 1 + 1 ∧ k + 1 + 1 ≤ KB) ∧ (0 ≤ k + 1 + 1 + 1 ∧ k + 1 + 1 + 1 ≤ KB) ∧ (0 ≤ k + 1 + 1 + 1 + 1 ∧ k + 1 + 1 + 1 + 1 ≤ KB) ∧ (0 ≤ k + 1 + 1 + 1 + 1 + 1 ∧ k + 1 + 1 + 1 + 1 + 1 ≤ KB) ∧ (0 ≤ k + 1 + 1 + 1 + 1 + 1 + 1 ∧ k + 1 + 1 + 1 + 1 + 1 + 1 ≤ KB) ∧ (0 ≤ k + 1 + 1 + 1 + 1 + 1 + 1 + ((aD M.Cache.cnt x.Caches.Caches : Nat) : Int) ∧ k + 1 + 1 + 1 + 1 + 1 + 1 + ((aD M.Cache.cnt x.Caches.Caches : Nat) : Int) ≤ KB) ∧ (0 ≤ k + 1 + 1 + 1 + 1 + 1 + 1 + ((aD M.Cache.cnt x.Caches.Caches : Nat) : Int) + 1 ∧ k + 1 + 1 + 1 + 1 + 1 + 1 + ((aD M.Cache.cnt x.Caches.Caches : Nat) : Int) + 1 ≤ KB) ∧ (0 ≤ k + 1 + 1 + 1 + 1 + 1 + 1 + ((aD M.Cache.cnt x.Caches.Caches : Nat) : Int) + 1 + 1 ∧ k + 1 + 1 + 1 + 1 + 1 + 1 + ((aD M.Cache.cnt x.Caches.Caches : Nat) : Int) + 1 + 1 ≤ KB) ∧ (0 ≤ k + 1 + 1 + 1 + 1 + 1 + 1 + ((aD M.Cache.cnt x.Caches.Caches : Nat) : Int) + 1 + 1 + ((aD M.aH.cnt x.bC.Base.Stores : Nat) : Int) ∧ k + 1 + 1 + 1 + 1 + 1 + 1 + ((aD M.Cache.cnt x.Caches.Caches : Nat) : Int) + 1 + 1 + ((aD M.aH.cnt x.bC.Base.Stores : Nat) : Int) ≤ KB) ∧ (0 ≤ k + 1 + 1 + 1 + 1 + 1 + 1 + ((aD M.Cache.cnt x.Caches.Caches : Nat) : Int) + 1 + 1 + ((aD M.aH.cnt x.bC.Base.Stores : Nat) : Int) + ((aD M.aA.cnt x.bC.Base.Unique : Nat) : Int) ∧ k + 1 + 1 + 1 + 1 + 1 + 1 + ((aD M.Cache.cnt x.Caches.Caches : Nat) : Int) + 1 + 1 + ((aD M.aH.cnt x.bC.Base.Stores : Nat) : Int) + ((aD M.aA.cnt x.bC.Base.Unique : Nat) : Int) ≤ KB) ∧ (0 ≤ k + 1 + 1 + 1 + 1 + 1 + 1 + ((aD M.Cache.cnt x.Caches.Caches : Nat) : Int) + 1 + 1 + ((aD M.aH.cnt x.bC.Base.Stores : Nat) : Int) + ((aD M.aA.cnt x.bC.Base.Unique : Nat) : Int) + ((x.bC.Log.length : Nat) : Int) ∧ k + 1 + 1 + 1 + 1 + 1 + 1 + ((aD M.Cache.cnt x.Caches.Caches : Nat) : Int) + 1 + 1 + ((aD M.aH.cnt x.bC.Base.Stores : Nat) : Int) + ((aD M.aA.cnt x.bC.Base.Unique : Nat) : Int) + ((x.bC.Log.length : Nat) : Int) ≤ KB) ∧ (0 ≤ k + 1 + 1 + 1 + 1 + 1 + 1 + ((aD M.Cache.cnt x.Caches.Caches : Nat) : Int) + 1 + 1 + ((aD M.aH.cnt x.bC.Base.Stores : Nat) : Int) + ((aD M.aA.cnt x.bC.Base.Unique : Nat) : Int) + ((x.bC.Log.length : Nat) : Int) + 1 ∧ k + 1 + 1 + 1 + 1 + 1 + 1 + ((aD M.Cache.cnt x.Caches.Caches : Nat) : Int) + 1 + 1 + ((aD M.aH.cnt x.bC.Base.Stores : Nat) : Int) + ((aD M.aA.cnt x.bC.Base.Unique : Nat) : Int) + ((x.bC.Log.length : Nat) : Int) + 1 ≤ KB) ∧ (0 ≤ k + 1 + 1 + 1 + 1 + 1 + 1 + ((aD M.Cache.cnt x.Caches.Caches : Nat) : Int) + 1 + 1 + ((aD M.aH.cnt x.bC.Base.Stores : Nat) : Int) + ((aD M.aA.cnt x.bC.Base.Unique : Nat) : Int) + ((x.bC.Log.length : Nat) : Int) + 1 + 1 ∧ k + 1 + 1 + 1 + 1 + 1 + 1 + ((aD M.Cache.cnt x.Caches.Caches : Nat) : Int) + 1 + 1 + ((aD M.aH.cnt x.bC.Base.Stores : Nat) : Int) + ((aD M.aA.cnt x.bC.Base.Unique : Nat) : Int) + ((x.bC.Log.length : Nat) : Int) + 1 + 1 ≤ KB) ∧ (0 ≤ k + 1 + 1 + 1 + 1 + 1 + 1 + ((aD M.Cache.cnt x.Caches.Caches : Nat) : Int) + 1 + 1 + ((aD M.aH.cnt x.bC.Base.Stores : Nat) : Int) + ((aD M.aA.cnt x.bC.Base.Unique : Nat) : Int) + ((x.bC.Log.length : Nat) : Int) + 1 + 1 + ((aD M.Item.cnt x.aC.Base.Items : Nat) : Int) ∧ k + 1 + 1 + 1 + 1 + 1 + 1 + ((aD M.Cache.cnt x.Caches.Caches : Nat) : Int) + 1 + 1 + ((aD M.aH.cnt x.bC.Base.Stores : Nat) : Int) + ((aD M.aA.cnt x.bC.Base.Unique : Nat) : Int) + ((x.bC.Log.length : Nat) : Int) + 1 + 1 + ((aD M.Item.cnt x.aC.Base.Items : Nat) : Int) ≤ KB) ∧ (0 ≤ k + 1 + 1 + 1 + 1 + 1 + 1 + ((aD M.Cache.cnt x.Caches.Caches : Nat) : Int) + 1 + 1 + ((aD M.aH.cnt x.bC.Base.Stores : Nat) : Int) + ((aD M.aA.cnt x.bC.Base.Unique : Nat) : Int) + ((x.bC.Log.length : Nat) : Int) + 1 + 1 + ((aD M.Item.cnt x.aC.Base.Items : Nat) : Int) + 1 ∧ k + 1 + 1 + 1 + 1 + 1 + 1 + ((aD M.Cache.cnt x.Caches.Caches : Nat) : Int) + 1 + 1 + ((aD M.aH.cnt x.bC.Base.Stores : Nat) : Int) + ((aD M.aA.cnt x.bC.Base.Unique : Nat) : Int) + ((x.bC.Log.length : Nat) : Int) + 1 + 1 + ((aD M.Item.cnt x.aC.Base.Items : Nat) : Int) + 1 ≤ KB) ∧ (0 ≤ k + 1 + 1 + 1 + 1 + 1 + 1 + ((aD M.Cache.cnt x.Caches.Caches : Nat) : Int) + 1 + 1 + ((aD M.aH.cnt x.bC.Base.Stores : Nat) : Int) + ((aD M.aA.cnt x.bC.Base.Unique : Nat) : Int) + ((x.bC.Log.length : Nat) : Int) + 1 + 1 + ((aD M.Item.cnt x.aC.Base.Items : Nat) : Int) + 1 + 1 ∧ k + 1 + 1 + 1 + 1 + 1 + 1 + ((aD M.Cache.cnt x.Caches.Caches : Nat) : Int) + 1 + 1 + ((aD M.aH.cnt x.bC.Base.Stores : Nat) : Int) + ((aD M.aA.cnt x.bC.Base.Unique : Nat) : Int) + ((x.bC.Log.length : Nat) : Int) + 1 + 1 + ((aD M.Item.cnt x.aC.Base.Items : Nat) : Int) + 1 + 1 ≤ KB) ∧ (0 ≤ k + 1 + 1 + 1 + 1 + 1 + 1 + ((aD M.Cache.cnt x.Caches.Caches : Nat) : Int) + 1 + 1 + ((aD M.aH.cnt x.bC.Base.Stores : Nat) : Int) + ((aD M.aA.cnt x.bC.Base.Unique : Nat) : Int) + ((x.bC.Log.length : Nat) : Int) + 1 + 1 + ((aD M.Item.cnt x.aC.Base.Items : Nat) : Int) + 1 + 1 + 1 ∧ k + 1 + 1 + 1 + 1 + 1 + 1 + ((aD M.Cache.cnt x.Caches.Caches : Nat) : Int) + 1 + 1 + ((aD M.aH.cnt x.bC.Base.Stores : Nat) : Int) + ((aD M.aA.cnt x.bC.Base.Unique : Nat) : Int) + ((x.bC.Log.length : Nat) : Int) + 1 + 1 + ((aD M.Item.cnt x.aC.Base.Items : Nat) : Int) + 1 + 1 + 1 ≤ KB) ∧ (0 ≤ k + 1 + 1 + 1 + 1 + 1 + 1 + ((aD M.Cache.cnt x.Caches.Caches : Nat) : Int) + 1 + 1 + ((aD M.aH.cnt x.bC.Base.Stores : Nat) : Int) + ((aD M.aA.cnt x.bC.Base.Unique : Nat) : Int) + ((x.bC.Log.length : Nat) : Int) + 1 + 1 + ((aD M.Item.cnt x.aC.Base.Items : Nat) : Int) + 1 + 1 + 1 + 1 ∧ k + 1 + 1 + 1 + 1 + 1 + 1 + ((aD M.Cache.cnt x.Caches.Caches : Nat) : Int) + 1 + 1 + ((aD M.aH.cnt x.bC.Base.Stores : Nat) : Int) + ((aD M.aA.cnt x.bC.Base.Unique : Nat) : Int) + ((x.bC.Log.length : Nat) : Int) + 1 + 1 + ((aD M.Item.cnt x.aC.Base.Items : Nat) : Int) + 1 + 1 + 1 + 1 ≤ KB) ∧ (0 ≤ k + 1 + 1 + 1 + 1 + 1 + 1 + ((aD M.Cache.cnt x.Caches.Caches : Nat) : Int) + 1 + 1 + ((aD M.aH.cnt x.bC.Base.Stores : Nat) : Int) + ((aD M.aA.cnt x.bC.Base.Unique : Nat) : Int) + ((x.bC.Log.length : Nat) : Int) + 1 + 1 + ((aD M.Item.cnt x.aC.Base.Items : Nat) : Int) + 1 + 1 + 1 + 1 + ((aD M.aW.cnt x.aC.Sync.aV.Writes : Nat) : Int) ∧ k + 1 + 1 + 1 + 1 + 1 + 1 + ((aD M.Cache.cnt x.Caches.Caches : Nat) : Int) + 1 + 1 + ((aD M.aH.cnt x.bC.Base.Stores : Nat) : Int) + ((aD M.aA.cnt x.bC.Base.Unique : Nat) : Int) + ((x.bC.Log.length : Nat) : Int) + 1 + 1 + ((aD M.Item.cnt x.aC.Base.Items : Nat) : Int) + 1 + 1 + 1 + 1 + ((aD M.aW.cnt x.aC.Sync.aV.Writes : Nat) : Int) ≤ KB) ∧ (0 ≤ k + 1 + 1 + 1 + 1 + 1 + 1 + ((aD M.Cache.cnt x.Caches.Caches : Nat) : Int) + 1 + 1 + ((aD M.aH.cnt x.bC.Base.Stores : Nat) : Int) + ((aD M.aA.cnt x.bC.Base.Unique : Nat) : Int) + ((x.bC.Log.length : Nat) : Int) + 1 + 1 + ((aD M.Item.cnt x.aC.Base.Items : Nat) : Int) + 1 + 1 + 1 + 1 + ((aD M.aW.cnt x.aC.Sync.aV.Writes : Nat) : Int) + 1 ∧ k + 1 + 1 + 1 + 1 + 1 + 1 + ((aD M.Cache.cnt x.Caches.Caches : Nat) : Int) + 1 + 1 + ((aD M.aH.cnt x.bC.Base.Stores : Nat) : Int) + ((aD M.aA.cnt x.bC.Base.Unique : Nat) : Int) + ((x.bC.Log.length : Nat) : Int) + 1 + 1 + ((aD M.Item.cnt x.aC.Base.Items : Nat) : Int) + 1 + 1 + 1 + 1 + ((aD M.aW.cnt x.aC.Sync.aV.Writes : Nat) : Int) + 1 ≤ KB) ∧ (0 ≤ k + 1 + 1 + 1 + 1 + 1 + 1 + ((aD M.Cache.cnt x.Caches.Caches : Nat) : Int) + 1 + 1 + ((aD M.aH.cnt x.bC.Base.Stores : Nat) : Int) + ((aD M.aA.cnt x.bC.Base.Unique : Nat) : Int) + ((x.bC.Log.length : Nat) : Int) + 1 + 1 + ((aD M.Item.cnt x.aC.Base.Items : Nat) : Int) + 1 + 1 + 1 + 1 + ((aD M.aW.cnt x.aC.Sync.aV.Writes : Nat) : Int) + 1 + 1 ∧ k + 1 + 1 + 1 + 1 + 1 + 1 + ((aD M.Cache.cnt x.Caches.Caches : Nat) : Int) + 1 + 1 + ((aD M.aH.cnt x.bC.Base.Stores : Nat) : Int) + ((aD M.aA.cnt x.bC.Base.Unique : Nat) : Int) + ((x.bC.Log.length : Nat) : Int) + 1 + 1 + ((aD M.Item.cnt x.aC.Base.Items : Nat) : Int) + 1 + 1 + 1 + 1 + ((aD M.aW.cnt x.aC.Sync.aV.Writes : Nat) : Int) + 1 + 1 ≤ KB) ∧ (0 ≤ k + 1 + 1 + 1 + 1 + 1 + 1 + ((aD M.Cache.cnt x.Caches.Caches : Nat) : Int) + 1 + 1 + ((aD M.aH.cnt x.bC.Base.Stores : Nat) : Int) + ((aD M.aA.cnt x.bC.Base.Unique : Nat) : Int) + ((x.bC.Log.length : Nat) : Int) + 1 + 1 + ((aD M.Item.cnt x.aC.Base.Items : Nat) : Int) + 1 + 1 + 1 + 1 + ((aD M.aW.cnt x.aC.Sync.aV.Writes : Nat) : Int) + 1 + 1 + 1 ∧ k + 1 + 1 + 1 + 1 + 1 + 1 + ((aD M.Cache.cnt x.Caches.Caches : Nat) : Int) + 1 + 1 + ((aD M.aH.cnt x.bC.Base.Stores : Nat) : Int) + ((aD M.aA.cnt x.bC.Base.Unique : Nat) : Int) + ((x.bC.Log.length : Nat) : Int) + 1 + 1 + ((aD M.Item.cnt x.aC.Base.Items : Nat) : Int) + 1 + 1 + 1 + 1 + ((aD M.aW.cnt x.aC.Sync.aV.Writes : Nat) : Int) + 1 + 1 + 1 ≤ KB) ∧ (0 ≤ k + 1 + 1 + 1 + 1 + 1 + 1 + ((aD M.Cache.cnt x.Caches.Caches : Nat) : Int) + 1 + 1 + ((aD M.aH.cnt x.bC.Base.Stores : Nat) : Int) + ((aD M.aA.cnt x.bC.Base.Unique : Nat) : Int) + ((x.bC.Log.length : Nat) : Int) + 1 + 1 + ((aD M.Item.cnt x.aC.Base.Items : Nat) : Int) + 1 + 1 + 1 + 1 + ((aD M.aW.cnt x.aC.Sync.aV.Writes : Nat) : Int) + 1 + 1 + 1 + 1 ∧ k + 1 + 1 + 1 + 1 + 1 + 1 + ((aD M.Cache.cnt x.Caches.Caches : Nat) : Int) + 1 + 1 + ((aD M.aH.cnt x.bC.Base.Stores : Nat) : Int) + ((aD M.aA.cnt x.bC.Base.Unique : Nat) : Int) + ((x.bC.Log.length : Nat) : Int) + 1 + 1 + ((aD M.Item.cnt x.aC.Base.Items : Nat) : Int) + 1 + 1 + 1 + 1 + ((aD M.aW.cnt x.aC.Sync.aV.Writes : Nat) : Int) + 1 + 1 + 1 + 1 ≤ KB) := by
    unfold KB
    refine ⟨?_, ?_, ?_, ?_, ?_, ?_, ?_, ?_, ?_, ?_, ?_, ?_, ?_, ?_, ?_, ?_, ?_, ?_, ?_, ?_, ?_, ?_, ?_, ?_, ?_⟩ <;> omega
  have hE : k + 1 + 1 + 1 + 1 + 1 + 1 + ((aD M.Cache.cnt x.Caches.Caches : Nat) : Int) + 1 + 1 + ((aD M.aH.cnt x.bC.Base.Stores : Nat) : Int) + ((aD M.aA.cnt x.bC.Base.Unique : Nat) : Int) + ((x.bC.Log.length : Nat) : Int) + 1 + 1 + ((aD M.Item.cnt x.aC.Base.Items : Nat) : Int) + 1 + 1 + 1 + 1 + ((aD M.aW.cnt x.aC.Sync.aV.Writes : Nat) : Int) + 1 + 1 + 1 + 1 = k + ((M.aE.cnt x : Nat) : Int) := by unfold M.aE.cnt; omega
  unfold M.aE.cnt at hE
  obtain ⟨q0, q1, q2, q3, q4, q5, q6, q7, q8, q9, q10, q11, q12, q13, q14, q15, q16, q17, q18, q19, q20, q21, q22, q23, q24⟩ := A
  have t0 : aF (k) = some (mtx (k)) := mt q0.1 (Int.lt_of_add_one_le q1.2)
  have w0 := wk2 q0
  have t1 : aF (k + 1) = some (mtx (k + 1)) := mt q1.1 (Int.lt_of_add_one_le q2.2)
  have w1 := wk2 q1
  have t2 : aF (k + 1 + 1) = some (mtx (k + 1 + 1)) := mt q2.1 (Int.lt_of_add_one_le q3.2)
  have w2 := wk2 q2
  have w3 := wk2 q3
  have w4 := wk2 q4
  have w5 := wk2 q5
  obtain ⟨y1, a1, b1, _⟩ := M.aDU.gP _ hx.Caches.Caches (k + 1 + 1 + 1 + 1 + 1 + 1) q6.1 q7.2
  have d1 : (decide (k + 1 + 1 + 1 + 1 + 1 + 1 + ((aD M.Cache.cnt x.Caches.Caches : Nat) : Int) < 0)) = false := dk q7.1
  have t7 : aF (k + 1 + 1 + 1 + 1 + 1 + 1 + ((aD M.Cache.cnt x.Caches.Caches : Nat) : Int)) = some (mtx (k + 1 + 1 + 1 + 1 + 1 + 1 + ((aD M.Cache.cnt x.Caches.Caches : Nat) : Int))) := mt q7.1 (Int.lt_of_add_one_le q8.2)
  have w7 := wk2 q7
  have w8 := wk2 q8
  obtain ⟨y2, a2, b2, _⟩ := M.aDw.gP _ hx.bC.Base.Stores (k + 1 + 1 + 1 + 1 + 1 + 1 + ((aD M.Cache.cnt x.Caches.Caches : Nat) : Int) + 1 + 1) q9.1 q10.2
  have d2 : (decide (k + 1 + 1 + 1 + 1 + 1 + 1 + ((aD M.Cache.cnt x.Caches.Caches : Nat) : Int) + 1 + 1 + ((aD M.aH.cnt x.bC.Base.Stores : Nat) : Int) < 0)) = false := dk q10.1
  obtain ⟨y3, a3, b3, _⟩ := M.zS.gP _ hx.bC.Base.Unique (k + 1 + 1 + 1 + 1 + 1 + 1 + ((aD M.Cache.cnt x.Caches.Caches : Nat) : Int) + 1 + 1 + ((aD M.aH.cnt x.bC.Base.Stores : Nat) : Int)) q10.1 q11.2
  have d3 : (decide (k + 1 + 1 + 1 + 1 + 1 + 1 + ((aD M.Cache.cnt x.Caches.Caches : Nat) : Int) + 1 + 1 + ((aD M.aH.cnt x.bC.Base.Stores : Nat) : Int) + ((aD M.aA.cnt x.bC.Base.Unique : Nat) : Int) < 0)) = false := dk q11.1
  obtain ⟨y4, a4, b4, _⟩ := M.aBm.gP _ hx.bC.Log (k + 1 + 1 + 1 + 1 + 1 + 1 + ((aD M.Cache.cnt x.Caches.Caches : Nat) : Int) + 1 + 1 + ((aD M.aH.cnt x.bC.Base.Stores : Nat) : Int) + ((aD M.aA.cnt x.bC.Base.Unique : Nat) : Int)) q11.1 q12.2
  have d4 : (decide (k + 1 + 1 + 1 + 1 + 1 + 1 + ((aD M.Cache.cnt x.Caches.Caches : Nat) : Int) + 1 + 1 + ((aD M.aH.cnt x.bC.Base.Stores : Nat) : Int) + ((aD M.aA.cnt x.bC.Base.Unique : Nat) : Int) + ((x.bC.Log.length : Nat) : Int) < 0)) = false := dk q12.1
  have w12 := wk2 q12
  have t13 : aF (k + 1 + 1 + 1 + 1 + 1 + 1 + ((aD M.Cache.cnt x.Caches.Caches : Nat) : Int) + 1 + 1 + ((aD M.aH.cnt x.bC.Base.Stores : Nat) : Int) + ((aD M.aA.cnt x.bC.Base.Unique : Nat) : Int) + ((x.bC.Log.length : Nat) : Int) + 1) = some (mtx (k + 1 + 1 + 1 + 1 + 1 + 1 + ((aD M.Cache.cnt x.Caches.Caches : Nat) : Int) + 1 + 1 + ((aD M.aH.cnt x.bC.Base.Stores : Nat) : Int) + ((aD M.aA.cnt x.bC.Base.Unique : Nat) : Int) + ((x.bC.Log.length : Nat) : Int) + 1)) := mt q13.1 (Int.lt_of_add_one_le q14.2)
  have w13 := wk2 q13
  obtain ⟨y5, a5, b5, _⟩ := M.aEH.gP _ hx.aC.Base.Items (k + 1 + 1 + 1 + 1 + 1 + 1 + ((aD M.Cache.cnt x.Caches.Caches : Nat) : Int) + 1 + 1 + ((aD M.aH.cnt x.bC.Base.Stores : Nat) : Int) + ((aD M.aA.cnt x.bC.Base.Unique : Nat) : Int) + ((x.bC.Log.length : Nat) : Int) + 1 + 1) q14.1 q15.2
  have d5 : (decide (k + 1 + 1 + 1 + 1 + 1 + 1 + ((aD M.Cache.cnt x.Caches.Caches : Nat) : Int) + 1 + 1 + ((aD M.aH.cnt x.bC.Base.Stores : Nat) : Int) + ((aD M.aA.cnt x.bC.Base.Unique : Nat) : Int) + ((x.bC.Log.length : Nat) : Int) + 1 + 1 + ((aD M.Item.cnt x.aC.Base.Items : Nat) : Int) < 0)) = false := dk q15.1
  have w15 := wk2 q15
  have w16 := wk2 q16
  have w17 := wk2 q17
  have w18 := wk2 q18
  obtain ⟨y6, a6, b6, _⟩ := M.aBT.gP _ hx.aC.Sync.aV.Writes (k + 1 + 1 + 1 + 1 + 1 + 1 + ((aD M.Cache.cnt x.Caches.Caches : Nat) : Int) + 1 + 1 + ((aD M.aH.cnt x.bC.Base.Stores : Nat) : Int) + ((aD M.aA.cnt x.bC.Base.Unique : Nat) : Int) + ((x.bC.Log.length : Nat) : Int) + 1 + 1 + ((aD M.Item.cnt x.aC.Base.Items : Nat) : Int) + 1 + 1 + 1 + 1) q19.1 q20.2
  have d6 : (decide (k + 1 + 1 + 1 + 1 + 1 + 1 + ((aD M.Cache.cnt x.Caches.Caches : Nat) : Int) + 1 + 1 + ((aD M.aH.cnt x.bC.Base.Stores : Nat) : Int) + ((aD M.aA.cnt x.bC.Base.Unique : Nat) : Int) + ((x.bC.Log.length : Nat) : Int) + 1 + 1 + ((aD M.Item.cnt x.aC.Base.Items : Nat) : Int) + 1 + 1 + 1 + 1 + ((aD M.aW.cnt x.aC.Sync.aV.Writes : Nat) : Int) < 0)) = false := dk q20.1
  have w20 := wk2 q20
  have w21 := wk2 q21
  have w22 := wk2 q22
  have w23 := wk2 q23
  refine ⟨⟨(mtx (k)), (mtx (k + 1)), ⟨(mtx (k + 1 + 1)), k + 1 + 1 + 1, k + 1 + 1 + 1 + 1, k + 1 + 1 + 1 + 1 + 1⟩, ⟨y1⟩, ⟨⟨(mtx (k + 1 + 1 + 1 + 1 + 1 + 1 + ((aD M.Cache.cnt x.Caches.Caches : Nat) : Int))), k + 1 + 1 + 1 + 1 + 1 + 1 + ((aD M.Cache.cnt x.Caches.Caches : Nat) : Int) + 1, y2, y3⟩, y4, k + 1 + 1 + 1 + 1 + 1 + 1 + ((aD M.Cache.cnt x.Caches.Caches : Nat) : Int) + 1 + 1 + ((aD M.aH.cnt x.bC.Base.Stores : Nat) : Int) + ((aD M.aA.cnt x.bC.Base.Unique : Nat) : Int) + ((x.bC.Log.length : Nat) : Int)⟩, ⟨⟨(mtx (k + 1 + 1 + 1 + 1 + 1 + 1 + ((aD M.Cache.cnt x.Caches.Caches : Nat) : Int) + 1 + 1 + ((aD M.aH.cnt x.bC.Base.Stores : Nat) : Int) + ((aD M.aA.cnt x.bC.Base.Unique : Nat) : Int) + ((x.bC.Log.length : Nat) : Int) + 1)), y5, k + 1 + 1 + 1 + 1 + 1 + 1 + ((aD M.Cache.cnt x.Caches.Caches : Nat) : Int) + 1 + 1 + ((aD M.aH.cnt x.bC.Base.Stores : Nat) : Int) + ((aD M.aA.cnt x.bC.Base.Unique : Nat) : Int) + ((x.bC.Log.length : Nat) : Int) + 1 + 1 + ((aD M.Item.cnt x.aC.Base.Items : Nat) : Int)⟩, k + 1 + 1 + 1 + 1 + 1 + 1 + ((aD M.Cache.cnt x.Caches.Caches : Nat) : Int) + 1 + 1 + ((aD M.aH.cnt x.bC.Base.Stores : Nat) : Int) + ((aD M.aA.cnt x.bC.Base.Unique : Nat) : Int) + ((x.bC.Log.length : Nat) : Int) + 1 + 1 + ((aD M.Item.cnt x.aC.Base.Items : Nat) : Int) + 1, ⟨⟨k + 1 + 1 + 1 + 1 + 1 + 1 + ((aD M.Cache.cnt x.Caches.Caches : Nat) : Int) + 1 + 1 + ((aD M.aH.cnt x.bC.Base.Stores : Nat) : Int) + ((aD M.aA.cnt x.bC.Base.Unique : Nat) : Int) + ((x.bC.Log.length : Nat) : Int) + 1 + 1 + ((aD M.Item.cnt x.aC.Base.Items : Nat) : Int) + 1 + 1, k + 1 + 1 + 1 + 1 + 1 + 1 + ((aD M.Cache.cnt x.Caches.Caches : Nat) : Int) + 1 + 1 + ((aD M.aH.cnt x.bC.Base.Stores : Nat) : Int) + ((aD M.aA.cnt x.bC.Base.Unique : Nat) : Int) + ((x.bC.Log.length : Nat) : Int) + 1 + 1 + ((aD M.Item.cnt x.aC.Base.Items : Nat) : Int) + 1 + 1 + 1, y6⟩, k + 1 + 1 + 1 + 1 + 1 + 1 + ((aD M.Cache.cnt x.Caches.Caches : Nat) : Int) + 1 + 1 + ((aD M.aH.cnt x.bC.Base.Stores : Nat) : Int) + ((aD M.aA.cnt x.bC.Base.Unique : Nat) : Int) + ((x.bC.Log.length : Nat) : Int) + 1 + 1 + ((aD M.Item.cnt x.aC.Base.Items : Nat) : Int) + 1 + 1 + 1 + 1 + ((aD M.aW.cnt x.aC.Sync.aV.Writes : Nat) : Int), k + 1 + 1 + 1 + 1 + 1 + 1 + ((aD M.Cache.cnt x.Caches.Caches : Nat) : Int) + 1 + 1 + ((aD M.aH.cnt x.bC.Base.Stores : Nat) : Int) + ((aD M.aA.cnt x.bC.Base.Unique : Nat) : Int) + ((x.bC.Log.length : Nat) : Int) + 1 + 1 + ((aD M.Item.cnt x.aC.Base.Items : Nat) : Int) + 1 + 1 + 1 + 1 + ((aD M.aW.cnt x.aC.Sync.aV.Writes : Nat) : Int) + 1⟩⟩, k + 1 + 1 + 1 + 1 + 1 + 1 + ((aD M.Cache.cnt x.Caches.Caches : Nat) : Int) + 1 + 1 + ((aD M.aH.cnt x.bC.Base.Stores : Nat) : Int) + ((aD M.aA.cnt x.bC.Base.Unique : Nat) : Int) + ((x.bC.Log.length : Nat) : Int) + 1 + 1 + ((aD M.Item.cnt x.aC.Base.Items : Nat) : Int) + 1 + 1 + 1 + 1 + ((aD M.aW.cnt x.aC.Sync.aV.Writes : Nat) : Int) + 1 + 1, ((Int.tmod (k + 1 + 1 + 1 + 1 + 1 + 1 + ((aD M.Cache.cnt x.Caches.Caches : Nat) : Int) + 1 + 1 + ((aD M.aH.cnt x.bC.Base.Stores : Nat) : Int) + ((aD M.aA.cnt x.bC.Base.Unique : Nat) : Int) + ((x.bC.Log.length : Nat) : Int) + 1 + 1 + ((aD M.Item.cnt x.aC.Base.Items : Nat) : Int) + 1 + 1 + 1 + 1 + ((aD M.aW.cnt x.aC.Sync.aV.Writes : Nat) : Int) + 1 + 1 + 1) 3) == 0)⟩, fun n pre post hl => ?_, fun n l i hi hl => ?_⟩
  · have hl' := le_max hl
    have hp : pre.length < 9223372036854775807 := by simp at hl'; omega
    simp only [cF]
    rw [if_pos (aAF pre post x)]
    simp (maxSteps := 2000000) only [qZ, qU, Option.bind_some, bE hp, t0, w0, t1, w1, t2, w2, w3, w4, w5, a1, t7, w7, w8, a2, a3, a4, w12, t13, w13, a5, w15, w16, w17, w18, a6, w20, w21, w22, w23]
    rw [hE]
  · have hl' := le_max hl
    have hp : i < 9223372036854775807 := by have := (List.getElem?_eq_some_iff.1 hi).1; omega
    simp only [cK]
    rw [if_pos (aBl hi)]
    simp (maxSteps := 2000000) only [zK hi, Option.bind_some, bE hp, t0, w0, t1, w1, t2, w2, w3, w4, w5, b1, d1, t7, w7, w8, b2, d2, b3, d3, b4, d4, w12, t13, w13, b5, d5, w15, w16, w17, w18, b6, d6, w20, w21, w22, w23, bne_self_eq_false, beq_self_eq_true, Bool.not_true, Bool.false_eq_true, if_false]
    rw [hE]
theorem M.aBj.gP (xs : List M.aE) (hx : (xs.length ≤ maxLen ∧ ∀ y ∈ xs, M.aE.ok y)) (k : Int) (h0 : 0 ≤ k) (hB : k + ((aD M.aE.cnt xs : Nat) : Int) ≤ KB) : ∃ ys, mX xs k = some (ys, k + ((aD M.aE.cnt xs : Nat) : Int)) ∧ mR ys k = some (k + ((aD M.aE.cnt xs : Nat) : Int)) ∧ ys.length = xs.length := by
  have hm := le_max hx.1
  obtain ⟨ys, h1, h2, h3⟩ := kB (ML := cF) (HL := cK) (c := M.aE.cnt) (ok := M.aE.ok) (fun x hx k h0 hB => M.aE.oC x hx k h0 hB) (fun n k l => by simp only [cF]; rw [if_neg (by rw [aO]; simp)]) (fun n k l => by simp only [cK]; rw [if_neg (by rw [aO]; simp)]) xs [] fuel k (by simpa using hx.1) (by unfold fuel; omega) hx.2 h0 hB
  refine ⟨ys, by unfold mX; simpa using h2, by unfold mR; simpa using h3 fuel (by unfold fuel; omega), h1⟩
def M.aM.cnt (x : M.aM) : Nat := 2
set_option maxHeartbeats 4000000 in
theorem M.aM.oC (x : M.aM) (hx : M.aM.ok x) (k : Int) (h0 : 0 ≤ k) (hB : k + ((M.aM.cnt x : Nat) : Int) ≤ KB) : ∃ x' : M.aM, (∀ n (pre post : List M.aM), (pre ++ x :: post).length ≤ maxLen → cG (n + 1) k pre.length (pre ++ x :: post) = cG n (k + ((M.aM.cnt x : Nat) : Int)) ((pre.length + 1 : Nat) : Int) (pre ++ x' :: post)) ∧ ∀ n (l : List M.aM) (i : Nat), l[i]? = some x' → l.length ≤ maxLen → dD l (n + 1) k i = dD l n (k + ((M.aM.cnt x : Nat) : Int)) ((i + 1 : Nat) : Int) := by
  unfold KB at hB; unfold M.aM.cnt at hB ⊢
  have A : (0 ≤ k ∧ k ≤ KB) ∧ (0 ≤ k + 1 ∧ k + 1 ≤ KB) ∧ (0 ≤ k + 1 + 1 ∧ k + 1 + 1 ≤ KB) := by
    unfold KB
    refine ⟨?_, ?_, ?_⟩ <;> omega
  have hE : k + 1 + 1 = k + ((M.aM.cnt x : Nat) : Int) := by unfold M.aM.cnt; omega
  unfold M.aM.cnt at hE
  obtain ⟨q0, q1, q2⟩ := A
  have t0 : aF (k) = some (mtx (k)) := mt q0.1 (Int.lt_of_add_one_le q1.2)
  have w0 := wk2 q0
  have w1 := wk2 q1
  refine ⟨⟨(mtx (k)), k + 1⟩, fun n pre post hl => ?_, fun n l i hi hl => ?_⟩
  · have hl' := le_max hl
    have hp : pre.length < 9223372036854775807 := by simp at hl'; omega
    simp only [cG]
    rw [if_pos (aAF pre post x)]
    simp (maxSteps := 2000000) only [qZ, qU, Option.bind_some, bE hp, t0, w0, w1]
    rw [hE]
  · have hl' := le_max hl
    have hp : i < 9223372036854775807 := by have := (List.getElem?_eq_some_iff.1 hi).1; omega
    simp only [dD]
    rw [if_pos (aBl hi)]
    simp (maxSteps := 2000000) only [zK hi, Option.bind_some, bE hp, t0, w0, w1, bne_self_eq_false, beq_self_eq_true, Bool.not_true, Bool.false_eq_true, if_false]
    rw [hE]
theorem M.aBu.gP (xs : List M.aM) (hx : (xs.length ≤ maxLen ∧ ∀ y ∈ xs, M.aM.ok y)) (k : Int) (h0 : 0 ≤ k) (hB : k + ((aD M.aM.cnt xs : Nat) : Int) ≤ KB) : ∃ ys, nU xs k = some (ys, k + ((aD M.aM.cnt xs : Nat) : Int)) ∧ nB ys k = some (k + ((aD M.aM.cnt xs : Nat) : Int)) ∧ ys.length = xs.length := by
  have hm := le_max hx.1
  obtain ⟨ys, h1, h2, h3⟩ := kB (ML := cG) (HL := dD) (c := M.aM.cnt) (ok := M.aM.ok) (fun x hx k h0 hB => M.aM.oC x hx k h0 hB) (fun n k l => by simp only [cG]; rw [if_neg (by rw [aO]; simp)]) (fun n k l => by simp only [dD]; rw [if_neg (by rw [aO]; simp)]) xs [] fuel k (by simpa using hx.1) (by unfold fuel; omega) hx.2 h0 hB
  refine ⟨ys, by unfold nU; simpa using h2, by unfold nB; simpa using h3 fuel (by unfold fuel; omega), h1⟩
def M.Instr.cnt (x : M.Instr) : Nat := 4
set_option maxHeartbeats 4000000 in
theorem M.Instr.oC (x : M.Instr) (hx : M.Instr.ok x) (k : Int) (h0 : 0 ≤ k) (hB : k + ((M.Instr.cnt x : Nat) : Int) ≤ KB) : ∃ x' : M.Instr, (∀ n (pre post : List M.Instr), (pre ++ x :: post).length ≤ maxLen → cX (n + 1) k pre.length (pre ++ x :: post) = cX n (k + ((M.Instr.cnt x : Nat) : Int)) ((pre.length + 1 : Nat) : Int) (pre ++ x' :: post)) ∧ ∀ n (l : List M.Instr) (i : Nat), l[i]? = some x' → l.length ≤ maxLen → dW l (n + 1) k i = dW l n (k + ((M.Instr.cnt x : Nat) : Int)) ((i + 1 : Nat) : Int) := by
  unfold KB at hB; unfold M.Instr.cnt at hB ⊢
  have A : (0 ≤ k ∧ k ≤ KB) ∧ (0 ≤ k + 1 ∧ k + 1 ≤ KB) ∧ (0 ≤ k + 1 + 1 ∧ k + 1 + 1 ≤ KB) ∧ (0 ≤ k + 1 + 1 + 1 ∧ k + 1 + 1 + 1 ≤ KB) ∧ (0 ≤ k + 1 + 1 + 1 + 1 ∧ k + 1 + 1 + 1 + 1 ≤ KB) := by
    unfold KB
    refine ⟨?_, ?_, ?_, ?_, ?_⟩ <;> omega
  have hE : k + 1 + 1 + 1 + 1 = k + ((M.Instr.cnt x : Nat) : Int) := by unfold M.Instr.cnt; omega
  unfold M.Instr.cnt at hE
  obtain ⟨q0, q1, q2, q3, q4⟩ := A
  have w0 := wk2 q0
  have w1 := wk2 q1
  have w2 := wk2 q2
  have t3 : aF (k + 1 + 1 + 1) = some (mtx (k + 1 + 1 + 1)) := mt q3.1 (Int.lt_of_add_one_le q4.2)
  have w3 := wk2 q3
  refine ⟨⟨k, k + 1, k + 1 + 1, (mtx (k + 1 + 1 + 1))⟩, fun n pre post hl => ?_, fun n l i hi hl => ?_⟩
  · have hl' := le_max hl
    have hp : pre.length < 9223372036854775807 := by simp at hl'; omega
    simp only [cX]
    rw [if_pos (aAF pre post x)]
    simp (maxSteps := 2000000) only [qZ, qU, Option.bind_some, bE hp, w0, w1, w2, t3, w3]
    rw [hE]
  · have hl' := le_max hl
    have hp : i < 9223372036854775807 := by have := (List.getElem?_eq_some_iff.1 hi).1; omega
    simp only [dW]
    rw [if_pos (aBl hi)]
    simp (maxSteps := 2000000) only [zK hi, Option.bind_some, bE hp, w0, w1, w2, t3, w3, bne_self_eq_false, beq_self_eq_true, Bool.not_true, Bool.false_eq_true, if_false]
    rw [hE]
theorem M.aD7.gP (xs : List M.Instr) (hx : (xs.length ≤ maxLen ∧ ∀ y ∈ xs, M.Instr.ok y)) (k : Int) (h0 : 0 ≤ k) (hB : k + ((aD M.Instr.cnt xs : Nat) : Int) ≤ KB) : ∃ ys, pB xs k = some (ys, k + ((aD M.Instr.cnt xs : Nat) : Int)) ∧ oQ ys k = some (k + ((aD M.Instr.cnt xs : Nat) : Int)) ∧ ys.length = xs.length := by
  have hm := le_max hx.1
  obtain ⟨ys, h1, h2, h3⟩ := kB (ML := cX) (HL := dW) (c := M.Instr.cnt) (ok := M.Instr.ok) (fun x hx k h0 hB => M.Instr.oC x hx k h0 hB) (fun n k l => by simp only [cX]; rw [if_neg (by rw [aO]; simp)]) (fun n k l => by simp only [dW]; rw [if_neg (by rw [aO]; simp)]) xs [] fuel k (by simpa using hx.1) (by unfold fuel; omega) hx.2 h0 hB
  refine ⟨ys, by unfold pB; simpa using h2, by unfold oQ; simpa using h3 fuel (by unfold fuel; omega), h1⟩
set_option maxHeartbeats 4000000 in
theorem M.aJU.oC (x : Int) (hx : True) (k : Int) (h0 : 0 ≤ k) (hB : k + (((fun _ : Int => 1) x : Nat) : Int) ≤ KB) : ∃ x' : Int, (∀ n (pre post : List Int), (pre ++ x :: post).length ≤ maxLen → eM (n + 1) k pre.length (pre ++ x :: post) = eM n (k + (((fun _ : Int => 1) x : Nat) : Int)) ((pre.length + 1 : Nat) : Int) (pre ++ x' :: post)) ∧ ∀ n (l : List Int) (i : Nat), l[i]? = some x' → l.length ≤ maxLen → fN l (n + 1) k i = fN l n (k + (((fun _ : Int => 1) x : Nat) : Int)) ((i + 1 : Nat) : Int) := by
  unfold KB at hB; (try simp only [] at hB ⊢)
  have A : (0 ≤ k ∧ k ≤ KB) ∧ (0 ≤ k + 1 ∧ k + 1 ≤ KB) := by
    unfold KB
    refine ⟨?_, ?_⟩ <;> omega
  have hE : k + 1 = k + (((fun _ : Int => 1) x : Nat) : Int) := by simp
  obtain ⟨q0, q1⟩ := A
  have w0 := wk2 q0
  refine ⟨k, fun n pre post hl => ?_, fun n l i hi hl => ?_⟩
  · have hl' := le_max hl
    have hp : pre.length < 9223372036854775807 := by simp at hl'; omega
    simp only [eM]
    rw [if_pos (aAF pre post x)]
    simp (maxSteps := 2000000) only [qZ, qU, Option.bind_some, bE hp, w0]
    rw [hE]
  · have hl' := le_max hl
    have hp : i < 9223372036854775807 := by have := (List.getElem?_eq_some_iff.1 hi).1; omega
    simp only [fN]
    rw [if_pos (aBl hi)]
    simp (maxSteps := 2000000) only [zK hi, Option.bind_some, bE hp, w0, bne_self_eq_false, beq_self_eq_true, Bool.not_true, Bool.false_eq_true, if_false]
    rw [hE]
theorem M.aJU.cl (xs : List Int) : aD (fun _ : Int => 1) xs = xs.length := by
  induction xs with
  | nil => rfl
  | cons x xs ih => simp only [aD, ih, List.length_cons]; omega
theorem M.aJU.gP (xs : List Int) (hx : okI xs) (k : Int) (h0 : 0 ≤ k) (hB : k + ((xs.length : Nat) : Int) ≤ KB) : ∃ ys, uM xs k = some (ys, k + ((xs.length : Nat) : Int)) ∧ vF ys k = some (k + ((xs.length : Nat) : Int)) ∧ ys.length = xs.length := by
  have hm := le_max hx.1
  rw [← M.aJU.cl xs] at hB ⊢
  obtain ⟨ys, h1, h2, h3⟩ := kB (ML := eM) (HL := fN) (c := (fun _ : Int => 1)) (ok := (fun _ : Int => True)) (fun x hx k h0 hB => M.aJU.oC x hx k h0 hB) (fun n k l => by simp only [eM]; rw [if_neg (by rw [aO]; simp)]) (fun n k l => by simp only [fN]; rw [if_neg (by rw [aO]; simp)]) xs [] fuel k (by simpa using hx.1) (by unfold fuel; omega) (fun _ _ => trivial) h0 hB
  refine ⟨ys, by unfold uM; simpa using h2, by unfold vF; simpa using h3 fuel (by unfold fuel; omega), by have := M.aJU.cl xs; omega⟩
def M.bJ.cnt (x : M.bJ) : Nat := 8 + (aD M.aM.cnt x.aM) + (aD M.Instr.cnt x.Machine.Script) + (x.Machine.Regs.length)
set_option maxHeartbeats 4000000 in
theorem M.bJ.oC (x : M.bJ) (hx : M.bJ.ok x) (k : Int) (h0 : 0 ≤ k) (hB : k + ((M.bJ.cnt x : Nat) : Int) ≤ KB) : ∃ x' : M.bJ, (∀ n (pre post : List M.bJ), (pre ++ x :: post).length ≤ maxLen → dM (n + 1) k pre.length (pre ++ x :: post) = dM n (k + ((M.bJ.cnt x : Nat) : Int)) ((pre.length + 1 : Nat) : Int) (pre ++ x' :: post)) ∧ ∀ n (l : List M.bJ) (i : Nat), l[i]? = some x' → l.length ≤ maxLen → dK l (n + 1) k i = dK l n (k + ((M.bJ.cnt x : Nat) : Int)) ((i + 1 : Nat) : Int) := by
  unfold KB at hB; unfold M.bJ.cnt at hB ⊢
  have A : (0 ≤ k ∧ k ≤ KB) ∧ (0 ≤ k + 1 ∧ k + 1 ≤ KB) ∧ (0 ≤ k + 1 + 1 ∧ k + 1 + 1 ≤ KB) ∧ (0 ≤ k + 1 + 1 + 1 ∧ k + 1 + 1 + 1 ≤ KB) ∧ (0 ≤ k + 1 + 1 + 1 + 1 ∧ k + 1 + 1 + 1 + 1 ≤ KB) ∧ (0 ≤ k + 1 + 1 + 1 + 1 + ((aD M.aM.cnt x.aM : Nat) : Int) ∧ k + 1 + 1 + 1 + 1 + ((aD M.aM.cnt x.aM : Nat) : Int) ≤ KB) ∧ (0 ≤ k + 1 + 1 + 1 + 1 + ((aD M.aM.cnt x.aM : Nat) : Int) + ((aD M.Instr.cnt x.Machine.Script : Nat) : Int) ∧ k + 1 + 1 + 1 + 1 + ((aD M.aM.cnt x.aM : Nat) : Int) + ((aD M.Instr.cnt x.Machine.Script : Nat) : Int) ≤ KB) ∧ (0 ≤ k + 1 + 1 + 1 + 1 + ((aD M.aM.cnt x.aM : Nat) : Int) + ((aD M.Instr.cnt x.Machine.Script : Nat) : Int) + 1 ∧ k + 1 + 1 + 1 + 1 + ((aD M.aM.cnt x.aM : Nat) : Int) + ((aD M.Instr.cnt x.Machine.Script : Nat) : Int) + 1 ≤ KB) ∧ (0 ≤ k + 1 + 1 + 1 + 1 + ((aD M.aM.cnt x.aM : Nat) : Int) + ((aD M.Instr.cnt x.Machine.Script : Nat) : Int) + 1 + ((x.Machine.Regs.length : Nat) : Int) ∧ k + 1 + 1 + 1 + 1 + ((aD M.aM.cnt x.aM : Nat) : Int) + ((aD M.Instr.cnt x.Machine.Script : Nat) : Int) + 1 + ((x.Machine.Regs.length : Nat) : Int) ≤ KB) ∧ (0 ≤ k + 1 + 1 + 1 + 1 + ((aD M.aM.cnt x.aM : Nat) : Int) + ((aD M.Instr.cnt x.Machine.Script : Nat) : Int) + 1 + ((x.Machine.Regs.length : Nat) : Int) + 1 ∧ k + 1 + 1 + 1 + 1 + ((aD M.aM.cnt x.aM : Nat) : Int) + ((aD M.Instr.cnt x.Machine.Script : Nat) : Int) + 1 + ((x.Machine.Regs.length : Nat) : Int) + 1 ≤ KB) ∧ (0 ≤ k + 1 + 1 + 1 + 1 + ((aD M.aM.cnt x.aM : Nat) : Int) + ((aD M.Instr.cnt x.Machine.Script : Nat) : Int) + 1 + ((x.Machine.Regs.length : Nat) : Int) + 1 + 1 ∧ k + 1 + 1 + 1 + 1 + ((aD M.aM.cnt x.aM : Nat) : Int) + ((aD M.Instr.cnt x.Machine.Script : Nat) : Int) + 1 + ((x.Machine.Regs.length : Nat) : Int) + 1 + 1 ≤ KB) ∧ (0 ≤ k + 1 + 1 + 1 + 1 + ((aD M.aM.cnt x.aM : Nat) : Int) + ((aD M.Instr.cnt x.Machine.Script : Nat) : Int) + 1 + ((x.Machine.Regs.length : Nat) : Int) + 1 + 1 + 1 ∧ k + 1 + 1 + 1 + 1 + ((aD M.aM.cnt x.aM : Nat) : Int) + ((aD M.Instr.cnt x.Machine.Script : Nat) : Int) + 1 + ((x.Machine.Regs.length : Nat) : Int) + 1 + 1 + 1 ≤ KB) := by
    unfold KB
    refine ⟨?_, ?_, ?_, ?_, ?_, ?_, ?_, ?_, ?_, ?_, ?_, ?_⟩ <;> omega
  have hE : k + 1 + 1 + 1 + 1 + ((aD M.aM.cnt x.aM : Nat) : Int) + ((aD M.Instr.cnt x.Machine.Script : Nat) : Int) + 1 + ((x.Machine.Regs.length : Nat) : Int) + 1 + 1 + 1 = k + ((M.bJ.cnt x : Nat) : Int) := by unfold M.bJ.cnt; omega
  unfold M.bJ.cnt at hE
  obtain ⟨q0, q1, q2, q3, q4, q5, q6, q7, q8, q9, q10, q11⟩ := A
  have w0 := wk2 q0
  have t1 : aF (k + 1) = some (mtx (k + 1)) := mt q1.1 (Int.lt_of_add_one_le q2.2)
  have w1 := wk2 q1
  have t2 : aF (k + 1 + 1) = some (mtx (k + 1 + 1)) := mt q2.1 (Int.lt_of_add_one_le q3.2)
  have w2 := wk2 q2
  have w3 := wk2 q3
  obtain ⟨y1, a1, b1, _⟩ := M.aBu.gP _ hx.aM (k + 1 + 1 + 1 + 1) q4.1 q5.2
  have d1 : (decide (k + 1 + 1 + 1 + 1 + ((aD M.aM.cnt x.aM : Nat) : Int) < 0)) = false := dk q5.1
  obtain ⟨y2, a2, b2, _⟩ := M.aD7.gP _ hx.Machine.Script (k + 1 + 1 + 1 + 1 + ((aD M.aM.cnt x.aM : Nat) : Int)) q5.1 q6.2
  have d2 : (decide (k + 1 + 1 + 1 + 1 + ((aD M.aM.cnt x.aM : Nat) : Int) + ((aD M.Instr.cnt x.Machine.Script : Nat) : Int) < 0)) = false := dk q6.1
  have w6 := wk2 q6
  obtain ⟨y3, a3, b3, _⟩ := M.aJU.gP _ hx.Machine.Regs (k + 1 + 1 + 1 + 1 + ((aD M.aM.cnt x.aM : Nat) : Int) + ((aD M.Instr.cnt x.Machine.Script : Nat) : Int) + 1) q7.1 q8.2
  have d3 : (decide (k + 1 + 1 + 1 + 1 + ((aD M.aM.cnt x.aM : Nat) : Int) + ((aD M.Instr.cnt x.Machine.Script : Nat) : Int) + 1 + ((x.Machine.Regs.length : Nat) : Int) < 0)) = false := dk q8.1
  have w8 := wk2 q8
  have w9 := wk2 q9
  have w10 := wk2 q10
  refine ⟨⟨k, (mtx (k + 1)), (mtx (k + 1 + 1)), k + 1 + 1 + 1, y1, ⟨y2, k + 1 + 1 + 1 + 1 + ((aD M.aM.cnt x.aM : Nat) : Int) + ((aD M.Instr.cnt x.Machine.Script : Nat) : Int), y3, k + 1 + 1 + 1 + 1 + ((aD M.aM.cnt x.aM : Nat) : Int) + ((aD M.Instr.cnt x.Machine.Script : Nat) : Int) + 1 + ((x.Machine.Regs.length : Nat) : Int), ((Int.tmod (k + 1 + 1 + 1 + 1 + ((aD M.aM.cnt x.aM : Nat) : Int) + ((aD M.Instr.cnt x.Machine.Script : Nat) : Int) + 1 + ((x.Machine.Regs.length : Nat) : Int) + 1) 3) == 0), ((Int.tmod (k + 1 + 1 + 1 + 1 + ((aD M.aM.cnt x.aM : Nat) : Int) + ((aD M.Instr.cnt x.Machine.Script : Nat) : Int) + 1 + ((x.Machine.Regs.length : Nat) : Int) + 1 + 1) 3) == 0)⟩⟩, fun n pre post hl => ?_, fun n l i hi hl => ?_⟩
  · have hl' := le_max hl
    have hp : pre.length < 9223372036854775807 := by simp at hl'; omega
    simp only [dM]
    rw [if_pos (aAF pre post x)]
    simp (maxSteps := 2000000) only [qZ, qU, Option.bind_some, bE hp, w0, t1, w1, t2, w2, w3, a1, a2, w6, a3, w8, w9, w10]
    rw [hE]
  · have hl' := le_max hl
    have hp : i < 9223372036854775807 := by have := (List.getElem?_eq_some_iff.1 hi).1; omega
    simp only [dK]
    rw [if_pos (aBl hi)]
    simp (maxSteps := 2000000) only [zK hi, Option.bind_some, bE hp, w0, t1, w1, t2, w2, w3, b1, d1, b2, d2, w6, b3, d3, w8, w9, w10, bne_self_eq_false, beq_self_eq_true, Bool.not_true, Bool.false_eq_true, if_false]
    rw [hE]
theorem M.aHN.gP (xs : List M.bJ) (hx : (xs.length ≤ maxLen ∧ ∀ y ∈ xs, M.bJ.ok y)) (k : Int) (h0 : 0 ≤ k) (hB : k + ((aD M.bJ.cnt xs : Nat) : Int) ≤ KB) : ∃ ys, rO xs k = some (ys, k + ((aD M.bJ.cnt xs : Nat) : Int)) ∧ sJ ys k = some (k + ((aD M.bJ.cnt xs : Nat) : Int)) ∧ ys.length = xs.length := by
  have hm := le_max hx.1
  obtain ⟨ys, h1, h2, h3⟩ := kB (ML := dM) (HL := dK) (c := M.bJ.cnt) (ok := M.bJ.ok) (fun x hx k h0 hB => M.bJ.oC x hx k h0 hB) (fun n k l => by simp only [dM]; rw [if_neg (by rw [aO]; simp)]) (fun n k l => by simp only [dK]; rw [if_neg (by rw [aO]; simp)]) xs [] fuel k (by simpa using hx.1) (by unfold fuel; omega) hx.2 h0 hB
  refine ⟨ys, by unfold rO; simpa using h2, by unfold sJ; simpa using h3 fuel (by unfold fuel; omega), h1⟩
def M.bY.cnt (x : M.bY) : Nat := 4
set_option maxHeartbeats 4000000 in
theorem M.bY.oC (x : M.bY) (hx : M.bY.ok x) (k : Int) (h0 : 0 ≤ k) (hB : k + ((M.bY.cnt x : Nat) : Int) ≤ KB) : ∃ x' : M.bY, (∀ n (pre post : List M.bY), (pre ++ x :: post).length ≤ maxLen → dQ (n + 1) k pre.length (pre ++ x :: post) = dQ n (k + ((M.bY.cnt x : Nat) : Int)) ((pre.length + 1 : Nat) : Int) (pre ++ x' :: post)) ∧ ∀ n (l : List M.bY) (i : Nat), l[i]? = some x' → l.length ≤ maxLen → eY l (n + 1) k i = eY l n (k + ((M.bY.cnt x : Nat) : Int)) ((i + 1 : Nat) : Int) := by
  unfold KB at hB; unfold M.bY.cnt at hB ⊢
  have A : (0 ≤ k ∧ k ≤ KB) ∧ (0 ≤ k + 1 ∧ k + 1 ≤ KB) ∧ (0 ≤ k + 1 + 1 ∧ k + 1 + 1 ≤ KB) ∧ (0 ≤ k + 1 + 1 + 1 ∧ k + 1 + 1 + 1 ≤ KB) ∧ (0 ≤ k + 1 + 1 + 1 + 1 ∧ k + 1 + 1 + 1 + 1 ≤ KB) := by
    unfold KB
    refine ⟨?_, ?_, ?_, ?_, ?_⟩ <;> omega
  have hE : k + 1 + 1 + 1 + 1 = k + ((M.bY.cnt x : Nat) : Int) := by unfold M.bY.cnt; omega
  unfold M.bY.cnt at hE
  obtain ⟨q0, q1, q2, q3, q4⟩ := A
  have t0 : aF (k) = some (mtx (k)) := mt q0.1 (Int.lt_of_add_one_le q1.2)
  have w0 := wk2 q0
  have w1 := wk2 q1
  have w2 := wk2 q2
  have w3 := wk2 q3
  refine ⟨⟨(mtx (k)), k + 1, ((Int.tmod (k + 1 + 1) 3) == 0), ((Int.tmod (k + 1 + 1 + 1) 3) == 0)⟩, fun n pre post hl => ?_, fun n l i hi hl => ?_⟩
  · have hl' := le_max hl
    have hp : pre.length < 9223372036854775807 := by simp at hl'; omega
    simp only [dQ]
    rw [if_pos (aAF pre post x)]
    simp (maxSteps := 2000000) only [qZ, qU, Option.bind_some, bE hp, t0, w0, w1, w2, w3]
    rw [hE]
  · have hl' := le_max hl
    have hp : i < 9223372036854775807 := by have := (List.getElem?_eq_some_iff.1 hi).1; omega
    simp only [eY]
    rw [if_pos (aBl hi)]
    simp (maxSteps := 2000000) only [zK hi, Option.bind_some, bE hp, t0, w0, w1, w2, w3, bne_self_eq_false, beq_self_eq_true, Bool.not_true, Bool.false_eq_true, if_false]
    rw [hE]
theorem M.aHg.gP (xs : List M.bY) (hx : (xs.length ≤ maxLen ∧ ∀ y ∈ xs, M.bY.ok y)) (k : Int) (h0 : 0 ≤ k) (hB : k + ((aD M.bY.cnt xs : Nat) : Int) ≤ KB) : ∃ ys, tG xs k = some (ys, k + ((aD M.bY.cnt xs : Nat) : Int)) ∧ rR ys k = some (k + ((aD M.bY.cnt xs : Nat) : Int)) ∧ ys.length = xs.length := by
  have hm := le_max hx.1
  obtain ⟨ys, h1, h2, h3⟩ := kB (ML := dQ) (HL := eY) (c := M.bY.cnt) (ok := M.bY.ok) (fun x hx k h0 hB => M.bY.oC x hx k h0 hB) (fun n k l => by simp only [dQ]; rw [if_neg (by rw [aO]; simp)]) (fun n k l => by simp only [eY]; rw [if_neg (by rw [aO]; simp)]) xs [] fuel k (by simpa using hx.1) (by unfold fuel; omega) hx.2 h0 hB
  refine ⟨ys, by unfold tG; simpa using h2, by unfold rR; simpa using h3 fuel (by unfold fuel; omega), h1⟩
def M.fA.cnt (x : M.fA) : Nat := 3
set_option maxHeartbeats 4000000 in
theorem M.fA.oC (x : M.fA) (hx : M.fA.ok x) (k : Int) (h0 : 0 ≤ k) (hB : k + ((M.fA.cnt x : Nat) : Int) ≤ KB) : ∃ x' : M.fA, (∀ n (pre post : List M.fA), (pre ++ x :: post).length ≤ maxLen → dP (n + 1) k pre.length (pre ++ x :: post) = dP n (k + ((M.fA.cnt x : Nat) : Int)) ((pre.length + 1 : Nat) : Int) (pre ++ x' :: post)) ∧ ∀ n (l : List M.fA) (i : Nat), l[i]? = some x' → l.length ≤ maxLen → eR l (n + 1) k i = eR l n (k + ((M.fA.cnt x : Nat) : Int)) ((i + 1 : Nat) : Int) := by
  unfold KB at hB; unfold M.fA.cnt at hB ⊢
  have A : (0 ≤ k ∧ k ≤ KB) ∧ (0 ≤ k + 1 ∧ k + 1 ≤ KB) ∧ (0 ≤ k + 1 + 1 ∧ k + 1 + 1 ≤ KB) ∧ (0 ≤ k + 1 + 1 + 1 ∧ k + 1 + 1 + 1 ≤ KB) := by
    unfold KB
    refine ⟨?_, ?_, ?_, ?_⟩ <;> omega
  have hE : k + 1 + 1 + 1 = k + ((M.fA.cnt x : Nat) : Int) := by unfold M.fA.cnt; omega
  unfold M.fA.cnt at hE
  obtain ⟨q0, q1, q2, q3⟩ := A
  have w0 := wk2 q0
  have w1 := wk2 q1
  have w2 := wk2 q2
  refine ⟨⟨k, k + 1, k + 1 + 1⟩, fun n pre post hl => ?_, fun n l i hi hl => ?_⟩
  · have hl' := le_max hl
    have hp : pre.length < 9223372036854775807 := by simp at hl'; omega
    simp only [dP]
    rw [if_pos (aAF pre post x)]
    simp (maxSteps := 2000000) only [qZ, qU, Option.bind_some, bE hp, w0, w1, w2]
    rw [hE]
  · have hl' := le_max hl
    have hp : i < 9223372036854775807 := by have := (List.getElem?_eq_some_iff.1 hi).1; omega
    simp only [eR]
    rw [if_pos (aBl hi)]
    simp (maxSteps := 2000000) only [zK hi, Option.bind_some, bE hp, w0, w1, w2, bne_self_eq_false, beq_self_eq_true, Bool.not_true, Bool.false_eq_true, if_false]
    rw [hE]
theorem M.aHS.gP (xs : List M.fA) (hx : (xs.length ≤ maxLen ∧ ∀ y ∈ xs, M.fA.ok y)) (k : Int) (h0 : 0 ≤ k) (hB : k + ((aD M.fA.cnt xs : Nat) : Int) ≤ KB) : ∃ ys, rT xs k = some (ys, k + ((aD M.fA.cnt xs : Nat) : Int)) ∧ sV ys k = some (k + ((aD M.fA.cnt xs : Nat) : Int)) ∧ ys.length = xs.length := by
  have hm := le_max hx.1
  obtain ⟨ys, h1, h2, h3⟩ := kB (ML := dP) (HL := eR) (c := M.fA.cnt) (ok := M.fA.ok) (fun x hx k h0 hB => M.fA.oC x hx k h0 hB) (fun n k l => by simp only [dP]; rw [if_neg (by rw [aO]; simp)]) (fun n k l => by simp only [eR]; rw [if_neg (by rw [aO]; simp)]) xs [] fuel k (by simpa using hx.1) (by unfold fuel; omega) hx.2 h0 hB
  refine ⟨ys, by unfold rT; simpa using h2, by unfold sV; simpa using h3 fuel (by unfold fuel; omega), h1⟩
set_option maxHeartbeats 4000000 in
theorem M.aAO.oC (x : ByteArray) (hx : True) (k : Int) (h0 : 0 ≤ k) (hB : k + (((fun _ : ByteArray => 1) x : Nat) : Int) ≤ KB) : ∃ x' : ByteArray, (∀ n (pre post : List ByteArray), (pre ++ x :: post).length ≤ maxLen → cH (n + 1) k pre.length (pre ++ x :: post) = cH n (k + (((fun _ : ByteArray => 1) x : Nat) : Int)) ((pre.length + 1 : Nat) : Int) (pre ++ x' :: post)) ∧ ∀ n (l : List ByteArray) (i : Nat), l[i]? = some x' → l.length ≤ maxLen → dE l (n + 1) k i = dE l n (k + (((fun _ : ByteArray => 1) x : Nat) : Int)) ((i + 1 : Nat) : Int) := by
  unfold KB at hB; (try simp only [] at hB ⊢)
  have A : (0 ≤ k ∧ k ≤ KB) ∧ (0 ≤ k + 1 ∧ k + 1 ≤ KB) := by
    unfold KB
    refine ⟨?_, ?_⟩ <;> omega
  have hE : k + 1 = k + (((fun _ : ByteArray => 1) x : Nat) : Int) := by simp
  obtain ⟨q0, q1⟩ := A
  have t0 : aF (k) = some (mtx (k)) := mt q0.1 (Int.lt_of_add_one_le q1.2)
  have w0 := wk2 q0
  refine ⟨(mtx (k)), fun n pre post hl => ?_, fun n l i hi hl => ?_⟩
  · have hl' := le_max hl
    have hp : pre.length < 9223372036854775807 := by simp at hl'; omega
    simp only [cH]
    rw [if_pos (aAF pre post x)]
    simp (maxSteps := 2000000) only [qZ, qU, Option.bind_some, bE hp, t0, w0]
    rw [hE]
  · have hl' := le_max hl
    have hp : i < 9223372036854775807 := by have := (List.getElem?_eq_some_iff.1 hi).1; omega
    simp only [dE]
    rw [if_pos (aBl hi)]
    simp (maxSteps := 2000000) only [zK hi, Option.bind_some, bE hp, t0, w0, bne_self_eq_false, beq_self_eq_true, Bool.not_true, Bool.false_eq_true, if_false]
    rw [hE]
theorem M.aAO.cl (xs : List ByteArray) : aD (fun _ : ByteArray => 1) xs = xs.length := by
  induction xs with
  | nil => rfl
  | cons x xs ih => simp only [aD, ih, List.length_cons]; omega
theorem M.aAO.gP (xs : List ByteArray) (hx : okS xs) (k : Int) (h0 : 0 ≤ k) (hB : k + ((xs.length : Nat) : Int) ≤ KB) : ∃ ys, mW xs k = some (ys, k + ((xs.length : Nat) : Int)) ∧ nT ys k = some (k + ((xs.length : Nat) : Int)) ∧ ys.length = xs.length := by
  have hm := le_max hx.1
  rw [← M.aAO.cl xs] at hB ⊢
  obtain ⟨ys, h1, h2, h3⟩ := kB (ML := cH) (HL := dE) (c := (fun _ : ByteArray => 1)) (ok := (fun _ : ByteArray => True)) (fun x hx k h0 hB => M.aAO.oC x hx k h0 hB) (fun n k l => by simp only [cH]; rw [if_neg (by rw [aO]; simp)]) (fun n k l => by simp only [dE]; rw [if_neg (by rw [aO]; simp)]) xs [] fuel k (by simpa using hx.1) (by unfold fuel; omega) (fun _ _ => trivial) h0 hB
  refine ⟨ys, by unfold mW; simpa using h2, by unfold nT; simpa using h3 fuel (by unfold fuel; omega), by have := M.aAO.cl xs; omega⟩
def M.Site.cnt (x : M.Site) : Nat := 3 + (x.Files.length)
set_option maxHeartbeats 4000000 in
theorem M.Site.oC (x : M.Site) (hx : M.Site.ok x) (k : Int) (h0 : 0 ≤ k) (hB : k + ((M.Site.cnt x : Nat) : Int) ≤ KB) : ∃ x' : M.Site, (∀ n (pre post : List M.Site), (pre ++ x :: post).length ≤ maxLen → dR (n + 1) k pre.length (pre ++ x :: post) = dR n (k + ((M.Site.cnt x : Nat) : Int)) ((pre.length + 1 : Nat) : Int) (pre ++ x' :: post)) ∧ ∀ n (l : List M.Site) (i : Nat), l[i]? = some x' → l.length ≤ maxLen → eZ l (n + 1) k i = eZ l n (k + ((M.Site.cnt x : Nat) : Int)) ((i + 1 : Nat) : Int) := by
  unfold KB at hB; unfold M.Site.cnt at hB ⊢
  have A : (0 ≤ k ∧ k ≤ KB) ∧ (0 ≤ k + 1 ∧ k + 1 ≤ KB) ∧ (0 ≤ k + 1 + 1 ∧ k + 1 + 1 ≤ KB) ∧ (0 ≤ k + 1 + 1 + ((x.Files.length : Nat) : Int) ∧ k + 1 + 1 + ((x.Files.length : Nat) : Int) ≤ KB) ∧ (0 ≤ k + 1 + 1 + ((x.Files.length : Nat) : Int) + 1 ∧ k + 1 + 1 + ((x.Files.length : Nat) : Int) + 1 ≤ KB) := by
    unfold KB
    refine ⟨?_, ?_, ?_, ?_, ?_⟩ <;> omega
  have hE : k + 1 + 1 + ((x.Files.length : Nat) : Int) + 1 = k + ((M.Site.cnt x : Nat) : Int) := by unfold M.Site.cnt; omega
  unfold M.Site.cnt at hE
  obtain ⟨q0, q1, q2, q3, q4⟩ := A
  have t0 : aF (k) = some (mtx (k)) := mt q0.1 (Int.lt_of_add_one_le q1.2)
  have w0 := wk2 q0
  have w1 := wk2 q1
  obtain ⟨y1, a1, b1, _⟩ := M.aAO.gP _ hx.Files (k + 1 + 1) q2.1 q3.2
  have d1 : (decide (k + 1 + 1 + ((x.Files.length : Nat) : Int) < 0)) = false := dk q3.1
  have w3 := wk2 q3
  refine ⟨⟨(mtx (k)), k + 1, y1, ((Int.tmod (k + 1 + 1 + ((x.Files.length : Nat) : Int)) 3) == 0)⟩, fun n pre post hl => ?_, fun n l i hi hl => ?_⟩
  · have hl' := le_max hl
    have hp : pre.length < 9223372036854775807 := by simp at hl'; omega
    simp only [dR]
    rw [if_pos (aAF pre post x)]
    simp (maxSteps := 2000000) only [qZ, qU, Option.bind_some, bE hp, t0, w0, w1, a1, w3]
    rw [hE]
  · have hl' := le_max hl
    have hp : i < 9223372036854775807 := by have := (List.getElem?_eq_some_iff.1 hi).1; omega
    simp only [eZ]
    rw [if_pos (aBl hi)]
    simp (maxSteps := 2000000) only [zK hi, Option.bind_some, bE hp, t0, w0, w1, b1, d1, w3, bne_self_eq_false, beq_self_eq_true, Bool.not_true, Bool.false_eq_true, if_false]
    rw [hE]
theorem M.aHY.gP (xs : List M.Site) (hx : (xs.length ≤ maxLen ∧ ∀ y ∈ xs, M.Site.ok y)) (k : Int) (h0 : 0 ≤ k) (hB : k + ((aD M.Site.cnt xs : Nat) : Int) ≤ KB) : ∃ ys, sR xs k = some (ys, k + ((aD M.Site.cnt xs : Nat) : Int)) ∧ sP ys k = some (k + ((aD M.Site.cnt xs : Nat) : Int)) ∧ ys.length = xs.length := by
  have hm := le_max hx.1
  obtain ⟨ys, h1, h2, h3⟩ := kB (ML := dR) (HL := eZ) (c := M.Site.cnt) (ok := M.Site.ok) (fun x hx k h0 hB => M.Site.oC x hx k h0 hB) (fun n k l => by simp only [dR]; rw [if_neg (by rw [aO]; simp)]) (fun n k l => by simp only [eZ]; rw [if_neg (by rw [aO]; simp)]) xs [] fuel k (by simpa using hx.1) (by unfold fuel; omega) hx.2 h0 hB
  refine ⟨ys, by unfold sR; simpa using h2, by unfold sP; simpa using h3 fuel (by unfold fuel; omega), h1⟩
def M.aG.cnt (x : M.aG) : Nat := 2
set_option maxHeartbeats 4000000 in
theorem M.aG.oC (x : M.aG) (hx : M.aG.ok x) (k : Int) (h0 : 0 ≤ k) (hB : k + ((M.aG.cnt x : Nat) : Int) ≤ KB) : ∃ x' : M.aG, (∀ n (pre post : List M.aG), (pre ++ x :: post).length ≤ maxLen → bW (n + 1) k pre.length (pre ++ x :: post) = bW n (k + ((M.aG.cnt x : Nat) : Int)) ((pre.length + 1 : Nat) : Int) (pre ++ x' :: post)) ∧ ∀ n (l : List M.aG) (i : Nat), l[i]? = some x' → l.length ≤ maxLen → cN l (n + 1) k i = cN l n (k + ((M.aG.cnt x : Nat) : Int)) ((i + 1 : Nat) : Int) := by
  unfold KB at hB; unfold M.aG.cnt at hB ⊢
  have A : (0 ≤ k ∧ k ≤ KB) ∧ (0 ≤ k + 1 ∧ k + 1 ≤ KB) ∧ (0 ≤ k + 1 + 1 ∧ k + 1 + 1 ≤ KB) := by
    unfold KB
    refine ⟨?_, ?_, ?_⟩ <;> omega
  have hE : k + 1 + 1 = k + ((M.aG.cnt x : Nat) : Int) := by unfold M.aG.cnt; omega
  unfold M.aG.cnt at hE
  obtain ⟨q0, q1, q2⟩ := A
  have w0 := wk2 q0
  have w1 := wk2 q1
  refine ⟨⟨k, k + 1⟩, fun n pre post hl => ?_, fun n l i hi hl => ?_⟩
  · have hl' := le_max hl
    have hp : pre.length < 9223372036854775807 := by simp at hl'; omega
    simp only [bW]
    rw [if_pos (aAF pre post x)]
    simp (maxSteps := 2000000) only [qZ, qU, Option.bind_some, bE hp, w0, w1]
    rw [hE]
  · have hl' := le_max hl
    have hp : i < 9223372036854775807 := by have := (List.getElem?_eq_some_iff.1 hi).1; omega
    simp only [cN]
    rw [if_pos (aBl hi)]
    simp (maxSteps := 2000000) only [zK hi, Option.bind_some, bE hp, w0, w1, bne_self_eq_false, beq_self_eq_true, Bool.not_true, Bool.false_eq_true, if_false]
    rw [hE]
theorem M.aA4.gP (xs : List M.aG) (hx : (xs.length ≤ maxLen ∧ ∀ y ∈ xs, M.aG.ok y)) (k : Int) (h0 : 0 ≤ k) (hB : k + ((aD M.aG.cnt xs : Nat) : Int) ≤ KB) : ∃ ys, lO xs k = some (ys, k + ((aD M.aG.cnt xs : Nat) : Int)) ∧ lY ys k = some (k + ((aD M.aG.cnt xs : Nat) : Int)) ∧ ys.length = xs.length := by
  have hm := le_max hx.1
  obtain ⟨ys, h1, h2, h3⟩ := kB (ML := bW) (HL := cN) (c := M.aG.cnt) (ok := M.aG.ok) (fun x hx k h0 hB => M.aG.oC x hx k h0 hB) (fun n k l => by simp only [bW]; rw [if_neg (by rw [aO]; simp)]) (fun n k l => by simp only [cN]; rw [if_neg (by rw [aO]; simp)]) xs [] fuel k (by simpa using hx.1) (by unfold fuel; omega) hx.2 h0 hB
  refine ⟨ys, by unfold lO; simpa using h2, by unfold lY; simpa using h3 fuel (by unfold fuel; omega), h1⟩
def M.Server.cnt (x : M.Server) : Nat := 2 + (aD M.Item.cnt x.aH.Items) + (aD M.aG.cnt x.aG) + (aD M.aW.cnt x.Changes)
set_option maxHeartbeats 4000000 in
theorem M.Server.oC (x : M.Server) (hx : M.Server.ok x) (k : Int) (h0 : 0 ≤ k) (hB : k + ((M.Server.cnt x : Nat) : Int) ≤ KB) : ∃ x' : M.Server, (∀ n (pre post : List M.Server), (pre ++ x :: post).length ≤ maxLen → cD (n + 1) k pre.length (pre ++ x :: post) = cD n (k + ((M.Server.cnt x : Nat) : Int)) ((pre.length + 1 : Nat) : Int) (pre ++ x' :: post)) ∧ ∀ n (l : List M.Server) (i : Nat), l[i]? = some x' → l.length ≤ maxLen → cE l (n + 1) k i = cE l n (k + ((M.Server.cnt x : Nat) : Int)) ((i + 1 : Nat) : Int) := by
  unfold KB at hB; unfold M.Server.cnt at hB ⊢
  have A : (0 ≤ k ∧ k ≤ KB) ∧ (0 ≤ k + 1 ∧ k + 1 ≤ KB) ∧ (0 ≤ k + 1 + ((aD M.Item.cnt x.aH.Items : Nat) : Int) ∧ k + 1 + ((aD M.Item.cnt x.aH.Items : Nat) : Int) ≤ KB) ∧ (0 ≤ k + 1 + ((aD M.Item.cnt x.aH.Items : Nat) : Int) + 1 ∧ k + 1 + ((aD M.Item.cnt x.aH.Items : Nat) : Int) + 1 ≤ KB) ∧ (0 ≤ k + 1 + ((aD M.Item.cnt x.aH.Items : Nat) : Int) + 1 + ((aD M.aG.cnt x.aG : Nat) : Int) ∧ k + 1 + ((aD M.Item.cnt x.aH.Items : Nat) : Int) + 1 + ((aD M.aG.cnt x.aG : Nat) : Int) ≤ KB) ∧ (0 ≤ k + 1 + ((aD M.Item.cnt x.aH.Items : Nat) : Int) + 1 + ((aD M.aG.cnt x.aG : Nat) : Int) + ((aD M.aW.cnt x.Changes : Nat) : Int) ∧ k + 1 + ((aD M.Item.cnt x.aH.Items : Nat) : Int) + 1 + ((aD M.aG.cnt x.aG : Nat) : Int) + ((aD M.aW.cnt x.Changes : Nat) : Int) ≤ KB) := by
    unfold KB
    refine ⟨?_, ?_, ?_, ?_, ?_, ?_⟩ <;> omega
  have hE : k + 1 + ((aD M.Item.cnt x.aH.Items : Nat) : Int) + 1 + ((aD M.aG.cnt x.aG : Nat) : Int) + ((aD M.aW.cnt x.Changes : Nat) : Int) = k + ((M.Server.cnt x : Nat) : Int) := by unfold M.Server.cnt; omega
  unfold M.Server.cnt at hE
  obtain ⟨q0, q1, q2, q3, q4, q5⟩ := A
  have t0 : aF (k) = some (mtx (k)) := mt q0.1 (Int.lt_of_add_one_le q1.2)
  have w0 := wk2 q0
  obtain ⟨y1, a1, b1, _⟩ := M.aEH.gP _ hx.aH.Items (k + 1) q1.1 q2.2
  have d1 : (decide (k + 1 + ((aD M.Item.cnt x.aH.Items : Nat) : Int) < 0)) = false := dk q2.1
  have w2 := wk2 q2
  obtain ⟨y2, a2, b2, _⟩ := M.aA4.gP _ hx.aG (k + 1 + ((aD M.Item.cnt x.aH.Items : Nat) : Int) + 1) q3.1 q4.2
  have d2 : (decide (k + 1 + ((aD M.Item.cnt x.aH.Items : Nat) : Int) + 1 + ((aD M.aG.cnt x.aG : Nat) : Int) < 0)) = false := dk q4.1
  obtain ⟨y3, a3, b3, _⟩ := M.aBT.gP _ hx.Changes (k + 1 + ((aD M.Item.cnt x.aH.Items : Nat) : Int) + 1 + ((aD M.aG.cnt x.aG : Nat) : Int)) q4.1 q5.2
  have d3 : (decide (k + 1 + ((aD M.Item.cnt x.aH.Items : Nat) : Int) + 1 + ((aD M.aG.cnt x.aG : Nat) : Int) + ((aD M.aW.cnt x.Changes : Nat) : Int) < 0)) = false := dk q5.1
  refine ⟨⟨⟨(mtx (k)), y1, k + 1 + ((aD M.Item.cnt x.aH.Items : Nat) : Int)⟩, y2, y3⟩, fun n pre post hl => ?_, fun n l i hi hl => ?_⟩
  · have hl' := le_max hl
    have hp : pre.length < 9223372036854775807 := by simp at hl'; omega
    simp only [cD]
    rw [if_pos (aAF pre post x)]
    simp (maxSteps := 2000000) only [qZ, qU, Option.bind_some, bE hp, t0, w0, a1, w2, a2, a3]
    rw [hE]
  · have hl' := le_max hl
    have hp : i < 9223372036854775807 := by have := (List.getElem?_eq_some_iff.1 hi).1; omega
    simp only [cE]
    rw [if_pos (aBl hi)]
    simp (maxSteps := 2000000) only [zK hi, Option.bind_some, bE hp, t0, w0, b1, d1, w2, b2, d2, b3, d3, bne_self_eq_false, beq_self_eq_true, Bool.not_true, Bool.false_eq_true, if_false]
    rw [hE]
theorem M.aBo.gP (xs : List M.Server) (hx : (xs.length ≤ maxLen ∧ ∀ y ∈ xs, M.Server.ok y)) (k : Int) (h0 : 0 ≤ k) (hB : k + ((aD M.Server.cnt xs : Nat) : Int) ≤ KB) : ∃ ys, nI xs k = some (ys, k + ((aD M.Server.cnt xs : Nat) : Int)) ∧ mQ ys k = some (k + ((aD M.Server.cnt xs : Nat) : Int)) ∧ ys.length = xs.length := by
  have hm := le_max hx.1
  obtain ⟨ys, h1, h2, h3⟩ := kB (ML := cD) (HL := cE) (c := M.Server.cnt) (ok := M.Server.ok) (fun x hx k h0 hB => M.Server.oC x hx k h0 hB) (fun n k l => by simp only [cD]; rw [if_neg (by rw [aO]; simp)]) (fun n k l => by simp only [cE]; rw [if_neg (by rw [aO]; simp)]) xs [] fuel k (by simpa using hx.1) (by unfold fuel; omega) hx.2 h0 hB
  refine ⟨ys, by unfold nI; simpa using h2, by unfold mQ; simpa using h3 fuel (by unfold fuel; omega), h1⟩
def M.World.aL5 (x : M.World) : Nat := (aD M.aE.cnt x.aK.Buckets) + (aD M.bJ.cnt x.Pages) + (aD M.bY.cnt x.Locks.Locks) + (aD M.fA.cnt x.Channel.Mails) + (aD M.Site.cnt x.Sites) + (aD M.Server.cnt x.Servers)
theorem M.World.gP (x : M.World) (hx : M.World.ok x) (k : Int) (h0 : 0 ≤ k) (hB : k + ((M.World.aL5 x : Nat) : Int) ≤ KB) : ∃ y1 y2 y3 y4 y5 y6, mN x k = some (y1, y2, y3, y4, y5, y6, k + ((M.World.aL5 x : Nat) : Int)) ∧ mP (⟨x.Now, x.Online, x.Device, ⟨y1⟩, y2, x.NextPage, ⟨y3⟩, ⟨y4⟩, y5, y6⟩ : M.World) k = some (k + ((M.World.aL5 x : Nat) : Int)) := by
  unfold KB at hB; unfold M.World.aL5 at hB ⊢
  obtain ⟨y1, a1, b1, _⟩ := M.aBj.gP _ hx.aK.Buckets (k) (by omega) (by unfold KB; omega)
  obtain ⟨y2, a2, b2, _⟩ := M.aHN.gP _ hx.Pages (k + ((aD M.aE.cnt x.aK.Buckets : Nat) : Int)) (by omega) (by unfold KB; omega)
  obtain ⟨y3, a3, b3, _⟩ := M.aHg.gP _ hx.Locks.Locks (k + ((aD M.aE.cnt x.aK.Buckets : Nat) : Int) + ((aD M.bJ.cnt x.Pages : Nat) : Int)) (by omega) (by unfold KB; omega)
  obtain ⟨y4, a4, b4, _⟩ := M.aHS.gP _ hx.Channel.Mails (k + ((aD M.aE.cnt x.aK.Buckets : Nat) : Int) + ((aD M.bJ.cnt x.Pages : Nat) : Int) + ((aD M.bY.cnt x.Locks.Locks : Nat) : Int)) (by omega) (by unfold KB; omega)
  obtain ⟨y5, a5, b5, _⟩ := M.aHY.gP _ hx.Sites (k + ((aD M.aE.cnt x.aK.Buckets : Nat) : Int) + ((aD M.bJ.cnt x.Pages : Nat) : Int) + ((aD M.bY.cnt x.Locks.Locks : Nat) : Int) + ((aD M.fA.cnt x.Channel.Mails : Nat) : Int)) (by omega) (by unfold KB; omega)
  obtain ⟨y6, a6, b6, _⟩ := M.aBo.gP _ hx.Servers (k + ((aD M.aE.cnt x.aK.Buckets : Nat) : Int) + ((aD M.bJ.cnt x.Pages : Nat) : Int) + ((aD M.bY.cnt x.Locks.Locks : Nat) : Int) + ((aD M.fA.cnt x.Channel.Mails : Nat) : Int) + ((aD M.Site.cnt x.Sites : Nat) : Int)) (by omega) (by unfold KB; omega)
  refine ⟨y1, y2, y3, y4, y5, y6, ?_, ?_⟩
  · unfold mN
    simp only [uA, oM, tZ, a1, a2, a3, a4, a5, a6, Option.bind_some]
    try (simp only [Option.some.injEq, Prod.mk.injEq, true_and]; omega)
  · unfold mP
    simp (disch := (first | omega | (unfold KB; omega))) only [tS, oL, tQ, b1, b2, b3, b4, b5, b6, Option.bind_some, dk, Bool.false_eq_true, if_false]
    try (simp only [Option.some.injEq]; omega)
theorem M.aBm.fQ (xs : List Int) : xs.length ≤ 40 * (xs.length) := by omega
theorem M.Cached.fQ (x : M.Cached) : M.Cached.cnt x ≤ 40 + 40 * M.Cached.sz x := by
  unfold M.Cached.cnt
  simp only [M.Cached.sz, M.Response.sz]
  have := M.aBm.fQ x.Response.Body
  omega
theorem M.aBp.fQ (xs : List M.Cached) : aD M.Cached.cnt xs ≤ 40 * ((xs.length + aD M.Cached.sz xs)) := lT (fun x _ => M.Cached.fQ x)
theorem M.Cache.fQ (x : M.Cache) : M.Cache.cnt x ≤ 40 + 40 * M.Cache.sz x := by
  unfold M.Cache.cnt
  simp only [M.Cache.sz]
  have := M.aBp.fQ x.Entries
  omega
theorem M.aDU.fQ (xs : List M.Cache) : aD M.Cache.cnt xs ≤ 40 * ((xs.length + aD M.Cache.sz xs)) := lT (fun x _ => M.Cache.fQ x)
theorem M.Field.fQ (x : M.Field) : M.Field.cnt x ≤ 40 + 40 * M.Field.sz x := by
  unfold M.Field.cnt
  simp only [M.Field.sz]
  omega
theorem M.aDi.fQ (xs : List M.Field) : aD M.Field.cnt xs ≤ 40 * ((xs.length + aD M.Field.sz xs)) := lT (fun x _ => M.Field.fQ x)
theorem M.Item.fQ (x : M.Item) : M.Item.cnt x ≤ 40 + 40 * M.Item.sz x := by
  unfold M.Item.cnt
  simp only [M.Item.sz, M.Key.sz, M.aU.sz]
  have := M.aDi.fQ x.aU.Fields
  omega
theorem M.aEH.fQ (xs : List M.Item) : aD M.Item.cnt xs ≤ 40 * ((xs.length + aD M.Item.sz xs)) := lT (fun x _ => M.Item.fQ x)
theorem M.aH.fQ (x : M.aH) : M.aH.cnt x ≤ 40 + 40 * M.aH.sz x := by
  unfold M.aH.cnt
  simp only [M.aH.sz]
  have := M.aEH.fQ x.Items
  omega
theorem M.aDw.fQ (xs : List M.aH) : aD M.aH.cnt xs ≤ 40 * ((xs.length + aD M.aH.sz xs)) := lT (fun x _ => M.aH.fQ x)
theorem M.aA.fQ (x : M.aA) : M.aA.cnt x ≤ 40 + 40 * M.aA.sz x := by
  unfold M.aA.cnt
  simp only [M.aA.sz]
  omega
theorem M.zS.fQ (xs : List M.aA) : aD M.aA.cnt xs ≤ 40 * ((xs.length + aD M.aA.sz xs)) := lT (fun x _ => M.aA.fQ x)
theorem M.aW.fQ (x : M.aW) : M.aW.cnt x ≤ 40 + 40 * M.aW.sz x := by
  unfold M.aW.cnt
  simp only [M.aW.sz, M.Key.sz]
  omega
theorem M.aBT.fQ (xs : List M.aW) : aD M.aW.cnt xs ≤ 40 * ((xs.length + aD M.aW.sz xs)) := lT (fun x _ => M.aW.fQ x)
theorem M.aE.fQ (x : M.aE) : M.aE.cnt x ≤ 40 + 40 * M.aE.sz x := by
  unfold M.aE.cnt
  simp only [M.aE.sz, M.Registration.sz, M.aT.sz, M.bC.sz, M.Database.sz, M.aC.sz, M.aH.sz, M.Sync.sz, M.aV.sz]
  have := M.aDU.fQ x.Caches.Caches
  have := M.aDw.fQ x.bC.Base.Stores
  have := M.zS.fQ x.bC.Base.Unique
  have := M.aBm.fQ x.bC.Log
  have := M.aEH.fQ x.aC.Base.Items
  have := M.aBT.fQ x.aC.Sync.aV.Writes
  omega
theorem M.aBj.fQ (xs : List M.aE) : aD M.aE.cnt xs ≤ 40 * ((xs.length + aD M.aE.sz xs)) := lT (fun x _ => M.aE.fQ x)
theorem M.aM.fQ (x : M.aM) : M.aM.cnt x ≤ 40 + 40 * M.aM.sz x := by
  unfold M.aM.cnt
  simp only [M.aM.sz]
  omega
theorem M.aBu.fQ (xs : List M.aM) : aD M.aM.cnt xs ≤ 40 * ((xs.length + aD M.aM.sz xs)) := lT (fun x _ => M.aM.fQ x)
theorem M.Instr.fQ (x : M.Instr) : M.Instr.cnt x ≤ 40 + 40 * M.Instr.sz x := by
  unfold M.Instr.cnt
  simp only [M.Instr.sz]
  omega
theorem M.aD7.fQ (xs : List M.Instr) : aD M.Instr.cnt xs ≤ 40 * ((xs.length + aD M.Instr.sz xs)) := lT (fun x _ => M.Instr.fQ x)
theorem M.aJU.fQ (xs : List Int) : xs.length ≤ 40 * (xs.length) := by omega
theorem M.bJ.fQ (x : M.bJ) : M.bJ.cnt x ≤ 40 + 40 * M.bJ.sz x := by
  unfold M.bJ.cnt
  simp only [M.bJ.sz, M.Machine.sz]
  have := M.aBu.fQ x.aM
  have := M.aD7.fQ x.Machine.Script
  have := M.aJU.fQ x.Machine.Regs
  omega
theorem M.aHN.fQ (xs : List M.bJ) : aD M.bJ.cnt xs ≤ 40 * ((xs.length + aD M.bJ.sz xs)) := lT (fun x _ => M.bJ.fQ x)
theorem M.bY.fQ (x : M.bY) : M.bY.cnt x ≤ 40 + 40 * M.bY.sz x := by
  unfold M.bY.cnt
  simp only [M.bY.sz]
  omega
theorem M.aHg.fQ (xs : List M.bY) : aD M.bY.cnt xs ≤ 40 * ((xs.length + aD M.bY.sz xs)) := lT (fun x _ => M.bY.fQ x)
theorem M.fA.fQ (x : M.fA) : M.fA.cnt x ≤ 40 := by
  unfold M.fA.cnt
  omega
theorem M.aHS.fQ (xs : List M.fA) : aD M.fA.cnt xs ≤ 40 * (xs.length) := Nat.le_trans (aDB (fun x _ => M.fA.fQ x)) (by omega)
theorem M.aAO.fQ (xs : List ByteArray) : xs.length ≤ 40 * ((xs.length + aD ByteArray.size xs)) := by omega
theorem M.Site.fQ (x : M.Site) : M.Site.cnt x ≤ 40 + 40 * M.Site.sz x := by
  unfold M.Site.cnt
  simp only [M.Site.sz]
  have := M.aAO.fQ x.Files
  omega
theorem M.aHY.fQ (xs : List M.Site) : aD M.Site.cnt xs ≤ 40 * ((xs.length + aD M.Site.sz xs)) := lT (fun x _ => M.Site.fQ x)
theorem M.aG.fQ (x : M.aG) : M.aG.cnt x ≤ 40 := by
  unfold M.aG.cnt
  omega
theorem M.aA4.fQ (xs : List M.aG) : aD M.aG.cnt xs ≤ 40 * (xs.length) := Nat.le_trans (aDB (fun x _ => M.aG.fQ x)) (by omega)
theorem M.Server.fQ (x : M.Server) : M.Server.cnt x ≤ 40 + 40 * M.Server.sz x := by
  unfold M.Server.cnt
  simp only [M.Server.sz, M.aH.sz]
  have := M.aEH.fQ x.aH.Items
  have := M.aA4.fQ x.aG
  have := M.aBT.fQ x.Changes
  omega
theorem M.aBo.fQ (xs : List M.Server) : aD M.Server.cnt xs ≤ 40 * ((xs.length + aD M.Server.sz xs)) := lT (fun x _ => M.Server.fQ x)
theorem M.World.aMS (x : M.World) : M.World.aL5 x ≤ 40 * M.World.sz x := by
  unfold M.World.aL5
  simp only [M.World.sz, M.aK.sz, M.aQ.sz, M.Channel.sz]
  have := M.aBj.fQ x.aK.Buckets
  have := M.aHN.fQ x.Pages
  have := M.aHg.fQ x.Locks.Locks
  have := M.aHS.fQ x.Channel.Mails
  have := M.aHY.fQ x.Sites
  have := M.aBo.fQ x.Servers
  omega
end Go.Proofs.YtecmnmaaopkdfaaGreat.gen
