/-
  Helper text. No conditions.
-/
import Derived.Test.YtecmnmaaopkdfaaGreatPageLockPz
namespace Go.Proofs.YtecmnmaaopkdfaaGreat.gen
open Go Go.Sh
set_option linter.unusedVariables false
set_option linter.unusedSimpArgs false
theorem aMp : ∀ (n : Nat) (v : Int) (b : ByteArray), v.toNat < n → 0 ≤ v → (b.size : Int) + v ≤ KB → ∃ t, kK n v b = some t ∧ t.size ≤ 4611686018427387905
  | 0, v, b, h, _, _ => by omega
  | n + 1, v, b, h, h0, hb => by
    unfold KB at hb
    simp only [kK]
    by_cases hv : v > 0
    · rw [if_pos (by simp; omega)]
      have h1 := Int.tmod_nonneg 10 h0
      have h2 := Int.tmod_lt_of_pos v (show (0 : Int) < 10 by omega)
      have hu := aMQ (IntKind.i64.wrap (48 + Int.tmod v 10))
      have hd : Int.tdiv v 10 = v / 10 := Int.tdiv_eq_ediv_of_nonneg h0
      have hs : toStr [IntKind.u8.wrap (IntKind.i64.wrap (48 + Int.tmod v 10))] = some (aBj [IntKind.u8.wrap (IntKind.i64.wrap (48 + Int.tmod v 10))]) := by
        unfold toStr; rw [if_pos (by simp; omega)]
      have hz : (aBj [IntKind.u8.wrap (IntKind.i64.wrap (48 + Int.tmod v 10))]).size = 1 := rfl
      rw [hs, Option.bind_some]
      unfold cat
      rw [if_pos (by rw [hz]; omega), Option.bind_some, hd, iJ (by omega) (by omega)]
      refine aMp n (v / 10) _ (by omega) (by omega) ?_
      rw [ByteArray.size_append, hz]
      unfold KB
      omega
    · rw [if_neg (by simp; omega)]
      have hq : cat (⟨#[109]⟩ : ByteArray) b = some ((⟨#[109]⟩ : ByteArray) ++ b) := by
        unfold cat; rw [if_pos (by show 1 + b.size ≤ _; omega)]
      first | exact ⟨_, by rw [hq, Option.bind_some], by rw [ByteArray.size_append]; show 1 + b.size ≤ _; omega⟩ | exact ⟨_, by rw [hq]; rfl, by rw [ByteArray.size_append]; show 1 + b.size ≤ _; omega⟩
theorem aNP (k : Int) (h0 : 0 ≤ k) (h : k < KB) : ∃ t, aG k = some t := by
  unfold aG
  by_cases hk : k ≤ 0
  · exact ⟨_, by rw [if_pos (by simpa using hk)]⟩
  · rw [if_neg (by simpa using hk)]
    obtain ⟨t, h1, _⟩ := aMp fuel k ⟨#[]⟩ (by unfold fuel KB at *; omega) h0 (by show ((0 : Nat) : Int) + k ≤ KB; omega)
    exact ⟨t, h1⟩
def mtx (k : Int) : ByteArray := (aG k).getD ⟨#[]⟩
theorem mt {k : Int} (h0 : 0 ≤ k) (h : k < KB) : aG k = some (mtx k) := by
  obtain ⟨t, ht⟩ := aNP k h0 h
  unfold mtx; rw [ht]; rfl
set_option maxHeartbeats 4000000 in
theorem M.aB6.oN (x : Int) (hx : True) (k : Int) (h0 : 0 ≤ k) (hB : k + (((fun _ : Int => 1) x : Nat) : Int) ≤ KB) : ∃ x' : Int, (∀ n (pre post : List Int), (pre ++ x :: post).length ≤ maxLen → dS (n + 1) k pre.length (pre ++ x :: post) = dS n (k + (((fun _ : Int => 1) x : Nat) : Int)) ((pre.length + 1 : Nat) : Int) (pre ++ x' :: post)) ∧ ∀ n (l : List Int) (i : Nat), l[i]? = some x' → l.length ≤ maxLen → eV l (n + 1) k i = eV l n (k + (((fun _ : Int => 1) x : Nat) : Int)) ((i + 1 : Nat) : Int) := by
  unfold KB at hB; (try simp only [] at hB ⊢)
  have A : (0 ≤ k ∧ k ≤ KB) ∧ (0 ≤ k + 1 ∧ k + 1 ≤ KB) := by
    unfold KB
    refine ⟨?_, ?_⟩ <;> omega
  have hE : k + 1 = k + (((fun _ : Int => 1) x : Nat) : Int) := by simp
  obtain ⟨q0, q1⟩ := A
  have w0 := wk2 q0
  refine ⟨(IntKind.u8.wrap k), fun n pre post hl => ?_, fun n l i hi hl => ?_⟩
  · have hl' := le_max hl
    have hp : pre.length < 9223372036854775807 := by simp at hl'; omega
    simp only [dS]
    rw [if_pos (zZ pre post x)]
    simp (maxSteps := 2000000) only [rD, rE, Option.bind_some, bD hp, w0]
    rw [hE]
  · have hl' := le_max hl
    have hp : i < 9223372036854775807 := by have := (List.getElem?_eq_some_iff.1 hi).1; omega
    simp only [eV]
    rw [if_pos (aCD hi)]
    simp (maxSteps := 2000000) only [aAG hi, Option.bind_some, bD hp, w0, bne_self_eq_false, beq_self_eq_true, Bool.not_true, Bool.false_eq_true, if_false]
    rw [hE]
theorem M.aB6.cl (xs : List Int) : aD (fun _ : Int => 1) xs = xs.length := by
  induction xs with
  | nil => rfl
  | cons x xs ih => simp only [aD, ih, List.length_cons]; omega
theorem M.aB6.gV (xs : List Int) (hx : okB xs) (k : Int) (h0 : 0 ≤ k) (hB : k + ((xs.length : Nat) : Int) ≤ KB) : ∃ ys, mS xs k = some (ys, k + ((xs.length : Nat) : Int)) ∧ mX ys k = some (k + ((xs.length : Nat) : Int)) ∧ ys.length = xs.length := by
  have hm := le_max hx.1
  rw [← M.aB6.cl xs] at hB ⊢
  obtain ⟨ys, h1, h2, h3⟩ := kF (ML := dS) (HL := eV) (c := (fun _ : Int => 1)) (ok := (fun _ : Int => True)) (fun x hx k h0 hB => M.aB6.oN x hx k h0 hB) (fun n k l => by simp only [dS]; rw [if_neg (by rw [aP]; simp)]) (fun n k l => by simp only [eV]; rw [if_neg (by rw [aP]; simp)]) xs [] fuel k (by simpa using hx.1) (by unfold fuel; omega) (fun _ _ => trivial) h0 hB
  refine ⟨ys, by unfold mS; simpa using h2, by unfold mX; simpa using h3 fuel (by unfold fuel; omega), by have := M.aB6.cl xs; omega⟩
def M.Cached.cnt (x : M.Cached) : Nat := 6 + (x.Response.Body.length)
set_option maxHeartbeats 4000000 in
theorem M.Cached.oN (x : M.Cached) (hx : M.Cached.ok x) (k : Int) (h0 : 0 ≤ k) (hB : k + ((M.Cached.cnt x : Nat) : Int) ≤ KB) : ∃ x' : M.Cached, (∀ n (pre post : List M.Cached), (pre ++ x :: post).length ≤ maxLen → cN (n + 1) k pre.length (pre ++ x :: post) = cN n (k + ((M.Cached.cnt x : Nat) : Int)) ((pre.length + 1 : Nat) : Int) (pre ++ x' :: post)) ∧ ∀ n (l : List M.Cached) (i : Nat), l[i]? = some x' → l.length ≤ maxLen → dI l (n + 1) k i = dI l n (k + ((M.Cached.cnt x : Nat) : Int)) ((i + 1 : Nat) : Int) := by
  unfold KB at hB; unfold M.Cached.cnt at hB ⊢
  have A : (0 ≤ k ∧ k ≤ KB) ∧ (0 ≤ k + 1 ∧ k + 1 ≤ KB) ∧ (0 ≤ k + 1 + 1 ∧ k + 1 + 1 ≤ KB) ∧ (0 ≤ k + 1 + 1 + 1 ∧ k + 1 + 1 + 1 ≤ KB) ∧ (0 ≤ k + 1 + 1 + 1 + 1 ∧ k + 1 + 1 + 1 + 1 ≤ KB) ∧ (0 ≤ k + 1 + 1 + 1 + 1 + 1 ∧ k + 1 + 1 + 1 + 1 + 1 ≤ KB) ∧ (0 ≤ k + 1 + 1 + 1 + 1 + 1 + ((x.Response.Body.length : Nat) : Int) ∧ k + 1 + 1 + 1 + 1 + 1 + ((x.Response.Body.length : Nat) : Int) ≤ KB) ∧ (0 ≤ k + 1 + 1 + 1 + 1 + 1 + ((x.Response.Body.length : Nat) : Int) + 1 ∧ k + 1 + 1 + 1 + 1 + 1 + ((x.Response.Body.length : Nat) : Int) + 1 ≤ KB) := by
    unfold KB
    refine ⟨?_, ?_, ?_, ?_, ?_, ?_, ?_, ?_⟩ <;> omega
  have hE : k + 1 + 1 + 1 + 1 + 1 + ((x.Response.Body.length : Nat) : Int) + 1 = k + ((M.Cached.cnt x : Nat) : Int) := by unfold M.Cached.cnt; omega
  unfold M.Cached.cnt at hE
  obtain ⟨q0, q1, q2, q3, q4, q5, q6, q7⟩ := A
  have t0 : aG (k) = some (mtx (k)) := mt q0.1 (Int.lt_of_add_one_le q1.2)
  have w0 := wk2 q0
  have t1 : aG (k + 1) = some (mtx (k + 1)) := mt q1.1 (Int.lt_of_add_one_le q2.2)
  have w1 := wk2 q1
  have w2 := wk2 q2
  have w3 := wk2 q3
  have w4 := wk2 q4
  obtain ⟨y1, a1, b1, _⟩ := M.aB6.gV _ hx.Response.Body (k + 1 + 1 + 1 + 1 + 1) q5.1 q6.2
  have d1 : (decide (k + 1 + 1 + 1 + 1 + 1 + ((x.Response.Body.length : Nat) : Int) < 0)) = false := dk q6.1
  have w6 := wk2 q6
  refine ⟨⟨(mtx (k)), (mtx (k + 1)), ⟨k + 1 + 1, k + 1 + 1 + 1, k + 1 + 1 + 1 + 1, y1, ((Int.tmod (k + 1 + 1 + 1 + 1 + 1 + ((x.Response.Body.length : Nat) : Int)) 3) == 0)⟩⟩, fun n pre post hl => ?_, fun n l i hi hl => ?_⟩
  · have hl' := le_max hl
    have hp : pre.length < 9223372036854775807 := by simp at hl'; omega
    simp only [cN]
    rw [if_pos (zZ pre post x)]
    simp (maxSteps := 2000000) only [rD, rE, Option.bind_some, bD hp, t0, w0, t1, w1, w2, w3, w4, a1, w6]
    rw [hE]
  · have hl' := le_max hl
    have hp : i < 9223372036854775807 := by have := (List.getElem?_eq_some_iff.1 hi).1; omega
    simp only [dI]
    rw [if_pos (aCD hi)]
    simp (maxSteps := 2000000) only [aAG hi, Option.bind_some, bD hp, t0, w0, t1, w1, w2, w3, w4, b1, d1, w6, bne_self_eq_false, beq_self_eq_true, Bool.not_true, Bool.false_eq_true, if_false]
    rw [hE]
theorem M.aB8.gV (xs : List M.Cached) (hx : (xs.length ≤ maxLen ∧ ∀ y ∈ xs, M.Cached.ok y)) (k : Int) (h0 : 0 ≤ k) (hB : k + ((aD M.Cached.cnt xs : Nat) : Int) ≤ KB) : ∃ ys, oK xs k = some (ys, k + ((aD M.Cached.cnt xs : Nat) : Int)) ∧ nM ys k = some (k + ((aD M.Cached.cnt xs : Nat) : Int)) ∧ ys.length = xs.length := by
  have hm := le_max hx.1
  obtain ⟨ys, h1, h2, h3⟩ := kF (ML := cN) (HL := dI) (c := M.Cached.cnt) (ok := M.Cached.ok) (fun x hx k h0 hB => M.Cached.oN x hx k h0 hB) (fun n k l => by simp only [cN]; rw [if_neg (by rw [aP]; simp)]) (fun n k l => by simp only [dI]; rw [if_neg (by rw [aP]; simp)]) xs [] fuel k (by simpa using hx.1) (by unfold fuel; omega) hx.2 h0 hB
  refine ⟨ys, by unfold oK; simpa using h2, by unfold nM; simpa using h3 fuel (by unfold fuel; omega), h1⟩
def M.Cache.cnt (x : M.Cache) : Nat := 1 + (aD M.Cached.cnt x.Entries)
set_option maxHeartbeats 4000000 in
theorem M.Cache.oN (x : M.Cache) (hx : M.Cache.ok x) (k : Int) (h0 : 0 ≤ k) (hB : k + ((M.Cache.cnt x : Nat) : Int) ≤ KB) : ∃ x' : M.Cache, (∀ n (pre post : List M.Cache), (pre ++ x :: post).length ≤ maxLen → cY (n + 1) k pre.length (pre ++ x :: post) = cY n (k + ((M.Cache.cnt x : Nat) : Int)) ((pre.length + 1 : Nat) : Int) (pre ++ x' :: post)) ∧ ∀ n (l : List M.Cache) (i : Nat), l[i]? = some x' → l.length ≤ maxLen → eB l (n + 1) k i = eB l n (k + ((M.Cache.cnt x : Nat) : Int)) ((i + 1 : Nat) : Int) := by
  unfold KB at hB; unfold M.Cache.cnt at hB ⊢
  have A : (0 ≤ k ∧ k ≤ KB) ∧ (0 ≤ k + 1 ∧ k + 1 ≤ KB) ∧ (0 ≤ k + 1 + ((aD M.Cached.cnt x.Entries : Nat) : Int) ∧ k + 1 + ((aD M.Cached.cnt x.Entries : Nat) : Int) ≤ KB) := by
    unfold KB
    refine ⟨?_, ?_, ?_⟩ <;> omega
  have hE : k + 1 + ((aD M.Cached.cnt x.Entries : Nat) : Int) = k + ((M.Cache.cnt x : Nat) : Int) := by unfold M.Cache.cnt; omega
  unfold M.Cache.cnt at hE
  obtain ⟨q0, q1, q2⟩ := A
  have w0 := wk2 q0
  obtain ⟨y1, a1, b1, _⟩ := M.aB8.gV _ hx.Entries (k + 1) q1.1 q2.2
  have d1 : (decide (k + 1 + ((aD M.Cached.cnt x.Entries : Nat) : Int) < 0)) = false := dk q2.1
  refine ⟨⟨k, y1⟩, fun n pre post hl => ?_, fun n l i hi hl => ?_⟩
  · have hl' := le_max hl
    have hp : pre.length < 9223372036854775807 := by simp at hl'; omega
    simp only [cY]
    rw [if_pos (zZ pre post x)]
    simp (maxSteps := 2000000) only [rD, rE, Option.bind_some, bD hp, w0, a1]
    rw [hE]
  · have hl' := le_max hl
    have hp : i < 9223372036854775807 := by have := (List.getElem?_eq_some_iff.1 hi).1; omega
    simp only [eB]
    rw [if_pos (aCD hi)]
    simp (maxSteps := 2000000) only [aAG hi, Option.bind_some, bD hp, w0, b1, d1, bne_self_eq_false, beq_self_eq_true, Bool.not_true, Bool.false_eq_true, if_false]
    rw [hE]
theorem M.aD8.gV (xs : List M.Cache) (hx : (xs.length ≤ maxLen ∧ ∀ y ∈ xs, M.Cache.ok y)) (k : Int) (h0 : 0 ≤ k) (hB : k + ((aD M.Cache.cnt xs : Nat) : Int) ≤ KB) : ∃ ys, qU xs k = some (ys, k + ((aD M.Cache.cnt xs : Nat) : Int)) ∧ qM ys k = some (k + ((aD M.Cache.cnt xs : Nat) : Int)) ∧ ys.length = xs.length := by
  have hm := le_max hx.1
  obtain ⟨ys, h1, h2, h3⟩ := kF (ML := cY) (HL := eB) (c := M.Cache.cnt) (ok := M.Cache.ok) (fun x hx k h0 hB => M.Cache.oN x hx k h0 hB) (fun n k l => by simp only [cY]; rw [if_neg (by rw [aP]; simp)]) (fun n k l => by simp only [eB]; rw [if_neg (by rw [aP]; simp)]) xs [] fuel k (by simpa using hx.1) (by unfold fuel; omega) hx.2 h0 hB
  refine ⟨ys, by unfold qU; simpa using h2, by unfold qM; simpa using h3 fuel (by unfold fuel; omega), h1⟩
def M.Field.cnt (x : M.Field) : Nat := 2
set_option maxHeartbeats 4000000 in
theorem M.Field.oN (x : M.Field) (hx : M.Field.ok x) (k : Int) (h0 : 0 ≤ k) (hB : k + ((M.Field.cnt x : Nat) : Int) ≤ KB) : ∃ x' : M.Field, (∀ n (pre post : List M.Field), (pre ++ x :: post).length ≤ maxLen → cZ (n + 1) k pre.length (pre ++ x :: post) = cZ n (k + ((M.Field.cnt x : Nat) : Int)) ((pre.length + 1 : Nat) : Int) (pre ++ x' :: post)) ∧ ∀ n (l : List M.Field) (i : Nat), l[i]? = some x' → l.length ≤ maxLen → eK l (n + 1) k i = eK l n (k + ((M.Field.cnt x : Nat) : Int)) ((i + 1 : Nat) : Int) := by
  unfold KB at hB; unfold M.Field.cnt at hB ⊢
  have A : (0 ≤ k ∧ k ≤ KB) ∧ (0 ≤ k + 1 ∧ k + 1 ≤ KB) ∧ (0 ≤ k + 1 + 1 ∧ k + 1 + 1 ≤ KB) := by
    unfold KB
    refine ⟨?_, ?_, ?_⟩ <;> omega
  have hE : k + 1 + 1 = k + ((M.Field.cnt x : Nat) : Int) := by unfold M.Field.cnt; omega
  unfold M.Field.cnt at hE
  obtain ⟨q0, q1, q2⟩ := A
  have t0 : aG (k) = some (mtx (k)) := mt q0.1 (Int.lt_of_add_one_le q1.2)
  have w0 := wk2 q0
  have w1 := wk2 q1
  refine ⟨⟨(mtx (k)), k + 1⟩, fun n pre post hl => ?_, fun n l i hi hl => ?_⟩
  · have hl' := le_max hl
    have hp : pre.length < 9223372036854775807 := by simp at hl'; omega
    simp only [cZ]
    rw [if_pos (zZ pre post x)]
    simp (maxSteps := 2000000) only [rD, rE, Option.bind_some, bD hp, t0, w0, w1]
    rw [hE]
  · have hl' := le_max hl
    have hp : i < 9223372036854775807 := by have := (List.getElem?_eq_some_iff.1 hi).1; omega
    simp only [eK]
    rw [if_pos (aCD hi)]
    simp (maxSteps := 2000000) only [aAG hi, Option.bind_some, bD hp, t0, w0, w1, bne_self_eq_false, beq_self_eq_true, Bool.not_true, Bool.false_eq_true, if_false]
    rw [hE]
theorem M.aDh.gV (xs : List M.Field) (hx : (xs.length ≤ maxLen ∧ ∀ y ∈ xs, M.Field.ok y)) (k : Int) (h0 : 0 ≤ k) (hB : k + ((aD M.Field.cnt xs : Nat) : Int) ≤ KB) : ∃ ys, qD xs k = some (ys, k + ((aD M.Field.cnt xs : Nat) : Int)) ∧ pT ys k = some (k + ((aD M.Field.cnt xs : Nat) : Int)) ∧ ys.length = xs.length := by
  have hm := le_max hx.1
  obtain ⟨ys, h1, h2, h3⟩ := kF (ML := cZ) (HL := eK) (c := M.Field.cnt) (ok := M.Field.ok) (fun x hx k h0 hB => M.Field.oN x hx k h0 hB) (fun n k l => by simp only [cZ]; rw [if_neg (by rw [aP]; simp)]) (fun n k l => by simp only [eK]; rw [if_neg (by rw [aP]; simp)]) xs [] fuel k (by simpa using hx.1) (by unfold fuel; omega) hx.2 h0 hB
  refine ⟨ys, by unfold qD; simpa using h2, by unfold pT; simpa using h3 fuel (by unfold fuel; omega), h1⟩
def M.Item.cnt (x : M.Item) : Nat := 3 + (aD M.Field.cnt x.aU.Fields)
set_option maxHeartbeats 4000000 in
theorem M.Item.oN (x : M.Item) (hx : M.Item.ok x) (k : Int) (h0 : 0 ≤ k) (hB : k + ((M.Item.cnt x : Nat) : Int) ≤ KB) : ∃ x' : M.Item, (∀ n (pre post : List M.Item), (pre ++ x :: post).length ≤ maxLen → dU (n + 1) k pre.length (pre ++ x :: post) = dU n (k + ((M.Item.cnt x : Nat) : Int)) ((pre.length + 1 : Nat) : Int) (pre ++ x' :: post)) ∧ ∀ n (l : List M.Item) (i : Nat), l[i]? = some x' → l.length ≤ maxLen → eX l (n + 1) k i = eX l n (k + ((M.Item.cnt x : Nat) : Int)) ((i + 1 : Nat) : Int) := by
  unfold KB at hB; unfold M.Item.cnt at hB ⊢
  have A : (0 ≤ k ∧ k ≤ KB) ∧ (0 ≤ k + 1 ∧ k + 1 ≤ KB) ∧ (0 ≤ k + 1 + 1 ∧ k + 1 + 1 ≤ KB) ∧ (0 ≤ k + 1 + 1 + 1 ∧ k + 1 + 1 + 1 ≤ KB) ∧ (0 ≤ k + 1 + 1 + 1 + ((aD M.Field.cnt x.aU.Fields : Nat) : Int) ∧ k + 1 + 1 + 1 + ((aD M.Field.cnt x.aU.Fields : Nat) : Int) ≤ KB) := by
    unfold KB
    refine ⟨?_, ?_, ?_, ?_, ?_⟩ <;> omega
  have hE : k + 1 + 1 + 1 + ((aD M.Field.cnt x.aU.Fields : Nat) : Int) = k + ((M.Item.cnt x : Nat) : Int) := by unfold M.Item.cnt; omega
  unfold M.Item.cnt at hE
  obtain ⟨q0, q1, q2, q3, q4⟩ := A
  have w0 := wk2 q0
  have w1 := wk2 q1
  have t2 : aG (k + 1 + 1) = some (mtx (k + 1 + 1)) := mt q2.1 (Int.lt_of_add_one_le q3.2)
  have w2 := wk2 q2
  obtain ⟨y1, a1, b1, _⟩ := M.aDh.gV _ hx.aU.Fields (k + 1 + 1 + 1) q3.1 q4.2
  have d1 : (decide (k + 1 + 1 + 1 + ((aD M.Field.cnt x.aU.Fields : Nat) : Int) < 0)) = false := dk q4.1
  refine ⟨⟨⟨k, k + 1, (mtx (k + 1 + 1))⟩, ⟨y1⟩⟩, fun n pre post hl => ?_, fun n l i hi hl => ?_⟩
  · have hl' := le_max hl
    have hp : pre.length < 9223372036854775807 := by simp at hl'; omega
    simp only [dU]
    rw [if_pos (zZ pre post x)]
    simp (maxSteps := 2000000) only [rD, rE, Option.bind_some, bD hp, w0, w1, t2, w2, a1]
    rw [hE]
  · have hl' := le_max hl
    have hp : i < 9223372036854775807 := by have := (List.getElem?_eq_some_iff.1 hi).1; omega
    simp only [eX]
    rw [if_pos (aCD hi)]
    simp (maxSteps := 2000000) only [aAG hi, Option.bind_some, bD hp, w0, w1, t2, w2, b1, d1, bne_self_eq_false, beq_self_eq_true, Bool.not_true, Bool.false_eq_true, if_false]
    rw [hE]
theorem M.aEx.gV (xs : List M.Item) (hx : (xs.length ≤ maxLen ∧ ∀ y ∈ xs, M.Item.ok y)) (k : Int) (h0 : 0 ≤ k) (hB : k + ((aD M.Item.cnt xs : Nat) : Int) ≤ KB) : ∃ ys, kT xs k = some (ys, k + ((aD M.Item.cnt xs : Nat) : Int)) ∧ kQ ys k = some (k + ((aD M.Item.cnt xs : Nat) : Int)) ∧ ys.length = xs.length := by
  have hm := le_max hx.1
  obtain ⟨ys, h1, h2, h3⟩ := kF (ML := dU) (HL := eX) (c := M.Item.cnt) (ok := M.Item.ok) (fun x hx k h0 hB => M.Item.oN x hx k h0 hB) (fun n k l => by simp only [dU]; rw [if_neg (by rw [aP]; simp)]) (fun n k l => by simp only [eX]; rw [if_neg (by rw [aP]; simp)]) xs [] fuel k (by simpa using hx.1) (by unfold fuel; omega) hx.2 h0 hB
  refine ⟨ys, by unfold kT; simpa using h2, by unfold kQ; simpa using h3 fuel (by unfold fuel; omega), h1⟩
def M.aH.cnt (x : M.aH) : Nat := 2 + (aD M.Item.cnt x.Items)
set_option maxHeartbeats 4000000 in
theorem M.aH.oN (x : M.aH) (hx : M.aH.ok x) (k : Int) (h0 : 0 ≤ k) (hB : k + ((M.aH.cnt x : Nat) : Int) ≤ KB) : ∃ x' : M.aH, (∀ n (pre post : List M.aH), (pre ++ x :: post).length ≤ maxLen → cU (n + 1) k pre.length (pre ++ x :: post) = cU n (k + ((M.aH.cnt x : Nat) : Int)) ((pre.length + 1 : Nat) : Int) (pre ++ x' :: post)) ∧ ∀ n (l : List M.aH) (i : Nat), l[i]? = some x' → l.length ≤ maxLen → eH l (n + 1) k i = eH l n (k + ((M.aH.cnt x : Nat) : Int)) ((i + 1 : Nat) : Int) := by
  unfold KB at hB; unfold M.aH.cnt at hB ⊢
  have A : (0 ≤ k ∧ k ≤ KB) ∧ (0 ≤ k + 1 ∧ k + 1 ≤ KB) ∧ (0 ≤ k + 1 + ((aD M.Item.cnt x.Items : Nat) : Int) ∧ k + 1 + ((aD M.Item.cnt x.Items : Nat) : Int) ≤ KB) ∧ (0 ≤ k + 1 + ((aD M.Item.cnt x.Items : Nat) : Int) + 1 ∧ k + 1 + ((aD M.Item.cnt x.Items : Nat) : Int) + 1 ≤ KB) := by
    unfold KB
    refine ⟨?_, ?_, ?_, ?_⟩ <;> omega
  have hE : k + 1 + ((aD M.Item.cnt x.Items : Nat) : Int) + 1 = k + ((M.aH.cnt x : Nat) : Int) := by unfold M.aH.cnt; omega
  unfold M.aH.cnt at hE
  obtain ⟨q0, q1, q2, q3⟩ := A
  have t0 : aG (k) = some (mtx (k)) := mt q0.1 (Int.lt_of_add_one_le q1.2)
  have w0 := wk2 q0
  obtain ⟨y1, a1, b1, _⟩ := M.aEx.gV _ hx.Items (k + 1) q1.1 q2.2
  have d1 : (decide (k + 1 + ((aD M.Item.cnt x.Items : Nat) : Int) < 0)) = false := dk q2.1
  have w2 := wk2 q2
  refine ⟨⟨(mtx (k)), y1, k + 1 + ((aD M.Item.cnt x.Items : Nat) : Int)⟩, fun n pre post hl => ?_, fun n l i hi hl => ?_⟩
  · have hl' := le_max hl
    have hp : pre.length < 9223372036854775807 := by simp at hl'; omega
    simp only [cU]
    rw [if_pos (zZ pre post x)]
    simp (maxSteps := 2000000) only [rD, rE, Option.bind_some, bD hp, t0, w0, a1, w2]
    rw [hE]
  · have hl' := le_max hl
    have hp : i < 9223372036854775807 := by have := (List.getElem?_eq_some_iff.1 hi).1; omega
    simp only [eH]
    rw [if_pos (aCD hi)]
    simp (maxSteps := 2000000) only [aAG hi, Option.bind_some, bD hp, t0, w0, b1, d1, w2, bne_self_eq_false, beq_self_eq_true, Bool.not_true, Bool.false_eq_true, if_false]
    rw [hE]
theorem M.aDa.gV (xs : List M.aH) (hx : (xs.length ≤ maxLen ∧ ∀ y ∈ xs, M.aH.ok y)) (k : Int) (h0 : 0 ≤ k) (hB : k + ((aD M.aH.cnt xs : Nat) : Int) ≤ KB) : ∃ ys, qA xs k = some (ys, k + ((aD M.aH.cnt xs : Nat) : Int)) ∧ pN ys k = some (k + ((aD M.aH.cnt xs : Nat) : Int)) ∧ ys.length = xs.length := by
  have hm := le_max hx.1
  obtain ⟨ys, h1, h2, h3⟩ := kF (ML := cU) (HL := eH) (c := M.aH.cnt) (ok := M.aH.ok) (fun x hx k h0 hB => M.aH.oN x hx k h0 hB) (fun n k l => by simp only [cU]; rw [if_neg (by rw [aP]; simp)]) (fun n k l => by simp only [eH]; rw [if_neg (by rw [aP]; simp)]) xs [] fuel k (by simpa using hx.1) (by unfold fuel; omega) hx.2 h0 hB
  refine ⟨ys, by unfold qA; simpa using h2, by unfold pN; simpa using h3 fuel (by unfold fuel; omega), h1⟩
def M.aA.cnt (x : M.aA) : Nat := 2
set_option maxHeartbeats 4000000 in
theorem M.aA.oN (x : M.aA) (hx : M.aA.ok x) (k : Int) (h0 : 0 ≤ k) (hB : k + ((M.aA.cnt x : Nat) : Int) ≤ KB) : ∃ x' : M.aA, (∀ n (pre post : List M.aA), (pre ++ x :: post).length ≤ maxLen → bT (n + 1) k pre.length (pre ++ x :: post) = bT n (k + ((M.aA.cnt x : Nat) : Int)) ((pre.length + 1 : Nat) : Int) (pre ++ x' :: post)) ∧ ∀ n (l : List M.aA) (i : Nat), l[i]? = some x' → l.length ≤ maxLen → cD l (n + 1) k i = cD l n (k + ((M.aA.cnt x : Nat) : Int)) ((i + 1 : Nat) : Int) := by
  unfold KB at hB; unfold M.aA.cnt at hB ⊢
  have A : (0 ≤ k ∧ k ≤ KB) ∧ (0 ≤ k + 1 ∧ k + 1 ≤ KB) ∧ (0 ≤ k + 1 + 1 ∧ k + 1 + 1 ≤ KB) := by
    unfold KB
    refine ⟨?_, ?_, ?_⟩ <;> omega
  have hE : k + 1 + 1 = k + ((M.aA.cnt x : Nat) : Int) := by unfold M.aA.cnt; omega
  unfold M.aA.cnt at hE
  obtain ⟨q0, q1, q2⟩ := A
  have t0 : aG (k) = some (mtx (k)) := mt q0.1 (Int.lt_of_add_one_le q1.2)
  have w0 := wk2 q0
  have t1 : aG (k + 1) = some (mtx (k + 1)) := mt q1.1 (Int.lt_of_add_one_le q2.2)
  have w1 := wk2 q1
  refine ⟨⟨(mtx (k)), (mtx (k + 1))⟩, fun n pre post hl => ?_, fun n l i hi hl => ?_⟩
  · have hl' := le_max hl
    have hp : pre.length < 9223372036854775807 := by simp at hl'; omega
    simp only [bT]
    rw [if_pos (zZ pre post x)]
    simp (maxSteps := 2000000) only [rD, rE, Option.bind_some, bD hp, t0, w0, t1, w1]
    rw [hE]
  · have hl' := le_max hl
    have hp : i < 9223372036854775807 := by have := (List.getElem?_eq_some_iff.1 hi).1; omega
    simp only [cD]
    rw [if_pos (aCD hi)]
    simp (maxSteps := 2000000) only [aAG hi, Option.bind_some, bD hp, t0, w0, t1, w1, bne_self_eq_false, beq_self_eq_true, Bool.not_true, Bool.false_eq_true, if_false]
    rw [hE]
theorem M.zO.gV (xs : List M.aA) (hx : (xs.length ≤ maxLen ∧ ∀ y ∈ xs, M.aA.ok y)) (k : Int) (h0 : 0 ≤ k) (hB : k + ((aD M.aA.cnt xs : Nat) : Int) ≤ KB) : ∃ ys, kW xs k = some (ys, k + ((aD M.aA.cnt xs : Nat) : Int)) ∧ kV ys k = some (k + ((aD M.aA.cnt xs : Nat) : Int)) ∧ ys.length = xs.length := by
  have hm := le_max hx.1
  obtain ⟨ys, h1, h2, h3⟩ := kF (ML := bT) (HL := cD) (c := M.aA.cnt) (ok := M.aA.ok) (fun x hx k h0 hB => M.aA.oN x hx k h0 hB) (fun n k l => by simp only [bT]; rw [if_neg (by rw [aP]; simp)]) (fun n k l => by simp only [cD]; rw [if_neg (by rw [aP]; simp)]) xs [] fuel k (by simpa using hx.1) (by unfold fuel; omega) hx.2 h0 hB
  refine ⟨ys, by unfold kW; simpa using h2, by unfold kV; simpa using h3 fuel (by unfold fuel; omega), h1⟩
def M.aW.cnt (x : M.aW) : Nat := 7
set_option maxHeartbeats 4000000 in
theorem M.aW.oN (x : M.aW) (hx : M.aW.ok x) (k : Int) (h0 : 0 ≤ k) (hB : k + ((M.aW.cnt x : Nat) : Int) ≤ KB) : ∃ x' : M.aW, (∀ n (pre post : List M.aW), (pre ++ x :: post).length ≤ maxLen → cX (n + 1) k pre.length (pre ++ x :: post) = cX n (k + ((M.aW.cnt x : Nat) : Int)) ((pre.length + 1 : Nat) : Int) (pre ++ x' :: post)) ∧ ∀ n (l : List M.aW) (i : Nat), l[i]? = some x' → l.length ≤ maxLen → eL l (n + 1) k i = eL l n (k + ((M.aW.cnt x : Nat) : Int)) ((i + 1 : Nat) : Int) := by
  unfold KB at hB; unfold M.aW.cnt at hB ⊢
  have A : (0 ≤ k ∧ k ≤ KB) ∧ (0 ≤ k + 1 ∧ k + 1 ≤ KB) ∧ (0 ≤ k + 1 + 1 ∧ k + 1 + 1 ≤ KB) ∧ (0 ≤ k + 1 + 1 + 1 ∧ k + 1 + 1 + 1 ≤ KB) ∧ (0 ≤ k + 1 + 1 + 1 + 1 ∧ k + 1 + 1 + 1 + 1 ≤ KB) ∧ (0 ≤ k + 1 + 1 + 1 + 1 + 1 ∧ k + 1 + 1 + 1 + 1 + 1 ≤ KB) ∧ (0 ≤ k + 1 + 1 + 1 + 1 + 1 + 1 ∧ k + 1 + 1 + 1 + 1 + 1 + 1 ≤ KB) ∧ (0 ≤ k + 1 + 1 + 1 + 1 + 1 + 1 + 1 ∧ k + 1 + 1 + 1 + 1 + 1 + 1 + 1 ≤ KB) := by
    unfold KB
    refine ⟨?_, ?_, ?_, ?_, ?_, ?_, ?_, ?_⟩ <;> omega
  have hE : k + 1 + 1 + 1 + 1 + 1 + 1 + 1 = k + ((M.aW.cnt x : Nat) : Int) := by unfold M.aW.cnt; omega
  unfold M.aW.cnt at hE
  obtain ⟨q0, q1, q2, q3, q4, q5, q6, q7⟩ := A
  have w0 := wk2 q0
  have w1 := wk2 q1
  have w2 := wk2 q2
  have w3 := wk2 q3
  have t4 : aG (k + 1 + 1 + 1 + 1) = some (mtx (k + 1 + 1 + 1 + 1)) := mt q4.1 (Int.lt_of_add_one_le q5.2)
  have w4 := wk2 q4
  have t5 : aG (k + 1 + 1 + 1 + 1 + 1) = some (mtx (k + 1 + 1 + 1 + 1 + 1)) := mt q5.1 (Int.lt_of_add_one_le q6.2)
  have w5 := wk2 q5
  have w6 := wk2 q6
  refine ⟨⟨k, k + 1, ⟨k + 1 + 1, k + 1 + 1 + 1, (mtx (k + 1 + 1 + 1 + 1))⟩, (mtx (k + 1 + 1 + 1 + 1 + 1)), k + 1 + 1 + 1 + 1 + 1 + 1⟩, fun n pre post hl => ?_, fun n l i hi hl => ?_⟩
  · have hl' := le_max hl
    have hp : pre.length < 9223372036854775807 := by simp at hl'; omega
    simp only [cX]
    rw [if_pos (zZ pre post x)]
    simp (maxSteps := 2000000) only [rD, rE, Option.bind_some, bD hp, w0, w1, w2, w3, t4, w4, t5, w5, w6]
    rw [hE]
  · have hl' := le_max hl
    have hp : i < 9223372036854775807 := by have := (List.getElem?_eq_some_iff.1 hi).1; omega
    simp only [eL]
    rw [if_pos (aCD hi)]
    simp (maxSteps := 2000000) only [aAG hi, Option.bind_some, bD hp, w0, w1, w2, w3, t4, w4, t5, w5, w6, bne_self_eq_false, beq_self_eq_true, Bool.not_true, Bool.false_eq_true, if_false]
    rw [hE]
theorem M.aBk.gV (xs : List M.aW) (hx : (xs.length ≤ maxLen ∧ ∀ y ∈ xs, M.aW.ok y)) (k : Int) (h0 : 0 ≤ k) (hB : k + ((aD M.aW.cnt xs : Nat) : Int) ≤ KB) : ∃ ys, lO xs k = some (ys, k + ((aD M.aW.cnt xs : Nat) : Int)) ∧ lN ys k = some (k + ((aD M.aW.cnt xs : Nat) : Int)) ∧ ys.length = xs.length := by
  have hm := le_max hx.1
  obtain ⟨ys, h1, h2, h3⟩ := kF (ML := cX) (HL := eL) (c := M.aW.cnt) (ok := M.aW.ok) (fun x hx k h0 hB => M.aW.oN x hx k h0 hB) (fun n k l => by simp only [cX]; rw [if_neg (by rw [aP]; simp)]) (fun n k l => by simp only [eL]; rw [if_neg (by rw [aP]; simp)]) xs [] fuel k (by simpa using hx.1) (by unfold fuel; omega) hx.2 h0 hB
  refine ⟨ys, by unfold lO; simpa using h2, by unfold lN; simpa using h3 fuel (by unfold fuel; omega), h1⟩
def M.aE.cnt (x : M.aE) : Nat := 18 + (aD M.Cache.cnt x.Caches.Caches) + (aD M.aH.cnt x.bE.Base.Stores) + (aD M.aA.cnt x.bE.Base.Unique) + (x.bE.Log.length) + (aD M.Item.cnt x.aC.Base.Items) + (aD M.aW.cnt x.aC.Sync.aV.Writes)
set_option maxHeartbeats 4000000 in
theorem M.aE.oN (x : M.aE) (hx : M.aE.ok x) (k : Int) (h0 : 0 ≤ k) (hB : k + ((M.aE.cnt x : Nat) : Int) ≤ KB) : ∃ x' : M.aE, (∀ n (pre post : List M.aE), (pre ++ x :: post).length ≤ maxLen → cH (n + 1) k pre.length (pre ++ x :: post) = cH n (k + ((M.aE.cnt x : Nat) : Int)) ((pre.length + 1 : Nat) : Int) (pre ++ x' :: post)) ∧ ∀ n (l : List M.aE) (i : Nat), l[i]? = some x' → l.length ≤ maxLen → cM l (n + 1) k i = cM l n (k + ((M.aE.cnt x : Nat) : Int)) ((i + 1 : Nat) : Int) := by
  unfold KB at hB; unfold M.aE.cnt at hB ⊢
  have A : (0 ≤ k ∧ k ≤ KB) ∧ (0 ≤ k + 1 ∧ k + 1 ≤ KB) ∧ (0 ≤ k + 1 + 1 ∧ k + 1 + 1 ≤ KB) ∧ (0 ≤ k + 1 + 1 + 1 ∧ k + 1 + 1 + 1 ≤ KB) ∧ (0 ≤ k + 1 + 1 + 1 + 1 ∧ k + 1 + 1 + 1 + 1 ≤ KB) ∧ (0 ≤ k + 1 + 1 + 1 + 1 + 1 ∧ k + 1 + 1 + 1 + 1 + 1 ≤ KB) ∧ (0 ≤ k + 1 + 1 + 1 + 1 + 1 + 1 ∧ k + 1 + 1 + 1 + 1 + 1 + 1 ≤ KB) ∧ (0 ≤ k + 1 + 1 + 1 + 1 + 1 + 1 + ((aD M.Cache.cnt x.Caches.Caches : Nat) : Int) ∧ k + 1 + 1 + 1 + 1 + 1 + 1 + ((aD M.Cache.cnt x.Caches.Caches : Nat) : Int) ≤ KB) ∧ (0 ≤ k + 1 + 1 + 1 + 1 + 1 + 1 + ((aD M.Cache.cnt x.Caches.Caches : Nat) : Int) + 1 ∧ k + 1 + 1 + 1 + 1 + 1 + 1 + ((aD M.Cache.cnt x.Caches.Caches : Nat) : Int) + 1 ≤ KB) ∧ (0 ≤ k + 1 + 1 + 1 + 1 + 1 + 1 + ((aD M.Cache.cnt x.Caches.Caches : Nat) : Int) + 1 + 1 ∧ k + 1 + 1 + 1 + 1 + 1 + 1 + ((aD M.Cache.cnt x.Caches.Caches : Nat) : Int) + 1 + 1 ≤ KB) ∧ (0 ≤ k + 1 + 1 + 1 + 1 + 1 + 1 + ((aD M.Cache.cnt x.Caches.Caches : Nat) : Int) + 1 + 1 + ((aD M.aH.cnt x.bE.Base.Stores : Nat) : Int) ∧ k + 1 + 1 + 1 + 1 + 1 + 1 + ((aD M.Cache.cnt x.Caches.Caches : Nat) : Int) + 1 + 1 + ((aD M.aH.cnt x.bE.Base.Stores : Nat) : Int) ≤ KB) ∧ (0 ≤ k + 1 + 1 + 1 + 1 + 1 + 1 + ((aD M.Cache.cnt x.Caches.Caches : Nat) : Int) + 1 + 1 + ((aD M.aH.cnt x.bE.Base.Stores : Nat) : Int) + ((aD M.aA.cnt x.bE.Base.Unique : Nat) : Int) ∧ k + 1 + 1 + 1 + 1 + 1 + 1 + ((aD M.Cache.cnt x.Caches.Caches : Nat) : Int) + 1 + 1 + ((aD M.aH.cnt x.bE.Base.Stores : Nat) : Int) + ((aD M.aA.cnt x.bE.Base.Unique : Nat) : Int) ≤ KB) ∧ (0 ≤ k + 1 + 1 + 1 + 1 + 1 + 1 + ((aD M.Cache.cnt x.Caches.Caches : Nat) : Int) + 1 + 1 + ((aD M.aH.cnt x.bE.Base.Stores : Nat) : Int) + ((aD M.aA.cnt x.bE.Base.Unique : Nat) : Int) + ((x.bE.Log.length : Nat) : Int) ∧ k + 1 + 1 + 1 + 1 + 1 + 1 + ((aD M.Cache.cnt x.Caches.Caches : Nat) : Int) + 1 + 1 + ((aD M.aH.cnt x.bE.Base.Stores : Nat) : Int) + ((aD M.aA.cnt x.bE.Base.Unique : Nat) : Int) + ((x.bE.Log.length : Nat) : Int) ≤ KB) ∧ (0 ≤ k + 1 + 1 + 1 + 1 + 1 + 1 + ((aD M.Cache.cnt x.Caches.Caches : Nat) : Int) + 1 + 1 + ((aD M.aH.cnt x.bE.Base.Stores : Nat) : Int) + ((aD M.aA.cnt x.bE.Base.Unique : Nat) : Int) + ((x.bE.Log.length : Nat) : Int) + 1 ∧ k + 1 + 1 + 1 + 1 + 1 + 1 + ((aD M.Cache.cnt x.Caches.Caches : Nat) : Int) + 1 + 1 + ((aD M.aH.cnt x.bE.Base.Stores : Nat) : Int) + ((aD M.aA.cnt x.bE.Base.Unique : Nat) : Int) + ((x.bE.Log.length : Nat) : Int) + 1 ≤ KB) ∧ (0 ≤ k + 1 + 1 + 1 + 1 + 1 + 1 + ((aD M.Cache.cnt x.Caches.Caches : Nat) : Int) + 1 + 1 + ((aD M.aH.cnt x.bE.Base.Stores : Nat) : Int) + ((aD M.aA.cnt x.bE.Base.Unique : Nat) : Int) + ((x.bE.Log.length : Nat) : Int) + 1 + 1 ∧ k + 1 + 1 + 1 + 1 + 1 + 1 + ((aD M.Cache.cnt x.Caches.Caches : Nat) : Int) + 1 + 1 + ((aD M.aH.cnt x.bE.Base.Stores : Nat) : Int) + ((aD M.aA.cnt x.bE.Base.Unique : Nat) : Int) + ((x.bE.Log.length : Nat) : Int) + 1 + 1 ≤ KB) ∧ (0 ≤ k + 1 + 1 + 1 + 1 + 1 + 1 + ((aD M.Cache.cnt x.Caches.Caches : Nat) : Int) + 1 + 1 + ((aD M.aH.cnt x.bE.Base.Stores : Nat) : Int) + ((aD M.aA.cnt x.bE.Base.Unique : Nat) : Int) + ((x.bE.Log.length : Nat) : Int) + 1 + 1 + ((aD M.Item.cnt x.aC.Base.Items : Nat) : Int) ∧ k + 1 + 1 + 1 + 1 + 1 + 1 + ((aD M.Cache.cnt x.Caches.Caches : Nat) : Int) + 1 + 1 + ((aD M.aH.cnt x.bE.Base.Stores : Nat) : Int) + ((aD M.aA.cnt x.bE.Base.Unique : Nat) : Int) + ((x.bE.Log.length : Nat) : Int) + 1 + 1 + ((aD M.Item.cnt x.aC.Base.Items : Nat) : Int) ≤ KB) ∧ (0 ≤ k + 1 + 1 + 1 + 1 + 1 + 1 + ((aD M.Cache.cnt x.Caches.Caches : Nat) : Int) + 1 + 1 + ((aD M.aH.cnt x.bE.Base.Stores : Nat) : Int) + ((aD M.aA.cnt x.bE.Base.Unique : Nat) : Int) + ((x.bE.Log.length : Nat) : Int) + 1 + 1 + ((aD M.Item.cnt x.aC.Base.Items : Nat) : Int) + 1 ∧ k + 1 + 1 + 1 + 1 + 1 + 1 + ((aD M.Cache.cnt x.Caches.Caches : Nat) : Int) + 1 + 1 + ((aD M.aH.cnt x.bE.Base.Stores : Nat) : Int) + ((aD M.aA.cnt x.bE.Base.Unique : Nat) : Int) + ((x.bE.Log.length : Nat) : Int) + 1 + 1 + ((aD M.Item.cnt x.aC.Base.Items : Nat) : Int) + 1 ≤ KB) ∧ (0 ≤ k + 1 + 1 + 1 + 1 + 1 + 1 + ((aD M.Cache.cnt x.Caches.Caches : Nat) : Int) + 1 + 1 + ((aD M.aH.cnt x.bE.Base.Stores : Nat) : Int) + ((aD M.aA.cnt x.bE.Base.Unique : Nat) : Int) + ((x.bE.Log.length : Nat) : Int) + 1 + 1 + ((aD M.Item.cnt x.aC.Base.Items : Nat) : Int) + 1 + 1 ∧ k + 1 + 1 + 1 + 1 + 1 + 1 + ((aD M.Cache.cnt x.Caches.Caches : Nat) : Int) + 1 + 1 + ((aD M.aH.cnt x.bE.Base.Stores : Nat) : Int) + ((aD M.aA.cnt x.bE.Base.Unique : Nat) : Int) + ((x.bE.Log.length : Nat) : Int) + 1 + 1 + ((aD M.Item.cnt x.aC.Base.Items : Nat) : Int) + 1 + 1 ≤ KB) ∧ (0 ≤ k + 1 + 1 + 1 + 1 + 1 + 1 + ((aD M.Cache.cnt x.Caches.Caches : Nat) : Int) + 1 + 1 + ((aD M.aH.cnt x.bE.Base.Stores : Nat) : Int) + ((aD M.aA.cnt x.bE.Base.Unique : Nat) : Int) + ((x.bE.Log.length : Nat) : Int) + 1 + 1 + ((aD M.Item.cnt x.aC.Base.Items : Nat) : Int) + 1 + 1 + 1 ∧ k + 1 + 1 + 1 + 1 + 1 + 1 + ((aD M.Cache.cnt x.Caches.Caches : Nat) : Int) + 1 + 1 + ((aD M.aH.cnt x.bE.Base.Stores : Nat) : Int) + ((aD M.aA.cnt x.bE.Base.Unique : Nat) : Int) + ((x.bE.Log.length : Nat) : Int) + 1 + 1 + ((aD M.Item.cnt x.aC.Base.Items : Nat) : Int) + 1 + 1 + 1 ≤ KB) ∧ (0 ≤ k + 1 + 1 + 1 + 1 + 1 + 1 + ((aD M.Cache.cnt x.Caches.Caches : Nat) : Int) + 1 + 1 + ((aD M.aH.cnt x.bE.Base.Stores : Nat) : Int) + ((aD M.aA.cnt x.bE.Base.Unique : Nat) : Int) + ((x.bE.Log.length : Nat) : Int) + 1 + 1 + ((aD M.Item.cnt x.aC.Base.Items : Nat) : Int) + 1 + 1 + 1 + 1 ∧ k + 1 + 1 + 1 + 1 + 1 + 1 + ((aD M.Cache.cnt x.Caches.Caches : Nat) : Int) + 1 + 1 + ((aD M.aH.cnt x.bE.Base.Stores : Nat) : Int) + ((aD M.aA.cnt x.bE.Base.Unique : Nat) : Int) + ((x.bE.Log.length : Nat) : Int) + 1 + 1 + ((aD M.Item.cnt x.aC.Base.Items : Nat) : Int) + 1 + 1 + 1 + 1 ≤ KB) ∧ (0 ≤ k + 1 + 1 + 1 + 1 + 1 + 1 + ((aD M.Cache.cnt x.Caches.Caches : Nat) : Int) + 1 + 1 + ((aD M.aH.cnt x.bE.Base.Stores : Nat) : Int) + ((aD M.aA.cnt x.bE.Base.Unique : Nat) : Int) + ((x.bE.Log.length : Nat) : Int) + 1 + 1 + ((aD M.Item.cnt x.aC.Base.Items : Nat) : Int) + 1 + 1 + 1 + 1 + ((aD M.aW.cnt x.aC.Sync.aV.Writes : Nat) : Int) ∧ k + 1 + 1 + 1 + 1 + 1 + 1 + ((aD M.Cache.cnt x.Caches.Caches : Nat) : Int) + 1 + 1 + ((aD M.aH.cnt x.bE.Base.Stores : Nat) : Int) + ((aD M.aA.cnt x.bE.Base.Unique : Nat) : Int) + ((x.bE.Log.length : Nat) : Int) + 1 + 1 + ((aD M.Item.cnt x.aC.Base.Items : Nat) : Int) + 1 + 1 + 1 + 1 + ((aD M.aW.cnt x.aC.Sync.aV.Writes : Nat) : Int) ≤ KB) ∧ (0 ≤ k + 1 + 1 + 1 + 1 + 1 + 1 + ((aD M.Cache.cnt x.Caches.Caches : Nat) : Int) + 1 + 1 + ((aD M.aH.cnt x.bE.Base.Stores : Nat) : Int) + ((aD M.aA.cnt x.bE.Base.Unique : Nat) : Int) + ((x.bE.Log.length : Nat) : Int) + 1 + 1 + ((aD M.Item.cnt x.aC.Base.Items : Nat) : Int) + 1 + 1 + 1 + 1 + ((aD M.aW.cnt x.aC.Sync.aV.Writes : Nat) : Int) + 1 ∧ k + 1 + 1 + 1 + 1 + 1 + 1 + ((aD M.Cache.cnt x.Caches.Caches : Nat) : Int) + 1 + 1 + ((aD M.aH.cnt x.bE.Base.Stores : Nat) : Int) + ((aD M.aA.cnt x.bE.Base.Unique : Nat) : Int) + ((x.bE.Log.length : Nat) : Int) + 1 + 1 + ((aD M.Item.cnt x.aC.Base.Items : Nat) : Int) + 1 + 1 + 1 + 1 + ((aD M.aW.cnt x.aC.Sync.aV.Writes : Nat) : Int) + 1 ≤ KB) ∧ (0 ≤ k + 1 + 1 + 1 + 1 + 1 + 1 + ((aD M.Cache.cnt x.Caches.Caches : Nat) : Int) + 1 + 1 + ((aD M.aH.cnt x.bE.Base.Stores : Nat) : Int) + ((aD M.aA.cnt x.bE.Base.Unique : Nat) : Int) + ((x.bE.Log.length : Nat) : Int) + 1 + 1 + ((aD M.Item.cnt x.aC.Base.Items : Nat) : Int) + 1 + 1 + 1 + 1 + ((aD M.aW.cnt x.aC.Sync.aV.Writes : Nat) : Int) + 1 + 1 ∧ k + 1 + 1 + 1 + 1 + 1 + 1 + ((aD M.Cache.cnt x.Caches.Caches : Nat) : Int) + 1 + 1 + ((aD M.aH.cnt x.bE.Base.Stores : Nat) : Int) + ((aD M.aA.cnt x.bE.Base.Unique : Nat) : Int) + ((x.bE.Log.length : Nat) : Int) + 1 + 1 + ((aD M.Item.cnt x.aC.Base.Items : Nat) : Int) + 1 + 1 + 1 + 1 + ((aD M.aW.cnt x.aC.Sync.aV.Writes : Nat) : Int) + 1 + 1 ≤ KB) ∧ (0 ≤ k + 1 + 1 + 1 + 1 + 1 + 1 + ((aD M.Cache.cnt x.Caches.Caches : Nat) : Int) + 1 + 1 + ((aD M.aH.cnt x.bE.Base.Stores : Nat) : Int) + ((aD M.aA.cnt x.bE.Base.Unique : Nat) : Int) + ((x.bE.Log.length : Nat) : Int) + 1 + 1 + ((aD M.Item.cnt x.aC.Base.Items : Nat) : Int) + 1 + 1 + 1 + 1 + ((aD M.aW.cnt x.aC.Sync.aV.Writes : Nat) : Int) + 1 + 1 + 1 ∧ k + 1 + 1 + 1 + 1 + 1 + 1 + ((aD M.Cache.cnt x.Caches.Caches : Nat) : Int) + 1 + 1 + ((aD M.aH.cnt x.bE.Base.Stores : Nat) : Int) + ((aD M.aA.cnt x.bE.Base.Unique : Nat) : Int) + ((x.bE.Log.length : Nat) : Int) + 1 + 1 + ((aD M.Item.cnt x.aC.Base.Items : Nat) : Int) + 1 + 1 + 1 + 1 + ((aD M.aW.cnt x.aC.Sync.aV.Writes : Nat) : Int) + 1 + 1 + 1 ≤ KB) ∧ (0 ≤ k + 1 + 1 + 1 + 1 + 1 + 1 + ((aD M.Cache.cnt x.Caches.Caches : Nat) : Int) + 1 + 1 + ((aD M.aH.cnt x.bE.Base.Stores : Nat) : Int) + ((aD M.aA.cnt x.bE.Base.Unique : Nat) : Int) + ((x.bE.Log.length : Nat) : Int) + 1 + 1 + ((aD M.Item.cnt x.aC.Base.Items : Nat) : Int) + 1 + 1 + 1 + 1 + ((aD M.aW.cnt x.aC.Sync.aV.Writes : Nat) : Int) + 1 + 1 + 1 + 1 ∧ k + 1 + 1 + 1 + 1 + 1 + 1 + ((aD M.Cache.cnt x.Caches.Caches : Nat) : Int) + 1 + 1 + ((aD M.aH.cnt x.bE.Base.Stores : Nat) : Int) + ((aD M.aA.cnt x.bE.Base.Unique : Nat) : Int) + ((x.bE.Log.length : Nat) : Int) + 1 + 1 + ((aD M.Item.cnt x.aC.Base.Items : Nat) : Int) + 1 + 1 + 1 + 1 + ((aD M.aW.cnt x.aC.Sync.aV.Writes : Nat) : Int) + 1 + 1 + 1 + 1 ≤ KB) := by
    unfold KB
    refine ⟨?_, ?_, ?_, ?_, ?_, ?_, ?_, ?_, ?_, ?_, ?_, ?_, ?_, ?_, ?_, ?_, ?_, ?_, ?_, ?_, ?_, ?_, ?_, ?_, ?_⟩ <;> omega
  have hE : k + 1 + 1 + 1 + 1 + 1 + 1 + ((aD M.Cache.cnt x.Caches.Caches : Nat) : Int) + 1 + 1 + ((aD M.aH.cnt x.bE.Base.Stores : Nat) : Int) + ((aD M.aA.cnt x.bE.Base.Unique : Nat) : Int) + ((x.bE.Log.length : Nat) : Int) + 1 + 1 + ((aD M.Item.cnt x.aC.Base.Items : Nat) : Int) + 1 + 1 + 1 + 1 + ((aD M.aW.cnt x.aC.Sync.aV.Writes : Nat) : Int) + 1 + 1 + 1 + 1 = k + ((M.aE.cnt x : Nat) : Int) := by unfold M.aE.cnt; omega
  unfold M.aE.cnt at hE
  obtain ⟨q0, q1, q2, q3, q4, q5, q6, q7, q8, q9, q10, q11, q12, q13, q14, q15, q16, q17, q18, q19, q20, q21, q22, q23, q24⟩ := A
  have t0 : aG (k) = some (mtx (k)) := mt q0.1 (Int.lt_of_add_one_le q1.2)
  have w0 := wk2 q0
  have t1 : aG (k + 1) = some (mtx (k + 1)) := mt q1.1 (Int.lt_of_add_one_le q2.2)
  have w1 := wk2 q1
  have t2 : aG (k + 1 + 1) = some (mtx (k + 1 + 1)) := mt q2.1 (Int.lt_of_add_one_le q3.2)
  have w2 := wk2 q2
  have w3 := wk2 q3
  have w4 := wk2 q4
  have w5 := wk2 q5
  obtain ⟨y1, a1, b1, _⟩ := M.aD8.gV _ hx.Caches.Caches (k + 1 + 1 + 1 + 1 + 1 + 1) q6.1 q7.2
  have d1 : (decide (k + 1 + 1 + 1 + 1 + 1 + 1 + ((aD M.Cache.cnt x.Caches.Caches : Nat) : Int) < 0)) = false := dk q7.1
  have t7 : aG (k + 1 + 1 + 1 + 1 + 1 + 1 + ((aD M.Cache.cnt x.Caches.Caches : Nat) : Int)) = some (mtx (k + 1 + 1 + 1 + 1 + 1 + 1 + ((aD M.Cache.cnt x.Caches.Caches : Nat) : Int))) := mt q7.1 (Int.lt_of_add_one_le q8.2)
  have w7 := wk2 q7
  have w8 := wk2 q8
  obtain ⟨y2, a2, b2, _⟩ := M.aDa.gV _ hx.bE.Base.Stores (k + 1 + 1 + 1 + 1 + 1 + 1 + ((aD M.Cache.cnt x.Caches.Caches : Nat) : Int) + 1 + 1) q9.1 q10.2
  have d2 : (decide (k + 1 + 1 + 1 + 1 + 1 + 1 + ((aD M.Cache.cnt x.Caches.Caches : Nat) : Int) + 1 + 1 + ((aD M.aH.cnt x.bE.Base.Stores : Nat) : Int) < 0)) = false := dk q10.1
  obtain ⟨y3, a3, b3, _⟩ := M.zO.gV _ hx.bE.Base.Unique (k + 1 + 1 + 1 + 1 + 1 + 1 + ((aD M.Cache.cnt x.Caches.Caches : Nat) : Int) + 1 + 1 + ((aD M.aH.cnt x.bE.Base.Stores : Nat) : Int)) q10.1 q11.2
  have d3 : (decide (k + 1 + 1 + 1 + 1 + 1 + 1 + ((aD M.Cache.cnt x.Caches.Caches : Nat) : Int) + 1 + 1 + ((aD M.aH.cnt x.bE.Base.Stores : Nat) : Int) + ((aD M.aA.cnt x.bE.Base.Unique : Nat) : Int) < 0)) = false := dk q11.1
  obtain ⟨y4, a4, b4, _⟩ := M.aB6.gV _ hx.bE.Log (k + 1 + 1 + 1 + 1 + 1 + 1 + ((aD M.Cache.cnt x.Caches.Caches : Nat) : Int) + 1 + 1 + ((aD M.aH.cnt x.bE.Base.Stores : Nat) : Int) + ((aD M.aA.cnt x.bE.Base.Unique : Nat) : Int)) q11.1 q12.2
  have d4 : (decide (k + 1 + 1 + 1 + 1 + 1 + 1 + ((aD M.Cache.cnt x.Caches.Caches : Nat) : Int) + 1 + 1 + ((aD M.aH.cnt x.bE.Base.Stores : Nat) : Int) + ((aD M.aA.cnt x.bE.Base.Unique : Nat) : Int) + ((x.bE.Log.length : Nat) : Int) < 0)) = false := dk q12.1
  have w12 := wk2 q12
  have t13 : aG (k + 1 + 1 + 1 + 1 + 1 + 1 + ((aD M.Cache.cnt x.Caches.Caches : Nat) : Int) + 1 + 1 + ((aD M.aH.cnt x.bE.Base.Stores : Nat) : Int) + ((aD M.aA.cnt x.bE.Base.Unique : Nat) : Int) + ((x.bE.Log.length : Nat) : Int) + 1) = some (mtx (k + 1 + 1 + 1 + 1 + 1 + 1 + ((aD M.Cache.cnt x.Caches.Caches : Nat) : Int) + 1 + 1 + ((aD M.aH.cnt x.bE.Base.Stores : Nat) : Int) + ((aD M.aA.cnt x.bE.Base.Unique : Nat) : Int) + ((x.bE.Log.length : Nat) : Int) + 1)) := mt q13.1 (Int.lt_of_add_one_le q14.2)
  have w13 := wk2 q13
  obtain ⟨y5, a5, b5, _⟩ := M.aEx.gV _ hx.aC.Base.Items (k + 1 + 1 + 1 + 1 + 1 + 1 + ((aD M.Cache.cnt x.Caches.Caches : Nat) : Int) + 1 + 1 + ((aD M.aH.cnt x.bE.Base.Stores : Nat) : Int) + ((aD M.aA.cnt x.bE.Base.Unique : Nat) : Int) + ((x.bE.Log.length : Nat) : Int) + 1 + 1) q14.1 q15.2
  have d5 : (decide (k + 1 + 1 + 1 + 1 + 1 + 1 + ((aD M.Cache.cnt x.Caches.Caches : Nat) : Int) + 1 + 1 + ((aD M.aH.cnt x.bE.Base.Stores : Nat) : Int) + ((aD M.aA.cnt x.bE.Base.Unique : Nat) : Int) + ((x.bE.Log.length : Nat) : Int) + 1 + 1 + ((aD M.Item.cnt x.aC.Base.Items : Nat) : Int) < 0)) = false := dk q15.1
  have w15 := wk2 q15
  have w16 := wk2 q16
  have w17 := wk2 q17
  have w18 := wk2 q18
  obtain ⟨y6, a6, b6, _⟩ := M.aBk.gV _ hx.aC.Sync.aV.Writes (k + 1 + 1 + 1 + 1 + 1 + 1 + ((aD M.Cache.cnt x.Caches.Caches : Nat) : Int) + 1 + 1 + ((aD M.aH.cnt x.bE.Base.Stores : Nat) : Int) + ((aD M.aA.cnt x.bE.Base.Unique : Nat) : Int) + ((x.bE.Log.length : Nat) : Int) + 1 + 1 + ((aD M.Item.cnt x.aC.Base.Items : Nat) : Int) + 1 + 1 + 1 + 1) q19.1 q20.2
  have d6 : (decide (k + 1 + 1 + 1 + 1 + 1 + 1 + ((aD M.Cache.cnt x.Caches.Caches : Nat) : Int) + 1 + 1 + ((aD M.aH.cnt x.bE.Base.Stores : Nat) : Int) + ((aD M.aA.cnt x.bE.Base.Unique : Nat) : Int) + ((x.bE.Log.length : Nat) : Int) + 1 + 1 + ((aD M.Item.cnt x.aC.Base.Items : Nat) : Int) + 1 + 1 + 1 + 1 + ((aD M.aW.cnt x.aC.Sync.aV.Writes : Nat) : Int) < 0)) = false := dk q20.1
  have w20 := wk2 q20
  have w21 := wk2 q21
  have w22 := wk2 q22
  have w23 := wk2 q23
  refine ⟨⟨(mtx (k)), (mtx (k + 1)), ⟨(mtx (k + 1 + 1)), k + 1 + 1 + 1, k + 1 + 1 + 1 + 1, k + 1 + 1 + 1 + 1 + 1⟩, ⟨y1⟩, ⟨⟨(mtx (k + 1 + 1 + 1 + 1 + 1 + 1 + ((aD M.Cache.cnt x.Caches.Caches : Nat) : Int))), k + 1 + 1 + 1 + 1 + 1 + 1 + ((aD M.Cache.cnt x.Caches.Caches : Nat) : Int) + 1, y2, y3⟩, y4, k + 1 + 1 + 1 + 1 + 1 + 1 + ((aD M.Cache.cnt x.Caches.Caches : Nat) : Int) + 1 + 1 + ((aD M.aH.cnt x.bE.Base.Stores : Nat) : Int) + ((aD M.aA.cnt x.bE.Base.Unique : Nat) : Int) + ((x.bE.Log.length : Nat) : Int)⟩, ⟨⟨(mtx (k + 1 + 1 + 1 + 1 + 1 + 1 + ((aD M.Cache.cnt x.Caches.Caches : Nat) : Int) + 1 + 1 + ((aD M.aH.cnt x.bE.Base.Stores : Nat) : Int) + ((aD M.aA.cnt x.bE.Base.Unique : Nat) : Int) + ((x.bE.Log.length : Nat) : Int) + 1)), y5, k + 1 + 1 + 1 + 1 + 1 + 1 + ((aD M.Cache.cnt x.Caches.Caches : Nat) : Int) + 1 + 1 + ((aD M.aH.cnt x.bE.Base.Stores : Nat) : Int) + ((aD M.aA.cnt x.bE.Base.Unique : Nat) : Int) + ((x.bE.Log.length : Nat) : Int) + 1 + 1 + ((aD M.Item.cnt x.aC.Base.Items : Nat) : Int)⟩, k + 1 + 1 + 1 + 1 + 1 + 1 + ((aD M.Cache.cnt x.Caches.Caches : Nat) : Int) + 1 + 1 + ((aD M.aH.cnt x.bE.Base.Stores : Nat) : Int) + ((aD M.aA.cnt x.bE.Base.Unique : Nat) : Int) + ((x.bE.Log.length : Nat) : Int) + 1 + 1 + ((aD M.Item.cnt x.aC.Base.Items : Nat) : Int) + 1, ⟨⟨k + 1 + 1 + 1 + 1 + 1 + 1 + ((aD M.Cache.cnt x.Caches.Caches : Nat) : Int) + 1 + 1 + ((aD M.aH.cnt x.bE.Base.Stores : Nat) : Int) + ((aD M.aA.cnt x.bE.Base.Unique : Nat) : Int) + ((x.bE.Log.length : Nat) : Int) + 1 + 1 + ((aD M.Item.cnt x.aC.Base.Items : Nat) : Int) + 1 + 1, k + 1 + 1 + 1 + 1 + 1 + 1 + ((aD M.Cache.cnt x.Caches.Caches : Nat) : Int) + 1 + 1 + ((aD M.aH.cnt x.bE.Base.Stores : Nat) : Int) + ((aD M.aA.cnt x.bE.Base.Unique : Nat) : Int) + ((x.bE.Log.length : Nat) : Int) + 1 + 1 + ((aD M.Item.cnt x.aC.Base.Items : Nat) : Int) + 1 + 1 + 1, y6⟩, k + 1 + 1 + 1 + 1 + 1 + 1 + ((aD M.Cache.cnt x.Caches.Caches : Nat) : Int) + 1 + 1 + ((aD M.aH.cnt x.bE.Base.Stores : Nat) : Int) + ((aD M.aA.cnt x.bE.Base.Unique : Nat) : Int) + ((x.bE.Log.length : Nat) : Int) + 1 + 1 + ((aD M.Item.cnt x.aC.Base.Items : Nat) : Int) + 1 + 1 + 1 + 1 + ((aD M.aW.cnt x.aC.Sync.aV.Writes : Nat) : Int), k + 1 + 1 + 1 + 1 + 1 + 1 + ((aD M.Cache.cnt x.Caches.Caches : Nat) : Int) + 1 + 1 + ((aD M.aH.cnt x.bE.Base.Stores : Nat) : Int) + ((aD M.aA.cnt x.bE.Base.Unique : Nat) : Int) + ((x.bE.Log.length : Nat) : Int) + 1 + 1 + ((aD M.Item.cnt x.aC.Base.Items : Nat) : Int) + 1 + 1 + 1 + 1 + ((aD M.aW.cnt x.aC.Sync.aV.Writes : Nat) : Int) + 1⟩⟩, k + 1 + 1 + 1 + 1 + 1 + 1 + ((aD M.Cache.cnt x.Caches.Caches : Nat) : Int) + 1 + 1 + ((aD M.aH.cnt x.bE.Base.Stores : Nat) : Int) + ((aD M.aA.cnt x.bE.Base.Unique : Nat) : Int) + ((x.bE.Log.length : Nat) : Int) + 1 + 1 + ((aD M.Item.cnt x.aC.Base.Items : Nat) : Int) + 1 + 1 + 1 + 1 + ((aD M.aW.cnt x.aC.Sync.aV.Writes : Nat) : Int) + 1 + 1, ((Int.tmod (k + 1 + 1 + 1 + 1 + 1 + 1 + ((aD M.Cache.cnt x.Caches.Caches : Nat) : Int) + 1 + 1 + ((aD M.aH.cnt x.bE.Base.Stores : Nat) : Int) + ((aD M.aA.cnt x.bE.Base.Unique : Nat) : Int) + ((x.bE.Log.length : Nat) : Int) + 1 + 1 + ((aD M.Item.cnt x.aC.Base.Items : Nat) : Int) + 1 + 1 + 1 + 1 + ((aD M.aW.cnt x.aC.Sync.aV.Writes : Nat) : Int) + 1 + 1 + 1) 3) == 0)⟩, fun n pre post hl => ?_, fun n l i hi hl => ?_⟩
  · have hl' := le_max hl
    have hp : pre.length < 9223372036854775807 := by simp at hl'; omega
    simp only [cH]
    rw [if_pos (zZ pre post x)]
    simp (maxSteps := 2000000) only [rD, rE, Option.bind_some, bD hp, t0, w0, t1, w1, t2, w2, w3, w4, w5, a1, t7, w7, w8, a2, a3, a4, w12, t13, w13, a5, w15, w16, w17, w18, a6, w20, w21, w22, w23]
    rw [hE]
  · have hl' := le_max hl
    have hp : i < 9223372036854775807 := by have := (List.getElem?_eq_some_iff.1 hi).1; omega
    simp only [cM]
    rw [if_pos (aCD hi)]
    simp (maxSteps := 2000000) only [aAG hi, Option.bind_some, bD hp, t0, w0, t1, w1, t2, w2, w3, w4, w5, b1, d1, t7, w7, w8, b2, d2, b3, d3, b4, d4, w12, t13, w13, b5, d5, w15, w16, w17, w18, b6, d6, w20, w21, w22, w23, bne_self_eq_false, beq_self_eq_true, Bool.not_true, Bool.false_eq_true, if_false]
    rw [hE]
theorem M.aCC.gV (xs : List M.aE) (hx : (xs.length ≤ maxLen ∧ ∀ y ∈ xs, M.aE.ok y)) (k : Int) (h0 : 0 ≤ k) (hB : k + ((aD M.aE.cnt xs : Nat) : Int) ≤ KB) : ∃ ys, nK xs k = some (ys, k + ((aD M.aE.cnt xs : Nat) : Int)) ∧ nT ys k = some (k + ((aD M.aE.cnt xs : Nat) : Int)) ∧ ys.length = xs.length := by
  have hm := le_max hx.1
  obtain ⟨ys, h1, h2, h3⟩ := kF (ML := cH) (HL := cM) (c := M.aE.cnt) (ok := M.aE.ok) (fun x hx k h0 hB => M.aE.oN x hx k h0 hB) (fun n k l => by simp only [cH]; rw [if_neg (by rw [aP]; simp)]) (fun n k l => by simp only [cM]; rw [if_neg (by rw [aP]; simp)]) xs [] fuel k (by simpa using hx.1) (by unfold fuel; omega) hx.2 h0 hB
  refine ⟨ys, by unfold nK; simpa using h2, by unfold nT; simpa using h3 fuel (by unfold fuel; omega), h1⟩
def M.aN.cnt (x : M.aN) : Nat := 2
set_option maxHeartbeats 4000000 in
theorem M.aN.oN (x : M.aN) (hx : M.aN.ok x) (k : Int) (h0 : 0 ≤ k) (hB : k + ((M.aN.cnt x : Nat) : Int) ≤ KB) : ∃ x' : M.aN, (∀ n (pre post : List M.aN), (pre ++ x :: post).length ≤ maxLen → cF (n + 1) k pre.length (pre ++ x :: post) = cF n (k + ((M.aN.cnt x : Nat) : Int)) ((pre.length + 1 : Nat) : Int) (pre ++ x' :: post)) ∧ ∀ n (l : List M.aN) (i : Nat), l[i]? = some x' → l.length ≤ maxLen → dE l (n + 1) k i = dE l n (k + ((M.aN.cnt x : Nat) : Int)) ((i + 1 : Nat) : Int) := by
  unfold KB at hB; unfold M.aN.cnt at hB ⊢
  have A : (0 ≤ k ∧ k ≤ KB) ∧ (0 ≤ k + 1 ∧ k + 1 ≤ KB) ∧ (0 ≤ k + 1 + 1 ∧ k + 1 + 1 ≤ KB) := by
    unfold KB
    refine ⟨?_, ?_, ?_⟩ <;> omega
  have hE : k + 1 + 1 = k + ((M.aN.cnt x : Nat) : Int) := by unfold M.aN.cnt; omega
  unfold M.aN.cnt at hE
  obtain ⟨q0, q1, q2⟩ := A
  have t0 : aG (k) = some (mtx (k)) := mt q0.1 (Int.lt_of_add_one_le q1.2)
  have w0 := wk2 q0
  have w1 := wk2 q1
  refine ⟨⟨(mtx (k)), k + 1⟩, fun n pre post hl => ?_, fun n l i hi hl => ?_⟩
  · have hl' := le_max hl
    have hp : pre.length < 9223372036854775807 := by simp at hl'; omega
    simp only [cF]
    rw [if_pos (zZ pre post x)]
    simp (maxSteps := 2000000) only [rD, rE, Option.bind_some, bD hp, t0, w0, w1]
    rw [hE]
  · have hl' := le_max hl
    have hp : i < 9223372036854775807 := by have := (List.getElem?_eq_some_iff.1 hi).1; omega
    simp only [dE]
    rw [if_pos (aCD hi)]
    simp (maxSteps := 2000000) only [aAG hi, Option.bind_some, bD hp, t0, w0, w1, bne_self_eq_false, beq_self_eq_true, Bool.not_true, Bool.false_eq_true, if_false]
    rw [hE]
theorem M.aB0.gV (xs : List M.aN) (hx : (xs.length ≤ maxLen ∧ ∀ y ∈ xs, M.aN.ok y)) (k : Int) (h0 : 0 ≤ k) (hB : k + ((aD M.aN.cnt xs : Nat) : Int) ≤ KB) : ∃ ys, nR xs k = some (ys, k + ((aD M.aN.cnt xs : Nat) : Int)) ∧ nC ys k = some (k + ((aD M.aN.cnt xs : Nat) : Int)) ∧ ys.length = xs.length := by
  have hm := le_max hx.1
  obtain ⟨ys, h1, h2, h3⟩ := kF (ML := cF) (HL := dE) (c := M.aN.cnt) (ok := M.aN.ok) (fun x hx k h0 hB => M.aN.oN x hx k h0 hB) (fun n k l => by simp only [cF]; rw [if_neg (by rw [aP]; simp)]) (fun n k l => by simp only [dE]; rw [if_neg (by rw [aP]; simp)]) xs [] fuel k (by simpa using hx.1) (by unfold fuel; omega) hx.2 h0 hB
  refine ⟨ys, by unfold nR; simpa using h2, by unfold nC; simpa using h3 fuel (by unfold fuel; omega), h1⟩
def M.Instr.cnt (x : M.Instr) : Nat := 4
set_option maxHeartbeats 4000000 in
theorem M.Instr.oN (x : M.Instr) (hx : M.Instr.ok x) (k : Int) (h0 : 0 ≤ k) (hB : k + ((M.Instr.cnt x : Nat) : Int) ≤ KB) : ∃ x' : M.Instr, (∀ n (pre post : List M.Instr), (pre ++ x :: post).length ≤ maxLen → cV (n + 1) k pre.length (pre ++ x :: post) = cV n (k + ((M.Instr.cnt x : Nat) : Int)) ((pre.length + 1 : Nat) : Int) (pre ++ x' :: post)) ∧ ∀ n (l : List M.Instr) (i : Nat), l[i]? = some x' → l.length ≤ maxLen → eJ l (n + 1) k i = eJ l n (k + ((M.Instr.cnt x : Nat) : Int)) ((i + 1 : Nat) : Int) := by
  unfold KB at hB; unfold M.Instr.cnt at hB ⊢
  have A : (0 ≤ k ∧ k ≤ KB) ∧ (0 ≤ k + 1 ∧ k + 1 ≤ KB) ∧ (0 ≤ k + 1 + 1 ∧ k + 1 + 1 ≤ KB) ∧ (0 ≤ k + 1 + 1 + 1 ∧ k + 1 + 1 + 1 ≤ KB) ∧ (0 ≤ k + 1 + 1 + 1 + 1 ∧ k + 1 + 1 + 1 + 1 ≤ KB) := by
    unfold KB
    refine ⟨?_, ?_, ?_, ?_, ?_⟩ <;> omega
  have hE : k + 1 + 1 + 1 + 1 = k + ((M.Instr.cnt x : Nat) : Int) := by unfold M.Instr.cnt; omega
  unfold M.Instr.cnt at hE
  obtain ⟨q0, q1, q2, q3, q4⟩ := A
  have w0 := wk2 q0
  have w1 := wk2 q1
  have w2 := wk2 q2
  have t3 : aG (k + 1 + 1 + 1) = some (mtx (k + 1 + 1 + 1)) := mt q3.1 (Int.lt_of_add_one_le q4.2)
  have w3 := wk2 q3
  refine ⟨⟨k, k + 1, k + 1 + 1, (mtx (k + 1 + 1 + 1))⟩, fun n pre post hl => ?_, fun n l i hi hl => ?_⟩
  · have hl' := le_max hl
    have hp : pre.length < 9223372036854775807 := by simp at hl'; omega
    simp only [cV]
    rw [if_pos (zZ pre post x)]
    simp (maxSteps := 2000000) only [rD, rE, Option.bind_some, bD hp, w0, w1, w2, t3, w3]
    rw [hE]
  · have hl' := le_max hl
    have hp : i < 9223372036854775807 := by have := (List.getElem?_eq_some_iff.1 hi).1; omega
    simp only [eJ]
    rw [if_pos (aCD hi)]
    simp (maxSteps := 2000000) only [aAG hi, Option.bind_some, bD hp, w0, w1, w2, t3, w3, bne_self_eq_false, beq_self_eq_true, Bool.not_true, Bool.false_eq_true, if_false]
    rw [hE]
theorem M.aDc.gV (xs : List M.Instr) (hx : (xs.length ≤ maxLen ∧ ∀ y ∈ xs, M.Instr.ok y)) (k : Int) (h0 : 0 ≤ k) (hB : k + ((aD M.Instr.cnt xs : Nat) : Int) ≤ KB) : ∃ ys, qE xs k = some (ys, k + ((aD M.Instr.cnt xs : Nat) : Int)) ∧ pZ ys k = some (k + ((aD M.Instr.cnt xs : Nat) : Int)) ∧ ys.length = xs.length := by
  have hm := le_max hx.1
  obtain ⟨ys, h1, h2, h3⟩ := kF (ML := cV) (HL := eJ) (c := M.Instr.cnt) (ok := M.Instr.ok) (fun x hx k h0 hB => M.Instr.oN x hx k h0 hB) (fun n k l => by simp only [cV]; rw [if_neg (by rw [aP]; simp)]) (fun n k l => by simp only [eJ]; rw [if_neg (by rw [aP]; simp)]) xs [] fuel k (by simpa using hx.1) (by unfold fuel; omega) hx.2 h0 hB
  refine ⟨ys, by unfold qE; simpa using h2, by unfold pZ; simpa using h3 fuel (by unfold fuel; omega), h1⟩
set_option maxHeartbeats 4000000 in
theorem M.aJd.oN (x : Int) (hx : True) (k : Int) (h0 : 0 ≤ k) (hB : k + (((fun _ : Int => 1) x : Nat) : Int) ≤ KB) : ∃ x' : Int, (∀ n (pre post : List Int), (pre ++ x :: post).length ≤ maxLen → eO (n + 1) k pre.length (pre ++ x :: post) = eO n (k + (((fun _ : Int => 1) x : Nat) : Int)) ((pre.length + 1 : Nat) : Int) (pre ++ x' :: post)) ∧ ∀ n (l : List Int) (i : Nat), l[i]? = some x' → l.length ≤ maxLen → fO l (n + 1) k i = fO l n (k + (((fun _ : Int => 1) x : Nat) : Int)) ((i + 1 : Nat) : Int) := by
  unfold KB at hB; (try simp only [] at hB ⊢)
  have A : (0 ≤ k ∧ k ≤ KB) ∧ (0 ≤ k + 1 ∧ k + 1 ≤ KB) := by
    unfold KB
    refine ⟨?_, ?_⟩ <;> omega
  have hE : k + 1 = k + (((fun _ : Int => 1) x : Nat) : Int) := by simp
  obtain ⟨q0, q1⟩ := A
  have w0 := wk2 q0
  refine ⟨k, fun n pre post hl => ?_, fun n l i hi hl => ?_⟩
  · have hl' := le_max hl
    have hp : pre.length < 9223372036854775807 := by simp at hl'; omega
    simp only [eO]
    rw [if_pos (zZ pre post x)]
    simp (maxSteps := 2000000) only [rD, rE, Option.bind_some, bD hp, w0]
    rw [hE]
  · have hl' := le_max hl
    have hp : i < 9223372036854775807 := by have := (List.getElem?_eq_some_iff.1 hi).1; omega
    simp only [fO]
    rw [if_pos (aCD hi)]
    simp (maxSteps := 2000000) only [aAG hi, Option.bind_some, bD hp, w0, bne_self_eq_false, beq_self_eq_true, Bool.not_true, Bool.false_eq_true, if_false]
    rw [hE]
theorem M.aJd.cl (xs : List Int) : aD (fun _ : Int => 1) xs = xs.length := by
  induction xs with
  | nil => rfl
  | cons x xs ih => simp only [aD, ih, List.length_cons]; omega
theorem M.aJd.gV (xs : List Int) (hx : okI xs) (k : Int) (h0 : 0 ≤ k) (hB : k + ((xs.length : Nat) : Int) ≤ KB) : ∃ ys, vD xs k = some (ys, k + ((xs.length : Nat) : Int)) ∧ uM ys k = some (k + ((xs.length : Nat) : Int)) ∧ ys.length = xs.length := by
  have hm := le_max hx.1
  rw [← M.aJd.cl xs] at hB ⊢
  obtain ⟨ys, h1, h2, h3⟩ := kF (ML := eO) (HL := fO) (c := (fun _ : Int => 1)) (ok := (fun _ : Int => True)) (fun x hx k h0 hB => M.aJd.oN x hx k h0 hB) (fun n k l => by simp only [eO]; rw [if_neg (by rw [aP]; simp)]) (fun n k l => by simp only [fO]; rw [if_neg (by rw [aP]; simp)]) xs [] fuel k (by simpa using hx.1) (by unfold fuel; omega) (fun _ _ => trivial) h0 hB
  refine ⟨ys, by unfold vD; simpa using h2, by unfold uM; simpa using h3 fuel (by unfold fuel; omega), by have := M.aJd.cl xs; omega⟩
def M.bG.cnt (x : M.bG) : Nat := 8 + (aD M.aN.cnt x.aN) + (aD M.Instr.cnt x.Machine.Script) + (x.Machine.Regs.length)
set_option maxHeartbeats 4000000 in
theorem M.bG.oN (x : M.bG) (hx : M.bG.ok x) (k : Int) (h0 : 0 ≤ k) (hB : k + ((M.bG.cnt x : Nat) : Int) ≤ KB) : ∃ x' : M.bG, (∀ n (pre post : List M.bG), (pre ++ x :: post).length ≤ maxLen → dQ (n + 1) k pre.length (pre ++ x :: post) = dQ n (k + ((M.bG.cnt x : Nat) : Int)) ((pre.length + 1 : Nat) : Int) (pre ++ x' :: post)) ∧ ∀ n (l : List M.bG) (i : Nat), l[i]? = some x' → l.length ≤ maxLen → dO l (n + 1) k i = dO l n (k + ((M.bG.cnt x : Nat) : Int)) ((i + 1 : Nat) : Int) := by
  unfold KB at hB; unfold M.bG.cnt at hB ⊢
  have A : (0 ≤ k ∧ k ≤ KB) ∧ (0 ≤ k + 1 ∧ k + 1 ≤ KB) ∧ (0 ≤ k + 1 + 1 ∧ k + 1 + 1 ≤ KB) ∧ (0 ≤ k + 1 + 1 + 1 ∧ k + 1 + 1 + 1 ≤ KB) ∧ (0 ≤ k + 1 + 1 + 1 + 1 ∧ k + 1 + 1 + 1 + 1 ≤ KB) ∧ (0 ≤ k + 1 + 1 + 1 + 1 + ((aD M.aN.cnt x.aN : Nat) : Int) ∧ k + 1 + 1 + 1 + 1 + ((aD M.aN.cnt x.aN : Nat) : Int) ≤ KB) ∧ (0 ≤ k + 1 + 1 + 1 + 1 + ((aD M.aN.cnt x.aN : Nat) : Int) + ((aD M.Instr.cnt x.Machine.Script : Nat) : Int) ∧ k + 1 + 1 + 1 + 1 + ((aD M.aN.cnt x.aN : Nat) : Int) + ((aD M.Instr.cnt x.Machine.Script : Nat) : Int) ≤ KB) ∧ (0 ≤ k + 1 + 1 + 1 + 1 + ((aD M.aN.cnt x.aN : Nat) : Int) + ((aD M.Instr.cnt x.Machine.Script : Nat) : Int) + 1 ∧ k + 1 + 1 + 1 + 1 + ((aD M.aN.cnt x.aN : Nat) : Int) + ((aD M.Instr.cnt x.Machine.Script : Nat) : Int) + 1 ≤ KB) ∧ (0 ≤ k + 1 + 1 + 1 + 1 + ((aD M.aN.cnt x.aN : Nat) : Int) + ((aD M.Instr.cnt x.Machine.Script : Nat) : Int) + 1 + ((x.Machine.Regs.length : Nat) : Int) ∧ k + 1 + 1 + 1 + 1 + ((aD M.aN.cnt x.aN : Nat) : Int) + ((aD M.Instr.cnt x.Machine.Script : Nat) : Int) + 1 + ((x.Machine.Regs.length : Nat) : Int) ≤ KB) ∧ (0 ≤ k + 1 + 1 + 1 + 1 + ((aD M.aN.cnt x.aN : Nat) : Int) + ((aD M.Instr.cnt x.Machine.Script : Nat) : Int) + 1 + ((x.Machine.Regs.length : Nat) : Int) + 1 ∧ k + 1 + 1 + 1 + 1 + ((aD M.aN.cnt x.aN : Nat) : Int) + ((aD M.Instr.cnt x.Machine.Script : Nat) : Int) + 1 + ((x.Machine.Regs.length : Nat) : Int) + 1 ≤ KB) ∧ (0 ≤ k + 1 + 1 + 1 + 1 + ((aD M.aN.cnt x.aN : Nat) : Int) + ((aD M.Instr.cnt x.Machine.Script : Nat) : Int) + 1 + ((x.Machine.Regs.length : Nat) : Int) + 1 + 1 ∧ k + 1 + 1 + 1 + 1 + ((aD M.aN.cnt x.aN : Nat) : Int) + ((aD M.Instr.cnt x.Machine.Script : Nat) : Int) + 1 + ((x.Machine.Regs.length : Nat) : Int) + 1 + 1 ≤ KB) ∧ (0 ≤ k + 1 + 1 + 1 + 1 + ((aD M.aN.cnt x.aN : Nat) : Int) + ((aD M.Instr.cnt x.Machine.Script : Nat) : Int) + 1 + ((x.Machine.Regs.length : Nat) : Int) + 1 + 1 + 1 ∧ k + 1 + 1 + 1 + 1 + ((aD M.aN.cnt x.aN : Nat) : Int) + ((aD M.Instr.cnt x.Machine.Script : Nat) : Int) + 1 + ((x.Machine.Regs.length : Nat) : Int) + 1 + 1 + 1 ≤ KB) := by
    unfold KB
    refine ⟨?_, ?_, ?_, ?_, ?_, ?_, ?_, ?_, ?_, ?_, ?_, ?_⟩ <;> omega
  have hE : k + 1 + 1 + 1 + 1 + ((aD M.aN.cnt x.aN : Nat) : Int) + ((aD M.Instr.cnt x.Machine.Script : Nat) : Int) + 1 + ((x.Machine.Regs.length : Nat) : Int) + 1 + 1 + 1 = k + ((M.bG.cnt x : Nat) : Int) := by unfold M.bG.cnt; omega
  unfold M.bG.cnt at hE
  obtain ⟨q0, q1, q2, q3, q4, q5, q6, q7, q8, q9, q10, q11⟩ := A
  have w0 := wk2 q0
  have t1 : aG (k + 1) = some (mtx (k + 1)) := mt q1.1 (Int.lt_of_add_one_le q2.2)
  have w1 := wk2 q1
  have t2 : aG (k + 1 + 1) = some (mtx (k + 1 + 1)) := mt q2.1 (Int.lt_of_add_one_le q3.2)
  have w2 := wk2 q2
  have w3 := wk2 q3
  obtain ⟨y1, a1, b1, _⟩ := M.aB0.gV _ hx.aN (k + 1 + 1 + 1 + 1) q4.1 q5.2
  have d1 : (decide (k + 1 + 1 + 1 + 1 + ((aD M.aN.cnt x.aN : Nat) : Int) < 0)) = false := dk q5.1
  obtain ⟨y2, a2, b2, _⟩ := M.aDc.gV _ hx.Machine.Script (k + 1 + 1 + 1 + 1 + ((aD M.aN.cnt x.aN : Nat) : Int)) q5.1 q6.2
  have d2 : (decide (k + 1 + 1 + 1 + 1 + ((aD M.aN.cnt x.aN : Nat) : Int) + ((aD M.Instr.cnt x.Machine.Script : Nat) : Int) < 0)) = false := dk q6.1
  have w6 := wk2 q6
  obtain ⟨y3, a3, b3, _⟩ := M.aJd.gV _ hx.Machine.Regs (k + 1 + 1 + 1 + 1 + ((aD M.aN.cnt x.aN : Nat) : Int) + ((aD M.Instr.cnt x.Machine.Script : Nat) : Int) + 1) q7.1 q8.2
  have d3 : (decide (k + 1 + 1 + 1 + 1 + ((aD M.aN.cnt x.aN : Nat) : Int) + ((aD M.Instr.cnt x.Machine.Script : Nat) : Int) + 1 + ((x.Machine.Regs.length : Nat) : Int) < 0)) = false := dk q8.1
  have w8 := wk2 q8
  have w9 := wk2 q9
  have w10 := wk2 q10
  refine ⟨⟨k, (mtx (k + 1)), (mtx (k + 1 + 1)), k + 1 + 1 + 1, y1, ⟨y2, k + 1 + 1 + 1 + 1 + ((aD M.aN.cnt x.aN : Nat) : Int) + ((aD M.Instr.cnt x.Machine.Script : Nat) : Int), y3, k + 1 + 1 + 1 + 1 + ((aD M.aN.cnt x.aN : Nat) : Int) + ((aD M.Instr.cnt x.Machine.Script : Nat) : Int) + 1 + ((x.Machine.Regs.length : Nat) : Int), ((Int.tmod (k + 1 + 1 + 1 + 1 + ((aD M.aN.cnt x.aN : Nat) : Int) + ((aD M.Instr.cnt x.Machine.Script : Nat) : Int) + 1 + ((x.Machine.Regs.length : Nat) : Int) + 1) 3) == 0), ((Int.tmod (k + 1 + 1 + 1 + 1 + ((aD M.aN.cnt x.aN : Nat) : Int) + ((aD M.Instr.cnt x.Machine.Script : Nat) : Int) + 1 + ((x.Machine.Regs.length : Nat) : Int) + 1 + 1) 3) == 0)⟩⟩, fun n pre post hl => ?_, fun n l i hi hl => ?_⟩
  · have hl' := le_max hl
    have hp : pre.length < 9223372036854775807 := by simp at hl'; omega
    simp only [dQ]
    rw [if_pos (zZ pre post x)]
    simp (maxSteps := 2000000) only [rD, rE, Option.bind_some, bD hp, w0, t1, w1, t2, w2, w3, a1, a2, w6, a3, w8, w9, w10]
    rw [hE]
  · have hl' := le_max hl
    have hp : i < 9223372036854775807 := by have := (List.getElem?_eq_some_iff.1 hi).1; omega
    simp only [dO]
    rw [if_pos (aCD hi)]
    simp (maxSteps := 2000000) only [aAG hi, Option.bind_some, bD hp, w0, t1, w1, t2, w2, w3, b1, d1, b2, d2, w6, b3, d3, w8, w9, w10, bne_self_eq_false, beq_self_eq_true, Bool.not_true, Bool.false_eq_true, if_false]
    rw [hE]
theorem M.aHn.gV (xs : List M.bG) (hx : (xs.length ≤ maxLen ∧ ∀ y ∈ xs, M.bG.ok y)) (k : Int) (h0 : 0 ≤ k) (hB : k + ((aD M.bG.cnt xs : Nat) : Int) ≤ KB) : ∃ ys, rQ xs k = some (ys, k + ((aD M.bG.cnt xs : Nat) : Int)) ∧ tS ys k = some (k + ((aD M.bG.cnt xs : Nat) : Int)) ∧ ys.length = xs.length := by
  have hm := le_max hx.1
  obtain ⟨ys, h1, h2, h3⟩ := kF (ML := dQ) (HL := dO) (c := M.bG.cnt) (ok := M.bG.ok) (fun x hx k h0 hB => M.bG.oN x hx k h0 hB) (fun n k l => by simp only [dQ]; rw [if_neg (by rw [aP]; simp)]) (fun n k l => by simp only [dO]; rw [if_neg (by rw [aP]; simp)]) xs [] fuel k (by simpa using hx.1) (by unfold fuel; omega) hx.2 h0 hB
  refine ⟨ys, by unfold rQ; simpa using h2, by unfold tS; simpa using h3 fuel (by unfold fuel; omega), h1⟩
def M.bK.cnt (x : M.bK) : Nat := 4
set_option maxHeartbeats 4000000 in
theorem M.bK.oN (x : M.bK) (hx : M.bK.ok x) (k : Int) (h0 : 0 ≤ k) (hB : k + ((M.bK.cnt x : Nat) : Int) ≤ KB) : ∃ x' : M.bK, (∀ n (pre post : List M.bK), (pre ++ x :: post).length ≤ maxLen → dP (n + 1) k pre.length (pre ++ x :: post) = dP n (k + ((M.bK.cnt x : Nat) : Int)) ((pre.length + 1 : Nat) : Int) (pre ++ x' :: post)) ∧ ∀ n (l : List M.bK) (i : Nat), l[i]? = some x' → l.length ≤ maxLen → eZ l (n + 1) k i = eZ l n (k + ((M.bK.cnt x : Nat) : Int)) ((i + 1 : Nat) : Int) := by
  unfold KB at hB; unfold M.bK.cnt at hB ⊢
  have A : (0 ≤ k ∧ k ≤ KB) ∧ (0 ≤ k + 1 ∧ k + 1 ≤ KB) ∧ (0 ≤ k + 1 + 1 ∧ k + 1 + 1 ≤ KB) ∧ (0 ≤ k + 1 + 1 + 1 ∧ k + 1 + 1 + 1 ≤ KB) ∧ (0 ≤ k + 1 + 1 + 1 + 1 ∧ k + 1 + 1 + 1 + 1 ≤ KB) := by
    unfold KB
    refine ⟨?_, ?_, ?_, ?_, ?_⟩ <;> omega
  have hE : k + 1 + 1 + 1 + 1 = k + ((M.bK.cnt x : Nat) : Int) := by unfold M.bK.cnt; omega
  unfold M.bK.cnt at hE
  obtain ⟨q0, q1, q2, q3, q4⟩ := A
  have t0 : aG (k) = some (mtx (k)) := mt q0.1 (Int.lt_of_add_one_le q1.2)
  have w0 := wk2 q0
  have w1 := wk2 q1
  have w2 := wk2 q2
  have w3 := wk2 q3
  refine ⟨⟨(mtx (k)), k + 1, ((Int.tmod (k + 1 + 1) 3) == 0), ((Int.tmod (k + 1 + 1 + 1) 3) == 0)⟩, fun n pre post hl => ?_, fun n l i hi hl => ?_⟩
  · have hl' := le_max hl
    have hp : pre.length < 9223372036854775807 := by simp at hl'; omega
    simp only [dP]
    rw [if_pos (zZ pre post x)]
    simp (maxSteps := 2000000) only [rD, rE, Option.bind_some, bD hp, t0, w0, w1, w2, w3]
    rw [hE]
  · have hl' := le_max hl
    have hp : i < 9223372036854775807 := by have := (List.getElem?_eq_some_iff.1 hi).1; omega
    simp only [eZ]
    rw [if_pos (aCD hi)]
    simp (maxSteps := 2000000) only [aAG hi, Option.bind_some, bD hp, t0, w0, w1, w2, w3, bne_self_eq_false, beq_self_eq_true, Bool.not_true, Bool.false_eq_true, if_false]
    rw [hE]
theorem M.aHl.gV (xs : List M.bK) (hx : (xs.length ≤ maxLen ∧ ∀ y ∈ xs, M.bK.ok y)) (k : Int) (h0 : 0 ≤ k) (hB : k + ((aD M.bK.cnt xs : Nat) : Int) ≤ KB) : ∃ ys, tL xs k = some (ys, k + ((aD M.bK.cnt xs : Nat) : Int)) ∧ rN ys k = some (k + ((aD M.bK.cnt xs : Nat) : Int)) ∧ ys.length = xs.length := by
  have hm := le_max hx.1
  obtain ⟨ys, h1, h2, h3⟩ := kF (ML := dP) (HL := eZ) (c := M.bK.cnt) (ok := M.bK.ok) (fun x hx k h0 hB => M.bK.oN x hx k h0 hB) (fun n k l => by simp only [dP]; rw [if_neg (by rw [aP]; simp)]) (fun n k l => by simp only [eZ]; rw [if_neg (by rw [aP]; simp)]) xs [] fuel k (by simpa using hx.1) (by unfold fuel; omega) hx.2 h0 hB
  refine ⟨ys, by unfold tL; simpa using h2, by unfold rN; simpa using h3 fuel (by unfold fuel; omega), h1⟩
def M.fD.cnt (x : M.fD) : Nat := 3
set_option maxHeartbeats 4000000 in
theorem M.fD.oN (x : M.fD) (hx : M.fD.ok x) (k : Int) (h0 : 0 ≤ k) (hB : k + ((M.fD.cnt x : Nat) : Int) ≤ KB) : ∃ x' : M.fD, (∀ n (pre post : List M.fD), (pre ++ x :: post).length ≤ maxLen → dV (n + 1) k pre.length (pre ++ x :: post) = dV n (k + ((M.fD.cnt x : Nat) : Int)) ((pre.length + 1 : Nat) : Int) (pre ++ x' :: post)) ∧ ∀ n (l : List M.fD) (i : Nat), l[i]? = some x' → l.length ≤ maxLen → fC l (n + 1) k i = fC l n (k + ((M.fD.cnt x : Nat) : Int)) ((i + 1 : Nat) : Int) := by
  unfold KB at hB; unfold M.fD.cnt at hB ⊢
  have A : (0 ≤ k ∧ k ≤ KB) ∧ (0 ≤ k + 1 ∧ k + 1 ≤ KB) ∧ (0 ≤ k + 1 + 1 ∧ k + 1 + 1 ≤ KB) ∧ (0 ≤ k + 1 + 1 + 1 ∧ k + 1 + 1 + 1 ≤ KB) := by
    unfold KB
    refine ⟨?_, ?_, ?_, ?_⟩ <;> omega
  have hE : k + 1 + 1 + 1 = k + ((M.fD.cnt x : Nat) : Int) := by unfold M.fD.cnt; omega
  unfold M.fD.cnt at hE
  obtain ⟨q0, q1, q2, q3⟩ := A
  have w0 := wk2 q0
  have w1 := wk2 q1
  have w2 := wk2 q2
  refine ⟨⟨k, k + 1, k + 1 + 1⟩, fun n pre post hl => ?_, fun n l i hi hl => ?_⟩
  · have hl' := le_max hl
    have hp : pre.length < 9223372036854775807 := by simp at hl'; omega
    simp only [dV]
    rw [if_pos (zZ pre post x)]
    simp (maxSteps := 2000000) only [rD, rE, Option.bind_some, bD hp, w0, w1, w2]
    rw [hE]
  · have hl' := le_max hl
    have hp : i < 9223372036854775807 := by have := (List.getElem?_eq_some_iff.1 hi).1; omega
    simp only [fC]
    rw [if_pos (aCD hi)]
    simp (maxSteps := 2000000) only [aAG hi, Option.bind_some, bD hp, w0, w1, w2, bne_self_eq_false, beq_self_eq_true, Bool.not_true, Bool.false_eq_true, if_false]
    rw [hE]
theorem M.aHr.gV (xs : List M.fD) (hx : (xs.length ≤ maxLen ∧ ∀ y ∈ xs, M.fD.ok y)) (k : Int) (h0 : 0 ≤ k) (hB : k + ((aD M.fD.cnt xs : Nat) : Int) ≤ KB) : ∃ ys, tR xs k = some (ys, k + ((aD M.fD.cnt xs : Nat) : Int)) ∧ sW ys k = some (k + ((aD M.fD.cnt xs : Nat) : Int)) ∧ ys.length = xs.length := by
  have hm := le_max hx.1
  obtain ⟨ys, h1, h2, h3⟩ := kF (ML := dV) (HL := fC) (c := M.fD.cnt) (ok := M.fD.ok) (fun x hx k h0 hB => M.fD.oN x hx k h0 hB) (fun n k l => by simp only [dV]; rw [if_neg (by rw [aP]; simp)]) (fun n k l => by simp only [fC]; rw [if_neg (by rw [aP]; simp)]) xs [] fuel k (by simpa using hx.1) (by unfold fuel; omega) hx.2 h0 hB
  refine ⟨ys, by unfold tR; simpa using h2, by unfold sW; simpa using h3 fuel (by unfold fuel; omega), h1⟩
set_option maxHeartbeats 4000000 in
theorem M.aAm.oN (x : ByteArray) (hx : True) (k : Int) (h0 : 0 ≤ k) (hB : k + (((fun _ : ByteArray => 1) x : Nat) : Int) ≤ KB) : ∃ x' : ByteArray, (∀ n (pre post : List ByteArray), (pre ++ x :: post).length ≤ maxLen → cG (n + 1) k pre.length (pre ++ x :: post) = cG n (k + (((fun _ : ByteArray => 1) x : Nat) : Int)) ((pre.length + 1 : Nat) : Int) (pre ++ x' :: post)) ∧ ∀ n (l : List ByteArray) (i : Nat), l[i]? = some x' → l.length ≤ maxLen → dF l (n + 1) k i = dF l n (k + (((fun _ : ByteArray => 1) x : Nat) : Int)) ((i + 1 : Nat) : Int) := by
  unfold KB at hB; (try simp only [] at hB ⊢)
  have A : (0 ≤ k ∧ k ≤ KB) ∧ (0 ≤ k + 1 ∧ k + 1 ≤ KB) := by
    unfold KB
    refine ⟨?_, ?_⟩ <;> omega
  have hE : k + 1 = k + (((fun _ : ByteArray => 1) x : Nat) : Int) := by simp
  obtain ⟨q0, q1⟩ := A
  have t0 : aG (k) = some (mtx (k)) := mt q0.1 (Int.lt_of_add_one_le q1.2)
  have w0 := wk2 q0
  refine ⟨(mtx (k)), fun n pre post hl => ?_, fun n l i hi hl => ?_⟩
  · have hl' := le_max hl
    have hp : pre.length < 9223372036854775807 := by simp at hl'; omega
    simp only [cG]
    rw [if_pos (zZ pre post x)]
    simp (maxSteps := 2000000) only [rD, rE, Option.bind_some, bD hp, t0, w0]
    rw [hE]
  · have hl' := le_max hl
    have hp : i < 9223372036854775807 := by have := (List.getElem?_eq_some_iff.1 hi).1; omega
    simp only [dF]
    rw [if_pos (aCD hi)]
    simp (maxSteps := 2000000) only [aAG hi, Option.bind_some, bD hp, t0, w0, bne_self_eq_false, beq_self_eq_true, Bool.not_true, Bool.false_eq_true, if_false]
    rw [hE]
theorem M.aAm.cl (xs : List ByteArray) : aD (fun _ : ByteArray => 1) xs = xs.length := by
  induction xs with
  | nil => rfl
  | cons x xs ih => simp only [aD, ih, List.length_cons]; omega
theorem M.aAm.gV (xs : List ByteArray) (hx : okS xs) (k : Int) (h0 : 0 ≤ k) (hB : k + ((xs.length : Nat) : Int) ≤ KB) : ∃ ys, nD xs k = some (ys, k + ((xs.length : Nat) : Int)) ∧ nX ys k = some (k + ((xs.length : Nat) : Int)) ∧ ys.length = xs.length := by
  have hm := le_max hx.1
  rw [← M.aAm.cl xs] at hB ⊢
  obtain ⟨ys, h1, h2, h3⟩ := kF (ML := cG) (HL := dF) (c := (fun _ : ByteArray => 1)) (ok := (fun _ : ByteArray => True)) (fun x hx k h0 hB => M.aAm.oN x hx k h0 hB) (fun n k l => by simp only [cG]; rw [if_neg (by rw [aP]; simp)]) (fun n k l => by simp only [dF]; rw [if_neg (by rw [aP]; simp)]) xs [] fuel k (by simpa using hx.1) (by unfold fuel; omega) (fun _ _ => trivial) h0 hB
  refine ⟨ys, by unfold nD; simpa using h2, by unfold nX; simpa using h3 fuel (by unfold fuel; omega), by have := M.aAm.cl xs; omega⟩
def M.Site.cnt (x : M.Site) : Nat := 3 + (x.Files.length)
set_option maxHeartbeats 4000000 in
theorem M.Site.oN (x : M.Site) (hx : M.Site.ok x) (k : Int) (h0 : 0 ≤ k) (hB : k + ((M.Site.cnt x : Nat) : Int) ≤ KB) : ∃ x' : M.Site, (∀ n (pre post : List M.Site), (pre ++ x :: post).length ≤ maxLen → dM (n + 1) k pre.length (pre ++ x :: post) = dM n (k + ((M.Site.cnt x : Nat) : Int)) ((pre.length + 1 : Nat) : Int) (pre ++ x' :: post)) ∧ ∀ n (l : List M.Site) (i : Nat), l[i]? = some x' → l.length ≤ maxLen → eS l (n + 1) k i = eS l n (k + ((M.Site.cnt x : Nat) : Int)) ((i + 1 : Nat) : Int) := by
  unfold KB at hB; unfold M.Site.cnt at hB ⊢
  have A : (0 ≤ k ∧ k ≤ KB) ∧ (0 ≤ k + 1 ∧ k + 1 ≤ KB) ∧ (0 ≤ k + 1 + 1 ∧ k + 1 + 1 ≤ KB) ∧ (0 ≤ k + 1 + 1 + ((x.Files.length : Nat) : Int) ∧ k + 1 + 1 + ((x.Files.length : Nat) : Int) ≤ KB) ∧ (0 ≤ k + 1 + 1 + ((x.Files.length : Nat) : Int) + 1 ∧ k + 1 + 1 + ((x.Files.length : Nat) : Int) + 1 ≤ KB) := by
    unfold KB
    refine ⟨?_, ?_, ?_, ?_, ?_⟩ <;> omega
  have hE : k + 1 + 1 + ((x.Files.length : Nat) : Int) + 1 = k + ((M.Site.cnt x : Nat) : Int) := by unfold M.Site.cnt; omega
  unfold M.Site.cnt at hE
  obtain ⟨q0, q1, q2, q3, q4⟩ := A
  have t0 : aG (k) = some (mtx (k)) := mt q0.1 (Int.lt_of_add_one_le q1.2)
  have w0 := wk2 q0
  have w1 := wk2 q1
  obtain ⟨y1, a1, b1, _⟩ := M.aAm.gV _ hx.Files (k + 1 + 1) q2.1 q3.2
  have d1 : (decide (k + 1 + 1 + ((x.Files.length : Nat) : Int) < 0)) = false := dk q3.1
  have w3 := wk2 q3
  refine ⟨⟨(mtx (k)), k + 1, y1, ((Int.tmod (k + 1 + 1 + ((x.Files.length : Nat) : Int)) 3) == 0)⟩, fun n pre post hl => ?_, fun n l i hi hl => ?_⟩
  · have hl' := le_max hl
    have hp : pre.length < 9223372036854775807 := by simp at hl'; omega
    simp only [dM]
    rw [if_pos (zZ pre post x)]
    simp (maxSteps := 2000000) only [rD, rE, Option.bind_some, bD hp, t0, w0, w1, a1, w3]
    rw [hE]
  · have hl' := le_max hl
    have hp : i < 9223372036854775807 := by have := (List.getElem?_eq_some_iff.1 hi).1; omega
    simp only [eS]
    rw [if_pos (aCD hi)]
    simp (maxSteps := 2000000) only [aAG hi, Option.bind_some, bD hp, t0, w0, w1, b1, d1, w3, bne_self_eq_false, beq_self_eq_true, Bool.not_true, Bool.false_eq_true, if_false]
    rw [hE]
theorem M.aH0.gV (xs : List M.Site) (hx : (xs.length ≤ maxLen ∧ ∀ y ∈ xs, M.Site.ok y)) (k : Int) (h0 : 0 ≤ k) (hB : k + ((aD M.Site.cnt xs : Nat) : Int) ≤ KB) : ∃ ys, tF xs k = some (ys, k + ((aD M.Site.cnt xs : Nat) : Int)) ∧ rT ys k = some (k + ((aD M.Site.cnt xs : Nat) : Int)) ∧ ys.length = xs.length := by
  have hm := le_max hx.1
  obtain ⟨ys, h1, h2, h3⟩ := kF (ML := dM) (HL := eS) (c := M.Site.cnt) (ok := M.Site.ok) (fun x hx k h0 hB => M.Site.oN x hx k h0 hB) (fun n k l => by simp only [dM]; rw [if_neg (by rw [aP]; simp)]) (fun n k l => by simp only [eS]; rw [if_neg (by rw [aP]; simp)]) xs [] fuel k (by simpa using hx.1) (by unfold fuel; omega) hx.2 h0 hB
  refine ⟨ys, by unfold tF; simpa using h2, by unfold rT; simpa using h3 fuel (by unfold fuel; omega), h1⟩
def M.aJ.cnt (x : M.aJ) : Nat := 2
set_option maxHeartbeats 4000000 in
theorem M.aJ.oN (x : M.aJ) (hx : M.aJ.ok x) (k : Int) (h0 : 0 ≤ k) (hB : k + ((M.aJ.cnt x : Nat) : Int) ≤ KB) : ∃ x' : M.aJ, (∀ n (pre post : List M.aJ), (pre ++ x :: post).length ≤ maxLen → bX (n + 1) k pre.length (pre ++ x :: post) = bX n (k + ((M.aJ.cnt x : Nat) : Int)) ((pre.length + 1 : Nat) : Int) (pre ++ x' :: post)) ∧ ∀ n (l : List M.aJ) (i : Nat), l[i]? = some x' → l.length ≤ maxLen → cP l (n + 1) k i = cP l n (k + ((M.aJ.cnt x : Nat) : Int)) ((i + 1 : Nat) : Int) := by
  unfold KB at hB; unfold M.aJ.cnt at hB ⊢
  have A : (0 ≤ k ∧ k ≤ KB) ∧ (0 ≤ k + 1 ∧ k + 1 ≤ KB) ∧ (0 ≤ k + 1 + 1 ∧ k + 1 + 1 ≤ KB) := by
    unfold KB
    refine ⟨?_, ?_, ?_⟩ <;> omega
  have hE : k + 1 + 1 = k + ((M.aJ.cnt x : Nat) : Int) := by unfold M.aJ.cnt; omega
  unfold M.aJ.cnt at hE
  obtain ⟨q0, q1, q2⟩ := A
  have w0 := wk2 q0
  have w1 := wk2 q1
  refine ⟨⟨k, k + 1⟩, fun n pre post hl => ?_, fun n l i hi hl => ?_⟩
  · have hl' := le_max hl
    have hp : pre.length < 9223372036854775807 := by simp at hl'; omega
    simp only [bX]
    rw [if_pos (zZ pre post x)]
    simp (maxSteps := 2000000) only [rD, rE, Option.bind_some, bD hp, w0, w1]
    rw [hE]
  · have hl' := le_max hl
    have hp : i < 9223372036854775807 := by have := (List.getElem?_eq_some_iff.1 hi).1; omega
    simp only [cP]
    rw [if_pos (aCD hi)]
    simp (maxSteps := 2000000) only [aAG hi, Option.bind_some, bD hp, w0, w1, bne_self_eq_false, beq_self_eq_true, Bool.not_true, Bool.false_eq_true, if_false]
    rw [hE]
theorem M.aBK.gV (xs : List M.aJ) (hx : (xs.length ≤ maxLen ∧ ∀ y ∈ xs, M.aJ.ok y)) (k : Int) (h0 : 0 ≤ k) (hB : k + ((aD M.aJ.cnt xs : Nat) : Int) ≤ KB) : ∃ ys, mF xs k = some (ys, k + ((aD M.aJ.cnt xs : Nat) : Int)) ∧ mH ys k = some (k + ((aD M.aJ.cnt xs : Nat) : Int)) ∧ ys.length = xs.length := by
  have hm := le_max hx.1
  obtain ⟨ys, h1, h2, h3⟩ := kF (ML := bX) (HL := cP) (c := M.aJ.cnt) (ok := M.aJ.ok) (fun x hx k h0 hB => M.aJ.oN x hx k h0 hB) (fun n k l => by simp only [bX]; rw [if_neg (by rw [aP]; simp)]) (fun n k l => by simp only [cP]; rw [if_neg (by rw [aP]; simp)]) xs [] fuel k (by simpa using hx.1) (by unfold fuel; omega) hx.2 h0 hB
  refine ⟨ys, by unfold mF; simpa using h2, by unfold mH; simpa using h3 fuel (by unfold fuel; omega), h1⟩
def M.Server.cnt (x : M.Server) : Nat := 2 + (aD M.Item.cnt x.aH.Items) + (aD M.aJ.cnt x.aJ) + (aD M.aW.cnt x.Changes)
set_option maxHeartbeats 4000000 in
theorem M.Server.oN (x : M.Server) (hx : M.Server.ok x) (k : Int) (h0 : 0 ≤ k) (hB : k + ((M.Server.cnt x : Nat) : Int) ≤ KB) : ∃ x' : M.Server, (∀ n (pre post : List M.Server), (pre ++ x :: post).length ≤ maxLen → cK (n + 1) k pre.length (pre ++ x :: post) = cK n (k + ((M.Server.cnt x : Nat) : Int)) ((pre.length + 1 : Nat) : Int) (pre ++ x' :: post)) ∧ ∀ n (l : List M.Server) (i : Nat), l[i]? = some x' → l.length ≤ maxLen → cJ l (n + 1) k i = cJ l n (k + ((M.Server.cnt x : Nat) : Int)) ((i + 1 : Nat) : Int) := by
  unfold KB at hB; unfold M.Server.cnt at hB ⊢
  have A : (0 ≤ k ∧ k ≤ KB) ∧ (0 ≤ k + 1 ∧ k + 1 ≤ KB) ∧ (0 ≤ k + 1 + ((aD M.Item.cnt x.aH.Items : Nat) : Int) ∧ k + 1 + ((aD M.Item.cnt x.aH.Items : Nat) : Int) ≤ KB) ∧ (0 ≤ k + 1 + ((aD M.Item.cnt x.aH.Items : Nat) : Int) + 1 ∧ k + 1 + ((aD M.Item.cnt x.aH.Items : Nat) : Int) + 1 ≤ KB) ∧ (0 ≤ k + 1 + ((aD M.Item.cnt x.aH.Items : Nat) : Int) + 1 + ((aD M.aJ.cnt x.aJ : Nat) : Int) ∧ k + 1 + ((aD M.Item.cnt x.aH.Items : Nat) : Int) + 1 + ((aD M.aJ.cnt x.aJ : Nat) : Int) ≤ KB) ∧ (0 ≤ k + 1 + ((aD M.Item.cnt x.aH.Items : Nat) : Int) + 1 + ((aD M.aJ.cnt x.aJ : Nat) : Int) + ((aD M.aW.cnt x.Changes : Nat) : Int) ∧ k + 1 + ((aD M.Item.cnt x.aH.Items : Nat) : Int) + 1 + ((aD M.aJ.cnt x.aJ : Nat) : Int) + ((aD M.aW.cnt x.Changes : Nat) : Int) ≤ KB) := by
    unfold KB
    refine ⟨?_, ?_, ?_, ?_, ?_, ?_⟩ <;> omega
  have hE : k + 1 + ((aD M.Item.cnt x.aH.Items : Nat) : Int) + 1 + ((aD M.aJ.cnt x.aJ : Nat) : Int) + ((aD M.aW.cnt x.Changes : Nat) : Int) = k + ((M.Server.cnt x : Nat) : Int) := by unfold M.Server.cnt; omega
  unfold M.Server.cnt at hE
  obtain ⟨q0, q1, q2, q3, q4, q5⟩ := A
  have t0 : aG (k) = some (mtx (k)) := mt q0.1 (Int.lt_of_add_one_le q1.2)
  have w0 := wk2 q0
  obtain ⟨y1, a1, b1, _⟩ := M.aEx.gV _ hx.aH.Items (k + 1) q1.1 q2.2
  have d1 : (decide (k + 1 + ((aD M.Item.cnt x.aH.Items : Nat) : Int) < 0)) = false := dk q2.1
  have w2 := wk2 q2
  obtain ⟨y2, a2, b2, _⟩ := M.aBK.gV _ hx.aJ (k + 1 + ((aD M.Item.cnt x.aH.Items : Nat) : Int) + 1) q3.1 q4.2
  have d2 : (decide (k + 1 + ((aD M.Item.cnt x.aH.Items : Nat) : Int) + 1 + ((aD M.aJ.cnt x.aJ : Nat) : Int) < 0)) = false := dk q4.1
  obtain ⟨y3, a3, b3, _⟩ := M.aBk.gV _ hx.Changes (k + 1 + ((aD M.Item.cnt x.aH.Items : Nat) : Int) + 1 + ((aD M.aJ.cnt x.aJ : Nat) : Int)) q4.1 q5.2
  have d3 : (decide (k + 1 + ((aD M.Item.cnt x.aH.Items : Nat) : Int) + 1 + ((aD M.aJ.cnt x.aJ : Nat) : Int) + ((aD M.aW.cnt x.Changes : Nat) : Int) < 0)) = false := dk q5.1
  refine ⟨⟨⟨(mtx (k)), y1, k + 1 + ((aD M.Item.cnt x.aH.Items : Nat) : Int)⟩, y2, y3⟩, fun n pre post hl => ?_, fun n l i hi hl => ?_⟩
  · have hl' := le_max hl
    have hp : pre.length < 9223372036854775807 := by simp at hl'; omega
    simp only [cK]
    rw [if_pos (zZ pre post x)]
    simp (maxSteps := 2000000) only [rD, rE, Option.bind_some, bD hp, t0, w0, a1, w2, a2, a3]
    rw [hE]
  · have hl' := le_max hl
    have hp : i < 9223372036854775807 := by have := (List.getElem?_eq_some_iff.1 hi).1; omega
    simp only [cJ]
    rw [if_pos (aCD hi)]
    simp (maxSteps := 2000000) only [aAG hi, Option.bind_some, bD hp, t0, w0, b1, d1, w2, b2, d2, b3, d3, bne_self_eq_false, beq_self_eq_true, Bool.not_true, Bool.false_eq_true, if_false]
    rw [hE]
theorem M.aB5.gV (xs : List M.Server) (hx : (xs.length ≤ maxLen ∧ ∀ y ∈ xs, M.Server.ok y)) (k : Int) (h0 : 0 ≤ k) (hB : k + ((aD M.Server.cnt xs : Nat) : Int) ≤ KB) : ∃ ys, oF xs k = some (ys, k + ((aD M.Server.cnt xs : Nat) : Int)) ∧ nG ys k = some (k + ((aD M.Server.cnt xs : Nat) : Int)) ∧ ys.length = xs.length := by
  have hm := le_max hx.1
  obtain ⟨ys, h1, h2, h3⟩ := kF (ML := cK) (HL := cJ) (c := M.Server.cnt) (ok := M.Server.ok) (fun x hx k h0 hB => M.Server.oN x hx k h0 hB) (fun n k l => by simp only [cK]; rw [if_neg (by rw [aP]; simp)]) (fun n k l => by simp only [cJ]; rw [if_neg (by rw [aP]; simp)]) xs [] fuel k (by simpa using hx.1) (by unfold fuel; omega) hx.2 h0 hB
  refine ⟨ys, by unfold oF; simpa using h2, by unfold nG; simpa using h3 fuel (by unfold fuel; omega), h1⟩
def M.World.aML (x : M.World) : Nat := (aD M.aE.cnt x.aM.Buckets) + (aD M.bG.cnt x.Pages) + (aD M.bK.cnt x.Locks.Locks) + (aD M.fD.cnt x.Channel.Mails) + (aD M.Site.cnt x.Sites) + (aD M.Server.cnt x.Servers)
theorem M.World.gV (x : M.World) (hx : M.World.ok x) (k : Int) (h0 : 0 ≤ k) (hB : k + ((M.World.aML x : Nat) : Int) ≤ KB) : ∃ y1 y2 y3 y4 y5 y6, mQ x k = some (y1, y2, y3, y4, y5, y6, k + ((M.World.aML x : Nat) : Int)) ∧ mT (⟨x.Now, x.Online, x.Device, ⟨y1⟩, y2, x.NextPage, ⟨y3⟩, ⟨y4⟩, y5, y6⟩ : M.World) k = some (k + ((M.World.aML x : Nat) : Int)) := by
  unfold KB at hB; unfold M.World.aML at hB ⊢
  obtain ⟨y1, a1, b1, _⟩ := M.aCC.gV _ hx.aM.Buckets (k) (by omega) (by unfold KB; omega)
  obtain ⟨y2, a2, b2, _⟩ := M.aHn.gV _ hx.Pages (k + ((aD M.aE.cnt x.aM.Buckets : Nat) : Int)) (by omega) (by unfold KB; omega)
  obtain ⟨y3, a3, b3, _⟩ := M.aHl.gV _ hx.Locks.Locks (k + ((aD M.aE.cnt x.aM.Buckets : Nat) : Int) + ((aD M.bG.cnt x.Pages : Nat) : Int)) (by omega) (by unfold KB; omega)
  obtain ⟨y4, a4, b4, _⟩ := M.aHr.gV _ hx.Channel.Mails (k + ((aD M.aE.cnt x.aM.Buckets : Nat) : Int) + ((aD M.bG.cnt x.Pages : Nat) : Int) + ((aD M.bK.cnt x.Locks.Locks : Nat) : Int)) (by omega) (by unfold KB; omega)
  obtain ⟨y5, a5, b5, _⟩ := M.aH0.gV _ hx.Sites (k + ((aD M.aE.cnt x.aM.Buckets : Nat) : Int) + ((aD M.bG.cnt x.Pages : Nat) : Int) + ((aD M.bK.cnt x.Locks.Locks : Nat) : Int) + ((aD M.fD.cnt x.Channel.Mails : Nat) : Int)) (by omega) (by unfold KB; omega)
  obtain ⟨y6, a6, b6, _⟩ := M.aB5.gV _ hx.Servers (k + ((aD M.aE.cnt x.aM.Buckets : Nat) : Int) + ((aD M.bG.cnt x.Pages : Nat) : Int) + ((aD M.bK.cnt x.Locks.Locks : Nat) : Int) + ((aD M.fD.cnt x.Channel.Mails : Nat) : Int) + ((aD M.Site.cnt x.Sites : Nat) : Int)) (by omega) (by unfold KB; omega)
  refine ⟨y1, y2, y3, y4, y5, y6, ?_, ?_⟩
  · unfold mQ
    simp only [uE, oZ, uH, a1, a2, a3, a4, a5, a6, Option.bind_some]
    try (simp only [Option.some.injEq, Prod.mk.injEq, true_and]; omega)
  · unfold mT
    simp (disch := (first | omega | (unfold KB; omega))) only [uB, oU, uA, b1, b2, b3, b4, b5, b6, Option.bind_some, dk, Bool.false_eq_true, if_false]
    try (simp only [Option.some.injEq]; omega)
theorem M.aB6.fT (xs : List Int) : xs.length ≤ 40 * (xs.length) := by omega
theorem M.Cached.fT (x : M.Cached) : M.Cached.cnt x ≤ 40 + 40 * M.Cached.sz x := by
  unfold M.Cached.cnt
  simp only [M.Cached.sz, M.Response.sz]
  have := M.aB6.fT x.Response.Body
  omega
theorem M.aB8.fT (xs : List M.Cached) : aD M.Cached.cnt xs ≤ 40 * ((xs.length + aD M.Cached.sz xs)) := mA (fun x _ => M.Cached.fT x)
theorem M.Cache.fT (x : M.Cache) : M.Cache.cnt x ≤ 40 + 40 * M.Cache.sz x := by
  unfold M.Cache.cnt
  simp only [M.Cache.sz]
  have := M.aB8.fT x.Entries
  omega
theorem M.aD8.fT (xs : List M.Cache) : aD M.Cache.cnt xs ≤ 40 * ((xs.length + aD M.Cache.sz xs)) := mA (fun x _ => M.Cache.fT x)
theorem M.Field.fT (x : M.Field) : M.Field.cnt x ≤ 40 + 40 * M.Field.sz x := by
  unfold M.Field.cnt
  simp only [M.Field.sz]
  omega
theorem M.aDh.fT (xs : List M.Field) : aD M.Field.cnt xs ≤ 40 * ((xs.length + aD M.Field.sz xs)) := mA (fun x _ => M.Field.fT x)
theorem M.Item.fT (x : M.Item) : M.Item.cnt x ≤ 40 + 40 * M.Item.sz x := by
  unfold M.Item.cnt
  simp only [M.Item.sz, M.Key.sz, M.aU.sz]
  have := M.aDh.fT x.aU.Fields
  omega
theorem M.aEx.fT (xs : List M.Item) : aD M.Item.cnt xs ≤ 40 * ((xs.length + aD M.Item.sz xs)) := mA (fun x _ => M.Item.fT x)
theorem M.aH.fT (x : M.aH) : M.aH.cnt x ≤ 40 + 40 * M.aH.sz x := by
  unfold M.aH.cnt
  simp only [M.aH.sz]
  have := M.aEx.fT x.Items
  omega
theorem M.aDa.fT (xs : List M.aH) : aD M.aH.cnt xs ≤ 40 * ((xs.length + aD M.aH.sz xs)) := mA (fun x _ => M.aH.fT x)
theorem M.aA.fT (x : M.aA) : M.aA.cnt x ≤ 40 + 40 * M.aA.sz x := by
  unfold M.aA.cnt
  simp only [M.aA.sz]
  omega
theorem M.zO.fT (xs : List M.aA) : aD M.aA.cnt xs ≤ 40 * ((xs.length + aD M.aA.sz xs)) := mA (fun x _ => M.aA.fT x)
theorem M.aW.fT (x : M.aW) : M.aW.cnt x ≤ 40 + 40 * M.aW.sz x := by
  unfold M.aW.cnt
  simp only [M.aW.sz, M.Key.sz]
  omega
theorem M.aBk.fT (xs : List M.aW) : aD M.aW.cnt xs ≤ 40 * ((xs.length + aD M.aW.sz xs)) := mA (fun x _ => M.aW.fT x)
theorem M.aE.fT (x : M.aE) : M.aE.cnt x ≤ 40 + 40 * M.aE.sz x := by
  unfold M.aE.cnt
  simp only [M.aE.sz, M.Registration.sz, M.aT.sz, M.bE.sz, M.Database.sz, M.aC.sz, M.aH.sz, M.Sync.sz, M.aV.sz]
  have := M.aD8.fT x.Caches.Caches
  have := M.aDa.fT x.bE.Base.Stores
  have := M.zO.fT x.bE.Base.Unique
  have := M.aB6.fT x.bE.Log
  have := M.aEx.fT x.aC.Base.Items
  have := M.aBk.fT x.aC.Sync.aV.Writes
  omega
theorem M.aCC.fT (xs : List M.aE) : aD M.aE.cnt xs ≤ 40 * ((xs.length + aD M.aE.sz xs)) := mA (fun x _ => M.aE.fT x)
theorem M.aN.fT (x : M.aN) : M.aN.cnt x ≤ 40 + 40 * M.aN.sz x := by
  unfold M.aN.cnt
  simp only [M.aN.sz]
  omega
theorem M.aB0.fT (xs : List M.aN) : aD M.aN.cnt xs ≤ 40 * ((xs.length + aD M.aN.sz xs)) := mA (fun x _ => M.aN.fT x)
theorem M.Instr.fT (x : M.Instr) : M.Instr.cnt x ≤ 40 + 40 * M.Instr.sz x := by
  unfold M.Instr.cnt
  simp only [M.Instr.sz]
  omega
theorem M.aDc.fT (xs : List M.Instr) : aD M.Instr.cnt xs ≤ 40 * ((xs.length + aD M.Instr.sz xs)) := mA (fun x _ => M.Instr.fT x)
theorem M.aJd.fT (xs : List Int) : xs.length ≤ 40 * (xs.length) := by omega
theorem M.bG.fT (x : M.bG) : M.bG.cnt x ≤ 40 + 40 * M.bG.sz x := by
  unfold M.bG.cnt
  simp only [M.bG.sz, M.Machine.sz]
  have := M.aB0.fT x.aN
  have := M.aDc.fT x.Machine.Script
  have := M.aJd.fT x.Machine.Regs
  omega
theorem M.aHn.fT (xs : List M.bG) : aD M.bG.cnt xs ≤ 40 * ((xs.length + aD M.bG.sz xs)) := mA (fun x _ => M.bG.fT x)
theorem M.bK.fT (x : M.bK) : M.bK.cnt x ≤ 40 + 40 * M.bK.sz x := by
  unfold M.bK.cnt
  simp only [M.bK.sz]
  omega
theorem M.aHl.fT (xs : List M.bK) : aD M.bK.cnt xs ≤ 40 * ((xs.length + aD M.bK.sz xs)) := mA (fun x _ => M.bK.fT x)
theorem M.fD.fT (x : M.fD) : M.fD.cnt x ≤ 40 := by
  unfold M.fD.cnt
  omega
theorem M.aHr.fT (xs : List M.fD) : aD M.fD.cnt xs ≤ 40 * (xs.length) := Nat.le_trans (aC9 (fun x _ => M.fD.fT x)) (by omega)
theorem M.aAm.fT (xs : List ByteArray) : xs.length ≤ 40 * ((xs.length + aD ByteArray.size xs)) := by omega
theorem M.Site.fT (x : M.Site) : M.Site.cnt x ≤ 40 + 40 * M.Site.sz x := by
  unfold M.Site.cnt
  simp only [M.Site.sz]
  have := M.aAm.fT x.Files
  omega
theorem M.aH0.fT (xs : List M.Site) : aD M.Site.cnt xs ≤ 40 * ((xs.length + aD M.Site.sz xs)) := mA (fun x _ => M.Site.fT x)
theorem M.aJ.fT (x : M.aJ) : M.aJ.cnt x ≤ 40 := by
  unfold M.aJ.cnt
  omega
theorem M.aBK.fT (xs : List M.aJ) : aD M.aJ.cnt xs ≤ 40 * (xs.length) := Nat.le_trans (aC9 (fun x _ => M.aJ.fT x)) (by omega)
theorem M.Server.fT (x : M.Server) : M.Server.cnt x ≤ 40 + 40 * M.Server.sz x := by
  unfold M.Server.cnt
  simp only [M.Server.sz, M.aH.sz]
  have := M.aEx.fT x.aH.Items
  have := M.aBK.fT x.aJ
  have := M.aBk.fT x.Changes
  omega
theorem M.aB5.fT (xs : List M.Server) : aD M.Server.cnt xs ≤ 40 * ((xs.length + aD M.Server.sz xs)) := mA (fun x _ => M.Server.fT x)
theorem M.World.aMq (x : M.World) : M.World.aML x ≤ 40 * M.World.sz x := by
  unfold M.World.aML
  simp only [M.World.sz, M.aM.sz, M.aF.sz, M.Channel.sz]
  have := M.aCC.fT x.aM.Buckets
  have := M.aHn.fT x.Pages
  have := M.aHl.fT x.Locks.Locks
  have := M.aHr.fT x.Channel.Mails
  have := M.aH0.fT x.Sites
  have := M.aB5.fT x.Servers
  omega
end Go.Proofs.YtecmnmaaopkdfaaGreat.gen
