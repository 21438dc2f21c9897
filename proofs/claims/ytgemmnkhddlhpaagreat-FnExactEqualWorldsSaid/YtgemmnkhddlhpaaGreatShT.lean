/-
  Helper text: plain laws; short steps of walks; library functions that turn a row of the caller. No conditions.
-/
import Derived.Test.YtgemmnkhddlhpaaGreatShQ
import Derived.KernelRfl
import Derived.Laws.CopyRow
import Derived.Lib.Walk
import Derived.WalkKit
import Derived.Lib.AppendZerosOnto
import Derived.Lib.Overlaps
import Derived.Lib.SliceRun
import Derived.Laws.Externs
import Derived.Laws.OwnMore
namespace Go.Sh
set_option linter.unusedVariables false
set_option linter.unusedSimpArgs false

/-! ### marks, plainly -/
def KB : Int := 4611686018427387904
theorem idx_mid {α : Type} (pre post : List α) (x : α) : idx (pre ++ x :: post) (pre.length : Int) = some x := by
  unfold idx; rw [if_pos (by omega)]; simp
theorem set_mid {α : Type} (pre post : List α) (x y : α) : List.set (pre ++ x :: post) (pre.length : Int).toNat y = pre ++ y :: post := by simp
theorem idx_at {α : Type} {l : List α} {i : Nat} {x : α} (h : l[i]? = some x) : idx l (i : Int) = some x := by
  unfold idx; rw [if_pos (by omega)]; simpa using h
theorem wk {k : Int} (h0 : 0 ≤ k) (h : k < 9223372036854775807) : IntKind.i64.wrap (k + 1) = k + 1 := wrap_ok (by omega) (by omega)
theorem wk2 {k : Int} (h : 0 ≤ k ∧ k ≤ KB) : IntKind.i64.wrap (k + 1) = k + 1 := wk h.1 (by have := h.2; unfold KB at this; omega)
theorem dk {a : Int} (h : 0 ≤ a) : (decide (a < 0)) = false := by simp; omega
theorem lt_mid {α : Type} (pre post : List α) (x : α) : (decide ((pre.length : Int) < ((pre ++ x :: post).length : Int))) = true := by simp; omega
theorem lt_at {α : Type} {l : List α} {i : Nat} {x : α} (h : l[i]? = some x) : (decide ((i : Int) < (l.length : Int))) = true := by
  have := (List.getElem?_eq_some_iff.1 h).1; simp; omega

theorem markHeld {α : Type} {ML : Nat → Int → Int → List α → Option (List α × Int)} {HL : List α → Nat → Int → Int → Option Int} {c : α → Nat} {ok : α → Prop}
    (hstep : ∀ x, ok x → ∀ k : Int, 0 ≤ k → k + (c x : Nat) ≤ KB → ∃ x', (∀ n (pre post : List α), (pre ++ x :: post).length ≤ maxLen → ML (n + 1) k pre.length (pre ++ x :: post) = ML n (k + (c x : Nat)) ((pre.length + 1 : Nat) : Int) (pre ++ x' :: post)) ∧
      ∀ n (l : List α) (i : Nat), l[i]? = some x' → l.length ≤ maxLen → HL l (n + 1) k i = HL l n (k + (c x : Nat)) ((i + 1 : Nat) : Int))
    (hend : ∀ n k (l : List α), ML (n + 1) k l.length l = some (l, k)) (hendH : ∀ n k (l : List α), HL l (n + 1) k l.length = some k) :
    ∀ (suf pre : List α) (n : Nat) (k : Int), (pre ++ suf).length ≤ maxLen → suf.length < n → (∀ x ∈ suf, ok x) → 0 ≤ k → k + (szSum c suf : Nat) ≤ KB →
      ∃ ys, ys.length = suf.length ∧ ML n k pre.length (pre ++ suf) = some (pre ++ ys, k + (szSum c suf : Nat)) ∧ ∀ m, suf.length < m → HL (pre ++ ys) m k pre.length = some (k + (szSum c suf : Nat))
  | [], pre, n, k, hl, hn, hx, h0, hB => by
    refine ⟨[], rfl, ?_, fun m hm => ?_⟩
    · obtain ⟨n, rfl⟩ : ∃ n', n = n' + 1 := ⟨n - 1, by simp at hn; omega⟩
      have := hend n k (pre ++ [])
      simpa [szSum] using this
    · obtain ⟨m, rfl⟩ : ∃ n', m = n' + 1 := ⟨m - 1, by simp at hm; omega⟩
      have := hendH m k (pre ++ [])
      simpa [szSum] using this
  | x :: suf, pre, n, k, hl, hn, hx, h0, hB => by
    simp only [szSum] at hB ⊢
    obtain ⟨n, rfl⟩ : ∃ n', n = n' + 1 := ⟨n - 1, by simp at hn; omega⟩
    obtain ⟨x', h1, h2⟩ := hstep x (hx x (by simp)) k h0 (by omega)
    obtain ⟨ys, k1, k2, k3⟩ := markHeld hstep hend hendH suf (pre ++ [x']) n (k + (c x : Nat)) (by simpa using hl) (by simp at hn; omega) (fun y hy => hx y (by simp [hy])) (by omega) (by omega)
    refine ⟨x' :: ys, by simp [k1], ?_, fun m hm => ?_⟩
    · rw [h1 n pre suf hl]
      have e : (pre ++ [x']) ++ suf = pre ++ x' :: suf := by simp
      rw [e] at k2
      have e2 : ((pre ++ [x']).length : Int) = ((pre.length + 1 : Nat) : Int) := by simp
      rw [e2] at k2
      rw [k2]
      simp only [List.append_assoc, List.cons_append, List.nil_append, Option.some.injEq, Prod.mk.injEq, true_and]
      omega
    · obtain ⟨m, rfl⟩ : ∃ n', m = n' + 1 := ⟨m - 1, by simp at hm; omega⟩
      rw [h2 m (pre ++ x' :: ys) pre.length (by simp) (by simp at hl ⊢; omega)]
      have := k3 m (by simp at hm; omega)
      have e : (pre ++ [x']) ++ ys = pre ++ x' :: ys := by simp
      rw [e] at this
      have e2 : ((pre ++ [x']).length : Int) = ((pre.length + 1 : Nat) : Int) := by simp
      rw [e2] at this
      rw [this]
      simp only [Option.some.injEq]
      omega

theorem markOnly {α : Type} {ML : Nat → Int → Int → List α → Option (List α × Int)} {c : α → Nat} {ok : α → Prop}
    (hstep : ∀ x, ok x → ∀ k : Int, 0 ≤ k → k + (c x : Nat) ≤ KB → ∃ x', (∀ n (pre post : List α), (pre ++ x :: post).length ≤ maxLen → ML (n + 1) k pre.length (pre ++ x :: post) = ML n (k + (c x : Nat)) ((pre.length + 1 : Nat) : Int) (pre ++ x' :: post)))
    (hend : ∀ n k (l : List α), ML (n + 1) k l.length l = some (l, k)) :
    ∀ (suf pre : List α) (n : Nat) (k : Int), (pre ++ suf).length ≤ maxLen → suf.length < n → (∀ x ∈ suf, ok x) → 0 ≤ k → k + (szSum c suf : Nat) ≤ KB →
      ∃ ys, ML n k pre.length (pre ++ suf) = some (pre ++ ys, k + (szSum c suf : Nat))
  | [], pre, n, k, hl, hn, hx, h0, hB => by
    refine ⟨[], ?_⟩
    obtain ⟨n, rfl⟩ : ∃ n', n = n' + 1 := ⟨n - 1, by simp at hn; omega⟩
    have := hend n k (pre ++ [])
    simpa [szSum] using this
  | x :: suf, pre, n, k, hl, hn, hx, h0, hB => by
    simp only [szSum] at hB ⊢
    obtain ⟨n, rfl⟩ : ∃ n', n = n' + 1 := ⟨n - 1, by simp at hn; omega⟩
    obtain ⟨x', h1⟩ := hstep x (hx x (by simp)) k h0 (by omega)
    obtain ⟨ys, k2⟩ := markOnly hstep hend suf (pre ++ [x']) n (k + (c x : Nat)) (by simpa using hl) (by simp at hn; omega) (fun y hy => hx y (by simp [hy])) (by omega) (by omega)
    refine ⟨x' :: ys, ?_⟩
    rw [h1 n pre suf hl]
    have e : (pre ++ [x']) ++ suf = pre ++ x' :: suf := by simp
    rw [e] at k2
    have e2 : ((pre ++ [x']).length : Int) = ((pre.length + 1 : Nat) : Int) := by simp
    rw [e2] at k2
    rw [k2]
    simp only [List.append_assoc, List.cons_append, List.nil_append, Option.some.injEq, Prod.mk.injEq, true_and]
    omega

theorem szSum_mul {α : Type} {c z : α → Nat} {A : Nat} : ∀ {xs : List α}, (∀ x ∈ xs, c x ≤ A + A * z x) → szSum c xs ≤ A * (xs.length + szSum z xs)
  | [], _ => by simp [szSum]
  | x :: xs, h => by
    have h1 := h x (by simp)
    have h2 := szSum_mul (xs := xs) fun y hy => h y (by simp [hy])
    simp only [szSum, List.length_cons]
    rw [show A * (xs.length + 1 + (z x + szSum z xs)) = (A + A * z x) + A * (xs.length + szSum z xs) from by simp only [Nat.mul_add]; omega]
    omega
theorem szSum_const {α : Type} {c : α → Nat} {A : Nat} : ∀ {xs : List α}, (∀ x ∈ xs, c x ≤ A) → szSum c xs ≤ A * xs.length
  | [], _ => by simp [szSum]
  | x :: xs, h => by
    have h1 := h x (by simp)
    have h2 := szSum_const (xs := xs) fun y hy => h y (by simp [hy])
    simp only [szSum, List.length_cons, Nat.mul_add]
    omega

/-! ### the text of a mark -/
theorem u8_range (n : Int) : 0 ≤ IntKind.u8.wrap n ∧ IntKind.u8.wrap n < 256 := by
  have h1 : IntKind.u8.wrap n = n % 256 ∨ True := .inr trivial
  unfold IntKind.wrap
  simp [IntKind.signed, IntKind.bits]
  omega
end Go.Sh

namespace Go.Sh
set_option linter.unusedVariables false
set_option linter.unusedSimpArgs false

/-- a loop that carries a state along a list, under a condition that it keeps -/
theorem invLoop {α σ R : Type} {xs : List α} {step : σ → α → σ} {I : Nat → σ → Prop} {E : σ → Option R} {L : Nat → Int → σ → Option R}
    (hI : ∀ s (k : Nat) (hk : k < xs.length), I k s → I (k + 1) (step s xs[k]))
    (h1 : ∀ n s (k : Nat) (hk : k < xs.length), I k s → L (n + 1) (k : Int) s = L n ((k + 1 : Nat) : Int) (step s xs[k])) (h2 : ∀ n s, I xs.length s → L (n + 1) (xs.length : Int) s = E s) :
    ∀ (n k : Nat) (s : σ), xs.length - k < n → k ≤ xs.length → I k s → L n (k : Int) s = E ((xs.drop k).foldl step s) ∧ I xs.length ((xs.drop k).foldl step s)
  | 0, k, s, hn, _, _ => by omega
  | n + 1, k, s, hn, hk, hi => by
    rcases Nat.lt_or_ge k xs.length with h | h
    · have ih := invLoop hI h1 h2 n (k + 1) _ (by omega) h (hI s k h hi)
      rw [h1 n s k h hi, List.drop_eq_getElem_cons h, List.foldl_cons]
      exact ih
    · have : k = xs.length := by omega
      subst this
      rw [h2 n s hi]
      simpa using hi
theorem invAll {α σ R : Type} {xs : List α} {step : σ → α → σ} {I : Nat → σ → Prop} {E : σ → Option R} {L : Nat → Int → σ → Option R} (hx : xs.length ≤ maxLen)
    (hI : ∀ s (k : Nat) (hk : k < xs.length), I k s → I (k + 1) (step s xs[k]))
    (h1 : ∀ n s (k : Nat) (hk : k < xs.length), I k s → L (n + 1) (k : Int) s = L n ((k + 1 : Nat) : Int) (step s xs[k])) (h2 : ∀ n s, I xs.length s → L (n + 1) (xs.length : Int) s = E s) (s : σ) (h0 : I 0 s) :
    L fuel 0 s = E (xs.foldl step s) ∧ I xs.length (xs.foldl step s) := by
  have hm := le_max hx
  have := invLoop hI h1 h2 fuel 0 s (by unfold fuel; omega) (by omega) h0
  simpa using this

theorem filterAll {α R : Type} {xs : List α} {f : α → Bool} {b : Nat} {E : List α → Option R} {L : Nat → Int → List α → Option R} (hx : xs.length ≤ maxLen) (hb : xs.length * b ≤ 140737488355328)
    (h1 : ∀ n (r : List α) (k : Nat) (hk : k < xs.length), L (n + 1) (k : Int) r = if f xs[k] = true then (app b r [xs[k]]).bind fun _ => L n ((k + 1 : Nat) : Int) (r ++ [xs[k]]) else L n ((k + 1 : Nat) : Int) r) (h2 : ∀ n r, L (n + 1) (xs.length : Int) r = E r) :
    L fuel 0 [] = E (xs.filter f) := by
  have key := invAll (L := fun n k r => L n k r) (step := fun r x => if f x = true then r ++ [x] else r) (I := fun k r => r.length ≤ k) (E := E) hx
    (fun s k hk hi => by have hi' : s.length ≤ k := hi; split <;> (try simp only [List.length_append, List.length_cons, List.length_nil]) <;> omega) (fun n s k hk hi => by
      rw [h1 n s k hk]
      by_cases h : f xs[k] = true
      · rw [if_pos h, if_pos h, app_ok, Option.bind_some]
        simp only [List.length_cons, List.length_nil]
        refine Nat.le_trans (Nat.mul_le_mul_right b (show s.length + (0 + 1) ≤ xs.length by omega)) hb
      · rw [if_neg h, if_neg h]) (fun n s _ => h2 n s) [] (by simp)
  have e : ∀ (l : List α) (r : List α), l.foldl (fun r x => if f x = true then r ++ [x] else r) r = r ++ l.filter f := by
    intro l
    induction l with
    | nil => intro r; simp
    | cons x l ih =>
      intro r
      rw [List.foldl_cons, ih, List.filter_cons]
      split <;> simp
  rw [key.1, e]
  simp
theorem copyAll {α R : Type} {xs : List α} {b : Nat} {E : List α → Option R} {L : Nat → Int → List α → Option R} (hx : xs.length ≤ 1073741824) (hb : b ≤ 65536)
    (h1 : ∀ n (r : List α) (k : Nat) (hk : k < xs.length), L (n + 1) (k : Int) r = (app b r [xs[k]]).bind fun _ => L n ((k + 1 : Nat) : Int) (r ++ [xs[k]])) (h2 : ∀ n r, L (n + 1) (xs.length : Int) r = E r) :
    L fuel 0 [] = E xs := by
  have := filterAll (xs := xs) (f := fun _ => true) (b := b) (E := E) (L := L) (by unfold maxLen; omega) (Nat.le_trans (Nat.mul_le_mul hx hb) (by omega)) (fun n r k hk => by rw [if_pos rfl]; exact h1 n r k hk) h2
  rw [this, List.filter_eq_self.2 (fun _ _ => rfl)]
theorem app0 {α : Type} {b : Nat} {ys : List α} (h : ys.length ≤ 1073741824) (hb : b ≤ 65536) : app b [] ys = some ys := by
  rw [app_ok]
  · simp
  · simp only [List.length_nil, Nat.zero_add]
    exact Nat.le_trans (Nat.mul_le_mul h hb) (by omega)
/-- a row's elements, with others put in at a place -/
def insAt {α : Type} (b : Nat) (xs : List α) (i : Int) (ys : List α) : Option (List α) :=
  if 0 ≤ i ∧ i.toNat ≤ xs.length ∧ 0 < ys.length ∧ (xs.length + ys.length) * b ≤ 140737488355328 then some (xs.take i.toNat ++ (ys ++ xs.drop i.toNat)) else none
theorem insAt_some {α : Type} {b : Nat} {xs ys zs : List α} {i : Int} (h : insAt b xs i ys = some zs) : 0 ≤ i ∧ i.toNat ≤ xs.length ∧ 0 < ys.length ∧ (xs.length + ys.length) * b ≤ 140737488355328 := by
  unfold insAt at h
  split at h
  · assumption
  · cases h
theorem insAt_ok {α : Type} {b : Nat} {xs ys : List α} {i : Int} (h : 0 ≤ i ∧ i.toNat ≤ xs.length ∧ 0 < ys.length ∧ (xs.length + ys.length) * b ≤ 140737488355328) : insAt b xs i ys = some (xs.take i.toNat ++ (ys ++ xs.drop i.toNat)) := by
  unfold insAt; rw [if_pos h]
/-- a row's elements without a part -/
def delAt {α : Type} (xs : List α) (i j : Int) : Option (List α) := if 0 ≤ i ∧ i ≤ j ∧ j.toNat ≤ xs.length then some (xs.take i.toNat ++ xs.drop j.toNat) else none
theorem delAt_some {α : Type} {xs zs : List α} {i j : Int} (h : delAt xs i j = some zs) : 0 ≤ i ∧ i ≤ j ∧ j.toNat ≤ xs.length := by
  unfold delAt at h
  split at h
  · assumption
  · cases h
theorem delAt_ok {α : Type} {xs : List α} {i j : Int} (h : 0 ≤ i ∧ i ≤ j ∧ j.toNat ≤ xs.length) : delAt xs i j = some (xs.take i.toNat ++ xs.drop j.toNat) := by
  unfold delAt; rw [if_pos h]
theorem slcLo_p {α : Type} {xs z : List α} {i : Int} (h : slcLo xs i = some z) : 0 ≤ i ∧ i.toNat ≤ xs.length := by
  unfold slcLo at h
  split at h
  · assumption
  · cases h
theorem slcHi_p {α : Type} {xs z : List α} {i : Int} (h : slcHi xs i = some z) : 0 ≤ i ∧ i.toNat ≤ xs.length := by
  unfold slcHi at h
  split at h
  · assumption
  · cases h
theorem slcLH_p {α : Type} {xs z : List α} {i j : Int} (h : slcLH xs i j = some z) : 0 ≤ i ∧ i ≤ j ∧ j.toNat ≤ xs.length := by
  unfold slcLH at h
  split at h
  · assumption
  · cases h
end Go.Sh

namespace Go.Sh
set_option linter.unusedVariables false
set_option linter.unusedSimpArgs false
theorem strOf_one (k : IntKind) (n : Int) : strOf [[.int k n]] = bytesStr [n] := rfl
section
variable {P : Program} {base N : Nat} {w0 : W0} {Z : St → Prop} {k : List Fr} {s s' : St}
theorem rn {id : Nat} {ops : Array Oper} (hk : aft P base w0 N Z k .normal s') (h : exOps P (tiOf P) N ops ops.toList s (Is s') := by (simp +decide only [E, reduceIte, Nat.reduceAdd, Nat.reduceMul, Int.reduceEq, Int.reduceLT, Bool.not_true, Bool.not_false, L, TB, EN, *, -h]; exact Is.mk _)) : SW P base w0 N (.region id ops false) s (aft P base w0 N Z k) := SW_run (h) hk
theorem rd (hm : P.follows .mixedOrders = true) {id : Nat} {ops : Array Oper} (hk : aft P base w0 N Z k .normal s') (h : exOpsF P (tiOf P) N ops ops.toList s [] (fun t fps => OrdOk ops fps ∧ Is s' t) := by (simp +decide only [E, reduceIte, Nat.reduceAdd, Nat.reduceMul, Int.reduceEq, Int.reduceLT, Bool.not_true, Bool.not_false, L, TB, EN, *, -h]; exact ⟨.mk (by decide +kernel), Is.mk _⟩)) : SW P base w0 N (.region id ops true) s (aft P base w0 N Z k) := SW_runD hm (h) hk
theorem rn1 {X1 : Prop} {id : Nat} {ops : Array Oper} (c1 : X1) (hk : aft P base w0 N Z k .normal s') (h : X1 → exOps P (tiOf P) N ops ops.toList s (Is s') := by (intro hc1; simp +decide only [E, reduceIte, Nat.reduceAdd, Nat.reduceMul, Int.reduceEq, Int.reduceLT, Bool.not_true, Bool.not_false, L, TB, EN, *, -h, -hc1]; (try (first | refine ⟨_, hc1, ?_⟩ | refine ⟨hc1, ?_⟩ | refine ⟨by (have hb := app_some hc1); simp [EN, List.length_append, strBytes_len] at hb ⊢ <;> omega, ?_⟩ | refine ⟨by (have hb := app1_some hc1); simp [EN, List.length_append, strBytes_len] at hb ⊢ <;> omega, ?_⟩ | (simp only [List.map_append, List.map_cons, List.map_nil, EN] at hc1; refine ⟨_, hc1, ?_⟩) | (simp only [List.map_append, List.map_cons, List.map_nil, EN, *, -h] at hc1; refine ⟨_, hc1, ?_⟩))); (try simp +decide only [E, reduceIte, Nat.reduceAdd, Nat.reduceMul, Int.reduceEq, Int.reduceLT, Bool.not_true, Bool.not_false, L, TB, EN, *, -h, -hc1]); exact Is.mk _)) : SW P base w0 N (.region id ops false) s (aft P base w0 N Z k) := SW_run (h c1) hk
theorem rd1 (hm : P.follows .mixedOrders = true) {X1 : Prop} {id : Nat} {ops : Array Oper} (c1 : X1) (hk : aft P base w0 N Z k .normal s') (h : X1 → exOpsF P (tiOf P) N ops ops.toList s [] (fun t fps => OrdOk ops fps ∧ Is s' t) := by (intro hc1; simp +decide only [E, reduceIte, Nat.reduceAdd, Nat.reduceMul, Int.reduceEq, Int.reduceLT, Bool.not_true, Bool.not_false, L, TB, EN, *, -h, -hc1]; (try (first | refine ⟨_, hc1, ?_⟩ | refine ⟨hc1, ?_⟩ | refine ⟨by (have hb := app_some hc1); simp [EN, List.length_append, strBytes_len] at hb ⊢ <;> omega, ?_⟩ | refine ⟨by (have hb := app1_some hc1); simp [EN, List.length_append, strBytes_len] at hb ⊢ <;> omega, ?_⟩ | (simp only [List.map_append, List.map_cons, List.map_nil, EN] at hc1; refine ⟨_, hc1, ?_⟩) | (simp only [List.map_append, List.map_cons, List.map_nil, EN, *, -h] at hc1; refine ⟨_, hc1, ?_⟩))); (try simp +decide only [E, reduceIte, Nat.reduceAdd, Nat.reduceMul, Int.reduceEq, Int.reduceLT, Bool.not_true, Bool.not_false, L, TB, EN, *, -h, -hc1]); exact ⟨.mk (by decide +kernel), Is.mk _⟩)) : SW P base w0 N (.region id ops true) s (aft P base w0 N Z k) := SW_runD hm (h c1) hk
theorem rn2 {X1 : Prop} {X2 : Prop} {id : Nat} {ops : Array Oper} (c1 : X1) (c2 : X2) (hk : aft P base w0 N Z k .normal s') (h : X1 → X2 → exOps P (tiOf P) N ops ops.toList s (Is s') := by (intro hc1 hc2; simp +decide only [E, reduceIte, Nat.reduceAdd, Nat.reduceMul, Int.reduceEq, Int.reduceLT, Bool.not_true, Bool.not_false, L, TB, EN, *, -h, -hc1, -hc2]; (try (first | refine ⟨_, hc1, ?_⟩ | refine ⟨hc1, ?_⟩ | refine ⟨by (have hb := app_some hc1); simp [EN, List.length_append, strBytes_len] at hb ⊢ <;> omega, ?_⟩ | refine ⟨by (have hb := app1_some hc1); simp [EN, List.length_append, strBytes_len] at hb ⊢ <;> omega, ?_⟩ | (simp only [List.map_append, List.map_cons, List.map_nil, EN] at hc1; refine ⟨_, hc1, ?_⟩) | (simp only [List.map_append, List.map_cons, List.map_nil, EN, *, -h] at hc1; refine ⟨_, hc1, ?_⟩))); (try simp +decide only [E, reduceIte, Nat.reduceAdd, Nat.reduceMul, Int.reduceEq, Int.reduceLT, Bool.not_true, Bool.not_false, L, TB, EN, *, -h, -hc1, -hc2]); (try (first | refine ⟨_, hc2, ?_⟩ | refine ⟨hc2, ?_⟩ | refine ⟨by (have hb := app_some hc2); simp [EN, List.length_append, strBytes_len] at hb ⊢ <;> omega, ?_⟩ | refine ⟨by (have hb := app1_some hc2); simp [EN, List.length_append, strBytes_len] at hb ⊢ <;> omega, ?_⟩ | (simp only [List.map_append, List.map_cons, List.map_nil, EN] at hc2; refine ⟨_, hc2, ?_⟩) | (simp only [List.map_append, List.map_cons, List.map_nil, EN, *, -h] at hc2; refine ⟨_, hc2, ?_⟩))); (try simp +decide only [E, reduceIte, Nat.reduceAdd, Nat.reduceMul, Int.reduceEq, Int.reduceLT, Bool.not_true, Bool.not_false, L, TB, EN, *, -h, -hc1, -hc2]); exact Is.mk _)) : SW P base w0 N (.region id ops false) s (aft P base w0 N Z k) := SW_run (h c1 c2) hk
theorem rd2 (hm : P.follows .mixedOrders = true) {X1 : Prop} {X2 : Prop} {id : Nat} {ops : Array Oper} (c1 : X1) (c2 : X2) (hk : aft P base w0 N Z k .normal s') (h : X1 → X2 → exOpsF P (tiOf P) N ops ops.toList s [] (fun t fps => OrdOk ops fps ∧ Is s' t) := by (intro hc1 hc2; simp +decide only [E, reduceIte, Nat.reduceAdd, Nat.reduceMul, Int.reduceEq, Int.reduceLT, Bool.not_true, Bool.not_false, L, TB, EN, *, -h, -hc1, -hc2]; (try (first | refine ⟨_, hc1, ?_⟩ | refine ⟨hc1, ?_⟩ | refine ⟨by (have hb := app_some hc1); simp [EN, List.length_append, strBytes_len] at hb ⊢ <;> omega, ?_⟩ | refine ⟨by (have hb := app1_some hc1); simp [EN, List.length_append, strBytes_len] at hb ⊢ <;> omega, ?_⟩ | (simp only [List.map_append, List.map_cons, List.map_nil, EN] at hc1; refine ⟨_, hc1, ?_⟩) | (simp only [List.map_append, List.map_cons, List.map_nil, EN, *, -h] at hc1; refine ⟨_, hc1, ?_⟩))); (try simp +decide only [E, reduceIte, Nat.reduceAdd, Nat.reduceMul, Int.reduceEq, Int.reduceLT, Bool.not_true, Bool.not_false, L, TB, EN, *, -h, -hc1, -hc2]); (try (first | refine ⟨_, hc2, ?_⟩ | refine ⟨hc2, ?_⟩ | refine ⟨by (have hb := app_some hc2); simp [EN, List.length_append, strBytes_len] at hb ⊢ <;> omega, ?_⟩ | refine ⟨by (have hb := app1_some hc2); simp [EN, List.length_append, strBytes_len] at hb ⊢ <;> omega, ?_⟩ | (simp only [List.map_append, List.map_cons, List.map_nil, EN] at hc2; refine ⟨_, hc2, ?_⟩) | (simp only [List.map_append, List.map_cons, List.map_nil, EN, *, -h] at hc2; refine ⟨_, hc2, ?_⟩))); (try simp +decide only [E, reduceIte, Nat.reduceAdd, Nat.reduceMul, Int.reduceEq, Int.reduceLT, Bool.not_true, Bool.not_false, L, TB, EN, *, -h, -hc1, -hc2]); exact ⟨.mk (by decide +kernel), Is.mk _⟩)) : SW P base w0 N (.region id ops true) s (aft P base w0 N Z k) := SW_runD hm (h c1 c2) hk
theorem rn3 {X1 : Prop} {X2 : Prop} {X3 : Prop} {id : Nat} {ops : Array Oper} (c1 : X1) (c2 : X2) (c3 : X3) (hk : aft P base w0 N Z k .normal s') (h : X1 → X2 → X3 → exOps P (tiOf P) N ops ops.toList s (Is s') := by (intro hc1 hc2 hc3; simp +decide only [E, reduceIte, Nat.reduceAdd, Nat.reduceMul, Int.reduceEq, Int.reduceLT, Bool.not_true, Bool.not_false, L, TB, EN, *, -h, -hc1, -hc2, -hc3]; (try (first | refine ⟨_, hc1, ?_⟩ | refine ⟨hc1, ?_⟩ | refine ⟨by (have hb := app_some hc1); simp [EN, List.length_append, strBytes_len] at hb ⊢ <;> omega, ?_⟩ | refine ⟨by (have hb := app1_some hc1); simp [EN, List.length_append, strBytes_len] at hb ⊢ <;> omega, ?_⟩ | (simp only [List.map_append, List.map_cons, List.map_nil, EN] at hc1; refine ⟨_, hc1, ?_⟩) | (simp only [List.map_append, List.map_cons, List.map_nil, EN, *, -h] at hc1; refine ⟨_, hc1, ?_⟩))); (try simp +decide only [E, reduceIte, Nat.reduceAdd, Nat.reduceMul, Int.reduceEq, Int.reduceLT, Bool.not_true, Bool.not_false, L, TB, EN, *, -h, -hc1, -hc2, -hc3]); (try (first | refine ⟨_, hc2, ?_⟩ | refine ⟨hc2, ?_⟩ | refine ⟨by (have hb := app_some hc2); simp [EN, List.length_append, strBytes_len] at hb ⊢ <;> omega, ?_⟩ | refine ⟨by (have hb := app1_some hc2); simp [EN, List.length_append, strBytes_len] at hb ⊢ <;> omega, ?_⟩ | (simp only [List.map_append, List.map_cons, List.map_nil, EN] at hc2; refine ⟨_, hc2, ?_⟩) | (simp only [List.map_append, List.map_cons, List.map_nil, EN, *, -h] at hc2; refine ⟨_, hc2, ?_⟩))); (try simp +decide only [E, reduceIte, Nat.reduceAdd, Nat.reduceMul, Int.reduceEq, Int.reduceLT, Bool.not_true, Bool.not_false, L, TB, EN, *, -h, -hc1, -hc2, -hc3]); (try (first | refine ⟨_, hc3, ?_⟩ | refine ⟨hc3, ?_⟩ | refine ⟨by (have hb := app_some hc3); simp [EN, List.length_append, strBytes_len] at hb ⊢ <;> omega, ?_⟩ | refine ⟨by (have hb := app1_some hc3); simp [EN, List.length_append, strBytes_len] at hb ⊢ <;> omega, ?_⟩ | (simp only [List.map_append, List.map_cons, List.map_nil, EN] at hc3; refine ⟨_, hc3, ?_⟩) | (simp only [List.map_append, List.map_cons, List.map_nil, EN, *, -h] at hc3; refine ⟨_, hc3, ?_⟩))); (try simp +decide only [E, reduceIte, Nat.reduceAdd, Nat.reduceMul, Int.reduceEq, Int.reduceLT, Bool.not_true, Bool.not_false, L, TB, EN, *, -h, -hc1, -hc2, -hc3]); exact Is.mk _)) : SW P base w0 N (.region id ops false) s (aft P base w0 N Z k) := SW_run (h c1 c2 c3) hk
theorem rd3 (hm : P.follows .mixedOrders = true) {X1 : Prop} {X2 : Prop} {X3 : Prop} {id : Nat} {ops : Array Oper} (c1 : X1) (c2 : X2) (c3 : X3) (hk : aft P base w0 N Z k .normal s') (h : X1 → X2 → X3 → exOpsF P (tiOf P) N ops ops.toList s [] (fun t fps => OrdOk ops fps ∧ Is s' t) := by (intro hc1 hc2 hc3; simp +decide only [E, reduceIte, Nat.reduceAdd, Nat.reduceMul, Int.reduceEq, Int.reduceLT, Bool.not_true, Bool.not_false, L, TB, EN, *, -h, -hc1, -hc2, -hc3]; (try (first | refine ⟨_, hc1, ?_⟩ | refine ⟨hc1, ?_⟩ | refine ⟨by (have hb := app_some hc1); simp [EN, List.length_append, strBytes_len] at hb ⊢ <;> omega, ?_⟩ | refine ⟨by (have hb := app1_some hc1); simp [EN, List.length_append, strBytes_len] at hb ⊢ <;> omega, ?_⟩ | (simp only [List.map_append, List.map_cons, List.map_nil, EN] at hc1; refine ⟨_, hc1, ?_⟩) | (simp only [List.map_append, List.map_cons, List.map_nil, EN, *, -h] at hc1; refine ⟨_, hc1, ?_⟩))); (try simp +decide only [E, reduceIte, Nat.reduceAdd, Nat.reduceMul, Int.reduceEq, Int.reduceLT, Bool.not_true, Bool.not_false, L, TB, EN, *, -h, -hc1, -hc2, -hc3]); (try (first | refine ⟨_, hc2, ?_⟩ | refine ⟨hc2, ?_⟩ | refine ⟨by (have hb := app_some hc2); simp [EN, List.length_append, strBytes_len] at hb ⊢ <;> omega, ?_⟩ | refine ⟨by (have hb := app1_some hc2); simp [EN, List.length_append, strBytes_len] at hb ⊢ <;> omega, ?_⟩ | (simp only [List.map_append, List.map_cons, List.map_nil, EN] at hc2; refine ⟨_, hc2, ?_⟩) | (simp only [List.map_append, List.map_cons, List.map_nil, EN, *, -h] at hc2; refine ⟨_, hc2, ?_⟩))); (try simp +decide only [E, reduceIte, Nat.reduceAdd, Nat.reduceMul, Int.reduceEq, Int.reduceLT, Bool.not_true, Bool.not_false, L, TB, EN, *, -h, -hc1, -hc2, -hc3]); (try (first | refine ⟨_, hc3, ?_⟩ | refine ⟨hc3, ?_⟩ | refine ⟨by (have hb := app_some hc3); simp [EN, List.length_append, strBytes_len] at hb ⊢ <;> omega, ?_⟩ | refine ⟨by (have hb := app1_some hc3); simp [EN, List.length_append, strBytes_len] at hb ⊢ <;> omega, ?_⟩ | (simp only [List.map_append, List.map_cons, List.map_nil, EN] at hc3; refine ⟨_, hc3, ?_⟩) | (simp only [List.map_append, List.map_cons, List.map_nil, EN, *, -h] at hc3; refine ⟨_, hc3, ?_⟩))); (try simp +decide only [E, reduceIte, Nat.reduceAdd, Nat.reduceMul, Int.reduceEq, Int.reduceLT, Bool.not_true, Bool.not_false, L, TB, EN, *, -h, -hc1, -hc2, -hc3]); exact ⟨.mk (by decide +kernel), Is.mk _⟩)) : SW P base w0 N (.region id ops true) s (aft P base w0 N Z k) := SW_runD hm (h c1 c2 c3) hk
theorem rn4 {X1 : Prop} {X2 : Prop} {X3 : Prop} {X4 : Prop} {id : Nat} {ops : Array Oper} (c1 : X1) (c2 : X2) (c3 : X3) (c4 : X4) (hk : aft P base w0 N Z k .normal s') (h : X1 → X2 → X3 → X4 → exOps P (tiOf P) N ops ops.toList s (Is s') := by (intro hc1 hc2 hc3 hc4; simp +decide only [E, reduceIte, Nat.reduceAdd, Nat.reduceMul, Int.reduceEq, Int.reduceLT, Bool.not_true, Bool.not_false, L, TB, EN, *, -h, -hc1, -hc2, -hc3, -hc4]; (try (first | refine ⟨_, hc1, ?_⟩ | refine ⟨hc1, ?_⟩ | refine ⟨by (have hb := app_some hc1); simp [EN, List.length_append, strBytes_len] at hb ⊢ <;> omega, ?_⟩ | refine ⟨by (have hb := app1_some hc1); simp [EN, List.length_append, strBytes_len] at hb ⊢ <;> omega, ?_⟩ | (simp only [List.map_append, List.map_cons, List.map_nil, EN] at hc1; refine ⟨_, hc1, ?_⟩) | (simp only [List.map_append, List.map_cons, List.map_nil, EN, *, -h] at hc1; refine ⟨_, hc1, ?_⟩))); (try simp +decide only [E, reduceIte, Nat.reduceAdd, Nat.reduceMul, Int.reduceEq, Int.reduceLT, Bool.not_true, Bool.not_false, L, TB, EN, *, -h, -hc1, -hc2, -hc3, -hc4]); (try (first | refine ⟨_, hc2, ?_⟩ | refine ⟨hc2, ?_⟩ | refine ⟨by (have hb := app_some hc2); simp [EN, List.length_append, strBytes_len] at hb ⊢ <;> omega, ?_⟩ | refine ⟨by (have hb := app1_some hc2); simp [EN, List.length_append, strBytes_len] at hb ⊢ <;> omega, ?_⟩ | (simp only [List.map_append, List.map_cons, List.map_nil, EN] at hc2; refine ⟨_, hc2, ?_⟩) | (simp only [List.map_append, List.map_cons, List.map_nil, EN, *, -h] at hc2; refine ⟨_, hc2, ?_⟩))); (try simp +decide only [E, reduceIte, Nat.reduceAdd, Nat.reduceMul, Int.reduceEq, Int.reduceLT, Bool.not_true, Bool.not_false, L, TB, EN, *, -h, -hc1, -hc2, -hc3, -hc4]); (try (first | refine ⟨_, hc3, ?_⟩ | refine ⟨hc3, ?_⟩ | refine ⟨by (have hb := app_some hc3); simp [EN, List.length_append, strBytes_len] at hb ⊢ <;> omega, ?_⟩ | refine ⟨by (have hb := app1_some hc3); simp [EN, List.length_append, strBytes_len] at hb ⊢ <;> omega, ?_⟩ | (simp only [List.map_append, List.map_cons, List.map_nil, EN] at hc3; refine ⟨_, hc3, ?_⟩) | (simp only [List.map_append, List.map_cons, List.map_nil, EN, *, -h] at hc3; refine ⟨_, hc3, ?_⟩))); (try simp +decide only [E, reduceIte, Nat.reduceAdd, Nat.reduceMul, Int.reduceEq, Int.reduceLT, Bool.not_true, Bool.not_false, L, TB, EN, *, -h, -hc1, -hc2, -hc3, -hc4]); (try (first | refine ⟨_, hc4, ?_⟩ | refine ⟨hc4, ?_⟩ | refine ⟨by (have hb := app_some hc4); simp [EN, List.length_append, strBytes_len] at hb ⊢ <;> omega, ?_⟩ | refine ⟨by (have hb := app1_some hc4); simp [EN, List.length_append, strBytes_len] at hb ⊢ <;> omega, ?_⟩ | (simp only [List.map_append, List.map_cons, List.map_nil, EN] at hc4; refine ⟨_, hc4, ?_⟩) | (simp only [List.map_append, List.map_cons, List.map_nil, EN, *, -h] at hc4; refine ⟨_, hc4, ?_⟩))); (try simp +decide only [E, reduceIte, Nat.reduceAdd, Nat.reduceMul, Int.reduceEq, Int.reduceLT, Bool.not_true, Bool.not_false, L, TB, EN, *, -h, -hc1, -hc2, -hc3, -hc4]); exact Is.mk _)) : SW P base w0 N (.region id ops false) s (aft P base w0 N Z k) := SW_run (h c1 c2 c3 c4) hk
theorem rn5 {X1 : Prop} {X2 : Prop} {X3 : Prop} {X4 : Prop} {X5 : Prop} {id : Nat} {ops : Array Oper} (c1 : X1) (c2 : X2) (c3 : X3) (c4 : X4) (c5 : X5) (hk : aft P base w0 N Z k .normal s') (h : X1 → X2 → X3 → X4 → X5 → exOps P (tiOf P) N ops ops.toList s (Is s') := by (intro hc1 hc2 hc3 hc4 hc5; simp +decide only [E, reduceIte, Nat.reduceAdd, Nat.reduceMul, Int.reduceEq, Int.reduceLT, Bool.not_true, Bool.not_false, L, TB, EN, *, -h, -hc1, -hc2, -hc3, -hc4, -hc5]; (try (first | refine ⟨_, hc1, ?_⟩ | refine ⟨hc1, ?_⟩ | refine ⟨by (have hb := app_some hc1); simp [EN, List.length_append, strBytes_len] at hb ⊢ <;> omega, ?_⟩ | refine ⟨by (have hb := app1_some hc1); simp [EN, List.length_append, strBytes_len] at hb ⊢ <;> omega, ?_⟩ | (simp only [List.map_append, List.map_cons, List.map_nil, EN] at hc1; refine ⟨_, hc1, ?_⟩) | (simp only [List.map_append, List.map_cons, List.map_nil, EN, *, -h] at hc1; refine ⟨_, hc1, ?_⟩))); (try simp +decide only [E, reduceIte, Nat.reduceAdd, Nat.reduceMul, Int.reduceEq, Int.reduceLT, Bool.not_true, Bool.not_false, L, TB, EN, *, -h, -hc1, -hc2, -hc3, -hc4, -hc5]); (try (first | refine ⟨_, hc2, ?_⟩ | refine ⟨hc2, ?_⟩ | refine ⟨by (have hb := app_some hc2); simp [EN, List.length_append, strBytes_len] at hb ⊢ <;> omega, ?_⟩ | refine ⟨by (have hb := app1_some hc2); simp [EN, List.length_append, strBytes_len] at hb ⊢ <;> omega, ?_⟩ | (simp only [List.map_append, List.map_cons, List.map_nil, EN] at hc2; refine ⟨_, hc2, ?_⟩) | (simp only [List.map_append, List.map_cons, List.map_nil, EN, *, -h] at hc2; refine ⟨_, hc2, ?_⟩))); (try simp +decide only [E, reduceIte, Nat.reduceAdd, Nat.reduceMul, Int.reduceEq, Int.reduceLT, Bool.not_true, Bool.not_false, L, TB, EN, *, -h, -hc1, -hc2, -hc3, -hc4, -hc5]); (try (first | refine ⟨_, hc3, ?_⟩ | refine ⟨hc3, ?_⟩ | refine ⟨by (have hb := app_some hc3); simp [EN, List.length_append, strBytes_len] at hb ⊢ <;> omega, ?_⟩ | refine ⟨by (have hb := app1_some hc3); simp [EN, List.length_append, strBytes_len] at hb ⊢ <;> omega, ?_⟩ | (simp only [List.map_append, List.map_cons, List.map_nil, EN] at hc3; refine ⟨_, hc3, ?_⟩) | (simp only [List.map_append, List.map_cons, List.map_nil, EN, *, -h] at hc3; refine ⟨_, hc3, ?_⟩))); (try simp +decide only [E, reduceIte, Nat.reduceAdd, Nat.reduceMul, Int.reduceEq, Int.reduceLT, Bool.not_true, Bool.not_false, L, TB, EN, *, -h, -hc1, -hc2, -hc3, -hc4, -hc5]); (try (first | refine ⟨_, hc4, ?_⟩ | refine ⟨hc4, ?_⟩ | refine ⟨by (have hb := app_some hc4); simp [EN, List.length_append, strBytes_len] at hb ⊢ <;> omega, ?_⟩ | refine ⟨by (have hb := app1_some hc4); simp [EN, List.length_append, strBytes_len] at hb ⊢ <;> omega, ?_⟩ | (simp only [List.map_append, List.map_cons, List.map_nil, EN] at hc4; refine ⟨_, hc4, ?_⟩) | (simp only [List.map_append, List.map_cons, List.map_nil, EN, *, -h] at hc4; refine ⟨_, hc4, ?_⟩))); (try simp +decide only [E, reduceIte, Nat.reduceAdd, Nat.reduceMul, Int.reduceEq, Int.reduceLT, Bool.not_true, Bool.not_false, L, TB, EN, *, -h, -hc1, -hc2, -hc3, -hc4, -hc5]); (try (first | refine ⟨_, hc5, ?_⟩ | refine ⟨hc5, ?_⟩ | refine ⟨by (have hb := app_some hc5); simp [EN, List.length_append, strBytes_len] at hb ⊢ <;> omega, ?_⟩ | refine ⟨by (have hb := app1_some hc5); simp [EN, List.length_append, strBytes_len] at hb ⊢ <;> omega, ?_⟩ | (simp only [List.map_append, List.map_cons, List.map_nil, EN] at hc5; refine ⟨_, hc5, ?_⟩) | (simp only [List.map_append, List.map_cons, List.map_nil, EN, *, -h] at hc5; refine ⟨_, hc5, ?_⟩))); (try simp +decide only [E, reduceIte, Nat.reduceAdd, Nat.reduceMul, Int.reduceEq, Int.reduceLT, Bool.not_true, Bool.not_false, L, TB, EN, *, -h, -hc1, -hc2, -hc3, -hc4, -hc5]); exact Is.mk _)) : SW P base w0 N (.region id ops false) s (aft P base w0 N Z k) := SW_run (h c1 c2 c3 c4 c5) hk
theorem rn6 {X1 : Prop} {X2 : Prop} {X3 : Prop} {X4 : Prop} {X5 : Prop} {X6 : Prop} {id : Nat} {ops : Array Oper} (c1 : X1) (c2 : X2) (c3 : X3) (c4 : X4) (c5 : X5) (c6 : X6) (hk : aft P base w0 N Z k .normal s') (h : X1 → X2 → X3 → X4 → X5 → X6 → exOps P (tiOf P) N ops ops.toList s (Is s') := by (intro hc1 hc2 hc3 hc4 hc5 hc6; simp +decide only [E, reduceIte, Nat.reduceAdd, Nat.reduceMul, Int.reduceEq, Int.reduceLT, Bool.not_true, Bool.not_false, L, TB, EN, *, -h, -hc1, -hc2, -hc3, -hc4, -hc5, -hc6]; (try (first | refine ⟨_, hc1, ?_⟩ | refine ⟨hc1, ?_⟩ | refine ⟨by (have hb := app_some hc1); simp [EN, List.length_append, strBytes_len] at hb ⊢ <;> omega, ?_⟩ | refine ⟨by (have hb := app1_some hc1); simp [EN, List.length_append, strBytes_len] at hb ⊢ <;> omega, ?_⟩ | (simp only [List.map_append, List.map_cons, List.map_nil, EN] at hc1; refine ⟨_, hc1, ?_⟩) | (simp only [List.map_append, List.map_cons, List.map_nil, EN, *, -h] at hc1; refine ⟨_, hc1, ?_⟩))); (try simp +decide only [E, reduceIte, Nat.reduceAdd, Nat.reduceMul, Int.reduceEq, Int.reduceLT, Bool.not_true, Bool.not_false, L, TB, EN, *, -h, -hc1, -hc2, -hc3, -hc4, -hc5, -hc6]); (try (first | refine ⟨_, hc2, ?_⟩ | refine ⟨hc2, ?_⟩ | refine ⟨by (have hb := app_some hc2); simp [EN, List.length_append, strBytes_len] at hb ⊢ <;> omega, ?_⟩ | refine ⟨by (have hb := app1_some hc2); simp [EN, List.length_append, strBytes_len] at hb ⊢ <;> omega, ?_⟩ | (simp only [List.map_append, List.map_cons, List.map_nil, EN] at hc2; refine ⟨_, hc2, ?_⟩) | (simp only [List.map_append, List.map_cons, List.map_nil, EN, *, -h] at hc2; refine ⟨_, hc2, ?_⟩))); (try simp +decide only [E, reduceIte, Nat.reduceAdd, Nat.reduceMul, Int.reduceEq, Int.reduceLT, Bool.not_true, Bool.not_false, L, TB, EN, *, -h, -hc1, -hc2, -hc3, -hc4, -hc5, -hc6]); (try (first | refine ⟨_, hc3, ?_⟩ | refine ⟨hc3, ?_⟩ | refine ⟨by (have hb := app_some hc3); simp [EN, List.length_append, strBytes_len] at hb ⊢ <;> omega, ?_⟩ | refine ⟨by (have hb := app1_some hc3); simp [EN, List.length_append, strBytes_len] at hb ⊢ <;> omega, ?_⟩ | (simp only [List.map_append, List.map_cons, List.map_nil, EN] at hc3; refine ⟨_, hc3, ?_⟩) | (simp only [List.map_append, List.map_cons, List.map_nil, EN, *, -h] at hc3; refine ⟨_, hc3, ?_⟩))); (try simp +decide only [E, reduceIte, Nat.reduceAdd, Nat.reduceMul, Int.reduceEq, Int.reduceLT, Bool.not_true, Bool.not_false, L, TB, EN, *, -h, -hc1, -hc2, -hc3, -hc4, -hc5, -hc6]); (try (first | refine ⟨_, hc4, ?_⟩ | refine ⟨hc4, ?_⟩ | refine ⟨by (have hb := app_some hc4); simp [EN, List.length_append, strBytes_len] at hb ⊢ <;> omega, ?_⟩ | refine ⟨by (have hb := app1_some hc4); simp [EN, List.length_append, strBytes_len] at hb ⊢ <;> omega, ?_⟩ | (simp only [List.map_append, List.map_cons, List.map_nil, EN] at hc4; refine ⟨_, hc4, ?_⟩) | (simp only [List.map_append, List.map_cons, List.map_nil, EN, *, -h] at hc4; refine ⟨_, hc4, ?_⟩))); (try simp +decide only [E, reduceIte, Nat.reduceAdd, Nat.reduceMul, Int.reduceEq, Int.reduceLT, Bool.not_true, Bool.not_false, L, TB, EN, *, -h, -hc1, -hc2, -hc3, -hc4, -hc5, -hc6]); (try (first | refine ⟨_, hc5, ?_⟩ | refine ⟨hc5, ?_⟩ | refine ⟨by (have hb := app_some hc5); simp [EN, List.length_append, strBytes_len] at hb ⊢ <;> omega, ?_⟩ | refine ⟨by (have hb := app1_some hc5); simp [EN, List.length_append, strBytes_len] at hb ⊢ <;> omega, ?_⟩ | (simp only [List.map_append, List.map_cons, List.map_nil, EN] at hc5; refine ⟨_, hc5, ?_⟩) | (simp only [List.map_append, List.map_cons, List.map_nil, EN, *, -h] at hc5; refine ⟨_, hc5, ?_⟩))); (try simp +decide only [E, reduceIte, Nat.reduceAdd, Nat.reduceMul, Int.reduceEq, Int.reduceLT, Bool.not_true, Bool.not_false, L, TB, EN, *, -h, -hc1, -hc2, -hc3, -hc4, -hc5, -hc6]); (try (first | refine ⟨_, hc6, ?_⟩ | refine ⟨hc6, ?_⟩ | refine ⟨by (have hb := app_some hc6); simp [EN, List.length_append, strBytes_len] at hb ⊢ <;> omega, ?_⟩ | refine ⟨by (have hb := app1_some hc6); simp [EN, List.length_append, strBytes_len] at hb ⊢ <;> omega, ?_⟩ | (simp only [List.map_append, List.map_cons, List.map_nil, EN] at hc6; refine ⟨_, hc6, ?_⟩) | (simp only [List.map_append, List.map_cons, List.map_nil, EN, *, -h] at hc6; refine ⟨_, hc6, ?_⟩))); (try simp +decide only [E, reduceIte, Nat.reduceAdd, Nat.reduceMul, Int.reduceEq, Int.reduceLT, Bool.not_true, Bool.not_false, L, TB, EN, *, -h, -hc1, -hc2, -hc3, -hc4, -hc5, -hc6]); exact Is.mk _)) : SW P base w0 N (.region id ops false) s (aft P base w0 N Z k) := SW_run (h c1 c2 c3 c4 c5 c6) hk
theorem exOps_app {P : Program} {T : TEnv} {N : Nat} {ops : Array Oper} : ∀ (l1 l2 : List Oper) {s : St} {K : St → Prop}, exOps P T N ops l1 s (fun s' => exOps P T N ops l2 s' K) → exOps P T N ops (l1 ++ l2) s K
  | [], l2, s, K, h => h
  | o :: l1, l2, s, K, h => ex_mono _ (fun s' hs => exOps_app l1 l2 hs) h
theorem ex_last {ops : Array Oper} {l : List Oper} {K : St → Prop} (h : exOps P (tiOf P) N ops l s (Is s')) (hk : K s') : exOps P (tiOf P) N ops l s K := exOps_mono l (fun t ht => by have e : t = s' := ht; subst e; exact hk) h
theorem ex_cut {ops : Array Oper} {l : List Oper} {K : St → Prop} (m : Nat) (h : exOps P (tiOf P) N ops (l.take m) s (Is s')) (hk : exOps P (tiOf P) N ops (l.drop m) s' K) : exOps P (tiOf P) N ops l s K := by
  have := exOps_app (l.take m) (l.drop m) (exOps_mono _ (K' := fun t => exOps P (tiOf P) N ops (l.drop m) t K) (fun t ht => by have e : t = s' := ht; subst e; exact hk) h)
  rwa [List.take_append_drop] at this
theorem rgo {id : Nat} {ops : Array Oper} (h : exOps P (tiOf P) N ops ops.toList s (fun s' => aft P base w0 N Z k .normal s')) : SW P base w0 N (.region id ops false) s (aft P base w0 N Z k) := SW_region h
theorem ec {ops : Array Oper} {l : List Oper} {K : St → Prop} (m : Nat) (hk : exOps P (tiOf P) N ops (l.drop m) s' K) (h : exOps P (tiOf P) N ops (l.take m) s (Is s') := by (simp +decide only [E, reduceIte, Nat.reduceAdd, Nat.reduceMul, Int.reduceEq, Int.reduceLT, Bool.not_true, Bool.not_false, L, TB, EN, *, -h]; exact Is.mk _)) : exOps P (tiOf P) N ops l s K := ex_cut m (h) hk
theorem ez {ops : Array Oper} {l : List Oper} {K : St → Prop} (hk : K s') (h : exOps P (tiOf P) N ops l s (Is s') := by (simp +decide only [E, reduceIte, Nat.reduceAdd, Nat.reduceMul, Int.reduceEq, Int.reduceLT, Bool.not_true, Bool.not_false, L, TB, EN, *, -h]; exact Is.mk _)) : exOps P (tiOf P) N ops l s K := ex_last (h) hk
theorem ec1 {X1 : Prop} {ops : Array Oper} {l : List Oper} {K : St → Prop} (m : Nat) (c1 : X1) (hk : exOps P (tiOf P) N ops (l.drop m) s' K) (h : X1 → exOps P (tiOf P) N ops (l.take m) s (Is s') := by (intro hc1; simp +decide only [E, reduceIte, Nat.reduceAdd, Nat.reduceMul, Int.reduceEq, Int.reduceLT, Bool.not_true, Bool.not_false, L, TB, EN, *, -h, -hc1]; (try (first | refine ⟨_, hc1, ?_⟩ | refine ⟨hc1, ?_⟩ | refine ⟨by (have hb := app_some hc1); simp [EN, List.length_append, strBytes_len] at hb ⊢ <;> omega, ?_⟩ | refine ⟨by (have hb := app1_some hc1); simp [EN, List.length_append, strBytes_len] at hb ⊢ <;> omega, ?_⟩ | (simp only [List.map_append, List.map_cons, List.map_nil, EN] at hc1; refine ⟨_, hc1, ?_⟩) | (simp only [List.map_append, List.map_cons, List.map_nil, EN, *, -h] at hc1; refine ⟨_, hc1, ?_⟩))); (try simp +decide only [E, reduceIte, Nat.reduceAdd, Nat.reduceMul, Int.reduceEq, Int.reduceLT, Bool.not_true, Bool.not_false, L, TB, EN, *, -h, -hc1]); exact Is.mk _)) : exOps P (tiOf P) N ops l s K := ex_cut m (h c1) hk
theorem ez1 {X1 : Prop} {ops : Array Oper} {l : List Oper} {K : St → Prop} (c1 : X1) (hk : K s') (h : X1 → exOps P (tiOf P) N ops l s (Is s') := by (intro hc1; simp +decide only [E, reduceIte, Nat.reduceAdd, Nat.reduceMul, Int.reduceEq, Int.reduceLT, Bool.not_true, Bool.not_false, L, TB, EN, *, -h, -hc1]; (try (first | refine ⟨_, hc1, ?_⟩ | refine ⟨hc1, ?_⟩ | refine ⟨by (have hb := app_some hc1); simp [EN, List.length_append, strBytes_len] at hb ⊢ <;> omega, ?_⟩ | refine ⟨by (have hb := app1_some hc1); simp [EN, List.length_append, strBytes_len] at hb ⊢ <;> omega, ?_⟩ | (simp only [List.map_append, List.map_cons, List.map_nil, EN] at hc1; refine ⟨_, hc1, ?_⟩) | (simp only [List.map_append, List.map_cons, List.map_nil, EN, *, -h] at hc1; refine ⟨_, hc1, ?_⟩))); (try simp +decide only [E, reduceIte, Nat.reduceAdd, Nat.reduceMul, Int.reduceEq, Int.reduceLT, Bool.not_true, Bool.not_false, L, TB, EN, *, -h, -hc1]); exact Is.mk _)) : exOps P (tiOf P) N ops l s K := ex_last (h c1) hk
theorem ec2 {X1 : Prop} {X2 : Prop} {ops : Array Oper} {l : List Oper} {K : St → Prop} (m : Nat) (c1 : X1) (c2 : X2) (hk : exOps P (tiOf P) N ops (l.drop m) s' K) (h : X1 → X2 → exOps P (tiOf P) N ops (l.take m) s (Is s') := by (intro hc1 hc2; simp +decide only [E, reduceIte, Nat.reduceAdd, Nat.reduceMul, Int.reduceEq, Int.reduceLT, Bool.not_true, Bool.not_false, L, TB, EN, *, -h, -hc1, -hc2]; (try (first | refine ⟨_, hc1, ?_⟩ | refine ⟨hc1, ?_⟩ | refine ⟨by (have hb := app_some hc1); simp [EN, List.length_append, strBytes_len] at hb ⊢ <;> omega, ?_⟩ | refine ⟨by (have hb := app1_some hc1); simp [EN, List.length_append, strBytes_len] at hb ⊢ <;> omega, ?_⟩ | (simp only [List.map_append, List.map_cons, List.map_nil, EN] at hc1; refine ⟨_, hc1, ?_⟩) | (simp only [List.map_append, List.map_cons, List.map_nil, EN, *, -h] at hc1; refine ⟨_, hc1, ?_⟩))); (try simp +decide only [E, reduceIte, Nat.reduceAdd, Nat.reduceMul, Int.reduceEq, Int.reduceLT, Bool.not_true, Bool.not_false, L, TB, EN, *, -h, -hc1, -hc2]); (try (first | refine ⟨_, hc2, ?_⟩ | refine ⟨hc2, ?_⟩ | refine ⟨by (have hb := app_some hc2); simp [EN, List.length_append, strBytes_len] at hb ⊢ <;> omega, ?_⟩ | refine ⟨by (have hb := app1_some hc2); simp [EN, List.length_append, strBytes_len] at hb ⊢ <;> omega, ?_⟩ | (simp only [List.map_append, List.map_cons, List.map_nil, EN] at hc2; refine ⟨_, hc2, ?_⟩) | (simp only [List.map_append, List.map_cons, List.map_nil, EN, *, -h] at hc2; refine ⟨_, hc2, ?_⟩))); (try simp +decide only [E, reduceIte, Nat.reduceAdd, Nat.reduceMul, Int.reduceEq, Int.reduceLT, Bool.not_true, Bool.not_false, L, TB, EN, *, -h, -hc1, -hc2]); exact Is.mk _)) : exOps P (tiOf P) N ops l s K := ex_cut m (h c1 c2) hk
theorem ez2 {X1 : Prop} {X2 : Prop} {ops : Array Oper} {l : List Oper} {K : St → Prop} (c1 : X1) (c2 : X2) (hk : K s') (h : X1 → X2 → exOps P (tiOf P) N ops l s (Is s') := by (intro hc1 hc2; simp +decide only [E, reduceIte, Nat.reduceAdd, Nat.reduceMul, Int.reduceEq, Int.reduceLT, Bool.not_true, Bool.not_false, L, TB, EN, *, -h, -hc1, -hc2]; (try (first | refine ⟨_, hc1, ?_⟩ | refine ⟨hc1, ?_⟩ | refine ⟨by (have hb := app_some hc1); simp [EN, List.length_append, strBytes_len] at hb ⊢ <;> omega, ?_⟩ | refine ⟨by (have hb := app1_some hc1); simp [EN, List.length_append, strBytes_len] at hb ⊢ <;> omega, ?_⟩ | (simp only [List.map_append, List.map_cons, List.map_nil, EN] at hc1; refine ⟨_, hc1, ?_⟩) | (simp only [List.map_append, List.map_cons, List.map_nil, EN, *, -h] at hc1; refine ⟨_, hc1, ?_⟩))); (try simp +decide only [E, reduceIte, Nat.reduceAdd, Nat.reduceMul, Int.reduceEq, Int.reduceLT, Bool.not_true, Bool.not_false, L, TB, EN, *, -h, -hc1, -hc2]); (try (first | refine ⟨_, hc2, ?_⟩ | refine ⟨hc2, ?_⟩ | refine ⟨by (have hb := app_some hc2); simp [EN, List.length_append, strBytes_len] at hb ⊢ <;> omega, ?_⟩ | refine ⟨by (have hb := app1_some hc2); simp [EN, List.length_append, strBytes_len] at hb ⊢ <;> omega, ?_⟩ | (simp only [List.map_append, List.map_cons, List.map_nil, EN] at hc2; refine ⟨_, hc2, ?_⟩) | (simp only [List.map_append, List.map_cons, List.map_nil, EN, *, -h] at hc2; refine ⟨_, hc2, ?_⟩))); (try simp +decide only [E, reduceIte, Nat.reduceAdd, Nat.reduceMul, Int.reduceEq, Int.reduceLT, Bool.not_true, Bool.not_false, L, TB, EN, *, -h, -hc1, -hc2]); exact Is.mk _)) : exOps P (tiOf P) N ops l s K := ex_last (h c1 c2) hk
theorem ct {t : Nat} {x y : Code} (h0 : SW P base w0 N x s (aft P base w0 N Z k)) (hb : s.t t = .v false [.dat (.bool true)] := by (simp +decide only [F, reduceIte, Nat.reduceAdd, Bool.not_true, Bool.not_false, EN, *, -h])) : SW P base w0 N (.cond (.tmp t) x y) s (aft P base w0 N Z k) := SW_ct hb h0
theorem cf {t : Nat} {x y : Code} (h0 : SW P base w0 N y s (aft P base w0 N Z k)) (hb : s.t t = .v false [.dat (.bool false)] := by (simp +decide only [F, reduceIte, Nat.reduceAdd, Bool.not_true, Bool.not_false, EN, *, -h])) : SW P base w0 N (.cond (.tmp t) x y) s (aft P base w0 N Z k) := SW_cf hb h0
theorem cu {c : Code} {Q : Exit → St → Prop} (J : St → Prop) (h0 : ∀ s, J s → SW P base w0 N c s Q) (hj : J s := by ((repeat' (with_reducible refine ⟨?_, ?_⟩)) <;> (first | trivial | (simp +decide only [F, reduceIte, Nat.reduceAdd, Bool.not_true, Bool.not_false, EN, *, -h])))) : SW P base w0 N c s Q := h0 s hj
end
section
end
end Go.Sh

namespace Go.Sh
set_option linter.unusedVariables false
set_option linter.unusedSimpArgs false
open Go Go.RowKit Go.Lib
theorem run_copy_k {P : Program} (w : World) (dT sT ty elem : TypeId) (ie : TypeInfo) (g o dLen dCap : Nat) (a : Addr) (sLen sCap : Nat) (cur : Array Value) (t : TypeId) (cs : List Value)
    (hu : P.underlying dT = some (.slice elem)) (hs : P.info? elem = some ie) (hg : w.heap[g]? = some (.cells cur t (0, 0))) (hn : cs.length = Nat.min sLen dLen * ie.size)
    (hsrc : ∀ j v, cs[j]? = some v → w.cell? (a.add j) = some v) (hfit : o + cs.length ≤ cur.size) (h1 : ∀ v ∈ cs, v.oneCell' = true) :
    (Builtin.copy_ #[dT, sT] ty #[.slice (some ⟨g, o, none⟩) dLen dCap, .slice (some a) sLen sCap]).run P w =
      .ok (goInt (Nat.min sLen dLen)) (w.setRow g (cur.toList.take o ++ cs ++ cur.toList.drop (o + cs.length)).toArray) := by
  have hl := run_loadCells_list (P := P) w a cs hsrc
  have hst := run_storeCells_at P g o t cs 0 cur w hg (by simpa using hfit) h1
  simp [Builtin.copy_, run_underlying hu, Builtin.lenOf, Builtin.firstCells, sizeOf, typeInfo, hs, ← hn, hl, hst]
theorem wp_copy_runI {P : Program} (w : World) {o : Oper} {a : Act} {K : Act → World → Prop} {Q : Exit → Act → World → Prop} (d s : Operand) (t t' : TypeId)
    (ho : o.op = .call { callee := .builtin .copy, args := #[d, s], argTypes := #[t, t'] }) (v u : Value) (hd : a.eval d = v) (hs : a.eval s = u) {v' : Value} {w' : World}
    (hr : (Builtin.copy_ #[t, t'] o.type #[v, u]).run P w = .ok v' w') (h : K (a.put o.dst v') w') : o.wp P a w K Q := by
  unfold Oper.wp execOp
  simp only [ho, resolve, invoke, builtin, Sem.run_bind, Sem.run_pure, Result.andThen_ok, List.map_toArray, List.map_cons, List.map_nil, hd, hs, hr]
  exact h
theorem wpList_copy_runI {P : Program} (w : World) {ops : Array Oper} {rest : List Oper} {o : Oper} {a : Act} {Q : Exit → Act → World → Prop} (hgd : o.guard = none) (d s : Operand) (t t' : TypeId)
    (ho : o.op = .call { callee := .builtin .copy, args := #[d, s], argTypes := #[t, t'] }) (v u : Value) (hd : a.eval d = v) (hs : a.eval s = u) {v' : Value} {w' : World}
    (hr : (Builtin.copy_ #[t, t'] o.type #[v, u]).run P w = .ok v' w') (h : wpList P ops Q rest (a.put o.dst v') w') : wpList P ops Q (o :: rest) a w :=
  wpList_plain hgd fun _ hK => wp_copy_runI w d s t t' ho v u hd hs hr (hK _ _ h)
theorem step_copy_runI {P : Program} {ops : Array Oper} {o : Oper} {a : Act} {w : World} {K : Act → World → Prop} {Q : Exit → Act → World → Prop} {E : Prop}
    (hg : o.guard = none) (d x : Operand) (dT sT : TypeId) (hop : o.op = Op.call { callee := Callee.builtin Builtin.copy, args := #[d, x], argTypes := #[dT, sT] })
    (v u : Value) (hd : a.eval d = v) (hx : a.eval x = u) {v' : Value} {w' : World} (hr : (Builtin.copy_ #[dT, sT] o.type #[v, u]).run P w = .ok v' w') (hK : K (a.put o.dst v') w') :
    if Region.wanted o (yielded ops a.tmps) = true then Oper.wp P o a w K Q else E := by
  have hw : Region.wanted o (yielded ops a.tmps) = true := by simp [Region.wanted, hg]
  rw [if_pos hw]
  unfold Oper.wp
  simp [execOp, hop, resolve, invoke, builtin, hd, hx, hr, Result.andThen]
  exact hK
theorem ins_list {cur : List Value} {cs vs : List Value} {n m c i sz : Nat} (hi : i < n) (hroom : n + m ≤ c) (hcl : cs.length = n * sz) (hvl : vs.length = m * sz) (hcur : cur.length = c * sz) (htk : cur.take (n * sz) = cs) {A1 A2 : Array Value}
    (h1 : A1 = (cur.take ((i + m) * sz) ++ cs.drop (i * sz) ++ cur.drop ((i + m) * sz + (cs.drop (i * sz)).length)).toArray)
    (h2 : A2 = (A1.toList.take (i * sz) ++ vs ++ A1.toList.drop (i * sz + vs.length)).toArray) :
    A1.size = c * sz ∧ A2.size = c * sz ∧ A2.toList.take ((n + m) * sz) = cs.take (i * sz) ++ (vs ++ cs.drop (i * sz)) := by
  have e1 : i * sz ≤ n * sz := Nat.mul_le_mul_right _ (by omega)
  have e2 : (i + m) * sz = i * sz + m * sz := Nat.add_mul _ _ _
  have e3 : (n + m) * sz = n * sz + m * sz := Nat.add_mul _ _ _
  have e4 : (n + m) * sz ≤ c * sz := Nat.mul_le_mul_right _ hroom
  have hdl : (cs.drop (i * sz)).length = n * sz - i * sz := by rw [List.length_drop, hcl]
  have s1 : A1.size = c * sz := by
    rw [h1]
    simp only [List.size_toArray, List.length_append, List.length_take, List.length_drop, hcur, hcl]
    omega
  have s2 : A2.size = c * sz := by
    rw [h2]
    simp only [List.size_toArray, List.length_append, List.length_take, List.length_drop, Array.length_toList, s1, hvl]
    omega
  refine ⟨s1, s2, ?_⟩
  have l1 : (cur.take ((i + m) * sz)).length = (i + m) * sz := by rw [List.length_take, hcur]; omega
  have p1 : A1.toList.take (i * sz) = cs.take (i * sz) := by
    rw [h1]
    simp only [List.append_assoc]
    rw [List.take_append_of_le_length (by rw [l1]; omega), List.take_take, ← htk, List.take_take]
    congr 1; omega
  have p2 : A1.toList.drop (i * sz + vs.length) = cs.drop (i * sz) ++ cur.drop ((i + m) * sz + (cs.drop (i * sz)).length) := by
    rw [h1]
    simp only [List.append_assoc]
    rw [hvl, ← e2]
    exact List.drop_left' l1
  rw [h2, p1, p2]
  simp only [List.append_assoc]
  have l2 : (cs.take (i * sz) ++ (vs ++ cs.drop (i * sz))).length = (n + m) * sz := by
    simp only [List.length_append, List.length_take, hdl, hvl, hcl]
    omega
  rw [← List.append_assoc vs, ← List.append_assoc (cs.take (i * sz)), ← l2, List.take_left]
theorem zeroCells_size (zc : Array Value) (k : Nat) : (Builtin.zeroCells zc k).size = k * zc.size := by
  unfold Builtin.zeroCells
  induction k with
  | zero => simp
  | succ k ih => simp [Nat.succ_mul]

end Go.Sh

namespace Go.Sh
set_option linter.unusedVariables false
set_option linter.unusedSimpArgs false
open Go Go.RowKit Go.Lib
theorem run_clear_k {P : Program} (w : World) (t e ty : TypeId) (z : Value) (ht : P.underlying t = some (.slice e)) (hv : ∀ w, (zeroValue e).run P w = .ok z w) (b o n c : Nat) (cur : Array Value) (te : TypeId) (hn : 0 < n) (hb : w.heap[b]? = some (.cells cur te (0, 0))) (hfit : o + n * z.cells.size ≤ cur.size) (h1 : ∀ u ∈ (Builtin.zeroCells z.cells n).toList, u.oneCell' = true) :
    (Builtin.clear_ #[t] ty #[.slice (some ⟨b, o, none⟩) n c]).run P w = .ok (.tuple #[]) (w.setRow b (cur.toList.take o ++ (Builtin.zeroCells z.cells n).toList ++ cur.toList.drop (o + (Builtin.zeroCells z.cells n).toList.length)).toArray) := by
  have hst := run_storeCells_at P b o te (Builtin.zeroCells z.cells n).toList 0 cur w hb (by rw [Array.length_toList, zeroCells_size, Nat.add_zero]; exact hfit) h1
  simp only [Nat.add_zero] at hst
  obtain ⟨m, rfl⟩ : ∃ m, n = m + 1 := ⟨n - 1, by omega⟩
  simp [Builtin.clear_, run_underlying ht, hv, hst]
theorem wp_clear_runI {P : Program} (w : World) {o : Oper} {a : Act} {K : Act → World → Prop} {Q : Exit → Act → World → Prop} (d : Operand) (t : TypeId)
    (ho : o.op = .call { callee := .builtin .clear, args := #[d], argTypes := #[t] }) (v : Value) (hd : a.eval d = v) {v' : Value} {w' : World}
    (hr : (Builtin.clear_ #[t] o.type #[v]).run P w = .ok v' w') (h : K (a.put o.dst v') w') : o.wp P a w K Q := by
  unfold Oper.wp execOp
  simp only [ho, resolve, invoke, builtin, Sem.run_bind, Sem.run_pure, Result.andThen_ok, List.map_toArray, List.map_cons, List.map_nil, hd, hr]
  exact h
theorem wpList_clear_runI {P : Program} (w : World) {ops : Array Oper} {rest : List Oper} {o : Oper} {a : Act} {Q : Exit → Act → World → Prop} (hgd : o.guard = none) (d : Operand) (t : TypeId)
    (ho : o.op = .call { callee := .builtin .clear, args := #[d], argTypes := #[t] }) (v : Value) (hd : a.eval d = v) {v' : Value} {w' : World}
    (hr : (Builtin.clear_ #[t] o.type #[v]).run P w = .ok v' w') (h : wpList P ops Q rest (a.put o.dst v') w') : wpList P ops Q (o :: rest) a w :=
  wpList_plain hgd fun _ hK => wp_clear_runI w d t ho v hd hr (hK _ _ h)
theorem step_append_runI {P : Program} {ops : Array Oper} {o : Oper} {a : Act} {w : World} {K : Act → World → Prop} {Q : Exit → Act → World → Prop} {E : Prop}
    (hg : o.guard = none) (d x : Operand) (dT sT : TypeId) (hop : o.op = Op.call { callee := Callee.builtin Builtin.append, args := #[d, x], argTypes := #[dT, sT] })
    (v u : Value) (hd : a.eval d = v) (hx : a.eval x = u) {v' : Value} {w' : World} (hr : (Builtin.append_ #[dT, sT] o.type #[v, u]).run P w = .ok v' w') (hK : K (a.put o.dst v') w') :
    if Region.wanted o (yielded ops a.tmps) = true then Oper.wp P o a w K Q else E := by
  have hw : Region.wanted o (yielded ops a.tmps) = true := by simp [Region.wanted, hg]
  rw [if_pos hw]
  unfold Oper.wp
  simp [execOp, hop, resolve, invoke, builtin, hd, hx, hr, Result.andThen]
  exact hK
theorem zeroCells_mem {zc : Array Value} {k : Nat} {u : Value} (h1 : ∀ x ∈ zc.toList, x.oneCell' = true) (h : u ∈ (Builtin.zeroCells zc k).toList) : u.oneCell' = true := by
  obtain ⟨j, hj, rfl⟩ := List.mem_iff_getElem.1 h
  have hj' : j < k * zc.size := by rw [Array.length_toList, zeroCells_size] at hj; exact hj
  have hz : 0 < zc.size := by
    rcases Nat.eq_zero_or_pos zc.size with h0 | h0
    · rw [h0] at hj'; omega
    · exact h0
  have hm : j % zc.size < zc.size := Nat.mod_lt _ hz
  have e : (Builtin.zeroCells zc k).toList[j] = zc[j % zc.size] := by
    simp [Builtin.zeroCells, getElem!_pos zc (j % zc.size) hm]
  rw [e]
  exact h1 _ (by simp)
end Go.Sh
