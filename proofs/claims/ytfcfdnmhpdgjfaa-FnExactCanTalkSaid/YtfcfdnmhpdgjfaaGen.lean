/-
  Helper text: contracts of the generated helpers of the laws (sz, to, eq). No conditions beyond those of each contract.
-/
import Derived.Test.YtfcfdnmhpdgjfaaShD
import Derived.Test.YtfcfdnmhpdgjfaaProg
import Derived.KernelRfl
namespace Go.Proofs.Ytfcfdnmhpdgjfaa.gen
open Go.Sh
set_option linter.unusedVariables false
set_option linter.unusedSimpArgs false

mutual
def szD : D → Nat
  | .str s => s.size
  | .sl xs => xs.length + szR xs
  | _ => 0
def szL : List D → Nat
  | [] => 0
  | d :: ds => szD d + szL ds
def szR : List (List D) → Nat
  | [] => 0
  | x :: xs => szL x + szR xs
end
theorem le_max {n : Nat} (h : n ≤ maxLen) : n ≤ 9223372036854775807 := by unfold maxLen at h; omega
def szOut (n : Nat) (left : Int) : Int := if (n : Int) ≤ left then left - n else -1
theorem szOut_ok {n : Nat} {l : Int} (h : (n : Int) ≤ l) : szOut n l = l - n := by unfold szOut; rw [if_pos h]
theorem szOut_no {n : Nat} {l : Int} (h : l < n) : -1 = szOut n l := by unfold szOut; rw [if_neg (by omega)]
theorem szOut_yes {n : Nat} {l r : Int} (h : (n : Int) ≤ l) (e : r = l - n) : r = szOut n l := by rw [szOut_ok h, e]
theorem szOut_neg {n : Nat} {l : Int} (h : 0 ≤ l) : (szOut n l < 0) = (l < n) := by
  unfold szOut
  rw [eq_iff_iff]
  split <;> omega
theorem szOut_pos {n : Nat} {l : Int} (h : 0 ≤ l) : (0 ≤ szOut n l) = ((n : Int) ≤ l) := by
  unfold szOut
  rw [eq_iff_iff]
  split <;> omega
theorem szR_append : ∀ (xs ys : List (List D)), szR (xs ++ ys) = szR xs + szR ys
  | [], ys => by simp [szR]
  | x :: xs, ys => by simp [szR, szR_append xs ys]; omega
theorem szR_take (xs : List (List D)) {k : Nat} (h : k < xs.length) : szR (xs.take (k + 1)) = szR (xs.take k) + szL xs[k] := by
  rw [List.take_succ_eq_append_getElem h, szR_append]
  simp [szR]
theorem szR_le (xs : List (List D)) (k : Nat) : szR (xs.take k) ≤ szR xs := by
  have := szR_append (xs.take k) (xs.drop k)
  rw [List.take_append_drop] at this
  omega
theorem szR_flat : ∀ {xs : List (List D)}, (∀ x ∈ xs, szL x = 0) → szR xs = 0
  | [], _ => rfl
  | x :: xs, h => by
    have h1 := h x (by simp)
    have h2 : szR xs = 0 := szR_flat fun y hy => h y (by simp [hy])
    simp [szR, h1, h2]

theorem mixed : Try.prog.follows .mixedOrders = true := by kernel_rfl
/-- a row that is filled from the left -/
def fill (xs : List (List D)) (z : List D) (k : Nat) : List (List D) := xs.take k ++ List.replicate (xs.length - k) z
theorem fill_zero (xs : List (List D)) (z : List D) : fill xs z 0 = List.replicate xs.length z := by simp [fill]
theorem fill_all (xs : List (List D)) (z : List D) : fill xs z xs.length = xs := by simp [fill]
theorem fill_len (xs : List (List D)) (z : List D) (k : Nat) (h : k < xs.length) : (fill xs z k).length = xs.length := by simp [fill]; omega
theorem fill_get (xs : List (List D)) (z : List D) (k : Nat) (h : k < xs.length) : (fill xs z k)[k]? = some z := by
  unfold fill
  rw [List.getElem?_append_right (by rw [List.length_take]; exact Nat.min_le_left _ _), List.length_take, Nat.min_eq_left (by omega), Nat.sub_self]
  rw [List.getElem?_replicate, if_pos (by omega)]
theorem fill_at (xs : List (List D)) (z : List D) (k : Nat) (h : k < xs.length) (h' : k < (fill xs z k).length) : (fill xs z k)[k] = z := by
  have := fill_get xs z k h
  rw [List.getElem?_eq_getElem h'] at this
  simpa using this
theorem fill_set (xs : List (List D)) (z : List D) {k : Nat} (h : k < xs.length) : (fill xs z k).set k xs[k] = fill xs z (k + 1) := by
  unfold fill
  have e : xs.length - k = (xs.length - (k + 1)) + 1 := by omega
  have t : xs.take (k + 1) = xs.take k ++ [xs[k]] := List.take_succ_eq_append_getElem h
  rw [List.set_append_right _ _ (by rw [List.length_take]; exact Nat.min_le_left _ _), List.length_take, Nat.min_eq_left (by omega), Nat.sub_self, e, List.replicate_succ, List.set_cons_zero, t, List.append_assoc]
  rfl
def shLoaded : List Shp := [.str, .int .i64]
theorem op_shLoaded {x : List D} (h : HasL shLoaded x) : ∃ (a0 : ByteArray) (a1 : Int), x = [.str a0, .int .i64 a1] ∧ a0.size ≤ maxLen := by
  simp only [shLoaded, HasL, Has] at h
  obtain ⟨_, _, rfl, ⟨a0, rfl, w0⟩, _, _, rfl, ⟨a1, rfl, w1⟩, rfl⟩ := h
  exact ⟨a0, a1, rfl, w0⟩
theorem mk_shLoaded {a0 : ByteArray} {a1 : Int} (w0 : a0.size ≤ maxLen) (i1 : (Lit.int .i64 a1).wf = true) : HasL shLoaded [.str a0, .int .i64 a1] := by
  simp only [shLoaded, HasL, Has]
  exact ⟨_, _, rfl, ⟨a0, rfl, w0⟩, _, _, rfl, ⟨a1, rfl, i1⟩, rfl⟩
def shInstr : List Shp := [.int .i64, .int .i64, .int .i64, .str]
theorem op_shInstr {x : List D} (h : HasL shInstr x) : ∃ (a0 : Int) (a1 : Int) (a2 : Int) (a3 : ByteArray), x = [.int .i64 a0, .int .i64 a1, .int .i64 a2, .str a3] ∧ a3.size ≤ maxLen := by
  simp only [shInstr, HasL, Has] at h
  obtain ⟨_, _, rfl, ⟨a0, rfl, w0⟩, _, _, rfl, ⟨a1, rfl, w1⟩, _, _, rfl, ⟨a2, rfl, w2⟩, _, _, rfl, ⟨a3, rfl, w3⟩, rfl⟩ := h
  exact ⟨a0, a1, a2, a3, rfl, w3⟩
theorem mk_shInstr {a0 : Int} {a1 : Int} {a2 : Int} {a3 : ByteArray} (i0 : (Lit.int .i64 a0).wf = true) (i1 : (Lit.int .i64 a1).wf = true) (i2 : (Lit.int .i64 a2).wf = true) (w3 : a3.size ≤ maxLen) : HasL shInstr [.int .i64 a0, .int .i64 a1, .int .i64 a2, .str a3] := by
  simp only [shInstr, HasL, Has]
  exact ⟨_, _, rfl, ⟨a0, rfl, i0⟩, _, _, rfl, ⟨a1, rfl, i1⟩, _, _, rfl, ⟨a2, rfl, i2⟩, _, _, rfl, ⟨a3, rfl, w3⟩, rfl⟩
def shInt : List Shp := [.int .i64]
theorem op_shInt {x : List D} (h : HasL shInt x) : ∃ (a0 : Int), x = [.int .i64 a0] := by
  simp only [shInt, HasL, Has] at h
  obtain ⟨_, _, rfl, ⟨a0, rfl, w0⟩, rfl⟩ := h
  exact ⟨a0, rfl⟩
theorem mk_shInt {a0 : Int} (i0 : (Lit.int .i64 a0).wf = true) : HasL shInt [.int .i64 a0] := by
  simp only [shInt, HasL, Has]
  exact ⟨_, _, rfl, ⟨a0, rfl, i0⟩, rfl⟩
def shPage : List Shp := [.int .i64, .str, .str, .int .i64, .sl shLoaded, .sl shInstr, .int .i64, .sl shInt, .int .i64, .bool, .bool]
theorem op_shPage {x : List D} (h : HasL shPage x) : ∃ (a0 : Int) (a1 : ByteArray) (a2 : ByteArray) (a3 : Int) (a4 : List (List D)) (a5 : List (List D)) (a6 : Int) (a7 : List (List D)) (a8 : Int) (a9 : Bool) (a10 : Bool), x = [.int .i64 a0, .str a1, .str a2, .int .i64 a3, .sl a4, .sl a5, .int .i64 a6, .sl a7, .int .i64 a8, .bool a9, .bool a10] ∧ a1.size ≤ maxLen ∧ a2.size ≤ maxLen ∧ a4.length ≤ maxLen ∧ (∀ x ∈ a4, HasL shLoaded x) ∧ a5.length ≤ maxLen ∧ (∀ x ∈ a5, HasL shInstr x) ∧ a7.length ≤ maxLen ∧ (∀ x ∈ a7, HasL shInt x) := by
  simp only [shPage, HasL, Has] at h
  obtain ⟨_, _, rfl, ⟨a0, rfl, w0⟩, _, _, rfl, ⟨a1, rfl, w1⟩, _, _, rfl, ⟨a2, rfl, w2⟩, _, _, rfl, ⟨a3, rfl, w3⟩, _, _, rfl, ⟨a4, rfl, w4, q4⟩, _, _, rfl, ⟨a5, rfl, w5, q5⟩, _, _, rfl, ⟨a6, rfl, w6⟩, _, _, rfl, ⟨a7, rfl, w7, q7⟩, _, _, rfl, ⟨a8, rfl, w8⟩, _, _, rfl, ⟨a9, rfl⟩, _, _, rfl, ⟨a10, rfl⟩, rfl⟩ := h
  exact ⟨a0, a1, a2, a3, a4, a5, a6, a7, a8, a9, a10, rfl, w1, w2, w4, q4, w5, q5, w7, q7⟩
theorem mk_shPage {a0 : Int} {a1 : ByteArray} {a2 : ByteArray} {a3 : Int} {a4 : List (List D)} {a5 : List (List D)} {a6 : Int} {a7 : List (List D)} {a8 : Int} {a9 : Bool} {a10 : Bool} (i0 : (Lit.int .i64 a0).wf = true) (w1 : a1.size ≤ maxLen) (w2 : a2.size ≤ maxLen) (i3 : (Lit.int .i64 a3).wf = true) (w4 : a4.length ≤ maxLen) (q4 : (∀ x ∈ a4, HasL shLoaded x)) (w5 : a5.length ≤ maxLen) (q5 : (∀ x ∈ a5, HasL shInstr x)) (i6 : (Lit.int .i64 a6).wf = true) (w7 : a7.length ≤ maxLen) (q7 : (∀ x ∈ a7, HasL shInt x)) (i8 : (Lit.int .i64 a8).wf = true) : HasL shPage [.int .i64 a0, .str a1, .str a2, .int .i64 a3, .sl a4, .sl a5, .int .i64 a6, .sl a7, .int .i64 a8, .bool a9, .bool a10] := by
  simp only [shPage, HasL, Has]
  exact ⟨_, _, rfl, ⟨a0, rfl, i0⟩, _, _, rfl, ⟨a1, rfl, w1⟩, _, _, rfl, ⟨a2, rfl, w2⟩, _, _, rfl, ⟨a3, rfl, i3⟩, _, _, rfl, ⟨a4, rfl, w4, q4⟩, _, _, rfl, ⟨a5, rfl, w5, q5⟩, _, _, rfl, ⟨a6, rfl, i6⟩, _, _, rfl, ⟨a7, rfl, w7, q7⟩, _, _, rfl, ⟨a8, rfl, i8⟩, _, _, rfl, ⟨a9, rfl⟩, _, _, rfl, ⟨a10, rfl⟩, rfl⟩
theorem ti40 : tiOf Try.prog 40 = some { k := .slice 135, size := 1, bytes := 24, zero := [.nil] } := by kernel_rfl
theorem ti135 : tiOf Try.prog 135 = some { k := .struct [(0, 1, false), (1, 1, false)], size := 2, bytes := 24, zero := [.dat (.str ⟨#[]⟩), .dat (.int .i64 0)] } := by kernel_rfl
theorem ti3 : tiOf Try.prog 3 = some { k := .int .i64, size := 1, bytes := 8, zero := [.dat (.int .i64 0)] } := by kernel_rfl
theorem ti9 : tiOf Try.prog 9 = some { k := .str, size := 1, bytes := 16, zero := [.dat (.str ⟨#[]⟩)] } := by kernel_rfl
set_option maxHeartbeats 2000000 in
theorem laws_szLoaded (a0 : ByteArray) (a1 : Int) (left : Int) (h0 : 0 ≤ left) (h1 : left ≤ 1048576) (w0 : a0.size ≤ maxLen) : SCalls Try.prog 89 [(true, [.str a0, .int .i64 a1]), (false, [.int .i64 left])] [(false, [.ro (.int .i64 (szOut (szL [.str a0, .int .i64 a1]) left))])] := by
  have n_w0 := le_max w0
  refine scalls_of Try.func89 rfl rfl (Nat.le_of_ble_eq_true rfl) fun base wd => ?_
  unfold Try.f89
  repeat' (first
    | refine SW_seq ?_
    | (refine SW_region ?_; simp [ti3, ti9, ti135]; try simp (disch := omega) only [wrap_ok, szOut_neg, szOut_pos, szOut_ok])
    | (refine SW_skip ?_; simp)
    | (refine SW_if ?_; simp; try simp (disch := omega) only [szOut_neg, szOut_pos, szOut_ok])
    | refine ⟨fun hb => ?_, fun hb => ?_⟩
    | (refine SW_ret ?_; simp [Ret]; try simp (disch := omega) only [szOut_ok]))
  all_goals (first
    | exact szOut_no (by simp only [szL, szD] at *; omega)
    | exact szOut_yes (by simp only [szL, szD] at *; omega) (by simp only [szL, szD] at *; omega))
set_option maxHeartbeats 2000000 in
theorem laws_szLoadedS (xs : List (List D)) (left : Int) (h0 : 0 ≤ left) (h1 : left ≤ 1048576) (w : xs.length ≤ maxLen) (q : ∀ x ∈ xs, HasL shLoaded x) : SCalls Try.prog 54 [(false, [.sl xs]), (false, [.int .i64 left])] [(false, [.ro (.int .i64 (szOut (xs.length + szR xs) left))])] := by
  have n_w := le_max w
  refine scalls_of Try.func54 rfl rfl (Nat.le_of_ble_eq_true rfl) fun base wd => ?_
  unfold Try.f54
  refine SW_seq (SW_region ?_)
  simp
  have hw := @wrap_ok (left - xs.length) (by omega) (by omega)
  refine SW_seq (SW_region ?_)
  simp [ti3, ti9, ti40, ti135, hw]
  refine SW_seq (SW_seq (SW_region ?_))
  simp
  refine SW_if ?_
  simp
  refine ⟨fun hb => ?_, fun hb => ?_⟩
  · refine SW_seq (SW_region ?_)
    simp
    refine SW_ret ?_
    simp [Ret]
    exact szOut_no (by omega)
  · refine SW_skip ?_
    simp
    refine SW_seq (SW_seq (SW_region ?_))
    simp
    refine SW_block ?_
    refine SW_loop (fun m s => ∃ k, k ≤ xs.length ∧ m = xs.length - k ∧ s.t 0 = .v false [.dat (.sl xs)] ∧ s.t 5 = .v false [.dat (.int .i64 k)] ∧ s.t 1 = .v false [.dat (.int .i64 (left - xs.length - szR (xs.take k)))] ∧ (szR (xs.take k) : Int) ≤ left - xs.length) xs.length ⟨0, by simp, by simp, by simp, by simp, by simp [szR], by simp [szR]; omega⟩ ?_
    rintro m s ⟨k, hk, rfl, h0', h5, h1', hs⟩
    refine SW_seq (SW_seq (SW_region ?_))
    simp [h0', h5, ti3, ti9, ti40, ti135]
    refine SW_if ?_
    simp
    refine ⟨fun hlt => ?_, fun hge => ?_⟩
    · obtain ⟨a0, a1, hx, w0⟩ := op_shLoaded (q xs[k] (List.getElem_mem hlt))
      have n_w0 := le_max w0
      have e1 := szR_take xs hlt
      have e2 := szR_le xs (k + 1)
      rw [hx] at e1
      refine SW_skip ?_
      simp
      refine SW_seq (SW_block (SW_seq (SW_region ?_)))
      simp [h0', h5, h1', ti3, ti9, ti40, ti135, hlt, hx]
      try simp (disch := omega) only [wrap_ok]
      refine ⟨_, laws_szLoaded a0 a1 _ (by omega) (by omega) w0, ?_⟩
      simp [ti3, ti9, ti40, ti135]
      try simp (disch := omega) only [wrap_ok, szOut_neg, szOut_pos, szOut_ok]
      refine SW_seq (SW_region ?_)
      simp
      refine SW_if ?_
      simp
      try simp (disch := omega) only [szOut_neg, szOut_pos]
      refine ⟨fun hb => ?_, fun hb => ?_⟩
      · refine SW_seq (SW_region ?_)
        simp
        refine SW_ret ?_
        simp [Ret]
        exact szOut_no (by simp only [szL, szD] at *; omega)
      · refine SW_skip ?_
        simp
        refine SW_region ?_
        simp [h5]
        try simp (disch := omega) only [wrap_ok]
        refine ⟨xs.length - (k + 1), by omega, k + 1, hlt, rfl, h0', ?_, ?_, ?_⟩
        · simp
        · simp (disch := omega) [szOut_ok, e1]
          simp only [szL, szD] at *
          omega
        · rw [e1]
          simp only [szL, szD] at *
          omega
    · refine SW_exit ?_
      simp
      have hkk : k = xs.length := by omega
      subst hkk
      rw [List.take_length] at h1' hs
      refine SW_seq (SW_region ?_)
      simp [h1']
      refine SW_ret ?_
      simp [Ret]
      exact szOut_yes (by omega) (by omega)
def shMachine : List Shp := [.sl shInstr, .int .i64, .sl shInt, .int .i64, .bool, .bool]
theorem op_shMachine {x : List D} (h : HasL shMachine x) : ∃ (a0 : List (List D)) (a1 : Int) (a2 : List (List D)) (a3 : Int) (a4 : Bool) (a5 : Bool), x = [.sl a0, .int .i64 a1, .sl a2, .int .i64 a3, .bool a4, .bool a5] ∧ a0.length ≤ maxLen ∧ (∀ x ∈ a0, HasL shInstr x) ∧ a2.length ≤ maxLen ∧ (∀ x ∈ a2, HasL shInt x) := by
  simp only [shMachine, HasL, Has] at h
  obtain ⟨_, _, rfl, ⟨a0, rfl, w0, q0⟩, _, _, rfl, ⟨a1, rfl, w1⟩, _, _, rfl, ⟨a2, rfl, w2, q2⟩, _, _, rfl, ⟨a3, rfl, w3⟩, _, _, rfl, ⟨a4, rfl⟩, _, _, rfl, ⟨a5, rfl⟩, rfl⟩ := h
  exact ⟨a0, a1, a2, a3, a4, a5, rfl, w0, q0, w2, q2⟩
theorem mk_shMachine {a0 : List (List D)} {a1 : Int} {a2 : List (List D)} {a3 : Int} {a4 : Bool} {a5 : Bool} (w0 : a0.length ≤ maxLen) (q0 : (∀ x ∈ a0, HasL shInstr x)) (i1 : (Lit.int .i64 a1).wf = true) (w2 : a2.length ≤ maxLen) (q2 : (∀ x ∈ a2, HasL shInt x)) (i3 : (Lit.int .i64 a3).wf = true) : HasL shMachine [.sl a0, .int .i64 a1, .sl a2, .int .i64 a3, .bool a4, .bool a5] := by
  simp only [shMachine, HasL, Has]
  exact ⟨_, _, rfl, ⟨a0, rfl, w0, q0⟩, _, _, rfl, ⟨a1, rfl, i1⟩, _, _, rfl, ⟨a2, rfl, w2, q2⟩, _, _, rfl, ⟨a3, rfl, i3⟩, _, _, rfl, ⟨a4, rfl⟩, _, _, rfl, ⟨a5, rfl⟩, rfl⟩
theorem ti41 : tiOf Try.prog 41 = some { k := .slice 171, size := 1, bytes := 24, zero := [.nil] } := by kernel_rfl
theorem ti171 : tiOf Try.prog 171 = some { k := .struct [(0, 1, false), (1, 1, false), (2, 1, false), (3, 1, false)], size := 4, bytes := 40, zero := [.dat (.int .i64 0), .dat (.int .i64 0), .dat (.int .i64 0), .dat (.str ⟨#[]⟩)] } := by kernel_rfl
set_option maxHeartbeats 2000000 in
theorem laws_szInstr (a0 : Int) (a1 : Int) (a2 : Int) (a3 : ByteArray) (left : Int) (h0 : 0 ≤ left) (h1 : left ≤ 1048576) (w3 : a3.size ≤ maxLen) : SCalls Try.prog 118 [(true, [.int .i64 a0, .int .i64 a1, .int .i64 a2, .str a3]), (false, [.int .i64 left])] [(false, [.ro (.int .i64 (szOut (szL [.int .i64 a0, .int .i64 a1, .int .i64 a2, .str a3]) left))])] := by
  have n_w3 := le_max w3
  refine scalls_of Try.func118 rfl rfl (Nat.le_of_ble_eq_true rfl) fun base wd => ?_
  unfold Try.f118
  repeat' (first
    | refine SW_seq ?_
    | (refine SW_region ?_; simp [ti3, ti9, ti171]; try simp (disch := omega) only [wrap_ok, szOut_neg, szOut_pos, szOut_ok])
    | (refine SW_skip ?_; simp)
    | (refine SW_if ?_; simp; try simp (disch := omega) only [szOut_neg, szOut_pos, szOut_ok])
    | refine ⟨fun hb => ?_, fun hb => ?_⟩
    | (refine SW_ret ?_; simp [Ret]; try simp (disch := omega) only [szOut_ok]))
  all_goals (first
    | exact szOut_no (by simp only [szL, szD] at *; omega)
    | exact szOut_yes (by simp only [szL, szD] at *; omega) (by simp only [szL, szD] at *; omega))
set_option maxHeartbeats 2000000 in
theorem laws_szInstrS (xs : List (List D)) (left : Int) (h0 : 0 ≤ left) (h1 : left ≤ 1048576) (w : xs.length ≤ maxLen) (q : ∀ x ∈ xs, HasL shInstr x) : SCalls Try.prog 90 [(false, [.sl xs]), (false, [.int .i64 left])] [(false, [.ro (.int .i64 (szOut (xs.length + szR xs) left))])] := by
  have n_w := le_max w
  refine scalls_of Try.func90 rfl rfl (Nat.le_of_ble_eq_true rfl) fun base wd => ?_
  unfold Try.f90
  refine SW_seq (SW_region ?_)
  simp
  have hw := @wrap_ok (left - xs.length) (by omega) (by omega)
  refine SW_seq (SW_region ?_)
  simp [ti3, ti9, ti41, ti171, hw]
  refine SW_seq (SW_seq (SW_region ?_))
  simp
  refine SW_if ?_
  simp
  refine ⟨fun hb => ?_, fun hb => ?_⟩
  · refine SW_seq (SW_region ?_)
    simp
    refine SW_ret ?_
    simp [Ret]
    exact szOut_no (by omega)
  · refine SW_skip ?_
    simp
    refine SW_seq (SW_seq (SW_region ?_))
    simp
    refine SW_block ?_
    refine SW_loop (fun m s => ∃ k, k ≤ xs.length ∧ m = xs.length - k ∧ s.t 0 = .v false [.dat (.sl xs)] ∧ s.t 5 = .v false [.dat (.int .i64 k)] ∧ s.t 1 = .v false [.dat (.int .i64 (left - xs.length - szR (xs.take k)))] ∧ (szR (xs.take k) : Int) ≤ left - xs.length) xs.length ⟨0, by simp, by simp, by simp, by simp, by simp [szR], by simp [szR]; omega⟩ ?_
    rintro m s ⟨k, hk, rfl, h0', h5, h1', hs⟩
    refine SW_seq (SW_seq (SW_region ?_))
    simp [h0', h5, ti3, ti9, ti41, ti171]
    refine SW_if ?_
    simp
    refine ⟨fun hlt => ?_, fun hge => ?_⟩
    · obtain ⟨a0, a1, a2, a3, hx, w3⟩ := op_shInstr (q xs[k] (List.getElem_mem hlt))
      have n_w3 := le_max w3
      have e1 := szR_take xs hlt
      have e2 := szR_le xs (k + 1)
      rw [hx] at e1
      refine SW_skip ?_
      simp
      refine SW_seq (SW_block (SW_seq (SW_region ?_)))
      simp [h0', h5, h1', ti3, ti9, ti41, ti171, hlt, hx]
      try simp (disch := omega) only [wrap_ok]
      refine ⟨_, laws_szInstr a0 a1 a2 a3 _ (by omega) (by omega) w3, ?_⟩
      simp [ti3, ti9, ti41, ti171]
      try simp (disch := omega) only [wrap_ok, szOut_neg, szOut_pos, szOut_ok]
      refine SW_seq (SW_region ?_)
      simp
      refine SW_if ?_
      simp
      try simp (disch := omega) only [szOut_neg, szOut_pos]
      refine ⟨fun hb => ?_, fun hb => ?_⟩
      · refine SW_seq (SW_region ?_)
        simp
        refine SW_ret ?_
        simp [Ret]
        exact szOut_no (by simp only [szL, szD] at *; omega)
      · refine SW_skip ?_
        simp
        refine SW_region ?_
        simp [h5]
        try simp (disch := omega) only [wrap_ok]
        refine ⟨xs.length - (k + 1), by omega, k + 1, hlt, rfl, h0', ?_, ?_, ?_⟩
        · simp
        · simp (disch := omega) [szOut_ok, e1]
          simp only [szL, szD] at *
          omega
        · rw [e1]
          simp only [szL, szD] at *
          omega
    · refine SW_exit ?_
      simp
      have hkk : k = xs.length := by omega
      subst hkk
      rw [List.take_length] at h1' hs
      refine SW_seq (SW_region ?_)
      simp [h1']
      refine SW_ret ?_
      simp [Ret]
      exact szOut_yes (by omega) (by omega)
theorem ti42 : tiOf Try.prog 42 = some { k := .slice 3, size := 1, bytes := 24, zero := [.nil] } := by kernel_rfl
set_option maxHeartbeats 2000000 in
theorem laws_szIntS (xs : List (List D)) (left : Int) (h0 : 0 ≤ left) (h1 : left ≤ 1048576) (w : xs.length ≤ maxLen) (q : ∀ x ∈ xs, HasL shInt x) : SCalls Try.prog 91 [(false, [.sl xs]), (false, [.int .i64 left])] [(false, [.ro (.int .i64 (szOut (xs.length + szR xs) left))])] := by
  have n_w := le_max w
  have hz : szR xs = 0 := szR_flat fun x hx => by
    obtain ⟨a0, rfl⟩ := op_shInt (q x hx)
    simp [szL, szD]
  refine scalls_of Try.func91 rfl rfl (Nat.le_of_ble_eq_true rfl) fun base wd => ?_
  unfold Try.f91
  repeat' (first
    | refine SW_seq ?_
    | (refine SW_region ?_; simp [ti3, ti9, ti42]; try simp (disch := omega) only [wrap_ok])
    | (refine SW_skip ?_; simp)
    | (refine SW_if ?_; simp)
    | refine ⟨fun hb => ?_, fun hb => ?_⟩
    | (refine SW_ret ?_; simp [Ret]))
  all_goals (first | exact szOut_no (by omega) | exact szOut_yes (by omega) (by omega))
theorem ti44 : tiOf Try.prog 44 = some { k := .struct [(0, 1, false), (1, 1, false), (2, 1, false), (3, 1, false), (4, 1, false), (5, 1, false)], size := 6, bytes := 72, zero := [.nil, .dat (.int .i64 0), .nil, .dat (.int .i64 0), .dat (.bool false), .dat (.bool false)] } := by kernel_rfl
set_option maxHeartbeats 2000000 in
theorem laws_szMachine (a0 : List (List D)) (a1 : Int) (a2 : List (List D)) (a3 : Int) (a4 : Bool) (a5 : Bool) (left : Int) (h0 : 0 ≤ left) (h1 : left ≤ 1048576) (w0 : a0.length ≤ maxLen) (q0 : (∀ x ∈ a0, HasL shInstr x)) (w2 : a2.length ≤ maxLen) (q2 : (∀ x ∈ a2, HasL shInt x)) : SCalls Try.prog 55 [(true, [.sl a0, .int .i64 a1, .sl a2, .int .i64 a3, .bool a4, .bool a5]), (false, [.int .i64 left])] [(false, [.ro (.int .i64 (szOut (szL [.sl a0, .int .i64 a1, .sl a2, .int .i64 a3, .bool a4, .bool a5]) left))])] := by
  have n_w0 := le_max w0; have n_w2 := le_max w2
  refine scalls_of Try.func55 rfl rfl (Nat.le_of_ble_eq_true rfl) fun base wd => ?_
  unfold Try.f55
  repeat' (first
    | refine SW_seq ?_
    | (refine SW_region ?_; simp [ti3, ti41, ti42, ti44]; try simp (disch := omega) only [wrap_ok, szOut_neg, szOut_pos, szOut_ok])
    | (refine SW_skip ?_; simp)
    | (refine SW_if ?_; simp; try simp (disch := omega) only [szOut_neg, szOut_pos, szOut_ok])
    | ((with_reducible refine ⟨_, laws_szInstrS a0 _ (by omega) (by omega) w0 q0, ?_⟩); simp [ti3, ti41, ti42, ti44]; try simp (disch := omega) only [wrap_ok, szOut_neg, szOut_pos, szOut_ok])
    | ((with_reducible refine ⟨_, laws_szIntS a2 _ (by omega) (by omega) w2 q2, ?_⟩); simp [ti3, ti41, ti42, ti44]; try simp (disch := omega) only [wrap_ok, szOut_neg, szOut_pos, szOut_ok])
    | refine ⟨fun hb => ?_, fun hb => ?_⟩
    | (refine SW_ret ?_; simp [Ret]; try simp (disch := omega) only [szOut_ok]))
  all_goals (first
    | exact szOut_no (by simp only [szL, szD] at *; omega)
    | exact szOut_yes (by simp only [szL, szD] at *; omega) (by simp only [szL, szD] at *; omega))
theorem ti46 : tiOf Try.prog 46 = some { k := .struct [(0, 1, false), (1, 1, false), (2, 1, false), (3, 1, false), (4, 1, false), (5, 6, true)], size := 11, bytes := 144, zero := [.dat (.int .i64 0), .dat (.str ⟨#[]⟩), .dat (.str ⟨#[]⟩), .dat (.int .i64 0), .nil, .nil, .dat (.int .i64 0), .nil, .dat (.int .i64 0), .dat (.bool false), .dat (.bool false)] } := by kernel_rfl
set_option maxHeartbeats 2000000 in
theorem laws_szPage (a0 : Int) (a1 : ByteArray) (a2 : ByteArray) (a3 : Int) (a4 : List (List D)) (a5 : List (List D)) (a6 : Int) (a7 : List (List D)) (a8 : Int) (a9 : Bool) (a10 : Bool) (left : Int) (h0 : 0 ≤ left) (h1 : left ≤ 1048576) (w1 : a1.size ≤ maxLen) (w2 : a2.size ≤ maxLen) (w4 : a4.length ≤ maxLen) (q4 : (∀ x ∈ a4, HasL shLoaded x)) (w5 : a5.length ≤ maxLen) (q5 : (∀ x ∈ a5, HasL shInstr x)) (w7 : a7.length ≤ maxLen) (q7 : (∀ x ∈ a7, HasL shInt x)) : SCalls Try.prog 19 [(true, [.int .i64 a0, .str a1, .str a2, .int .i64 a3, .sl a4, .sl a5, .int .i64 a6, .sl a7, .int .i64 a8, .bool a9, .bool a10]), (false, [.int .i64 left])] [(false, [.ro (.int .i64 (szOut (szL [.int .i64 a0, .str a1, .str a2, .int .i64 a3, .sl a4, .sl a5, .int .i64 a6, .sl a7, .int .i64 a8, .bool a9, .bool a10]) left))])] := by
  have n_w1 := le_max w1; have n_w2 := le_max w2; have n_w4 := le_max w4; have n_w5 := le_max w5; have n_w7 := le_max w7
  refine scalls_of Try.func19 rfl rfl (Nat.le_of_ble_eq_true rfl) fun base wd => ?_
  unfold Try.f19
  repeat' (first
    | refine SW_seq ?_
    | (refine SW_region ?_; simp [ti3, ti9, ti40, ti44, ti46]; try simp (disch := omega) only [wrap_ok, szOut_neg, szOut_pos, szOut_ok])
    | (refine SW_skip ?_; simp)
    | (refine SW_if ?_; simp; try simp (disch := omega) only [szOut_neg, szOut_pos, szOut_ok])
    | ((with_reducible refine ⟨_, laws_szLoadedS a4 _ (by omega) (by omega) w4 q4, ?_⟩); simp [ti3, ti9, ti40, ti44, ti46]; try simp (disch := omega) only [wrap_ok, szOut_neg, szOut_pos, szOut_ok])
    | ((with_reducible refine ⟨_, laws_szMachine a5 a6 a7 a8 a9 a10 _ (by omega) (by omega) w5 q5 w7 q7, ?_⟩); simp [ti3, ti9, ti40, ti44, ti46]; try simp (disch := omega) only [wrap_ok, szOut_neg, szOut_pos, szOut_ok])
    | refine ⟨fun hb => ?_, fun hb => ?_⟩
    | (refine SW_ret ?_; simp [Ret]; try simp (disch := omega) only [szOut_ok]))
  all_goals (first
    | exact szOut_no (by simp only [szL, szD] at *; omega)
    | exact szOut_yes (by simp only [szL, szD] at *; omega) (by simp only [szL, szD] at *; omega))
theorem ti49 : tiOf Try.prog 49 = some { k := .slice 137, size := 1, bytes := 24, zero := [.nil] } := by kernel_rfl
theorem ti137 : tiOf Try.prog 137 = some { k := .struct [(0, 1, false), (1, 1, false)], size := 2, bytes := 24, zero := [.dat (.str ⟨#[]⟩), .dat (.int .i64 0)] } := by kernel_rfl
set_option maxHeartbeats 2000000 in
theorem laws_toLoaded (a0 : ByteArray) (a1 : Int) (w0 : a0.size ≤ maxLen) (hsz : szL [.str a0, .int .i64 a1] ≤ 1048576) : SCalls Try.prog 92 [(true, [.str a0, .int .i64 a1])] [(true, [.ro (.str a0), .ro (.int .i64 a1)])] := by
  refine scalls_of Try.func92 rfl rfl (Nat.le_of_ble_eq_true rfl) fun base wd => ?_
  unfold Try.f92
  repeat' (first
    | refine SW_seq ?_
    | (refine SW_region ?_; simp [ti3, ti9, ti135, ti137])
    | (refine SW_ret ?_; simp [Ret, ti3, ti9, ti135, ti137]))
set_option maxHeartbeats 2000000 in
theorem laws_toLoadedS (xs : List (List D)) (w : xs.length ≤ maxLen) (q : ∀ x ∈ xs, HasL shLoaded x) (hsz : xs.length + szR xs ≤ 1048576) : SCalls Try.prog 56 [(false, [.sl xs])] [(false, [.own 137 2 xs])] := by
  refine scalls_of Try.func56 rfl rfl (Nat.le_of_ble_eq_true rfl) fun base wd => ?_
  unfold Try.f56
  refine SW_seq (SW_region ?_)
  simp
  refine SW_seq (SW_region ?_)
  simp [ti3, ti40, ti49, ti135, ti137]
  refine ⟨⟨by omega, by omega⟩, ?_⟩
  rw [← fill_zero xs [.str ⟨#[]⟩, .int .i64 0]]
  refine SW_seq (SW_seq (SW_region ?_))
  simp
  refine SW_block ?_
  refine SW_loop (fun m s => ∃ k, k ≤ xs.length ∧ m = xs.length - k ∧ s.t 0 = .v false [.dat (.sl xs)] ∧ s.t 3 = .v false [.row 100007 1] ∧ s.h 100007 = (1, .row 137 2 (fill xs [.str ⟨#[]⟩, .int .i64 0] k) true) ∧ s.t 4 = .v false [.dat (.int .i64 k)]) xs.length ⟨0, by simp, by simp, by simp, by simp, by simp, by simp⟩ ?_
  rintro m s ⟨k, hk, rfl, h0, h3, hh, h4⟩
  refine SW_seq (SW_seq (SW_region ?_))
  simp [h0, h4, ti3, ti40, ti49, ti135, ti137]
  refine SW_if ?_
  simp
  refine ⟨fun hlt => ?_, fun hge => ?_⟩
  · obtain ⟨a0, a1, hx, w0⟩ := op_shLoaded (q xs[k] (List.getElem_mem hlt))
    have e1 := szR_take xs hlt
    have e2 := szR_le xs (k + 1)
    refine SW_skip ?_
    simp
    refine SW_seq (SW_block (SW_region ?_))
    simp [h0, h3, h4, hh, ti3, ti40, ti49, ti135, ti137, hlt, hx, fill_len, fill_at]
    refine ⟨_, laws_toLoaded a0 a1 w0 (by rw [hx] at e1; omega), ?_⟩
    simp [h3, h4, hh, ti3, ti40, ti49, ti135, ti137, fill_len, fill_at, hlt]
    refine SW_region ?_
    simp [h4]
    refine ⟨xs.length - (k + 1), by omega, k + 1, hlt, rfl, h0, h3, ?_, ?_⟩
    · rw [← hx]; exact fill_set xs _ hlt
    · rw [wrap_ok (by omega) (by omega)]; simp
  · refine SW_exit ?_
    simp
    have hkk : k = xs.length := by omega
    subst hkk
    rw [fill_all] at hh
    refine SW_seq (SW_region ?_)
    simp [h3]
    refine SW_ret ?_
    simp [Ret, hh]
theorem ti50 : tiOf Try.prog 50 = some { k := .slice 169, size := 1, bytes := 24, zero := [.nil] } := by kernel_rfl
theorem ti169 : tiOf Try.prog 169 = some { k := .struct [(0, 1, false), (1, 1, false), (2, 1, false), (3, 1, false)], size := 4, bytes := 40, zero := [.dat (.int .i64 0), .dat (.int .i64 0), .dat (.int .i64 0), .dat (.str ⟨#[]⟩)] } := by kernel_rfl
set_option maxHeartbeats 2000000 in
theorem laws_toInstr (a0 : Int) (a1 : Int) (a2 : Int) (a3 : ByteArray) (w3 : a3.size ≤ maxLen) (hsz : szL [.int .i64 a0, .int .i64 a1, .int .i64 a2, .str a3] ≤ 1048576) : SCalls Try.prog 119 [(true, [.int .i64 a0, .int .i64 a1, .int .i64 a2, .str a3])] [(true, [.ro (.int .i64 a0), .ro (.int .i64 a1), .ro (.int .i64 a2), .ro (.str a3)])] := by
  refine scalls_of Try.func119 rfl rfl (Nat.le_of_ble_eq_true rfl) fun base wd => ?_
  unfold Try.f119
  repeat' (first
    | refine SW_seq ?_
    | (refine SW_region ?_; simp [ti3, ti9, ti169, ti171])
    | (refine SW_ret ?_; simp [Ret, ti3, ti9, ti169, ti171]))
set_option maxHeartbeats 2000000 in
theorem laws_toInstrS (xs : List (List D)) (w : xs.length ≤ maxLen) (q : ∀ x ∈ xs, HasL shInstr x) (hsz : xs.length + szR xs ≤ 1048576) : SCalls Try.prog 93 [(false, [.sl xs])] [(false, [.own 169 4 xs])] := by
  refine scalls_of Try.func93 rfl rfl (Nat.le_of_ble_eq_true rfl) fun base wd => ?_
  unfold Try.f93
  refine SW_seq (SW_region ?_)
  simp
  refine SW_seq (SW_region ?_)
  simp [ti3, ti41, ti50, ti169, ti171]
  refine ⟨⟨by omega, by omega⟩, ?_⟩
  rw [← fill_zero xs [.int .i64 0, .int .i64 0, .int .i64 0, .str ⟨#[]⟩]]
  refine SW_seq (SW_seq (SW_region ?_))
  simp
  refine SW_block ?_
  refine SW_loop (fun m s => ∃ k, k ≤ xs.length ∧ m = xs.length - k ∧ s.t 0 = .v false [.dat (.sl xs)] ∧ s.t 3 = .v false [.row 100007 1] ∧ s.h 100007 = (1, .row 169 4 (fill xs [.int .i64 0, .int .i64 0, .int .i64 0, .str ⟨#[]⟩] k) true) ∧ s.t 4 = .v false [.dat (.int .i64 k)]) xs.length ⟨0, by simp, by simp, by simp, by simp, by simp, by simp⟩ ?_
  rintro m s ⟨k, hk, rfl, h0, h3, hh, h4⟩
  refine SW_seq (SW_seq (SW_region ?_))
  simp [h0, h4, ti3, ti41, ti50, ti169, ti171]
  refine SW_if ?_
  simp
  refine ⟨fun hlt => ?_, fun hge => ?_⟩
  · obtain ⟨a0, a1, a2, a3, hx, w3⟩ := op_shInstr (q xs[k] (List.getElem_mem hlt))
    have e1 := szR_take xs hlt
    have e2 := szR_le xs (k + 1)
    refine SW_skip ?_
    simp
    refine SW_seq (SW_block (SW_region ?_))
    simp [h0, h3, h4, hh, ti3, ti41, ti50, ti169, ti171, hlt, hx, fill_len, fill_at]
    refine ⟨_, laws_toInstr a0 a1 a2 a3 w3 (by rw [hx] at e1; omega), ?_⟩
    simp [h3, h4, hh, ti3, ti41, ti50, ti169, ti171, fill_len, fill_at, hlt]
    refine SW_region ?_
    simp [h4]
    refine ⟨xs.length - (k + 1), by omega, k + 1, hlt, rfl, h0, h3, ?_, ?_⟩
    · rw [← hx]; exact fill_set xs _ hlt
    · rw [wrap_ok (by omega) (by omega)]; simp
  · refine SW_exit ?_
    simp
    have hkk : k = xs.length := by omega
    subst hkk
    rw [fill_all] at hh
    refine SW_seq (SW_region ?_)
    simp [h3]
    refine SW_ret ?_
    simp [Ret, hh]
set_option maxHeartbeats 2000000 in
theorem laws_toIntS (xs : List (List D)) (w : xs.length ≤ maxLen) (q : ∀ x ∈ xs, HasL shInt x) (hsz : xs.length + szR xs ≤ 1048576) : SCalls Try.prog 94 [(false, [.sl xs])] [(false, [.own 3 1 xs])] := by
  refine scalls_of Try.func94 rfl rfl (Nat.le_of_ble_eq_true rfl) fun base wd => ?_
  unfold Try.f94
  refine SW_seq (SW_region ?_)
  simp
  refine SW_seq (SW_region ?_)
  simp [ti3, ti42]
  refine ⟨⟨by omega, by omega⟩, ?_⟩
  rw [← fill_zero xs [.int .i64 0]]
  refine SW_seq (SW_seq (SW_region ?_))
  simp
  refine SW_block ?_
  refine SW_loop (fun m s => ∃ k, k ≤ xs.length ∧ m = xs.length - k ∧ s.t 0 = .v false [.dat (.sl xs)] ∧ s.t 3 = .v false [.row 100007 1] ∧ s.h 100007 = (1, .row 3 1 (fill xs [.int .i64 0] k) true) ∧ s.t 4 = .v false [.dat (.int .i64 k)]) xs.length ⟨0, by simp, by simp, by simp, by simp, by simp, by simp⟩ ?_
  rintro m s ⟨k, hk, rfl, h0, h3, hh, h4⟩
  refine SW_seq (SW_seq (SW_region ?_))
  simp [h0, h4, ti3, ti42]
  refine SW_if ?_
  simp
  refine ⟨fun hlt => ?_, fun hge => ?_⟩
  · obtain ⟨a0, hx⟩ := op_shInt (q xs[k] (List.getElem_mem hlt))
    have e1 := szR_take xs hlt
    have e2 := szR_le xs (k + 1)
    refine SW_skip ?_
    simp
    refine SW_seq (SW_block (SW_region ?_))
    simp [h0, h3, h4, hh, ti3, ti42, hlt, hx, fill_len, fill_at]
    refine SW_region ?_
    simp [h4]
    refine ⟨xs.length - (k + 1), by omega, k + 1, hlt, rfl, h0, h3, ?_, ?_⟩
    · rw [← hx]; exact fill_set xs _ hlt
    · rw [wrap_ok (by omega) (by omega)]; simp
  · refine SW_exit ?_
    simp
    have hkk : k = xs.length := by omega
    subst hkk
    rw [fill_all] at hh
    refine SW_seq (SW_region ?_)
    simp [h3]
    refine SW_ret ?_
    simp [Ret, hh]
theorem ti52 : tiOf Try.prog 52 = some { k := .struct [(0, 1, false), (1, 1, false), (2, 1, false), (3, 1, false), (4, 1, false), (5, 1, false)], size := 6, bytes := 72, zero := [.nil, .dat (.int .i64 0), .nil, .dat (.int .i64 0), .dat (.bool false), .dat (.bool false)] } := by kernel_rfl
theorem ti4 : tiOf Try.prog 4 = some { k := .bool, size := 1, bytes := 1, zero := [.dat (.bool false)] } := by kernel_rfl
set_option maxHeartbeats 2000000 in
theorem laws_toMachine (a0 : List (List D)) (a1 : Int) (a2 : List (List D)) (a3 : Int) (a4 : Bool) (a5 : Bool) (w0 : a0.length ≤ maxLen) (q0 : (∀ x ∈ a0, HasL shInstr x)) (w2 : a2.length ≤ maxLen) (q2 : (∀ x ∈ a2, HasL shInt x)) (hsz : szL [.sl a0, .int .i64 a1, .sl a2, .int .i64 a3, .bool a4, .bool a5] ≤ 1048576) : SCalls Try.prog 57 [(true, [.sl a0, .int .i64 a1, .sl a2, .int .i64 a3, .bool a4, .bool a5])] [(true, [.own 169 4 a0, .ro (.int .i64 a1), .own 3 1 a2, .ro (.int .i64 a3), .ro (.bool a4), .ro (.bool a5)])] := by
  refine scalls_of Try.func57 rfl rfl (Nat.le_of_ble_eq_true rfl) fun base wd => ?_
  unfold Try.f57
  repeat' (first
    | refine SW_seq ?_
    | (refine SW_region ?_; simp [ti3, ti4, ti41, ti42, ti44, ti50, ti52])
    | ((with_reducible refine ⟨_, laws_toInstrS a0 w0 q0 (by simp only [szL, szD] at hsz; omega), ?_⟩); simp [ti3, ti4, ti41, ti42, ti44, ti50, ti52])
    | ((with_reducible refine ⟨_, laws_toIntS a2 w2 q2 (by simp only [szL, szD] at hsz; omega), ?_⟩); simp [ti3, ti4, ti41, ti42, ti44, ti50, ti52])
    | (refine SW_ret ?_; simp [Ret, ti3, ti4, ti41, ti42, ti44, ti50, ti52]))
theorem ti54 : tiOf Try.prog 54 = some { k := .struct [(0, 1, false), (1, 1, false), (2, 1, false), (3, 1, false), (4, 1, false), (5, 6, true)], size := 11, bytes := 144, zero := [.dat (.int .i64 0), .dat (.str ⟨#[]⟩), .dat (.str ⟨#[]⟩), .dat (.int .i64 0), .nil, .nil, .dat (.int .i64 0), .nil, .dat (.int .i64 0), .dat (.bool false), .dat (.bool false)] } := by kernel_rfl
set_option maxHeartbeats 2000000 in
theorem laws_toPage (a0 : Int) (a1 : ByteArray) (a2 : ByteArray) (a3 : Int) (a4 : List (List D)) (a5 : List (List D)) (a6 : Int) (a7 : List (List D)) (a8 : Int) (a9 : Bool) (a10 : Bool) (w1 : a1.size ≤ maxLen) (w2 : a2.size ≤ maxLen) (w4 : a4.length ≤ maxLen) (q4 : (∀ x ∈ a4, HasL shLoaded x)) (w5 : a5.length ≤ maxLen) (q5 : (∀ x ∈ a5, HasL shInstr x)) (w7 : a7.length ≤ maxLen) (q7 : (∀ x ∈ a7, HasL shInt x)) (hsz : szL [.int .i64 a0, .str a1, .str a2, .int .i64 a3, .sl a4, .sl a5, .int .i64 a6, .sl a7, .int .i64 a8, .bool a9, .bool a10] ≤ 1048576) : SCalls Try.prog 21 [(true, [.int .i64 a0, .str a1, .str a2, .int .i64 a3, .sl a4, .sl a5, .int .i64 a6, .sl a7, .int .i64 a8, .bool a9, .bool a10])] [(true, [.ro (.int .i64 a0), .ro (.str a1), .ro (.str a2), .ro (.int .i64 a3), .own 137 2 a4, .own 169 4 a5, .ro (.int .i64 a6), .own 3 1 a7, .ro (.int .i64 a8), .ro (.bool a9), .ro (.bool a10)])] := by
  refine scalls_of Try.func21 rfl rfl (Nat.le_of_ble_eq_true rfl) fun base wd => ?_
  unfold Try.f21
  repeat' (first
    | refine SW_seq ?_
    | (refine SW_region ?_; simp [ti3, ti9, ti40, ti44, ti46, ti49, ti52, ti54])
    | ((with_reducible refine ⟨_, laws_toLoadedS a4 w4 q4 (by simp only [szL, szD] at hsz; omega), ?_⟩); simp [ti3, ti9, ti40, ti44, ti46, ti49, ti52, ti54])
    | ((with_reducible refine ⟨_, laws_toMachine a5 a6 a7 a8 a9 a10 w5 q5 w7 q7 (by simp only [szL, szD] at hsz ⊢; omega), ?_⟩); simp [ti3, ti9, ti40, ti44, ti46, ti49, ti52, ti54])
    | (refine SW_ret ?_; simp [Ret, ti3, ti9, ti40, ti44, ti46, ti49, ti52, ti54]))
set_option maxHeartbeats 2000000 in
theorem laws_eqLoaded (a0 : ByteArray) (a1 : Int) (w0 : a0.size ≤ maxLen) : SCalls Try.prog 95 [(true, [.str a0, .int .i64 a1]), (true, [.str a0, .int .i64 a1])] [(false, [.ro (.bool true)])] := by
  refine scalls_of Try.func95 rfl rfl (Nat.le_of_ble_eq_true rfl) fun base wd => ?_
  unfold Try.f95
  repeat' (first
    | refine SW_seq ?_
    | (refine SW_region ?_; simp [ti3, ti4, ti9, ti137])
    | (refine SW_skip ?_; simp)
    | (refine SW_if ?_; simp)
    | (refine SW_ret ?_; simp [Ret]))
set_option maxHeartbeats 2000000 in
theorem laws_eqLoadedS (xs : List (List D)) (w : xs.length ≤ maxLen) (q : ∀ x ∈ xs, HasL shLoaded x) : SCalls Try.prog 58 [(false, [.sl xs]), (false, [.sl xs])] [(false, [.ro (.bool true)])] := by
  have n_w := le_max w
  refine scalls_of Try.func58 rfl rfl (Nat.le_of_ble_eq_true rfl) fun base wd => ?_
  unfold Try.f58
  refine SW_seq (SW_region ?_)
  simp
  refine SW_seq (SW_seq (SW_region ?_))
  simp [ti3, ti4, ti49, ti137]
  refine SW_if ?_
  simp
  refine SW_skip ?_
  simp
  refine SW_seq (SW_seq (SW_region ?_))
  simp
  refine SW_block ?_
  refine SW_loop (fun m s => ∃ k, k ≤ xs.length ∧ m = xs.length - k ∧ s.t 0 = .v false [.dat (.sl xs)] ∧ s.t 1 = .v false [.dat (.sl xs)] ∧ s.t 5 = .v false [.dat (.int .i64 k)]) xs.length ⟨0, by simp, by simp, by simp, by simp, by simp⟩ ?_
  rintro m s ⟨k, hk, rfl, h0, h1, h5⟩
  refine SW_seq (SW_seq (SW_region ?_))
  simp [h0, h5, ti3, ti4, ti49, ti137]
  refine SW_if ?_
  simp
  refine ⟨fun hlt => ?_, fun hge => ?_⟩
  · obtain ⟨a0, a1, hx, w0⟩ := op_shLoaded (q xs[k] (List.getElem_mem hlt))
    refine SW_skip ?_
    simp
    refine SW_seq (SW_block (SW_seq (SW_draw mixed ?_)))
    simp [h0, h1, h5, ti3, ti4, ti49, ti137, hlt, hx]
    refine ⟨_, laws_eqLoaded a0 a1 w0, ?_⟩
    simp
    refine ⟨by decide +kernel, ?_⟩
    refine SW_if ?_
    simp
    refine SW_skip ?_
    simp
    refine SW_region ?_
    simp [h5]
    refine ⟨xs.length - (k + 1), by omega, k + 1, hlt, rfl, h0, h1, ?_⟩
    rw [wrap_ok (by omega) (by omega)]; simp
  · refine SW_exit ?_
    simp
    refine SW_seq (SW_region ?_)
    simp
    refine SW_ret ?_
    simp [Ret]
set_option maxHeartbeats 2000000 in
theorem laws_eqInstr (a0 : Int) (a1 : Int) (a2 : Int) (a3 : ByteArray) (w3 : a3.size ≤ maxLen) : SCalls Try.prog 120 [(true, [.int .i64 a0, .int .i64 a1, .int .i64 a2, .str a3]), (true, [.int .i64 a0, .int .i64 a1, .int .i64 a2, .str a3])] [(false, [.ro (.bool true)])] := by
  refine scalls_of Try.func120 rfl rfl (Nat.le_of_ble_eq_true rfl) fun base wd => ?_
  unfold Try.f120
  repeat' (first
    | refine SW_seq ?_
    | (refine SW_region ?_; simp [ti3, ti4, ti9, ti169])
    | (refine SW_skip ?_; simp)
    | (refine SW_if ?_; simp)
    | (refine SW_ret ?_; simp [Ret]))
set_option maxHeartbeats 2000000 in
theorem laws_eqInstrS (xs : List (List D)) (w : xs.length ≤ maxLen) (q : ∀ x ∈ xs, HasL shInstr x) : SCalls Try.prog 96 [(false, [.sl xs]), (false, [.sl xs])] [(false, [.ro (.bool true)])] := by
  have n_w := le_max w
  refine scalls_of Try.func96 rfl rfl (Nat.le_of_ble_eq_true rfl) fun base wd => ?_
  unfold Try.f96
  refine SW_seq (SW_region ?_)
  simp
  refine SW_seq (SW_seq (SW_region ?_))
  simp [ti3, ti4, ti50, ti169]
  refine SW_if ?_
  simp
  refine SW_skip ?_
  simp
  refine SW_seq (SW_seq (SW_region ?_))
  simp
  refine SW_block ?_
  refine SW_loop (fun m s => ∃ k, k ≤ xs.length ∧ m = xs.length - k ∧ s.t 0 = .v false [.dat (.sl xs)] ∧ s.t 1 = .v false [.dat (.sl xs)] ∧ s.t 5 = .v false [.dat (.int .i64 k)]) xs.length ⟨0, by simp, by simp, by simp, by simp, by simp⟩ ?_
  rintro m s ⟨k, hk, rfl, h0, h1, h5⟩
  refine SW_seq (SW_seq (SW_region ?_))
  simp [h0, h5, ti3, ti4, ti50, ti169]
  refine SW_if ?_
  simp
  refine ⟨fun hlt => ?_, fun hge => ?_⟩
  · obtain ⟨a0, a1, a2, a3, hx, w3⟩ := op_shInstr (q xs[k] (List.getElem_mem hlt))
    refine SW_skip ?_
    simp
    refine SW_seq (SW_block (SW_seq (SW_draw mixed ?_)))
    simp [h0, h1, h5, ti3, ti4, ti50, ti169, hlt, hx]
    refine ⟨_, laws_eqInstr a0 a1 a2 a3 w3, ?_⟩
    simp
    refine ⟨by decide +kernel, ?_⟩
    refine SW_if ?_
    simp
    refine SW_skip ?_
    simp
    refine SW_region ?_
    simp [h5]
    refine ⟨xs.length - (k + 1), by omega, k + 1, hlt, rfl, h0, h1, ?_⟩
    rw [wrap_ok (by omega) (by omega)]; simp
  · refine SW_exit ?_
    simp
    refine SW_seq (SW_region ?_)
    simp
    refine SW_ret ?_
    simp [Ret]
set_option maxHeartbeats 2000000 in
theorem laws_eqIntS (xs : List (List D)) (w : xs.length ≤ maxLen) (q : ∀ x ∈ xs, HasL shInt x) : SCalls Try.prog 97 [(false, [.sl xs]), (false, [.sl xs])] [(false, [.ro (.bool true)])] := by
  have n_w := le_max w
  refine scalls_of Try.func97 rfl rfl (Nat.le_of_ble_eq_true rfl) fun base wd => ?_
  unfold Try.f97
  refine SW_seq (SW_region ?_)
  simp
  refine SW_seq (SW_seq (SW_region ?_))
  simp [ti3, ti4, ti42]
  refine SW_if ?_
  simp
  refine SW_skip ?_
  simp
  refine SW_seq (SW_seq (SW_region ?_))
  simp
  refine SW_block ?_
  refine SW_loop (fun m s => ∃ k, k ≤ xs.length ∧ m = xs.length - k ∧ s.t 0 = .v false [.dat (.sl xs)] ∧ s.t 1 = .v false [.dat (.sl xs)] ∧ s.t 5 = .v false [.dat (.int .i64 k)]) xs.length ⟨0, by simp, by simp, by simp, by simp, by simp⟩ ?_
  rintro m s ⟨k, hk, rfl, h0, h1, h5⟩
  refine SW_seq (SW_seq (SW_region ?_))
  simp [h0, h5, ti3, ti4, ti42]
  refine SW_if ?_
  simp
  refine ⟨fun hlt => ?_, fun hge => ?_⟩
  · obtain ⟨a0, hx⟩ := op_shInt (q xs[k] (List.getElem_mem hlt))
    refine SW_skip ?_
    simp
    refine SW_seq (SW_block (SW_seq (SW_draw mixed ?_)))
    simp [h0, h1, h5, ti3, ti4, ti42, hlt, hx]
    refine ⟨by decide +kernel, ?_⟩
    refine SW_if ?_
    simp
    refine SW_skip ?_
    simp
    refine SW_region ?_
    simp [h5]
    refine ⟨xs.length - (k + 1), by omega, k + 1, hlt, rfl, h0, h1, ?_⟩
    rw [wrap_ok (by omega) (by omega)]; simp
  · refine SW_exit ?_
    simp
    refine SW_seq (SW_region ?_)
    simp
    refine SW_ret ?_
    simp [Ret]
set_option maxHeartbeats 2000000 in
theorem laws_eqMachine (a0 : List (List D)) (a1 : Int) (a2 : List (List D)) (a3 : Int) (a4 : Bool) (a5 : Bool) (w0 : a0.length ≤ maxLen) (q0 : (∀ x ∈ a0, HasL shInstr x)) (w2 : a2.length ≤ maxLen) (q2 : (∀ x ∈ a2, HasL shInt x)) : SCalls Try.prog 59 [(true, [.sl a0, .int .i64 a1, .sl a2, .int .i64 a3, .bool a4, .bool a5]), (true, [.sl a0, .int .i64 a1, .sl a2, .int .i64 a3, .bool a4, .bool a5])] [(false, [.ro (.bool true)])] := by
  refine scalls_of Try.func59 rfl rfl (Nat.le_of_ble_eq_true rfl) fun base wd => ?_
  unfold Try.f59
  repeat' (first
    | refine SW_seq ?_
    | (refine SW_region ?_; simp [ti3, ti4, ti42, ti50, ti52])
    | (refine SW_skip ?_; simp)
    | (refine SW_if ?_; simp)
    | ((with_reducible refine ⟨_, laws_eqInstrS a0 w0 q0, ?_⟩); simp [ti3, ti4, ti42, ti50, ti52])
    | ((with_reducible refine ⟨_, laws_eqIntS a2 w2 q2, ?_⟩); simp [ti3, ti4, ti42, ti50, ti52])
    | (refine SW_ret ?_; simp [Ret]))
set_option maxHeartbeats 2000000 in
theorem laws_eqPage (a0 : Int) (a1 : ByteArray) (a2 : ByteArray) (a3 : Int) (a4 : List (List D)) (a5 : List (List D)) (a6 : Int) (a7 : List (List D)) (a8 : Int) (a9 : Bool) (a10 : Bool) (w1 : a1.size ≤ maxLen) (w2 : a2.size ≤ maxLen) (w4 : a4.length ≤ maxLen) (q4 : (∀ x ∈ a4, HasL shLoaded x)) (w5 : a5.length ≤ maxLen) (q5 : (∀ x ∈ a5, HasL shInstr x)) (w7 : a7.length ≤ maxLen) (q7 : (∀ x ∈ a7, HasL shInt x)) : SCalls Try.prog 23 [(true, [.int .i64 a0, .str a1, .str a2, .int .i64 a3, .sl a4, .sl a5, .int .i64 a6, .sl a7, .int .i64 a8, .bool a9, .bool a10]), (true, [.int .i64 a0, .str a1, .str a2, .int .i64 a3, .sl a4, .sl a5, .int .i64 a6, .sl a7, .int .i64 a8, .bool a9, .bool a10])] [(false, [.ro (.bool true)])] := by
  refine scalls_of Try.func23 rfl rfl (Nat.le_of_ble_eq_true rfl) fun base wd => ?_
  unfold Try.f23
  repeat' (first
    | refine SW_seq ?_
    | (refine SW_region ?_; simp [ti3, ti4, ti9, ti49, ti52, ti54])
    | (refine SW_skip ?_; simp)
    | (refine SW_if ?_; simp)
    | ((with_reducible refine ⟨_, laws_eqLoadedS a4 w4 q4, ?_⟩); simp [ti3, ti4, ti9, ti49, ti52, ti54])
    | ((with_reducible refine ⟨_, laws_eqMachine a5 a6 a7 a8 a9 a10 w5 q5 w7 q7, ?_⟩); simp [ti3, ti4, ti9, ti49, ti52, ti54])
    | (refine SW_ret ?_; simp [Ret]))
end Go.Proofs.Ytfcfdnmhpdgjfaa.gen
