/-
  Helper text: walks: each function's contract out of its model. No conditions beyond those of each contract.
-/
import Derived.Test.YtgemmnkhddlhpaaGreatNewBucketTi
namespace Go.Proofs.YtgemmnkhddlhpaaGreat.gen
open Go Go.Sh
set_option linter.unusedVariables false
set_option linter.unusedSimpArgs false
set_option maxRecDepth 20000 in
set_option maxHeartbeats 4000000 in
theorem c_spec_l1In (p0 : Int) (p1 : Int) (p2 : Int) (r : Bool) (h : m_spec_l1In p0 p1 p2 = some r) : SCalls Tryz.prog 150 [(false, [.int .i64 p0]), (false, [.int .i64 p1]), (false, [.int .i64 p2])] [(false, [.ro (.bool r)])] := by
  unfold m_spec_l1In at h
  refine scalls_n (N := 15) (vars := [.tmp 6]) Tryz.func150 rfl rfl rfl (by decide +kernel) (Nat.le_of_ble_eq_true rfl) fun base wd => ?_
  refine sq (rn ?_)
  refine an (sq ?_)
  rcases bcase (decide (p0 ≥ p1)) with b1 | b1
  · replace h := ite_t b1 h
    refine rn ?_
    refine an (rt ?_)
    cases h
    simp [Ret, TB, EN, *]
  replace h := ite_f b1 h
  refine rn ?_
  refine an (rt ?_)
  cases h
  simp [Ret, TB, EN, *]

set_option maxRecDepth 20000 in
set_option maxHeartbeats 4000000 in
theorem c_spec_l4Text (p0 : ByteArray) (r : Bool) (h : m_spec_l4Text p0 = some r) : SCalls Tryz.prog 392 [(false, [.str p0])] [(false, [.ro (.bool r)])] := by
  unfold m_spec_l4Text at h
  refine scalls_n (N := 35) (vars := [.tmp 2]) Tryz.func392 rfl rfl rfl (by decide +kernel) (Nat.le_of_ble_eq_true rfl) fun base wd => ?_
  refine sq (rn ?_)
  refine an (sq (sq (rn ?_)))
  refine an (bk ?_)
  refine SW_loop (fun m s => ∃ v3 : Int, s.t 0 = .v false [.dat (.str p0)] ∧ s.t 3 = .v false [.dat (.int .i64 v3)] ∧ m_spec_l4Text_L1 p0 m v3 = some r) fuel ?_ ?_
  · refine ⟨0, ?_, ?_, h⟩
    all_goals simp +decide only [F, reduceIte, Nat.reduceAdd, Bool.not_true, Bool.not_false, EN, *, -h]
  rintro mL1 s1 ⟨v3, f2, f3, h⟩
  rcases mL1 with _ | mL1
  · exact absurd h (by simp [m_spec_l4Text_L1])
  simp only [m_spec_l4Text_L1] at h
  refine sq (sq (rn ?_))
  refine an ?_
  rcases bcas (decide (v3 < (p0.size : Int))) with b4 | b4
  · replace h := ite_f b4 h
    refine cf (xt (aft_cx (aft_ix (aft_x (an (sq (rn ?_)))))))
    refine an (rt ?_)
    cases h
    simp [Ret, TB, EN, *]
  replace h := ite_t b4 h
  refine ct (sk (an (sq (bk (sq ?_)))))
  obtain ⟨x5, h6, h⟩ := bind_some h
  obtain ⟨q7, q8⟩ := sidx_some h6
  rcases bcase (decide ((x5.toNat : Int) < 97)) with b9 | b9
  · replace h := ite_t b9 h
    rcases bcase (decide ((x5.toNat : Int) < 48)) with b10 | b10
    · replace h := ite_t b10 h
      refine rn ?_
      refine an (ct (sq (rn ?_)))
      refine an (rt ?_)
      cases h
      simp [Ret, TB, EN, *]
    replace h := ite_f b10 h
    refine rn ?_
    refine an ?_
    rcases bcase (decide ((x5.toNat : Int) > 57)) with b11 | b11
    · replace h := ite_t b11 h
      refine ct (sq (rn ?_))
      refine an (rt ?_)
      cases h
      simp [Ret, TB, EN, *]
    replace h := ite_f b11 h
    refine cf (sk (ab (an (rn ?_))))
    refine aft_i ⟨mL1, by omega, (IntKind.i64.wrap (v3 + 1)), ?_, ?_, h⟩
    all_goals simp +decide only [F, reduceIte, Nat.reduceAdd, Bool.not_true, Bool.not_false, EN, *, -h]
  replace h := ite_f b9 h
  rcases bcas (decide ((x5.toNat : Int) > 122)) with b12 | b12
  · replace h := ite_f b12 h
    refine rn ?_
    refine an (cf (sk (ab (an (rn ?_)))))
    refine aft_i ⟨mL1, by omega, (IntKind.i64.wrap (v3 + 1)), ?_, ?_, h⟩
    all_goals simp +decide only [F, reduceIte, Nat.reduceAdd, Bool.not_true, Bool.not_false, EN, *, -h]
  replace h := ite_t b12 h
  rcases bcase (decide ((x5.toNat : Int) < 48)) with b13 | b13
  · replace h := ite_t b13 h
    refine rn ?_
    refine an (ct (sq (rn ?_)))
    refine an (rt ?_)
    cases h
    simp [Ret, TB, EN, *]
  replace h := ite_f b13 h
  refine rn ?_
  refine an ?_
  rcases bcase (decide ((x5.toNat : Int) > 57)) with b14 | b14
  · replace h := ite_t b14 h
    refine ct (sq (rn ?_))
    refine an (rt ?_)
    cases h
    simp [Ret, TB, EN, *]
  replace h := ite_f b14 h
  refine cf (sk (ab (an (rn ?_))))
  refine aft_i ⟨mL1, by omega, (IntKind.i64.wrap (v3 + 1)), ?_, ?_, h⟩
  all_goals simp +decide only [F, reduceIte, Nat.reduceAdd, Bool.not_true, Bool.not_false, EN, *, -h]

set_option maxRecDepth 20000 in
set_option maxHeartbeats 4000000 in
theorem c_spec_IsKey (p0 : M.Key) (r : Bool) (h : m_spec_IsKey p0 = some r) : SCalls Tryz.prog 331 [(true, M.Key.en p0)] [(false, [.ro (.bool r)])] := by
  unfold m_spec_IsKey at h
  simp only [M.Key.en]
  refine scalls_n (N := 36) (vars := [.tmp 2]) Tryz.func331 rfl rfl rfl (by decide +kernel) (Nat.le_of_ble_eq_true rfl) fun base wd => ?_
  refine sq (rn ?_)
  refine an (sq ?_)
  obtain ⟨x1, h2, h⟩ := bind_some h
  rcases bcas x1 with b3 | b3
  · replace h := ite_f b3 h
    refine rn1 (c_spec_l1In _ _ _ _ h2) ?_
    refine an (rt ?_)
    cases h
    simp [Ret, TB, EN, *]
  replace h := ite_t b3 h
  obtain ⟨x4, h5, h⟩ := bind_some h
  rcases bcas x4 with b6 | b6
  · replace h := ite_f b6 h
    refine rn2 (c_spec_l1In _ _ _ _ h2) (c_spec_l1In _ _ _ _ h5) ?_
    refine an (rt ?_)
    cases h
    simp [Ret, TB, EN, *]
  replace h := ite_t b6 h
  rcases bcase (p0.Kind != 2) with b7 | b7
  · replace h := ite_t b7 h
    obtain ⟨x8, h9, h⟩ := bind_some h
    rcases bcas x8 with b10 | b10
    · replace h := ite_f b10 h
      refine rn3 (c_spec_l1In _ _ _ _ h2) (c_spec_l1In _ _ _ _ h5) (c_spec_l4Text _ _ h9) ?_
      refine an (rt ?_)
      cases h
      simp [Ret, TB, EN, *]
    replace h := ite_t b10 h
    rcases bcase (p0.Kind != 1) with b11 | b11
    · replace h := ite_t b11 h
      refine rn3 (c_spec_l1In _ _ _ _ h2) (c_spec_l1In _ _ _ _ h5) (c_spec_l4Text _ _ h9) ?_
      refine an (rt ?_)
      cases h
      simp [Ret, TB, EN, *]
    replace h := ite_f b11 h
    refine rn3 (c_spec_l1In _ _ _ _ h2) (c_spec_l1In _ _ _ _ h5) (c_spec_l4Text _ _ h9) ?_
    refine an (rt ?_)
    cases h
    simp [Ret, TB, EN, *]
  replace h := ite_f b7 h
  rcases bcas (p0.N == 0) with b12 | b12
  · replace h := ite_f b12 h
    refine rn2 (c_spec_l1In _ _ _ _ h2) (c_spec_l1In _ _ _ _ h5) ?_
    refine an (rt ?_)
    cases h
    simp [Ret, TB, EN, *]
  replace h := ite_t b12 h
  obtain ⟨x13, h14, h⟩ := bind_some h
  rcases bcas x13 with b15 | b15
  · replace h := ite_f b15 h
    refine rn3 (c_spec_l1In _ _ _ _ h2) (c_spec_l1In _ _ _ _ h5) (c_spec_l4Text _ _ h14) ?_
    refine an (rt ?_)
    cases h
    simp [Ret, TB, EN, *]
  replace h := ite_t b15 h
  rcases bcase (p0.Kind != 1) with b16 | b16
  · replace h := ite_t b16 h
    refine rn3 (c_spec_l1In _ _ _ _ h2) (c_spec_l1In _ _ _ _ h5) (c_spec_l4Text _ _ h14) ?_
    refine an (rt ?_)
    cases h
    simp [Ret, TB, EN, *]
  replace h := ite_f b16 h
  refine rn3 (c_spec_l1In _ _ _ _ h2) (c_spec_l1In _ _ _ _ h5) (c_spec_l4Text _ _ h14) ?_
  refine an (rt ?_)
  cases h
  simp [Ret, TB, EN, *]

set_option maxRecDepth 20000 in
set_option maxHeartbeats 4000000 in
theorem c_spec_IsName (p0 : ByteArray) (r : Bool) (h : m_spec_IsName p0 = some r) : SCalls Tryz.prog 145 [(false, [.str p0])] [(false, [.ro (.bool r)])] := by
  unfold m_spec_IsName at h
  refine scalls_n (N := 23) (vars := [.tmp 2]) Tryz.func145 rfl rfl rfl (by decide +kernel) (Nat.le_of_ble_eq_true rfl) fun base wd => ?_
  refine sq (rn ?_)
  refine an (sq (sq (rn ?_)))
  refine an (bk ?_)
  refine SW_loop (fun m s => ∃ v3 : Int, s.t 0 = .v false [.dat (.str p0)] ∧ s.t 3 = .v false [.dat (.int .i64 v3)] ∧ m_spec_IsName_L1 p0 m v3 = some r) fuel ?_ ?_
  · refine ⟨0, ?_, ?_, h⟩
    all_goals simp +decide only [F, reduceIte, Nat.reduceAdd, Bool.not_true, Bool.not_false, EN, *, -h]
  rintro mL1 s1 ⟨v3, f2, f3, h⟩
  rcases mL1 with _ | mL1
  · exact absurd h (by simp [m_spec_IsName_L1])
  simp only [m_spec_IsName_L1] at h
  refine sq (sq (rn ?_))
  refine an ?_
  rcases bcas (decide (v3 < (p0.size : Int))) with b4 | b4
  · replace h := ite_f b4 h
    refine cf (xt (aft_cx (aft_ix (aft_x (an (sq ?_))))))
    obtain ⟨x11, h12, h⟩ := bind_some h
    refine rn1 (c_spec_l1In _ _ _ _ h12) ?_
    refine an (rt ?_)
    cases h
    simp [Ret, TB, EN, *]
  replace h := ite_t b4 h
  refine ct (sk (an (sq (bk (sq ?_)))))
  obtain ⟨x5, h6, h⟩ := bind_some h
  obtain ⟨q7, q8⟩ := sidx_some h6
  rcases bcase (decide ((x5.toNat : Int) < 97)) with b9 | b9
  · replace h := ite_t b9 h
    refine rn ?_
    refine an (ct (sq (rn ?_)))
    refine an (rt ?_)
    cases h
    simp [Ret, TB, EN, *]
  replace h := ite_f b9 h
  refine rn ?_
  refine an ?_
  rcases bcase (decide ((x5.toNat : Int) > 122)) with b10 | b10
  · replace h := ite_t b10 h
    refine ct (sq (rn ?_))
    refine an (rt ?_)
    cases h
    simp [Ret, TB, EN, *]
  replace h := ite_f b10 h
  refine cf (sk (ab (an (rn ?_))))
  refine aft_i ⟨mL1, by omega, (IntKind.i64.wrap (v3 + 1)), ?_, ?_, h⟩
  all_goals simp +decide only [F, reduceIte, Nat.reduceAdd, Bool.not_true, Bool.not_false, EN, *, -h]

set_option maxRecDepth 20000 in
set_option maxHeartbeats 4000000 in
theorem c_spec_IsQueuedWrite (p0 : M.Write) (r : Bool) (h : m_spec_IsQueuedWrite p0 = some r) : SCalls Tryz.prog 247 [(true, M.Write.en p0)] [(false, [.ro (.bool r)])] := by
  unfold m_spec_IsQueuedWrite at h
  simp only [M.Write.en]
  refine scalls_n (N := 26) (vars := [.tmp 2]) Tryz.func247 rfl rfl rfl (by decide +kernel) (Nat.le_of_ble_eq_true rfl) fun base wd => ?_
  refine sq (rn ?_)
  refine an (sq ?_)
  obtain ⟨x1, h2, h⟩ := bind_some h
  rcases bcas x1 with b3 | b3
  · replace h := ite_f b3 h
    refine rn1 (c_spec_l1In _ _ _ _ h2) ?_
    refine an (rt ?_)
    cases h
    simp [Ret, TB, EN, *]
  replace h := ite_t b3 h
  obtain ⟨x4, h5, h⟩ := bind_some h
  rcases bcas x4 with b6 | b6
  · replace h := ite_f b6 h
    refine rn2 (c_spec_l1In _ _ _ _ h2) (c_spec_l1In _ _ _ _ h5) ?_
    refine an (rt ?_)
    cases h
    simp [Ret, TB, EN, *]
  replace h := ite_t b6 h
  obtain ⟨x7, h8, h⟩ := bind_some h
  rcases bcas x7 with b9 | b9
  · replace h := ite_f b9 h
    refine rn3 (c_spec_l1In _ _ _ _ h2) (c_spec_l1In _ _ _ _ h5) (c_spec_IsKey _ _ h8) ?_
    refine an (rt ?_)
    cases h
    simp [Ret, TB, EN, *]
  replace h := ite_t b9 h
  obtain ⟨x10, h11, h⟩ := bind_some h
  rcases bcas x10 with b12 | b12
  · replace h := ite_f b12 h
    refine rn4 (c_spec_l1In _ _ _ _ h2) (c_spec_l1In _ _ _ _ h5) (c_spec_IsKey _ _ h8) (c_spec_IsName _ _ h11) ?_
    refine an (rt ?_)
    cases h
    simp [Ret, TB, EN, *]
  replace h := ite_t b12 h
  obtain ⟨x13, h14, h⟩ := bind_some h
  refine rn5 (c_spec_l1In _ _ _ _ h2) (c_spec_l1In _ _ _ _ h5) (c_spec_IsKey _ _ h8) (c_spec_IsName _ _ h11) (c_spec_l1In _ _ _ _ h14) ?_
  refine an (rt ?_)
  cases h
  simp [Ret, TB, EN, *]

set_option maxRecDepth 20000 in
set_option maxHeartbeats 4000000 in
theorem c_spec_IsOutbox (p0 : M.Outbox) (r : Bool) (h : m_spec_IsOutbox p0 = some r) : SCalls Tryz.prog 144 [(true, M.Outbox.en p0)] [(false, [.ro (.bool r)])] := by
  unfold m_spec_IsOutbox at h
  simp only [M.Outbox.en]
  refine scalls_n (N := 60) (vars := [.tmp 2]) Tryz.func144 rfl rfl rfl (by decide +kernel) (Nat.le_of_ble_eq_true rfl) fun base wd => ?_
  refine sq (rn ?_)
  refine an (sq (rn ?_))
  refine an (sq (sq ?_))
  obtain ⟨x1, h2, h⟩ := bind_some h
  rcases bcase (!x1) with b3 | b3
  · replace h := ite_t b3 h
    refine rn1 (c_spec_l1In _ _ _ _ h2) ?_
    refine an (ct (sq (rn ?_)))
    refine an (rt ?_)
    cases h
    simp [Ret, TB, EN, *]
  replace h := ite_f b3 h
  obtain ⟨x4, h5, h⟩ := bind_some h
  rcases bcase (!x4) with b6 | b6
  · replace h := ite_t b6 h
    refine rn2 (c_spec_l1In _ _ _ _ h2) (c_spec_l1In _ _ _ _ h5) ?_
    refine an (ct (sq (rn ?_)))
    refine an (rt ?_)
    cases h
    simp [Ret, TB, EN, *]
  replace h := ite_f b6 h
  refine rn2 (c_spec_l1In _ _ _ _ h2) (c_spec_l1In _ _ _ _ h5) ?_
  refine an ?_
  rcases bcase (decide ((List.length p0.Writes : Int) > 20)) with b7 | b7
  · replace h := ite_t b7 h
    refine ct (sq (rn ?_))
    refine an (rt ?_)
    cases h
    simp [Ret, TB, EN, *]
  replace h := ite_f b7 h
  refine cf (sk (an (sq (sq (rn ?_)))))
  refine an (bk ?_)
  refine SW_loop (fun m s => ∃ v4 : Int, s.t 1 = .v false [.bp 1 1 0] ∧ s.t 3 = .v false [.dat (.int .i64 (List.length p0.Writes : Int))] ∧ s.t 4 = .v false [.dat (.int .i64 v4)] ∧ s.h 1 = (1, .box 39 [.dat (.int .i64 p0.Device), .dat (.int .i64 p0.Next), .dat (.sl (List.map M.Write.en p0.Writes))]) ∧ m_spec_IsOutbox_L1 p0 m v4 = some r) fuel ?_ ?_
  · refine ⟨0, ?_, ?_, ?_, ?_, h⟩
    all_goals simp +decide only [F, reduceIte, Nat.reduceAdd, Bool.not_true, Bool.not_false, EN, *, -h]
  rintro mL1 s8 ⟨v4, f9, f10, f11, f12, h⟩
  rcases mL1 with _ | mL1
  · exact absurd h (by simp [m_spec_IsOutbox_L1])
  simp only [m_spec_IsOutbox_L1] at h
  refine sq (sq (rn ?_))
  refine an ?_
  rcases bcas (decide (v4 < (List.length p0.Writes : Int))) with b13 | b13
  · replace h := ite_f b13 h
    refine cf (xt (aft_cx (aft_ix (aft_x (an (sq (rn ?_)))))))
    refine an (rt ?_)
    cases h
    simp [Ret, TB, EN, *]
  replace h := ite_t b13 h
  refine ct (sk (an (sq (bk (sq ?_)))))
  obtain ⟨x14, h15, h⟩ := bind_some h
  obtain ⟨q16, q17, q18⟩ := idx_some h15
  obtain ⟨x19, h20, h⟩ := bind_some h
  rcases bcase (!x19) with b21 | b21
  · replace h := ite_t b21 h
    refine rd1 mixed (c_spec_IsQueuedWrite _ _ h20) ?_
    refine an (ct (sq (rn ?_)))
    refine an (rt ?_)
    cases h
    simp [Ret, TB, EN, *]
  replace h := ite_f b21 h
  rcases bcase (x14.Device != p0.Device) with b22 | b22
  · replace h := ite_t b22 h
    refine rd1 mixed (c_spec_IsQueuedWrite _ _ h20) ?_
    refine an (ct (sq (rn ?_)))
    refine an (rt ?_)
    cases h
    simp [Ret, TB, EN, *]
  replace h := ite_f b22 h
  refine rd1 mixed (c_spec_IsQueuedWrite _ _ h20) ?_
  refine an ?_
  rcases bcase (x14.Seq != (IntKind.i64.wrap ((IntKind.i64.wrap (p0.Next - (List.length p0.Writes : Int))) + v4))) with b23 | b23
  · replace h := ite_t b23 h
    refine ct (sq (rn ?_))
    refine an (rt ?_)
    cases h
    simp [Ret, TB, EN, *]
  replace h := ite_f b23 h
  refine cf (sk (ab (an (rn ?_))))
  refine aft_i ⟨mL1, by omega, (IntKind.i64.wrap (v4 + 1)), ?_, ?_, ?_, ?_, h⟩
  all_goals simp +decide only [F, reduceIte, Nat.reduceAdd, Bool.not_true, Bool.not_false, EN, *, -h]

set_option maxRecDepth 20000 in
set_option maxHeartbeats 4000000 in
theorem c_spec_NewOutbox (p0 : Int) (r : (M.Outbox × Bool)) (h : m_spec_NewOutbox p0 = some r) : SCalls Tryz.prog 54 [(false, [.int .i64 p0])] [(true, [.ro (.int .i64 r.1.Device), .ro (.int .i64 r.1.Next), .own 261 7 (List.map M.Write.en r.1.Writes)]), (false, [.ro (.bool r.2)])] := by
  unfold m_spec_NewOutbox at h
  refine scalls_n (N := 12) (vars := [.cell 2 39, .tmp 3]) Tryz.func54 rfl rfl rfl (by decide +kernel) (Nat.le_of_ble_eq_true rfl) fun base wd => ?_
  refine sq (rn ?_)
  refine an (sq (rn ?_))
  refine an (sq (sq ?_))
  obtain ⟨x1, h2, h⟩ := bind_some h
  refine rn1 (c_spec_IsOutbox _ _ h2) ?_
  refine an ?_
  rcases bcase (!x1) with b3 | b3
  · replace h := ite_t b3 h
    refine ct (sq (rn ?_))
    refine an (rt ?_)
    cases h
    simp [Ret, TB, EN, *]
  replace h := ite_f b3 h
  refine cf (sk (an (sq (rn ?_))))
  refine an (rt ?_)
  cases h
  simp [Ret, TB, EN, *]

set_option maxRecDepth 20000 in
set_option maxHeartbeats 4000000 in
theorem c_spec_IsRegistration (p0 : M.Registration) (r : Bool) (h : m_spec_IsRegistration p0 = some r) : SCalls Tryz.prog 146 [(true, M.Registration.en p0)] [(false, [.ro (.bool r)])] := by
  unfold m_spec_IsRegistration at h
  simp only [M.Registration.en]
  refine scalls_n (N := 52) (vars := [.tmp 2]) Tryz.func146 rfl rfl rfl (by decide +kernel) (Nat.le_of_ble_eq_true rfl) fun base wd => ?_
  refine sq (rn ?_)
  refine an (sq (rn ?_))
  refine an (sq (rn ?_))
  refine an (sq (sq ?_))
  refine cu (fun s => s.t 1 = .v false [.bp 1 1 0] ∧ s.t 3 = .v false [.dat (.int .i64 0)] ∧ s.t 4 = .v false [.row 100012 1] ∧ s.h 1 = (1, .box 23 [.dat (.str p0.Site), .dat (.int .i64 p0.Installing), .dat (.int .i64 p0.Waiting), .dat (.int .i64 p0.Active)]) ∧ s.h 100012 = (1, .row 3 1 (List.map enI ([p0.Active, p0.Waiting, p0.Installing])) true) ∧ True) ?_
  rintro s1 ⟨f2, f3, f4, f5, f6, _⟩
  refine rn ?_
  refine an (bk ?_)
  refine SW_loop (fun m s => ∃ v3 : Int, ∃ v5 : Int, s.t 1 = .v false [.bp 1 1 0] ∧ s.t 3 = .v false [.dat (.int .i64 v3)] ∧ s.t 4 = .v false [.row 100012 1] ∧ s.t 5 = .v false [.dat (.int .i64 v5)] ∧ s.h 1 = (1, .box 23 [.dat (.str p0.Site), .dat (.int .i64 p0.Installing), .dat (.int .i64 p0.Waiting), .dat (.int .i64 p0.Active)]) ∧ s.h 100012 = (1, .row 3 1 (List.map enI ([p0.Active, p0.Waiting, p0.Installing])) true) ∧ m_spec_IsRegistration_L1 p0 m v3 v5 = some r) fuel ?_ ?_
  · refine ⟨0, 0, ?_, ?_, ?_, ?_, ?_, ?_, h⟩
    all_goals simp +decide only [F, reduceIte, Nat.reduceAdd, Bool.not_true, Bool.not_false, EN, *, -h]
  rintro mL1 s7 ⟨v3, v5, f8, f9, f10, f11, f12, f13, h⟩
  rcases mL1 with _ | mL1
  · exact absurd h (by simp [m_spec_IsRegistration_L1])
  simp only [m_spec_IsRegistration_L1] at h
  refine sq (sq (rn ?_))
  refine an ?_
  rcases bcas (decide (v5 < ((3 : Nat) : Int))) with b14 | b14
  · replace h := ite_f b14 h
    refine cf (xt (aft_cx (aft_ix (aft_x (an (sq ?_))))))
    obtain ⟨x25, h26, h⟩ := bind_some h
    refine rn1 (c_spec_IsName _ _ h26) ?_
    refine an (rt ?_)
    cases h
    simp [Ret, TB, EN, *]
  replace h := ite_t b14 h
  refine ct (sk (an (sq (bk (sq (sq ?_))))))
  obtain ⟨x15, h16, h⟩ := bind_some h
  obtain ⟨q17, q18, q19⟩ := idx_some h16
  have q17m := congrArg (Option.map enI) (show ([p0.Active, p0.Waiting, p0.Installing])[v5.toNat]? = some x15 by assumption)
  simp only [← List.getElem?_map, List.map_cons, List.map_nil, Option.map_some, EN] at q17m
  simp only [List.length_cons, List.length_nil, Nat.reduceAdd] at q19
  obtain ⟨x20, h21, h⟩ := bind_some h
  rcases bcase (!x20) with b22 | b22
  · replace h := ite_t b22 h
    refine rn1 (c_spec_l1In _ _ _ _ h21) ?_
    refine an (ct (sq (rn ?_)))
    refine an (rt ?_)
    cases h
    simp [Ret, TB, EN, *]
  replace h := ite_f b22 h
  rcases bcas (x15 != 0) with b23 | b23
  · replace h := ite_f b23 h
    refine rn1 (c_spec_l1In _ _ _ _ h21) ?_
    refine an (cf (sk (an (sq (rn ?_)))))
    refine an (cf (sk (ab (an (rn ?_)))))
    refine aft_i ⟨mL1, by omega, v3, (IntKind.i64.wrap (v5 + 1)), ?_, ?_, ?_, ?_, ?_, ?_, h⟩
    all_goals simp +decide only [F, reduceIte, Nat.reduceAdd, Bool.not_true, Bool.not_false, EN, *, -h]
  replace h := ite_t b23 h
  refine rn1 (c_spec_l1In _ _ _ _ h21) ?_
  refine an ?_
  rcases bcase (decide (x15 ≤ v3)) with b24 | b24
  · replace h := ite_t b24 h
    refine ct (sq (rn ?_))
    refine an (rt ?_)
    cases h
    simp [Ret, TB, EN, *]
  replace h := ite_f b24 h
  refine cf (sk (an (sq (rn ?_))))
  refine an (ct (rn ?_))
  refine ab (an (rn ?_))
  refine aft_i ⟨mL1, by omega, x15, (IntKind.i64.wrap (v5 + 1)), ?_, ?_, ?_, ?_, ?_, ?_, h⟩
  all_goals simp +decide only [F, reduceIte, Nat.reduceAdd, Bool.not_true, Bool.not_false, EN, *, -h]

set_option maxRecDepth 20000 in
set_option maxHeartbeats 4000000 in
theorem c_spec_IsResponse (p0 : M.Response) (r : Bool) (h : m_spec_IsResponse p0 = some r) : SCalls Tryz.prog 332 [(true, M.Response.en p0)] [(false, [.ro (.bool r)])] := by
  unfold m_spec_IsResponse at h
  simp only [M.Response.en]
  refine scalls_n (N := 22) (vars := [.tmp 2]) Tryz.func332 rfl rfl rfl (by decide +kernel) (Nat.le_of_ble_eq_true rfl) fun base wd => ?_
  refine sq (rn ?_)
  refine an (sq ?_)
  obtain ⟨x1, h2, h⟩ := bind_some h
  rcases bcas x1 with b3 | b3
  · replace h := ite_f b3 h
    refine rn1 (c_spec_l1In _ _ _ _ h2) ?_
    refine an (rt ?_)
    cases h
    simp [Ret, TB, EN, *]
  replace h := ite_t b3 h
  obtain ⟨x4, h5, h⟩ := bind_some h
  rcases bcas x4 with b6 | b6
  · replace h := ite_f b6 h
    refine rn2 (c_spec_l1In _ _ _ _ h2) (c_spec_l1In _ _ _ _ h5) ?_
    refine an (rt ?_)
    cases h
    simp [Ret, TB, EN, *]
  replace h := ite_t b6 h
  obtain ⟨x7, h8, h⟩ := bind_some h
  rcases bcase x7 with b9 | b9
  · replace h := ite_t b9 h
    refine rn3 (c_spec_l1In _ _ _ _ h2) (c_spec_l1In _ _ _ _ h5) (c_spec_l1In _ _ _ _ h8) ?_
    refine an (rt ?_)
    cases h
    simp [Ret, TB, EN, *]
  replace h := ite_f b9 h
  refine rn3 (c_spec_l1In _ _ _ _ h2) (c_spec_l1In _ _ _ _ h5) (c_spec_l1In _ _ _ _ h8) ?_
  refine an (rt ?_)
  cases h
  simp [Ret, TB, EN, *]

set_option maxRecDepth 20000 in
set_option maxHeartbeats 4000000 in
theorem c_spec_l17Entries (p0 : List M.Cached) (r : Bool) (h : m_spec_l17Entries p0 = some r) : SCalls Tryz.prog 248 [(false, [.sl (List.map M.Cached.en p0)])] [(false, [.ro (.bool r)])] := by
  unfold m_spec_l17Entries at h
  refine scalls_n (N := 68) (vars := [.tmp 2]) Tryz.func248 rfl rfl rfl (by decide +kernel) (Nat.le_of_ble_eq_true rfl) fun base wd => ?_
  refine sq (rn ?_)
  refine an (sq (sq (rn ?_)))
  refine an (bk ?_)
  refine SW_loop (fun m s => ∃ v3 : Int, s.t 0 = .v false [.dat (.sl (List.map M.Cached.en p0))] ∧ s.t 3 = .v false [.dat (.int .i64 v3)] ∧ m_spec_l17Entries_L1 p0 m v3 = some r) fuel ?_ ?_
  · refine ⟨0, ?_, ?_, h⟩
    all_goals simp +decide only [F, reduceIte, Nat.reduceAdd, Bool.not_true, Bool.not_false, EN, *, -h]
  rintro mL1 s1 ⟨v3, f2, f3, h⟩
  rcases mL1 with _ | mL1
  · exact absurd h (by simp [m_spec_l17Entries_L1])
  simp only [m_spec_l17Entries_L1] at h
  refine sq (sq (rn ?_))
  refine an ?_
  rcases bcas (decide (v3 < (List.length p0 : Int))) with b4 | b4
  · replace h := ite_f b4 h
    refine cf (xt (aft_cx (aft_ix (aft_x (an (sq (rn ?_)))))))
    refine an (rt ?_)
    cases h
    simp [Ret, TB, EN, *]
  replace h := ite_t b4 h
  refine ct (sk (an (sq (bk (sq (sq ?_))))))
  obtain ⟨x5, h6, h⟩ := bind_some h
  obtain ⟨q7, q8, q9⟩ := idx_some h6
  obtain ⟨x10, h11, h⟩ := bind_some h
  rcases bcase (!x10) with b12 | b12
  · replace h := ite_t b12 h
    refine rn1 (c_spec_IsName _ _ h11) ?_
    refine an (ct (sq (rn ?_)))
    refine an (rt ?_)
    cases h
    simp [Ret, TB, EN, *]
  replace h := ite_f b12 h
  obtain ⟨x13, h14, h⟩ := bind_some h
  rcases bcase (!x13) with b15 | b15
  · replace h := ite_t b15 h
    refine rn2 (c_spec_IsName _ _ h11) (c_spec_IsName _ _ h14) ?_
    refine an (ct (sq (rn ?_)))
    refine an (rt ?_)
    cases h
    simp [Ret, TB, EN, *]
  replace h := ite_f b15 h
  obtain ⟨x16, h17, h⟩ := bind_some h
  refine rn3 (c_spec_IsName _ _ h11) (c_spec_IsName _ _ h14) (c_spec_IsResponse _ _ h17) ?_
  refine an ?_
  rcases bcase (!x16) with b18 | b18
  · replace h := ite_t b18 h
    refine ct (sq (rn ?_))
    refine an (rt ?_)
    cases h
    simp [Ret, TB, EN, *]
  replace h := ite_f b18 h
  refine cf (sk (an (sq (rn ?_))))
  refine an (bk ?_)
  obtain ⟨k20, e21, h⟩ := absk (f := fun kk => m_spec_l17Entries_L2 p0 v3 x5 kk fuel 0) h
  refine SW_loop (fun m s => ∃ v4_L2 : Int, s.t 0 = .v false [.dat (.sl (List.map M.Cached.en p0))] ∧ s.t 3 = .v false [.dat (.int .i64 v3)] ∧ s.t 4 = .v false [.dat (.int .i64 v4_L2)] ∧ m_spec_l17Entries_L2 p0 v3 x5 k20 m v4_L2 = some r) fuel ?_ ?_
  · refine ⟨0, ?_, ?_, ?_, h⟩
    all_goals simp +decide only [F, reduceIte, Nat.reduceAdd, Bool.not_true, Bool.not_false, EN, *, -h]
  rintro mL2 s19 ⟨v4_L2, f22, f23, f24, h⟩
  rcases mL2 with _ | mL2
  · exact absurd h (by simp [m_spec_l17Entries_L2])
  simp only [m_spec_l17Entries_L2] at h
  refine sq (sq (rn ?_))
  refine an ?_
  rcases bcas (decide (v4_L2 < v3)) with b25 | b25
  · replace h := ite_f b25 h
    refine cf (xt (aft_cx ?_))
    subst e21
    refine aft_ix (aft_x (ab (an (rn ?_))))
    refine aft_i ⟨mL1, by omega, (IntKind.i64.wrap (v3 + 1)), ?_, ?_, h⟩
    all_goals simp +decide only [F, reduceIte, Nat.reduceAdd, Bool.not_true, Bool.not_false, EN, *, -h]
  replace h := ite_t b25 h
  refine ct (sk (an (sq (bk (sq ?_)))))
  obtain ⟨x26, h27, h⟩ := bind_some h
  obtain ⟨q28, q29, q30⟩ := idx_some h27
  rcases bcas (x26.Site.toList == x5.Site.toList) with b31 | b31
  · replace h := ite_f b31 h
    refine rd mixed ?_
    refine an (cf (sk (ab (an (rn ?_)))))
    refine aft_i ⟨mL2, by omega, (IntKind.i64.wrap (v4_L2 + 1)), ?_, ?_, ?_, h⟩
    all_goals simp +decide only [F, reduceIte, Nat.reduceAdd, Bool.not_true, Bool.not_false, EN, *, -h]
  replace h := ite_t b31 h
  refine rd mixed ?_
  refine an ?_
  rcases bcase (x26.Path.toList == x5.Path.toList) with b32 | b32
  · replace h := ite_t b32 h
    refine ct (sq (rn ?_))
    refine an (rt ?_)
    cases h
    simp [Ret, TB, EN, *]
  replace h := ite_f b32 h
  refine cf (sk (ab (an (rn ?_))))
  refine aft_i ⟨mL2, by omega, (IntKind.i64.wrap (v4_L2 + 1)), ?_, ?_, ?_, h⟩
  all_goals simp +decide only [F, reduceIte, Nat.reduceAdd, Bool.not_true, Bool.not_false, EN, *, -h]

set_option maxRecDepth 20000 in
set_option maxHeartbeats 4000000 in
theorem c_spec_IsCacheSet (p0 : M.CacheSet) (r : Bool) (h : m_spec_IsCacheSet p0 = some r) : SCalls Tryz.prog 147 [(true, M.CacheSet.en p0)] [(false, [.ro (.bool r)])] := by
  unfold m_spec_IsCacheSet at h
  simp only [M.CacheSet.en]
  refine scalls_n (N := 53) (vars := [.tmp 2]) Tryz.func147 rfl rfl rfl (by decide +kernel) (Nat.le_of_ble_eq_true rfl) fun base wd => ?_
  refine sq (rn ?_)
  refine an (sq (sq (rn ?_)))
  refine an (bk ?_)
  refine SW_loop (fun m s => ∃ v3 : Int, s.t 1 = .v false [.bp 1 1 0] ∧ s.t 3 = .v false [.dat (.int .i64 v3)] ∧ s.h 1 = (1, .box 26 [.dat (.sl (List.map M.Cache.en p0.Caches))]) ∧ m_spec_IsCacheSet_L1 p0 m v3 = some r) fuel ?_ ?_
  · refine ⟨0, ?_, ?_, ?_, h⟩
    all_goals simp +decide only [F, reduceIte, Nat.reduceAdd, Bool.not_true, Bool.not_false, EN, *, -h]
  rintro mL1 s1 ⟨v3, f2, f3, f4, h⟩
  rcases mL1 with _ | mL1
  · exact absurd h (by simp [m_spec_IsCacheSet_L1])
  simp only [m_spec_IsCacheSet_L1] at h
  refine sq (sq (rn ?_))
  refine an ?_
  rcases bcas (decide (v3 < (List.length p0.Caches : Int))) with b5 | b5
  · replace h := ite_f b5 h
    refine cf (xt (aft_cx (aft_ix (aft_x (an (sq (rn ?_)))))))
    refine an (rt ?_)
    cases h
    simp [Ret, TB, EN, *]
  replace h := ite_t b5 h
  refine ct (sk (an (sq (bk (sq ?_)))))
  obtain ⟨x6, h7, h⟩ := bind_some h
  obtain ⟨q8, q9, q10⟩ := idx_some h7
  obtain ⟨x11, h12, h⟩ := bind_some h
  rcases bcase (!x11) with b13 | b13
  · replace h := ite_t b13 h
    refine rd1 mixed (c_spec_l1In _ _ _ _ h12) ?_
    refine an (ct (sq (rn ?_)))
    refine an (rt ?_)
    cases h
    simp [Ret, TB, EN, *]
  replace h := ite_f b13 h
  rcases bcas (decide (v3 > 0)) with b14 | b14
  · replace h := ite_f b14 h
    obtain ⟨x24, h25, h⟩ := bind_some h
    refine rd2 mixed (c_spec_l1In _ _ _ _ h12) (c_spec_l17Entries _ _ h25) ?_
    refine an ?_
    rcases bcase (!x24) with b26 | b26
    · replace h := ite_t b26 h
      refine ct (sq (rn ?_))
      refine an (rt ?_)
      cases h
      simp [Ret, TB, EN, *]
    replace h := ite_f b26 h
    refine cf (sk (ab (an (rn ?_))))
    refine aft_i ⟨mL1, by omega, (IntKind.i64.wrap (v3 + 1)), ?_, ?_, ?_, h⟩
    all_goals simp +decide only [F, reduceIte, Nat.reduceAdd, Bool.not_true, Bool.not_false, EN, *, -h]
  replace h := ite_t b14 h
  obtain ⟨x15, h16, h⟩ := bind_some h
  obtain ⟨q17, q18, q19⟩ := idx_some h16
  rcases bcase (decide (x15.Version ≥ x6.Version)) with b20 | b20
  · replace h := ite_t b20 h
    refine rd1 mixed (c_spec_l1In _ _ _ _ h12) ?_
    refine an (ct (sq (rn ?_)))
    refine an (rt ?_)
    cases h
    simp [Ret, TB, EN, *]
  replace h := ite_f b20 h
  obtain ⟨x21, h22, h⟩ := bind_some h
  refine rd2 mixed (c_spec_l1In _ _ _ _ h12) (c_spec_l17Entries _ _ h22) ?_
  refine an ?_
  rcases bcase (!x21) with b23 | b23
  · replace h := ite_t b23 h
    refine ct (sq (rn ?_))
    refine an (rt ?_)
    cases h
    simp [Ret, TB, EN, *]
  replace h := ite_f b23 h
  refine cf (sk (ab (an (rn ?_))))
  refine aft_i ⟨mL1, by omega, (IntKind.i64.wrap (v3 + 1)), ?_, ?_, ?_, h⟩
  all_goals simp +decide only [F, reduceIte, Nat.reduceAdd, Bool.not_true, Bool.not_false, EN, *, -h]

set_option maxRecDepth 20000 in
set_option maxHeartbeats 4000000 in
theorem c_spec_IsRecord (p0 : M.Record) (r : Bool) (h : m_spec_IsRecord p0 = some r) : SCalls Tryz.prog 333 [(true, M.Record.en p0)] [(false, [.ro (.bool r)])] := by
  unfold m_spec_IsRecord at h
  simp only [M.Record.en]
  refine scalls_n (N := 53) (vars := [.tmp 2]) Tryz.func333 rfl rfl rfl (by decide +kernel) (Nat.le_of_ble_eq_true rfl) fun base wd => ?_
  refine sq (rn ?_)
  refine an (sq (sq (rn ?_)))
  refine an (bk ?_)
  refine SW_loop (fun m s => ∃ v3 : Int, s.t 1 = .v false [.bp 1 1 0] ∧ s.t 3 = .v false [.dat (.int .i64 v3)] ∧ s.h 1 = (1, .box 225 [.dat (.sl (List.map M.Field.en p0.Fields))]) ∧ m_spec_IsRecord_L1 p0 m v3 = some r) fuel ?_ ?_
  · refine ⟨0, ?_, ?_, ?_, h⟩
    all_goals simp +decide only [F, reduceIte, Nat.reduceAdd, Bool.not_true, Bool.not_false, EN, *, -h]
  rintro mL1 s1 ⟨v3, f2, f3, f4, h⟩
  rcases mL1 with _ | mL1
  · exact absurd h (by simp [m_spec_IsRecord_L1])
  simp only [m_spec_IsRecord_L1] at h
  refine sq (sq (rn ?_))
  refine an ?_
  rcases bcas (decide (v3 < (List.length p0.Fields : Int))) with b5 | b5
  · replace h := ite_f b5 h
    refine cf (xt (aft_cx (aft_ix (aft_x (an (sq (rn ?_)))))))
    refine an (rt ?_)
    cases h
    simp [Ret, TB, EN, *]
  replace h := ite_t b5 h
  refine ct (sk (an (sq (bk (sq ?_)))))
  obtain ⟨x6, h7, h⟩ := bind_some h
  obtain ⟨q8, q9, q10⟩ := idx_some h7
  obtain ⟨x11, h12, h⟩ := bind_some h
  rcases bcase (!x11) with b13 | b13
  · replace h := ite_t b13 h
    refine rd1 mixed (c_spec_IsName _ _ h12) ?_
    refine an (ct (sq (rn ?_)))
    refine an (rt ?_)
    cases h
    simp [Ret, TB, EN, *]
  replace h := ite_f b13 h
  obtain ⟨x14, h15, h⟩ := bind_some h
  rcases bcase (!x14) with b16 | b16
  · replace h := ite_t b16 h
    refine rd2 mixed (c_spec_IsName _ _ h12) (c_spec_l1In _ _ _ _ h15) ?_
    refine an (ct (sq (rn ?_)))
    refine an (rt ?_)
    cases h
    simp [Ret, TB, EN, *]
  replace h := ite_f b16 h
  rcases bcas (decide (v3 > 0)) with b17 | b17
  · replace h := ite_f b17 h
    refine rd2 mixed (c_spec_IsName _ _ h12) (c_spec_l1In _ _ _ _ h15) ?_
    refine an (cf (sk (ab (an (rn ?_)))))
    refine aft_i ⟨mL1, by omega, (IntKind.i64.wrap (v3 + 1)), ?_, ?_, ?_, h⟩
    all_goals simp +decide only [F, reduceIte, Nat.reduceAdd, Bool.not_true, Bool.not_false, EN, *, -h]
  replace h := ite_t b17 h
  obtain ⟨x18, h19, h⟩ := bind_some h
  obtain ⟨q20, q21, q22⟩ := idx_some h19
  refine rd2 mixed (c_spec_IsName _ _ h12) (c_spec_l1In _ _ _ _ h15) ?_
  refine an ?_
  rcases bcase (!(Op.bytesLess x18.Name.toList x6.Name.toList)) with b23 | b23
  · replace h := ite_t b23 h
    refine ct (sq (rn ?_))
    refine an (rt ?_)
    cases h
    simp [Ret, TB, EN, *]
  replace h := ite_f b23 h
  refine cf (sk (ab (an (rn ?_))))
  refine aft_i ⟨mL1, by omega, (IntKind.i64.wrap (v3 + 1)), ?_, ?_, ?_, h⟩
  all_goals simp +decide only [F, reduceIte, Nat.reduceAdd, Bool.not_true, Bool.not_false, EN, *, -h]

set_option maxRecDepth 20000 in
set_option maxHeartbeats 4000000 in
theorem c_spec_l4Sign (p0 : Bool) (p1 : Bool) (r : Int) (h : m_spec_l4Sign p0 p1 = some r) : SCalls Tryz.prog 393 [(false, [.bool p0]), (false, [.bool p1])] [(false, [.ro (.int .i64 r)])] := by
  unfold m_spec_l4Sign at h
  refine scalls_n (N := 7) (vars := [.tmp 4]) Tryz.func393 rfl rfl rfl (by decide +kernel) (Nat.le_of_ble_eq_true rfl) fun base wd => ?_
  refine sq (rn ?_)
  refine an (sq (sq (rn ?_)))
  refine an ?_
  rcases bcase p0 with b1 | b1
  · replace h := ite_t b1 h
    refine ct (sq (rn ?_))
    refine an (rt ?_)
    cases h
    simp [Ret, TB, EN, *]
  replace h := ite_f b1 h
  refine cf (sk (an (sq (sq (rn ?_)))))
  refine an ?_
  rcases bcase p1 with b2 | b2
  · replace h := ite_t b2 h
    refine ct (sq (rn ?_))
    refine an (rt ?_)
    cases h
    simp [Ret, TB, EN, *]
  replace h := ite_f b2 h
  refine cf (sk (an (sq (rn ?_))))
  refine an (rt ?_)
  cases h
  simp [Ret, TB, EN, *]

set_option maxRecDepth 20000 in
set_option maxHeartbeats 4000000 in
theorem c_spec_CompareKeys (p0 : M.Key) (p1 : M.Key) (r : Int) (h : m_spec_CompareKeys p0 p1 = some r) : SCalls Tryz.prog 334 [(true, M.Key.en p0), (true, M.Key.en p1)] [(false, [.ro (.int .i64 r)])] := by
  unfold m_spec_CompareKeys at h
  simp only [M.Key.en]
  refine scalls_n (N := 46) (vars := [.tmp 4]) Tryz.func334 rfl rfl rfl (by decide +kernel) (Nat.le_of_ble_eq_true rfl) fun base wd => ?_
  refine sq (rn ?_)
  refine an (sq (sq ?_))
  obtain ⟨x1, h2, h⟩ := bind_some h
  rcases bcase (!x1) with b3 | b3
  · replace h := ite_t b3 h
    refine rn1 (c_spec_IsKey _ _ h2) ?_
    refine an (ct (sq (rn ?_)))
    refine an (rt ?_)
    cases h
    simp [Ret, TB, EN, *]
  replace h := ite_f b3 h
  obtain ⟨x4, h5, h⟩ := bind_some h
  refine rn2 (c_spec_IsKey _ _ h2) (c_spec_IsKey _ _ h5) ?_
  refine an ?_
  rcases bcase (!x4) with b6 | b6
  · replace h := ite_t b6 h
    refine ct (sq (rn ?_))
    refine an (rt ?_)
    cases h
    simp [Ret, TB, EN, *]
  replace h := ite_f b6 h
  refine cf (sk (an (sq (sq (rn ?_)))))
  refine an ?_
  rcases bcase (p0.Kind != p1.Kind) with b7 | b7
  · replace h := ite_t b7 h
    refine ct (sq ?_)
    obtain ⟨x8, h9, h⟩ := bind_some h
    refine rn1 (c_spec_l4Sign _ _ _ h9) ?_
    refine an (rt ?_)
    cases h
    simp [Ret, TB, EN, *]
  replace h := ite_f b7 h
  refine cf (sk (an (sq (sq (rn ?_)))))
  refine an ?_
  rcases bcase (p0.N != p1.N) with b10 | b10
  · replace h := ite_t b10 h
    refine ct (sq ?_)
    obtain ⟨x11, h12, h⟩ := bind_some h
    refine rn1 (c_spec_l4Sign _ _ _ h12) ?_
    refine an (rt ?_)
    cases h
    simp [Ret, TB, EN, *]
  replace h := ite_f b10 h
  refine cf (sk (an (sq ?_)))
  obtain ⟨x13, h14, h⟩ := bind_some h
  refine rn1 (c_spec_l4Sign _ _ _ h14) ?_
  refine an (rt ?_)
  cases h
  simp [Ret, TB, EN, *]

end Go.Proofs.YtgemmnkhddlhpaaGreat.gen
