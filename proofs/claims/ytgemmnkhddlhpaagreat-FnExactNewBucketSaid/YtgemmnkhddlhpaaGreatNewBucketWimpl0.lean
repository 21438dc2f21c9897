/-
  Helper text: walks: each function's contract out of its model. No conditions beyond those of each contract.
-/
import Derived.Test.YtgemmnkhddlhpaaGreatNewBucketTi
namespace Go.Proofs.YtgemmnkhddlhpaaGreat.gen
open Go Go.Sh
set_option linter.unusedVariables false
set_option linter.unusedSimpArgs false
set_option maxRecDepth 20000 in
set_option maxHeartbeats 4000000 in
theorem c_impl_InRange (p0 : Int) (p1 : Int) (p2 : Int) (r : Bool) (h : m_impl_InRange p0 p1 p2 = some r) : SCalls Tryz.prog 158 [(false, [.int .i64 p0]), (false, [.int .i64 p1]), (false, [.int .i64 p2])] [(false, [.ro (.bool r)])] := by
  unfold m_impl_InRange at h
  refine scalls_n (N := 15) (vars := [.tmp 6]) Tryz.func158 rfl rfl rfl (by decide +kernel) (Nat.le_of_ble_eq_true rfl) fun base wd => ?_
  refine sq (rn ?_)
  refine an (sq ?_)
  rcases bcase (decide (p1 ≤ p0)) with b1 | b1
  · replace h := ite_t b1 h
    refine rn ?_
    refine an (rt ?_)
    cases h
    simp [Ret, TB, EN, *]
  replace h := ite_f b1 h
  refine rn ?_
  refine an (rt ?_)
  cases h
  simp [Ret, TB, EN, *]

set_option maxRecDepth 20000 in
set_option maxHeartbeats 4000000 in
theorem c_impl_isKeyText (p0 : ByteArray) (r : Bool) (h : m_impl_isKeyText p0 = some r) : SCalls Tryz.prog 397 [(false, [.str p0])] [(false, [.ro (.bool r)])] := by
  unfold m_impl_isKeyText at h
  refine scalls_n (N := 36) (vars := [.tmp 2]) Tryz.func397 rfl rfl rfl (by decide +kernel) (Nat.le_of_ble_eq_true rfl) fun base wd => ?_
  refine sq (rn ?_)
  refine an (sq (sq (rn ?_)))
  refine an (bk ?_)
  refine SW_loop (fun m s => ∃ v3 : Int, s.t 0 = .v false [.dat (.str p0)] ∧ s.t 3 = .v false [.dat (.int .i64 v3)] ∧ m_impl_isKeyText_L1 p0 m v3 = some r) fuel ?_ ?_
  · refine ⟨0, ?_, ?_, h⟩
    all_goals simp +decide only [F, reduceIte, Nat.reduceAdd, Bool.not_true, Bool.not_false, EN, *, -h]
  rintro mL1 s1 ⟨v3, f2, f3, h⟩
  rcases mL1 with _ | mL1
  · exact absurd h (by simp [m_impl_isKeyText_L1])
  simp only [m_impl_isKeyText_L1] at h
  refine sq (sq (rn ?_))
  refine an ?_
  rcases bcas (decide (v3 < (p0.size : Int))) with b4 | b4
  · replace h := ite_f b4 h
    refine cf (xt (aft_cx (aft_ix (aft_x (an (sq (rn ?_)))))))
    refine an (rt ?_)
    cases h
    simp [Ret, TB, EN, *]
  replace h := ite_t b4 h
  refine ct (sk (an (sq (bk (sq ?_)))))
  obtain ⟨x5, h6, h⟩ := bind_some h
  obtain ⟨q7, q8⟩ := sidx_some h6
  rcases bcas (decide ((x5.toNat : Int) ≥ 97)) with b9 | b9
  · replace h := ite_f b9 h
    rcases bcas (decide ((x5.toNat : Int) ≥ 48)) with b13 | b13
    · replace h := ite_f b13 h
      refine rn ?_
      refine an (ct (sq (rn ?_)))
      refine an (rt ?_)
      cases h
      simp [Ret, TB, EN, *]
    replace h := ite_t b13 h
    refine rn ?_
    refine an ?_
    rcases bcase (!(decide ((x5.toNat : Int) ≤ 57))) with b14 | b14
    · replace h := ite_t b14 h
      refine ct (sq (rn ?_))
      refine an (rt ?_)
      cases h
      simp [Ret, TB, EN, *]
    replace h := ite_f b14 h
    refine cf (sk (ab (an (rn ?_))))
    refine aft_i ⟨mL1, by omega, (IntKind.i64.wrap (v3 + 1)), ?_, ?_, h⟩
    all_goals simp +decide only [F, reduceIte, Nat.reduceAdd, Bool.not_true, Bool.not_false, EN, *, -h]
  replace h := ite_t b9 h
  rcases bcase (decide ((x5.toNat : Int) ≤ 122)) with b10 | b10
  · replace h := ite_t b10 h
    refine rn ?_
    refine an (cf (sk (ab (an (rn ?_)))))
    refine aft_i ⟨mL1, by omega, (IntKind.i64.wrap (v3 + 1)), ?_, ?_, h⟩
    all_goals simp +decide only [F, reduceIte, Nat.reduceAdd, Bool.not_true, Bool.not_false, EN, *, -h]
  replace h := ite_f b10 h
  rcases bcas (decide ((x5.toNat : Int) ≥ 48)) with b11 | b11
  · replace h := ite_f b11 h
    refine rn ?_
    refine an (ct (sq (rn ?_)))
    refine an (rt ?_)
    cases h
    simp [Ret, TB, EN, *]
  replace h := ite_t b11 h
  refine rn ?_
  refine an ?_
  rcases bcase (!(decide ((x5.toNat : Int) ≤ 57))) with b12 | b12
  · replace h := ite_t b12 h
    refine ct (sq (rn ?_))
    refine an (rt ?_)
    cases h
    simp [Ret, TB, EN, *]
  replace h := ite_f b12 h
  refine cf (sk (ab (an (rn ?_))))
  refine aft_i ⟨mL1, by omega, (IntKind.i64.wrap (v3 + 1)), ?_, ?_, h⟩
  all_goals simp +decide only [F, reduceIte, Nat.reduceAdd, Bool.not_true, Bool.not_false, EN, *, -h]

set_option maxRecDepth 20000 in
set_option maxHeartbeats 4000000 in
theorem c_impl_IsKey (p0 : M.Key) (r : Bool) (h : m_impl_IsKey p0 = some r) : SCalls Tryz.prog 340 [(true, M.Key.en p0)] [(false, [.ro (.bool r)])] := by
  unfold m_impl_IsKey at h
  simp only [M.Key.en]
  refine scalls_n (N := 39) (vars := [.tmp 2]) Tryz.func340 rfl rfl rfl (by decide +kernel) (Nat.le_of_ble_eq_true rfl) fun base wd => ?_
  refine sq (rn ?_)
  refine an (sq (sq ?_))
  obtain ⟨x1, h2, h⟩ := bind_some h
  rcases bcase (!x1) with b3 | b3
  · replace h := ite_t b3 h
    refine rn1 (c_impl_InRange _ _ _ _ h2) ?_
    refine an (ct (sq (rn ?_)))
    refine an (rt ?_)
    cases h
    simp [Ret, TB, EN, *]
  replace h := ite_f b3 h
  obtain ⟨x4, h5, h⟩ := bind_some h
  rcases bcase (!x4) with b6 | b6
  · replace h := ite_t b6 h
    refine rn2 (c_impl_InRange _ _ _ _ h2) (c_impl_InRange _ _ _ _ h5) ?_
    refine an (ct (sq (rn ?_)))
    refine an (rt ?_)
    cases h
    simp [Ret, TB, EN, *]
  replace h := ite_f b6 h
  obtain ⟨x7, h8, h⟩ := bind_some h
  refine rn3 (c_impl_InRange _ _ _ _ h2) (c_impl_InRange _ _ _ _ h5) (c_impl_isKeyText _ _ h8) ?_
  refine an ?_
  rcases bcase (!x7) with b9 | b9
  · replace h := ite_t b9 h
    refine ct (sq (rn ?_))
    refine an (rt ?_)
    cases h
    simp [Ret, TB, EN, *]
  replace h := ite_f b9 h
  refine cf (sk (an (sq ?_)))
  rcases bcas (p0.Kind == 2) with b10 | b10
  · replace h := ite_f b10 h
    rcases bcase (p0.Kind == 1) with b13 | b13
    · replace h := ite_t b13 h
      refine rn ?_
      refine an (rt ?_)
      cases h
      simp [Ret, TB, EN, *]
    replace h := ite_f b13 h
    refine rn ?_
    refine an (rt ?_)
    cases h
    simp [Ret, TB, EN, *]
  replace h := ite_t b10 h
  rcases bcas (!(p0.N != 0)) with b11 | b11
  · replace h := ite_f b11 h
    refine rn ?_
    refine an (rt ?_)
    cases h
    simp [Ret, TB, EN, *]
  replace h := ite_t b11 h
  rcases bcase (p0.Kind == 1) with b12 | b12
  · replace h := ite_t b12 h
    refine rn ?_
    refine an (rt ?_)
    cases h
    simp [Ret, TB, EN, *]
  replace h := ite_f b12 h
  refine rn ?_
  refine an (rt ?_)
  cases h
  simp [Ret, TB, EN, *]

set_option maxRecDepth 20000 in
set_option maxHeartbeats 4000000 in
theorem c_impl_isWord (p0 : ByteArray) (p1 : Int) (p2 : Bool) (r : Bool) (h : m_impl_isWord p0 p1 p2 = some r) : SCalls Tryz.prog 255 [(false, [.str p0]), (false, [.int .i64 p1]), (false, [.bool p2])] [(false, [.ro (.bool r)])] := by
  unfold m_impl_isWord at h
  refine scalls_n (N := 38) (vars := [.tmp 6]) Tryz.func255 rfl rfl rfl (by decide +kernel) (Nat.le_of_ble_eq_true rfl) fun base wd => ?_
  refine sq (rn ?_)
  refine an (sq (sq (rn ?_)))
  refine an (bk ?_)
  refine SW_loop (fun m s => ∃ v7 : Int, s.t 0 = .v false [.dat (.str p0)] ∧ s.t 1 = .v false [.dat (.int .i64 p1)] ∧ s.t 2 = .v false [.dat (.bool p2)] ∧ s.t 7 = .v false [.dat (.int .i64 v7)] ∧ m_impl_isWord_L1 p0 p1 p2 m v7 = some r) fuel ?_ ?_
  · refine ⟨0, ?_, ?_, ?_, ?_, h⟩
    all_goals simp +decide only [F, reduceIte, Nat.reduceAdd, Bool.not_true, Bool.not_false, EN, *, -h]
  rintro mL1 s1 ⟨v7, f2, f3, f4, f5, h⟩
  rcases mL1 with _ | mL1
  · exact absurd h (by simp [m_impl_isWord_L1])
  simp only [m_impl_isWord_L1] at h
  refine sq (sq (rn ?_))
  refine an ?_
  rcases bcas (decide (v7 < (p0.size : Int))) with b6 | b6
  · replace h := ite_f b6 h
    refine cf (xt (aft_cx (aft_ix (aft_x (an (sq ?_))))))
    obtain ⟨x17, h18, h⟩ := bind_some h
    refine rn1 (c_impl_InRange _ _ _ _ h18) ?_
    refine an (rt ?_)
    cases h
    simp [Ret, TB, EN, *]
  replace h := ite_t b6 h
  refine ct (sk (an (sq (bk (sq ?_)))))
  obtain ⟨x7, h8, h⟩ := bind_some h
  obtain ⟨q9, q10⟩ := sidx_some h8
  rcases bcas (decide ((x7.toNat : Int) ≥ 97)) with b11 | b11
  · replace h := ite_f b11 h
    rcases bcas p2 with b15 | b15
    · replace h := ite_f b15 h
      refine rn ?_
      refine an (ct (sq (rn ?_)))
      refine an (rt ?_)
      cases h
      simp [Ret, TB, EN, *]
    replace h := ite_t b15 h
    refine rn ?_
    refine an ?_
    rcases bcase (!((x7.toNat : Int) == 47)) with b16 | b16
    · replace h := ite_t b16 h
      refine ct (sq (rn ?_))
      refine an (rt ?_)
      cases h
      simp [Ret, TB, EN, *]
    replace h := ite_f b16 h
    refine cf (sk (ab (an (rn ?_))))
    refine aft_i ⟨mL1, by omega, (IntKind.i64.wrap (v7 + 1)), ?_, ?_, ?_, ?_, h⟩
    all_goals simp +decide only [F, reduceIte, Nat.reduceAdd, Bool.not_true, Bool.not_false, EN, *, -h]
  replace h := ite_t b11 h
  rcases bcase (decide ((x7.toNat : Int) ≤ 122)) with b12 | b12
  · replace h := ite_t b12 h
    refine rn ?_
    refine an (cf (sk (ab (an (rn ?_)))))
    refine aft_i ⟨mL1, by omega, (IntKind.i64.wrap (v7 + 1)), ?_, ?_, ?_, ?_, h⟩
    all_goals simp +decide only [F, reduceIte, Nat.reduceAdd, Bool.not_true, Bool.not_false, EN, *, -h]
  replace h := ite_f b12 h
  rcases bcas p2 with b13 | b13
  · replace h := ite_f b13 h
    refine rn ?_
    refine an (ct (sq (rn ?_)))
    refine an (rt ?_)
    cases h
    simp [Ret, TB, EN, *]
  replace h := ite_t b13 h
  refine rn ?_
  refine an ?_
  rcases bcase (!((x7.toNat : Int) == 47)) with b14 | b14
  · replace h := ite_t b14 h
    refine ct (sq (rn ?_))
    refine an (rt ?_)
    cases h
    simp [Ret, TB, EN, *]
  replace h := ite_f b14 h
  refine cf (sk (ab (an (rn ?_))))
  refine aft_i ⟨mL1, by omega, (IntKind.i64.wrap (v7 + 1)), ?_, ?_, ?_, ?_, h⟩
  all_goals simp +decide only [F, reduceIte, Nat.reduceAdd, Bool.not_true, Bool.not_false, EN, *, -h]

set_option maxRecDepth 20000 in
set_option maxHeartbeats 4000000 in
theorem c_impl_IsName (p0 : ByteArray) (r : Bool) (h : m_impl_IsName p0 = some r) : SCalls Tryz.prog 153 [(false, [.str p0])] [(false, [.ro (.bool r)])] := by
  unfold m_impl_IsName at h
  refine scalls_n (N := 5) (vars := [.tmp 2]) Tryz.func153 rfl rfl rfl (by decide +kernel) (Nat.le_of_ble_eq_true rfl) fun base wd => ?_
  refine sq (rn ?_)
  refine an (sq ?_)
  obtain ⟨x1, h2, h⟩ := bind_some h
  refine rn1 (c_impl_isWord _ _ _ _ h2) ?_
  refine an (rt ?_)
  cases h
  simp [Ret, TB, EN, *]

set_option maxRecDepth 20000 in
set_option maxHeartbeats 4000000 in
theorem c_impl_IsQueuedWrite (p0 : M.Write) (r : Bool) (h : m_impl_IsQueuedWrite p0 = some r) : SCalls Tryz.prog 254 [(true, M.Write.en p0)] [(false, [.ro (.bool r)])] := by
  unfold m_impl_IsQueuedWrite at h
  simp only [M.Write.en]
  refine scalls_n (N := 26) (vars := [.tmp 2]) Tryz.func254 rfl rfl rfl (by decide +kernel) (Nat.le_of_ble_eq_true rfl) fun base wd => ?_
  refine sq (rn ?_)
  refine an (sq ?_)
  obtain ⟨x1, h2, h⟩ := bind_some h
  rcases bcas x1 with b3 | b3
  · replace h := ite_f b3 h
    refine rn1 (c_impl_InRange _ _ _ _ h2) ?_
    refine an (rt ?_)
    cases h
    simp [Ret, TB, EN, *]
  replace h := ite_t b3 h
  obtain ⟨x4, h5, h⟩ := bind_some h
  rcases bcas x4 with b6 | b6
  · replace h := ite_f b6 h
    refine rn2 (c_impl_InRange _ _ _ _ h2) (c_impl_InRange _ _ _ _ h5) ?_
    refine an (rt ?_)
    cases h
    simp [Ret, TB, EN, *]
  replace h := ite_t b6 h
  obtain ⟨x7, h8, h⟩ := bind_some h
  rcases bcas x7 with b9 | b9
  · replace h := ite_f b9 h
    refine rn3 (c_impl_InRange _ _ _ _ h2) (c_impl_InRange _ _ _ _ h5) (c_impl_IsKey _ _ h8) ?_
    refine an (rt ?_)
    cases h
    simp [Ret, TB, EN, *]
  replace h := ite_t b9 h
  obtain ⟨x10, h11, h⟩ := bind_some h
  rcases bcas x10 with b12 | b12
  · replace h := ite_f b12 h
    refine rn4 (c_impl_InRange _ _ _ _ h2) (c_impl_InRange _ _ _ _ h5) (c_impl_IsKey _ _ h8) (c_impl_IsName _ _ h11) ?_
    refine an (rt ?_)
    cases h
    simp [Ret, TB, EN, *]
  replace h := ite_t b12 h
  obtain ⟨x13, h14, h⟩ := bind_some h
  refine rn5 (c_impl_InRange _ _ _ _ h2) (c_impl_InRange _ _ _ _ h5) (c_impl_IsKey _ _ h8) (c_impl_IsName _ _ h11) (c_impl_InRange _ _ _ _ h14) ?_
  refine an (rt ?_)
  cases h
  simp [Ret, TB, EN, *]

set_option maxRecDepth 20000 in
set_option maxHeartbeats 4000000 in
theorem c_impl_IsOutbox (p0 : M.Outbox) (r : Bool) (h : m_impl_IsOutbox p0 = some r) : SCalls Tryz.prog 152 [(true, M.Outbox.en p0)] [(false, [.ro (.bool r)])] := by
  unfold m_impl_IsOutbox at h
  simp only [M.Outbox.en]
  refine scalls_n (N := 51) (vars := [.tmp 2]) Tryz.func152 rfl rfl rfl (by decide +kernel) (Nat.le_of_ble_eq_true rfl) fun base wd => ?_
  refine sq (rn ?_)
  refine an (sq (rn ?_))
  refine an (sq (sq (rn ?_)))
  refine an (bk ?_)
  refine SW_loop (fun m s => ∃ v12 : Int, s.t 1 = .v false [.bp 1 1 0] ∧ s.t 3 = .v false [.dat (.int .i64 (List.length p0.Writes : Int))] ∧ s.t 10 = .v false [.dat (.sl (List.map M.Write.en p0.Writes))] ∧ s.t 11 = .v false [.dat (.int .i64 (List.length p0.Writes : Int))] ∧ s.t 12 = .v false [.dat (.int .i64 v12)] ∧ s.h 1 = (1, .box 39 [.dat (.int .i64 p0.Device), .dat (.int .i64 p0.Next), .dat (.sl (List.map M.Write.en p0.Writes))]) ∧ m_impl_IsOutbox_L1 p0 m v12 = some r) fuel ?_ ?_
  · refine ⟨0, ?_, ?_, ?_, ?_, ?_, ?_, h⟩
    all_goals simp +decide only [F, reduceIte, Nat.reduceAdd, Bool.not_true, Bool.not_false, EN, *, -h]
  rintro mL1 s1 ⟨v12, f2, f3, f4, f5, f6, f7, h⟩
  rcases mL1 with _ | mL1
  · exact absurd h (by simp [m_impl_IsOutbox_L1])
  simp only [m_impl_IsOutbox_L1] at h
  refine sq (rn ?_)
  refine an (sq ?_)
  rcases bcas (decide (v12 < (List.length p0.Writes : Int))) with b8 | b8
  · replace h := ite_f b8 h
    refine cf (xt (aft_cx (aft_ix (aft_x (an (sq ?_))))))
    obtain ⟨x19, h20, h⟩ := bind_some h
    rcases bcas x19 with b21 | b21
    · replace h := ite_f b21 h
      refine rn1 (c_impl_InRange _ _ _ _ h20) ?_
      refine an (rt ?_)
      cases h
      simp [Ret, TB, EN, *]
    replace h := ite_t b21 h
    obtain ⟨x22, h23, h⟩ := bind_some h
    rcases bcase x22 with b24 | b24
    · replace h := ite_t b24 h
      refine rn2 (c_impl_InRange _ _ _ _ h20) (c_impl_InRange _ _ _ _ h23) ?_
      refine an (rt ?_)
      cases h
      simp [Ret, TB, EN, *]
    replace h := ite_f b24 h
    refine rn2 (c_impl_InRange _ _ _ _ h20) (c_impl_InRange _ _ _ _ h23) ?_
    refine an (rt ?_)
    cases h
    simp [Ret, TB, EN, *]
  replace h := ite_t b8 h
  refine ct (sk (an (sq (bk (sq ?_)))))
  obtain ⟨x9, h10, h⟩ := bind_some h
  obtain ⟨q11, q12, q13⟩ := idx_some h10
  refine rn ?_
  refine an (sq ?_)
  obtain ⟨x14, h15, h⟩ := bind_some h
  rcases bcase (!x14) with b16 | b16
  · replace h := ite_t b16 h
    refine rn1 (c_impl_IsQueuedWrite _ _ h15) ?_
    refine an (ct (sq (rn ?_)))
    refine an (rt ?_)
    cases h
    simp [Ret, TB, EN, *]
  replace h := ite_f b16 h
  rcases bcase (x9.Device != p0.Device) with b17 | b17
  · replace h := ite_t b17 h
    refine rn1 (c_impl_IsQueuedWrite _ _ h15) ?_
    refine an (ct (sq (rn ?_)))
    refine an (rt ?_)
    cases h
    simp [Ret, TB, EN, *]
  replace h := ite_f b17 h
  refine rn1 (c_impl_IsQueuedWrite _ _ h15) ?_
  refine an ?_
  rcases bcase (x9.Seq != (IntKind.i64.wrap ((IntKind.i64.wrap (p0.Next - (List.length p0.Writes : Int))) + v12))) with b18 | b18
  · replace h := ite_t b18 h
    refine ct (sq (rn ?_))
    refine an (rt ?_)
    cases h
    simp [Ret, TB, EN, *]
  replace h := ite_f b18 h
  refine cf (sk (ab (an (rn ?_))))
  refine aft_i ⟨mL1, by omega, (IntKind.i64.wrap (v12 + 1)), ?_, ?_, ?_, ?_, ?_, ?_, h⟩
  all_goals simp +decide only [F, reduceIte, Nat.reduceAdd, Bool.not_true, Bool.not_false, EN, *, -h]

set_option maxRecDepth 20000 in
set_option maxHeartbeats 4000000 in
theorem c_impl_NewOutbox (p0 : Int) (r : (M.Outbox × Bool)) (h : m_impl_NewOutbox p0 = some r) : SCalls Tryz.prog 56 [(false, [.int .i64 p0])] [(true, [.ro (.int .i64 r.1.Device), .ro (.int .i64 r.1.Next), .own 261 7 (List.map M.Write.en r.1.Writes)]), (false, [.ro (.bool r.2)])] := by
  unfold m_impl_NewOutbox at h
  refine scalls_n (N := 12) (vars := [.cell 2 39, .tmp 3]) Tryz.func56 rfl rfl rfl (by decide +kernel) (Nat.le_of_ble_eq_true rfl) fun base wd => ?_
  refine sq (rn ?_)
  refine an (sq (rn ?_))
  refine an (sq (sq ?_))
  obtain ⟨x1, h2, h⟩ := bind_some h
  refine rn1 (c_impl_IsOutbox _ _ h2) ?_
  refine an ?_
  rcases bcase (!x1) with b3 | b3
  · replace h := ite_t b3 h
    refine ct (sq (rn ?_))
    refine an (rt ?_)
    cases h
    simp [Ret, TB, EN, *]
  replace h := ite_f b3 h
  refine cf (sk (an (sq (rn ?_))))
  refine an (rt ?_)
  cases h
  simp [Ret, TB, EN, *]

set_option maxRecDepth 20000 in
set_option maxHeartbeats 4000000 in
theorem c_impl_IsRegistration (p0 : M.Registration) (r : Bool) (h : m_impl_IsRegistration p0 = some r) : SCalls Tryz.prog 154 [(true, M.Registration.en p0)] [(false, [.ro (.bool r)])] := by
  unfold m_impl_IsRegistration at h
  simp only [M.Registration.en]
  refine scalls_n (N := 37) (vars := [.tmp 2]) Tryz.func154 rfl rfl rfl (by decide +kernel) (Nat.le_of_ble_eq_true rfl) fun base wd => ?_
  refine sq (rn ?_)
  refine an (sq (rn ?_))
  refine an (sq (sq (rn ?_)))
  refine an (bk ?_)
  refine cu (fun s => s.t 1 = .v false [.bp 1 1 0] ∧ s.t 3 = .v false [.dat (.int .i64 0)] ∧ s.t 12 = .v false [.row 100012 1] ∧ s.t 13 = .v false [.dat (.int .i64 ((3 : Nat) : Int))] ∧ s.t 14 = .v false [.dat (.int .i64 0)] ∧ s.h 1 = (1, .box 23 [.dat (.str p0.Site), .dat (.int .i64 p0.Installing), .dat (.int .i64 p0.Waiting), .dat (.int .i64 p0.Active)]) ∧ s.h 100012 = (1, .row 3 1 (List.map enI ([p0.Active, p0.Waiting, p0.Installing])) true) ∧ True) ?_
  rintro s1 ⟨f2, f3, f4, f5, f6, f7, f8, _⟩
  refine SW_loop (fun m s => ∃ v3 : Int, ∃ v14 : Int, s.t 1 = .v false [.bp 1 1 0] ∧ s.t 3 = .v false [.dat (.int .i64 v3)] ∧ s.t 12 = .v false [.row 100012 1] ∧ s.t 13 = .v false [.dat (.int .i64 ((3 : Nat) : Int))] ∧ s.t 14 = .v false [.dat (.int .i64 v14)] ∧ s.h 1 = (1, .box 23 [.dat (.str p0.Site), .dat (.int .i64 p0.Installing), .dat (.int .i64 p0.Waiting), .dat (.int .i64 p0.Active)]) ∧ s.h 100012 = (1, .row 3 1 (List.map enI ([p0.Active, p0.Waiting, p0.Installing])) true) ∧ m_impl_IsRegistration_L1 p0 m v3 v14 = some r) fuel ?_ ?_
  · refine ⟨0, 0, ?_, ?_, ?_, ?_, ?_, ?_, ?_, h⟩
    all_goals simp +decide only [F, reduceIte, Nat.reduceAdd, Bool.not_true, Bool.not_false, EN, *, -h]
  rintro mL1 s9 ⟨v3, v14, f10, f11, f12, f13, f14, f15, f16, h⟩
  rcases mL1 with _ | mL1
  · exact absurd h (by simp [m_impl_IsRegistration_L1])
  simp only [m_impl_IsRegistration_L1] at h
  refine sq (rn ?_)
  refine an (sq ?_)
  rcases bcas (decide (v14 < ((3 : Nat) : Int))) with b17 | b17
  · replace h := ite_f b17 h
    refine cf (xt (aft_cx (aft_ix (aft_x (an (sq ?_))))))
    obtain ⟨x28, h29, h⟩ := bind_some h
    refine rn1 (c_impl_IsName _ _ h29) ?_
    refine an (rt ?_)
    cases h
    simp [Ret, TB, EN, *]
  replace h := ite_t b17 h
  refine ct (sk (an (sq (bk (sq ?_)))))
  obtain ⟨x18, h19, h⟩ := bind_some h
  obtain ⟨q20, q21, q22⟩ := idx_some h19
  have q20m := congrArg (Option.map enI) (show ([p0.Active, p0.Waiting, p0.Installing])[v14.toNat]? = some x18 by assumption)
  simp only [← List.getElem?_map, List.map_cons, List.map_nil, Option.map_some, EN] at q20m
  simp only [List.length_cons, List.length_nil, Nat.reduceAdd] at q22
  refine rn ?_
  refine an (sq (sq ?_))
  obtain ⟨x23, h24, h⟩ := bind_some h
  rcases bcase (!x23) with b25 | b25
  · replace h := ite_t b25 h
    refine rn1 (c_impl_InRange _ _ _ _ h24) ?_
    refine an (ct (sq (rn ?_)))
    refine an (rt ?_)
    cases h
    simp [Ret, TB, EN, *]
  replace h := ite_f b25 h
  rcases bcas (x18 != 0) with b26 | b26
  · replace h := ite_f b26 h
    refine rn1 (c_impl_InRange _ _ _ _ h24) ?_
    refine an (cf (sk (an (rn ?_))))
    refine ab (an (rn ?_))
    refine aft_i ⟨mL1, by omega, (if x18 > v3 then x18 else v3), (IntKind.i64.wrap (v14 + 1)), ?_, ?_, ?_, ?_, ?_, ?_, ?_, h⟩
    all_goals simp +decide only [F, reduceIte, Nat.reduceAdd, Bool.not_true, Bool.not_false, EN, *, -h]
  replace h := ite_t b26 h
  refine rn1 (c_impl_InRange _ _ _ _ h24) ?_
  refine an ?_
  rcases bcase (decide (x18 ≤ v3)) with b27 | b27
  · replace h := ite_t b27 h
    refine ct (sq (rn ?_))
    refine an (rt ?_)
    cases h
    simp [Ret, TB, EN, *]
  replace h := ite_f b27 h
  refine cf (sk (an (rn ?_)))
  refine ab (an (rn ?_))
  refine aft_i ⟨mL1, by omega, (if x18 > v3 then x18 else v3), (IntKind.i64.wrap (v14 + 1)), ?_, ?_, ?_, ?_, ?_, ?_, ?_, h⟩
  all_goals simp +decide only [F, reduceIte, Nat.reduceAdd, Bool.not_true, Bool.not_false, EN, *, -h]

set_option maxRecDepth 20000 in
set_option maxHeartbeats 4000000 in
theorem c_impl_entryAt_1 (p0 : M.Cached) (c0 : ByteArray) (c1 : ByteArray) (r : Bool) (h : m_impl_entryAt_1 p0 c0 c1 = some r) : SCalls Tryz.prog 342 [(true, M.Cached.en p0), (false, [.ptr [.str c0]]), (false, [.ptr [.str c1]])] [(false, [.ro (.bool r)])] := by
  unfold m_impl_entryAt_1 at h
  simp only [M.Cached.en]
  refine scalls_n (N := 15) (vars := [.tmp 4]) Tryz.func342 rfl rfl rfl (by decide +kernel) (Nat.le_of_ble_eq_true rfl) fun base wd => ?_
  refine sq (rn ?_)
  refine an (sq ?_)
  rcases bcase (p0.Site.toList == c0.toList) with b1 | b1
  · replace h := ite_t b1 h
    refine rn ?_
    refine an (rt ?_)
    cases h
    simp [Ret, TB, EN, *]
  replace h := ite_f b1 h
  refine rn ?_
  refine an (rt ?_)
  cases h
  simp [Ret, TB, EN, *]

set_option maxRecDepth 20000 in
set_option maxHeartbeats 4000000 in
theorem c_slices_IndexFunc_Cached (p0 : List M.Cached) (p1 : M.Cached → Option Bool) (f1_ : FuncId) (k1_ : List D) (hp1 : ∀ z0 r, p1 z0 = some r → SCalls Tryz.prog f1_ ((true, M.Cached.en z0) ::  k1_.map fun c => (false, [c])) [(false, [.ro (.bool r)])]) (r : Int) (h : m_slices_IndexFunc_Cached p0 p1 = some r) : SCalls Tryz.prog 341 [(false, [.sl (List.map M.Cached.en p0)]), (false, [.fn f1_ k1_])] [(false, [.ro (.int .i64 r)])] := by
  unfold m_slices_IndexFunc_Cached at h
  refine scalls_n (N := 19) (vars := [.tmp 4]) Tryz.func341 rfl rfl rfl (by decide +kernel) (Nat.le_of_ble_eq_true rfl) fun base wd => ?_
  refine sq (rn ?_)
  refine an (sq (sq (rn ?_)))
  refine an (bk ?_)
  refine SW_loop (fun m s => ∃ v8 : Int, s.t 0 = .v false [.dat (.sl (List.map M.Cached.en p0))] ∧ s.t 1 = .v false [.dat (.fn f1_ k1_)] ∧ s.t 7 = .v false [.dat (.int .i64 (List.length p0 : Int))] ∧ s.t 8 = .v false [.dat (.int .i64 v8)] ∧ m_slices_IndexFunc_Cached_L1 p0 p1 m v8 = some r) fuel ?_ ?_
  · refine ⟨0, ?_, ?_, ?_, ?_, h⟩
    all_goals simp +decide only [F, reduceIte, Nat.reduceAdd, Bool.not_true, Bool.not_false, EN, *, -h]
  rintro mL1 s1 ⟨v8, f2, f3, f4, f5, h⟩
  rcases mL1 with _ | mL1
  · exact absurd h (by simp [m_slices_IndexFunc_Cached_L1])
  simp only [m_slices_IndexFunc_Cached_L1] at h
  refine sq (rn ?_)
  refine an (sq ?_)
  rcases bcas (decide (v8 < (List.length p0 : Int))) with b6 | b6
  · replace h := ite_f b6 h
    refine cf (xt (aft_cx (aft_ix (aft_x (an (sq (rn ?_)))))))
    refine an (rt ?_)
    cases h
    simp [Ret, TB, EN, *]
  replace h := ite_t b6 h
  refine ct (sk (an (sq (bk (sq (rn ?_))))))
  refine an (sq ?_)
  obtain ⟨x7, h8, h⟩ := bind_some h
  obtain ⟨q9, q10, q11⟩ := idx_some h8
  obtain ⟨x12, h13, h⟩ := bind_some h
  refine rn1 (hp1 x7 x12 h13) ?_
  refine an ?_
  rcases bcase x12 with b14 | b14
  · replace h := ite_t b14 h
    refine ct (sq (rn ?_))
    refine an (rt ?_)
    cases h
    simp [Ret, TB, EN, *]
  replace h := ite_f b14 h
  refine cf (sk (ab (an (rn ?_))))
  refine aft_i ⟨mL1, by omega, (IntKind.i64.wrap (v8 + 1)), ?_, ?_, ?_, ?_, h⟩
  all_goals simp +decide only [F, reduceIte, Nat.reduceAdd, Bool.not_true, Bool.not_false, EN, *, -h]

set_option maxRecDepth 20000 in
set_option maxHeartbeats 4000000 in
theorem c_impl_entryAt (p0 : M.Cache) (p1 : ByteArray) (p2 : ByteArray) (r : Int) (h : m_impl_entryAt p0 p1 p2 = some r) : SCalls Tryz.prog 256 [(true, M.Cache.en p0), (false, [.str p1]), (false, [.str p2])] [(false, [.ro (.int .i64 r)])] := by
  unfold m_impl_entryAt at h
  simp only [M.Cache.en]
  refine scalls_n (N := 11) (vars := [.tmp 6]) Tryz.func256 rfl rfl rfl (by decide +kernel) (Nat.le_of_ble_eq_true rfl) fun base wd => ?_
  refine sq (rn ?_)
  refine an (sq ?_)
  obtain ⟨x1, h2, h⟩ := bind_some h
  refine rn1 (c_slices_IndexFunc_Cached p0.Entries (fun z0 => m_impl_entryAt_1 z0 p1 p2) 342 [.ptr [.str p1], .ptr [.str p2]] (fun z0 r hr => c_impl_entryAt_1 z0 p1 p2 r hr) x1 h2) ?_
  refine an (rt ?_)
  cases h
  simp [Ret, TB, EN, *]

set_option maxRecDepth 20000 in
set_option maxHeartbeats 4000000 in
theorem c_impl_IsResponse (p0 : M.Response) (r : Bool) (h : m_impl_IsResponse p0 = some r) : SCalls Tryz.prog 257 [(true, M.Response.en p0)] [(false, [.ro (.bool r)])] := by
  unfold m_impl_IsResponse at h
  simp only [M.Response.en]
  refine scalls_n (N := 22) (vars := [.tmp 2]) Tryz.func257 rfl rfl rfl (by decide +kernel) (Nat.le_of_ble_eq_true rfl) fun base wd => ?_
  refine sq (rn ?_)
  refine an (sq ?_)
  obtain ⟨x1, h2, h⟩ := bind_some h
  rcases bcas x1 with b3 | b3
  · replace h := ite_f b3 h
    refine rn1 (c_impl_InRange _ _ _ _ h2) ?_
    refine an (rt ?_)
    cases h
    simp [Ret, TB, EN, *]
  replace h := ite_t b3 h
  obtain ⟨x4, h5, h⟩ := bind_some h
  rcases bcas x4 with b6 | b6
  · replace h := ite_f b6 h
    refine rn2 (c_impl_InRange _ _ _ _ h2) (c_impl_InRange _ _ _ _ h5) ?_
    refine an (rt ?_)
    cases h
    simp [Ret, TB, EN, *]
  replace h := ite_t b6 h
  obtain ⟨x7, h8, h⟩ := bind_some h
  rcases bcase x7 with b9 | b9
  · replace h := ite_t b9 h
    refine rn3 (c_impl_InRange _ _ _ _ h2) (c_impl_InRange _ _ _ _ h5) (c_impl_InRange _ _ _ _ h8) ?_
    refine an (rt ?_)
    cases h
    simp [Ret, TB, EN, *]
  replace h := ite_f b9 h
  refine rn3 (c_impl_InRange _ _ _ _ h2) (c_impl_InRange _ _ _ _ h5) (c_impl_InRange _ _ _ _ h8) ?_
  refine an (rt ?_)
  cases h
  simp [Ret, TB, EN, *]

set_option maxRecDepth 20000 in
set_option maxHeartbeats 4000000 in
theorem c_impl_IsCacheSet (p0 : M.CacheSet) (r : Bool) (h : m_impl_IsCacheSet p0 = some r) : SCalls Tryz.prog 155 [(true, M.CacheSet.en p0)] [(false, [.ro (.bool r)])] := by
  unfold m_impl_IsCacheSet at h
  simp only [M.CacheSet.en]
  refine scalls_n (N := 81) (vars := [.tmp 2]) Tryz.func155 rfl rfl rfl (by decide +kernel) (Nat.le_of_ble_eq_true rfl) fun base wd => ?_
  refine sq (rn ?_)
  refine an (sq (sq (rn ?_)))
  refine an (bk ?_)
  refine SW_loop (fun m s => ∃ v10 : Int, s.t 1 = .v false [.bp 1 1 0] ∧ s.t 8 = .v false [.dat (.sl (List.map M.Cache.en p0.Caches))] ∧ s.t 9 = .v false [.dat (.int .i64 (List.length p0.Caches : Int))] ∧ s.t 10 = .v false [.dat (.int .i64 v10)] ∧ s.h 1 = (1, .box 26 [.dat (.sl (List.map M.Cache.en p0.Caches))]) ∧ m_impl_IsCacheSet_L1 p0 m v10 = some r) fuel ?_ ?_
  · refine ⟨0, ?_, ?_, ?_, ?_, ?_, h⟩
    all_goals simp +decide only [F, reduceIte, Nat.reduceAdd, Bool.not_true, Bool.not_false, EN, *, -h]
  rintro mL1 s1 ⟨v10, f2, f3, f4, f5, f6, h⟩
  rcases mL1 with _ | mL1
  · exact absurd h (by simp [m_impl_IsCacheSet_L1])
  simp only [m_impl_IsCacheSet_L1] at h
  refine sq (rn ?_)
  refine an (sq ?_)
  rcases bcas (decide (v10 < (List.length p0.Caches : Int))) with b7 | b7
  · replace h := ite_f b7 h
    refine cf (xt (aft_cx (aft_ix (aft_x (an (sq (rn ?_)))))))
    refine an (rt ?_)
    cases h
    simp [Ret, TB, EN, *]
  replace h := ite_t b7 h
  refine ct (sk (an (sq (bk (sq ?_)))))
  obtain ⟨x8, h9, h⟩ := bind_some h
  obtain ⟨q10, q11, q12⟩ := idx_some h9
  refine rn ?_
  refine an (sq (sq ?_))
  obtain ⟨x13, h14, h⟩ := bind_some h
  rcases bcase (!x13) with b15 | b15
  · replace h := ite_t b15 h
    refine rd1 mixed (c_impl_InRange _ _ _ _ h14) ?_
    refine an (ct (sq (rn ?_)))
    refine an (rt ?_)
    cases h
    simp [Ret, TB, EN, *]
  replace h := ite_f b15 h
  rcases bcas (decide (v10 > 0)) with b16 | b16
  · replace h := ite_f b16 h
    refine rd1 mixed (c_impl_InRange _ _ _ _ h14) ?_
    refine an ?_
    rcases bcase (decide ((List.length x8.Entries : Int) > 12)) with b55 | b55
    · replace h := ite_t b55 h
      refine ct (sq (rn ?_))
      refine an (rt ?_)
      cases h
      simp [Ret, TB, EN, *]
    replace h := ite_f b55 h
    refine cf (sk (an (sq (rn ?_))))
    refine an (bk ?_)
    obtain ⟨k57, e58, h⟩ := absk (f := fun kk => m_impl_IsCacheSet_L3 x8 kk fuel 0) h
    refine SW_loop (fun m s => ∃ v44_L3 : Int, s.t 1 = .v false [.bp 1 1 0] ∧ s.t 4 = .v false [.bp 4 ((s1.h 4).1 + 1) 0] ∧ s.t 8 = .v false [.dat (.sl (List.map M.Cache.en p0.Caches))] ∧ s.t 9 = .v false [.dat (.int .i64 (List.length p0.Caches : Int))] ∧ s.t 10 = .v false [.dat (.int .i64 v10)] ∧ s.t 42 = .v false [.dat (.sl (List.map M.Cached.en x8.Entries))] ∧ s.t 43 = .v false [.dat (.int .i64 (List.length x8.Entries : Int))] ∧ s.t 44 = .v false [.dat (.int .i64 v44_L3)] ∧ s.h 1 = (1, .box 26 [.dat (.sl (List.map M.Cache.en p0.Caches))]) ∧ s.h 4 = (((s1.h 4).1 + 1), .box 297 [.dat (.int .i64 x8.Version), .dat (.sl (List.map M.Cached.en x8.Entries))]) ∧ m_impl_IsCacheSet_L3 x8 k57 m v44_L3 = some r) fuel ?_ ?_
    · refine ⟨0, ?_, ?_, ?_, ?_, ?_, ?_, ?_, ?_, ?_, ?_, h⟩
      all_goals simp +decide only [F, reduceIte, Nat.reduceAdd, Bool.not_true, Bool.not_false, EN, *, -h]
    rintro mL3 s56 ⟨v44_L3, f59, f60, f61, f62, f63, f64, f65, f66, f67, f68, h⟩
    rcases mL3 with _ | mL3
    · exact absurd h (by simp [m_impl_IsCacheSet_L3])
    simp only [m_impl_IsCacheSet_L3] at h
    refine sq (rn ?_)
    refine an (sq ?_)
    rcases bcas (decide (v44_L3 < (List.length x8.Entries : Int))) with b69 | b69
    · replace h := ite_f b69 h
      refine cf (xt (aft_cx ?_))
      subst e58
      refine aft_ix (aft_x (ab (an (rn ?_))))
      refine aft_i ⟨mL1, by omega, (IntKind.i64.wrap (v10 + 1)), ?_, ?_, ?_, ?_, ?_, h⟩
      all_goals simp +decide only [F, reduceIte, Nat.reduceAdd, Bool.not_true, Bool.not_false, EN, *, -h]
    replace h := ite_t b69 h
    refine ct (sk (an (sq (bk (sq ?_)))))
    obtain ⟨x70, h71, h⟩ := bind_some h
    obtain ⟨q72, q73, q74⟩ := idx_some h71
    refine rn ?_
    refine an (sq ?_)
    obtain ⟨x75, h76, h⟩ := bind_some h
    rcases bcase (!x75) with b77 | b77
    · replace h := ite_t b77 h
      refine rn1 (c_impl_IsName _ _ h76) ?_
      refine an (ct (sq (rn ?_)))
      refine an (rt ?_)
      cases h
      simp [Ret, TB, EN, *]
    replace h := ite_f b77 h
    obtain ⟨x78, h79, h⟩ := bind_some h
    rcases bcase (!x78) with b80 | b80
    · replace h := ite_t b80 h
      refine rn2 (c_impl_IsName _ _ h76) (c_impl_IsName _ _ h79) ?_
      refine an (ct (sq (rn ?_)))
      refine an (rt ?_)
      cases h
      simp [Ret, TB, EN, *]
    replace h := ite_f b80 h
    obtain ⟨x81, h82, h⟩ := bind_some h
    rcases bcase (x81 != v44_L3) with b83 | b83
    · replace h := ite_t b83 h
      refine rn3 (c_impl_IsName _ _ h76) (c_impl_IsName _ _ h79) (c_impl_entryAt _ _ _ _ h82) ?_
      refine an (ct (sq (rn ?_)))
      refine an (rt ?_)
      cases h
      simp [Ret, TB, EN, *]
    replace h := ite_f b83 h
    obtain ⟨x84, h85, h⟩ := bind_some h
    refine rn4 (c_impl_IsName _ _ h76) (c_impl_IsName _ _ h79) (c_impl_entryAt _ _ _ _ h82) (c_impl_IsResponse _ _ h85) ?_
    refine an ?_
    rcases bcase (!x84) with b86 | b86
    · replace h := ite_t b86 h
      refine ct (sq (rn ?_))
      refine an (rt ?_)
      cases h
      simp [Ret, TB, EN, *]
    replace h := ite_f b86 h
    refine cf (sk (ab (an (rn ?_))))
    refine aft_i ⟨mL3, by omega, (IntKind.i64.wrap (v44_L3 + 1)), ?_, ?_, ?_, ?_, ?_, ?_, ?_, ?_, ?_, ?_, h⟩
    all_goals simp +decide only [F, reduceIte, Nat.reduceAdd, Bool.not_true, Bool.not_false, EN, *, -h]
  replace h := ite_t b16 h
  obtain ⟨x17, h18, h⟩ := bind_some h
  obtain ⟨q19, q20, q21⟩ := idx_some h18
  rcases bcase (decide (x8.Version ≤ x17.Version)) with b22 | b22
  · replace h := ite_t b22 h
    refine rd1 mixed (c_impl_InRange _ _ _ _ h14) ?_
    refine an (ct (sq (rn ?_)))
    refine an (rt ?_)
    cases h
    simp [Ret, TB, EN, *]
  replace h := ite_f b22 h
  refine rd1 mixed (c_impl_InRange _ _ _ _ h14) ?_
  refine an ?_
  rcases bcase (decide ((List.length x8.Entries : Int) > 12)) with b23 | b23
  · replace h := ite_t b23 h
    refine ct (sq (rn ?_))
    refine an (rt ?_)
    cases h
    simp [Ret, TB, EN, *]
  replace h := ite_f b23 h
  refine cf (sk (an (sq (rn ?_))))
  refine an (bk ?_)
  obtain ⟨k25, e26, h⟩ := absk (f := fun kk => m_impl_IsCacheSet_L2 x8 kk fuel 0) h
  refine SW_loop (fun m s => ∃ v44_L2 : Int, s.t 1 = .v false [.bp 1 1 0] ∧ s.t 4 = .v false [.bp 4 ((s1.h 4).1 + 1) 0] ∧ s.t 8 = .v false [.dat (.sl (List.map M.Cache.en p0.Caches))] ∧ s.t 9 = .v false [.dat (.int .i64 (List.length p0.Caches : Int))] ∧ s.t 10 = .v false [.dat (.int .i64 v10)] ∧ s.t 42 = .v false [.dat (.sl (List.map M.Cached.en x8.Entries))] ∧ s.t 43 = .v false [.dat (.int .i64 (List.length x8.Entries : Int))] ∧ s.t 44 = .v false [.dat (.int .i64 v44_L2)] ∧ s.h 1 = (1, .box 26 [.dat (.sl (List.map M.Cache.en p0.Caches))]) ∧ s.h 4 = (((s1.h 4).1 + 1), .box 297 [.dat (.int .i64 x8.Version), .dat (.sl (List.map M.Cached.en x8.Entries))]) ∧ m_impl_IsCacheSet_L2 x8 k25 m v44_L2 = some r) fuel ?_ ?_
  · refine ⟨0, ?_, ?_, ?_, ?_, ?_, ?_, ?_, ?_, ?_, ?_, h⟩
    all_goals simp +decide only [F, reduceIte, Nat.reduceAdd, Bool.not_true, Bool.not_false, EN, *, -h]
  rintro mL2 s24 ⟨v44_L2, f27, f28, f29, f30, f31, f32, f33, f34, f35, f36, h⟩
  rcases mL2 with _ | mL2
  · exact absurd h (by simp [m_impl_IsCacheSet_L2])
  simp only [m_impl_IsCacheSet_L2] at h
  refine sq (rn ?_)
  refine an (sq ?_)
  rcases bcas (decide (v44_L2 < (List.length x8.Entries : Int))) with b37 | b37
  · replace h := ite_f b37 h
    refine cf (xt (aft_cx ?_))
    subst e26
    refine aft_ix (aft_x (ab (an (rn ?_))))
    refine aft_i ⟨mL1, by omega, (IntKind.i64.wrap (v10 + 1)), ?_, ?_, ?_, ?_, ?_, h⟩
    all_goals simp +decide only [F, reduceIte, Nat.reduceAdd, Bool.not_true, Bool.not_false, EN, *, -h]
  replace h := ite_t b37 h
  refine ct (sk (an (sq (bk (sq ?_)))))
  obtain ⟨x38, h39, h⟩ := bind_some h
  obtain ⟨q40, q41, q42⟩ := idx_some h39
  refine rn ?_
  refine an (sq ?_)
  obtain ⟨x43, h44, h⟩ := bind_some h
  rcases bcase (!x43) with b45 | b45
  · replace h := ite_t b45 h
    refine rn1 (c_impl_IsName _ _ h44) ?_
    refine an (ct (sq (rn ?_)))
    refine an (rt ?_)
    cases h
    simp [Ret, TB, EN, *]
  replace h := ite_f b45 h
  obtain ⟨x46, h47, h⟩ := bind_some h
  rcases bcase (!x46) with b48 | b48
  · replace h := ite_t b48 h
    refine rn2 (c_impl_IsName _ _ h44) (c_impl_IsName _ _ h47) ?_
    refine an (ct (sq (rn ?_)))
    refine an (rt ?_)
    cases h
    simp [Ret, TB, EN, *]
  replace h := ite_f b48 h
  obtain ⟨x49, h50, h⟩ := bind_some h
  rcases bcase (x49 != v44_L2) with b51 | b51
  · replace h := ite_t b51 h
    refine rn3 (c_impl_IsName _ _ h44) (c_impl_IsName _ _ h47) (c_impl_entryAt _ _ _ _ h50) ?_
    refine an (ct (sq (rn ?_)))
    refine an (rt ?_)
    cases h
    simp [Ret, TB, EN, *]
  replace h := ite_f b51 h
  obtain ⟨x52, h53, h⟩ := bind_some h
  refine rn4 (c_impl_IsName _ _ h44) (c_impl_IsName _ _ h47) (c_impl_entryAt _ _ _ _ h50) (c_impl_IsResponse _ _ h53) ?_
  refine an ?_
  rcases bcase (!x52) with b54 | b54
  · replace h := ite_t b54 h
    refine ct (sq (rn ?_))
    refine an (rt ?_)
    cases h
    simp [Ret, TB, EN, *]
  replace h := ite_f b54 h
  refine cf (sk (ab (an (rn ?_))))
  refine aft_i ⟨mL2, by omega, (IntKind.i64.wrap (v44_L2 + 1)), ?_, ?_, ?_, ?_, ?_, ?_, ?_, ?_, ?_, ?_, h⟩
  all_goals simp +decide only [F, reduceIte, Nat.reduceAdd, Bool.not_true, Bool.not_false, EN, *, -h]

end Go.Proofs.YtgemmnkhddlhpaaGreat.gen
