/-
  Helper text: walks: each function's contract out of its model. No conditions beyond those of each contract.
-/
import Derived.Test.YtcpahpbjjnekkaaGreatIsWorldTi
namespace Go.Proofs.YtcpahpbjjnekkaaGreat.gen
open Go Go.Sh
set_option linter.unusedVariables false
set_option linter.unusedSimpArgs false
set_option maxRecDepth 20000 in
set_option maxHeartbeats 4000000 in
theorem c_spec_l1In (p0 : Int) (p1 : Int) (p2 : Int) (r : Bool) (h : m_spec_l1In p0 p1 p2 = some r) : SCalls Tryz.prog 47 [(false, [.int .i64 p0]), (false, [.int .i64 p1]), (false, [.int .i64 p2])] [(false, [.ro (.bool r)])] := by
  unfold m_spec_l1In at h
  refine scalls_n (N := 15) (vars := [.tmp 6]) Tryz.func47 rfl rfl rfl (by decide +kernel) (Nat.le_of_ble_eq_true rfl) fun base wd => ?_
  refine sq (rn ?_)
  refine an (sq ?_)
  rcases bcase (decide (p0 ≥ p1)) with b1 | b1
  · replace h := ite_t b1 h
    refine rn ?_
    refine an (rt ?_)
    cases h
    simp [Ret, TB, EN, *]
  replace h := ite_f b1 h
  refine rn ?_
  refine an (rt ?_)
  cases h
  simp [Ret, TB, EN, *]

set_option maxRecDepth 20000 in
set_option maxHeartbeats 4000000 in
theorem c_spec_IsName (p0 : ByteArray) (r : Bool) (h : m_spec_IsName p0 = some r) : SCalls Tryz.prog 187 [(false, [.str p0])] [(false, [.ro (.bool r)])] := by
  unfold m_spec_IsName at h
  refine scalls_n (N := 23) (vars := [.tmp 2]) Tryz.func187 rfl rfl rfl (by decide +kernel) (Nat.le_of_ble_eq_true rfl) fun base wd => ?_
  refine sq (rn ?_)
  refine an (sq (sq (rn ?_)))
  refine an (bk ?_)
  refine SW_loop (fun m s => ∃ v3 : Int, s.t 0 = .v false [.dat (.str p0)] ∧ s.t 3 = .v false [.dat (.int .i64 v3)] ∧ m_spec_IsName_L1 p0 m v3 = some r) fuel ?_ ?_
  · refine ⟨0, ?_, ?_, h⟩
    all_goals simp +decide only [F, reduceIte, Nat.reduceAdd, Bool.not_true, Bool.not_false, EN, *, -h]
  rintro mL1 s1 ⟨v3, f2, f3, h⟩
  rcases mL1 with _ | mL1
  · exact absurd h (by simp [m_spec_IsName_L1])
  simp only [m_spec_IsName_L1] at h
  refine sq (sq (rn ?_))
  refine an ?_
  rcases bcas (decide (v3 < (p0.size : Int))) with b4 | b4
  · replace h := ite_f b4 h
    refine cf (xt (aft_cx (aft_ix (aft_x (an (sq ?_))))))
    obtain ⟨x11, h12, h⟩ := bind_some h
    refine rn1 (c_spec_l1In _ _ _ _ h12) ?_
    refine an (rt ?_)
    cases h
    simp [Ret, TB, EN, *]
  replace h := ite_t b4 h
  refine ct (sk (an (sq (bk (sq ?_)))))
  obtain ⟨x5, h6, h⟩ := bind_some h
  obtain ⟨q7, q8⟩ := sidx_some h6
  rcases bcase (decide ((x5.toNat : Int) < 97)) with b9 | b9
  · replace h := ite_t b9 h
    refine rn ?_
    refine an (ct (sq (rn ?_)))
    refine an (rt ?_)
    cases h
    simp [Ret, TB, EN, *]
  replace h := ite_f b9 h
  refine rn ?_
  refine an ?_
  rcases bcase (decide ((x5.toNat : Int) > 122)) with b10 | b10
  · replace h := ite_t b10 h
    refine ct (sq (rn ?_))
    refine an (rt ?_)
    cases h
    simp [Ret, TB, EN, *]
  replace h := ite_f b10 h
  refine cf (sk (ab (an (rn ?_))))
  refine aft_i ⟨mL1, by omega, (IntKind.i64.wrap (v3 + 1)), ?_, ?_, h⟩
  all_goals simp +decide only [F, reduceIte, Nat.reduceAdd, Bool.not_true, Bool.not_false, EN, *, -h]

set_option maxRecDepth 20000 in
set_option maxHeartbeats 4000000 in
theorem c_spec_IsSite (p0 : M.Site) (r : Bool) (h : m_spec_IsSite p0 = some r) : SCalls Tryz.prog 115 [(true, M.Site.en p0)] [(false, [.ro (.bool r)])] := by
  unfold m_spec_IsSite at h
  simp only [M.Site.en]
  refine scalls_n (N := 50) (vars := [.tmp 2]) Tryz.func115 rfl rfl rfl (by decide +kernel) (Nat.le_of_ble_eq_true rfl) fun base wd => ?_
  refine sq (rn ?_)
  refine an (sq (sq (rn ?_)))
  refine an (bk ?_)
  refine SW_loop (fun m s => ∃ v3 : Int, s.t 1 = .v false [.bp 1 1 0] ∧ s.t 3 = .v false [.dat (.int .i64 v3)] ∧ s.h 1 = (1, .box 99 [.dat (.str p0.Name), .dat (.int .i64 p0.Version), .dat (.sl (List.map enS p0.Files)), .dat (.bool p0.Shared)]) ∧ m_spec_IsSite_L1 p0 m v3 = some r) fuel ?_ ?_
  · refine ⟨0, ?_, ?_, ?_, h⟩
    all_goals simp +decide only [F, reduceIte, Nat.reduceAdd, Bool.not_true, Bool.not_false, EN, *, -h]
  rintro mL1 s1 ⟨v3, f2, f3, f4, h⟩
  rcases mL1 with _ | mL1
  · exact absurd h (by simp [m_spec_IsSite_L1])
  simp only [m_spec_IsSite_L1] at h
  refine sq (sq (rn ?_))
  refine an ?_
  rcases bcas (decide (v3 < (List.length p0.Files : Int))) with b5 | b5
  · replace h := ite_f b5 h
    refine cf (xt (aft_cx (aft_ix (aft_x (an (sq ?_))))))
    obtain ⟨x21, h22, h⟩ := bind_some h
    rcases bcas x21 with b23 | b23
    · replace h := ite_f b23 h
      refine rn1 (c_spec_IsName _ _ h22) ?_
      refine an (rt ?_)
      cases h
      simp [Ret, TB, EN, *]
    replace h := ite_t b23 h
    obtain ⟨x24, h25, h⟩ := bind_some h
    rcases bcas x24 with b26 | b26
    · replace h := ite_f b26 h
      refine rn2 (c_spec_IsName _ _ h22) (c_spec_l1In _ _ _ _ h25) ?_
      refine an (rt ?_)
      cases h
      simp [Ret, TB, EN, *]
    replace h := ite_t b26 h
    obtain ⟨x27, h28, h⟩ := bind_some h
    refine rn3 (c_spec_IsName _ _ h22) (c_spec_l1In _ _ _ _ h25) (c_spec_l1In _ _ _ _ h28) ?_
    refine an (rt ?_)
    cases h
    simp [Ret, TB, EN, *]
  replace h := ite_t b5 h
  refine ct (sk (an (sq (bk (sq ?_)))))
  obtain ⟨x6, h7, h⟩ := bind_some h
  obtain ⟨q8, q9, q10⟩ := idx_some h7
  obtain ⟨x11, h12, h⟩ := bind_some h
  rcases bcase (!x11) with b13 | b13
  · replace h := ite_t b13 h
    refine rd1 mixed (c_spec_IsName _ _ h12) ?_
    refine an (ct (sq (rn ?_)))
    refine an (rt ?_)
    cases h
    simp [Ret, TB, EN, *]
  replace h := ite_f b13 h
  rcases bcas (decide (v3 > 0)) with b14 | b14
  · replace h := ite_f b14 h
    refine rd1 mixed (c_spec_IsName _ _ h12) ?_
    refine an (cf (sk (ab (an (rn ?_)))))
    refine aft_i ⟨mL1, by omega, (IntKind.i64.wrap (v3 + 1)), ?_, ?_, ?_, h⟩
    all_goals simp +decide only [F, reduceIte, Nat.reduceAdd, Bool.not_true, Bool.not_false, EN, *, -h]
  replace h := ite_t b14 h
  obtain ⟨x15, h16, h⟩ := bind_some h
  obtain ⟨q17, q18, q19⟩ := idx_some h16
  refine rd1 mixed (c_spec_IsName _ _ h12) ?_
  refine an ?_
  rcases bcase (!(Op.bytesLess x15.toList x6.toList)) with b20 | b20
  · replace h := ite_t b20 h
    refine ct (sq (rn ?_))
    refine an (rt ?_)
    cases h
    simp [Ret, TB, EN, *]
  replace h := ite_f b20 h
  refine cf (sk (ab (an (rn ?_))))
  refine aft_i ⟨mL1, by omega, (IntKind.i64.wrap (v3 + 1)), ?_, ?_, ?_, h⟩
  all_goals simp +decide only [F, reduceIte, Nat.reduceAdd, Bool.not_true, Bool.not_false, EN, *, -h]

set_option maxRecDepth 20000 in
set_option maxHeartbeats 4000000 in
theorem c_spec_l29Names  (r : (List ByteArray)) (h : m_spec_l29Names = some r) : SCalls Tryz.prog 48 [] [(false, [.own 9 1 (List.map enS r)])] := by
  unfold m_spec_l29Names at h
  refine scalls_n (N := 2) (vars := [.tmp 0]) Tryz.func48 rfl rfl rfl (by decide +kernel) (Nat.le_of_ble_eq_true rfl) fun base wd => ?_
  refine sq (rn ?_)
  refine an (sq (rn ?_))
  refine an (rt ?_)
  cases h
  simp [Ret, TB, EN, *]

set_option maxRecDepth 20000 in
set_option maxHeartbeats 4000000 in
theorem c_spec_l4Text (p0 : ByteArray) (r : Bool) (h : m_spec_l4Text p0 = some r) : SCalls Tryz.prog 300 [(false, [.str p0])] [(false, [.ro (.bool r)])] := by
  unfold m_spec_l4Text at h
  refine scalls_n (N := 35) (vars := [.tmp 2]) Tryz.func300 rfl rfl rfl (by decide +kernel) (Nat.le_of_ble_eq_true rfl) fun base wd => ?_
  refine sq (rn ?_)
  refine an (sq (sq (rn ?_)))
  refine an (bk ?_)
  refine SW_loop (fun m s => ∃ v3 : Int, s.t 0 = .v false [.dat (.str p0)] ∧ s.t 3 = .v false [.dat (.int .i64 v3)] ∧ m_spec_l4Text_L1 p0 m v3 = some r) fuel ?_ ?_
  · refine ⟨0, ?_, ?_, h⟩
    all_goals simp +decide only [F, reduceIte, Nat.reduceAdd, Bool.not_true, Bool.not_false, EN, *, -h]
  rintro mL1 s1 ⟨v3, f2, f3, h⟩
  rcases mL1 with _ | mL1
  · exact absurd h (by simp [m_spec_l4Text_L1])
  simp only [m_spec_l4Text_L1] at h
  refine sq (sq (rn ?_))
  refine an ?_
  rcases bcas (decide (v3 < (p0.size : Int))) with b4 | b4
  · replace h := ite_f b4 h
    refine cf (xt (aft_cx (aft_ix (aft_x (an (sq (rn ?_)))))))
    refine an (rt ?_)
    cases h
    simp [Ret, TB, EN, *]
  replace h := ite_t b4 h
  refine ct (sk (an (sq (bk (sq ?_)))))
  obtain ⟨x5, h6, h⟩ := bind_some h
  obtain ⟨q7, q8⟩ := sidx_some h6
  rcases bcase (decide ((x5.toNat : Int) < 97)) with b9 | b9
  · replace h := ite_t b9 h
    rcases bcase (decide ((x5.toNat : Int) < 48)) with b10 | b10
    · replace h := ite_t b10 h
      refine rn ?_
      refine an (ct (sq (rn ?_)))
      refine an (rt ?_)
      cases h
      simp [Ret, TB, EN, *]
    replace h := ite_f b10 h
    refine rn ?_
    refine an ?_
    rcases bcase (decide ((x5.toNat : Int) > 57)) with b11 | b11
    · replace h := ite_t b11 h
      refine ct (sq (rn ?_))
      refine an (rt ?_)
      cases h
      simp [Ret, TB, EN, *]
    replace h := ite_f b11 h
    refine cf (sk (ab (an (rn ?_))))
    refine aft_i ⟨mL1, by omega, (IntKind.i64.wrap (v3 + 1)), ?_, ?_, h⟩
    all_goals simp +decide only [F, reduceIte, Nat.reduceAdd, Bool.not_true, Bool.not_false, EN, *, -h]
  replace h := ite_f b9 h
  rcases bcas (decide ((x5.toNat : Int) > 122)) with b12 | b12
  · replace h := ite_f b12 h
    refine rn ?_
    refine an (cf (sk (ab (an (rn ?_)))))
    refine aft_i ⟨mL1, by omega, (IntKind.i64.wrap (v3 + 1)), ?_, ?_, h⟩
    all_goals simp +decide only [F, reduceIte, Nat.reduceAdd, Bool.not_true, Bool.not_false, EN, *, -h]
  replace h := ite_t b12 h
  rcases bcase (decide ((x5.toNat : Int) < 48)) with b13 | b13
  · replace h := ite_t b13 h
    refine rn ?_
    refine an (ct (sq (rn ?_)))
    refine an (rt ?_)
    cases h
    simp [Ret, TB, EN, *]
  replace h := ite_f b13 h
  refine rn ?_
  refine an ?_
  rcases bcase (decide ((x5.toNat : Int) > 57)) with b14 | b14
  · replace h := ite_t b14 h
    refine ct (sq (rn ?_))
    refine an (rt ?_)
    cases h
    simp [Ret, TB, EN, *]
  replace h := ite_f b14 h
  refine cf (sk (ab (an (rn ?_))))
  refine aft_i ⟨mL1, by omega, (IntKind.i64.wrap (v3 + 1)), ?_, ?_, h⟩
  all_goals simp +decide only [F, reduceIte, Nat.reduceAdd, Bool.not_true, Bool.not_false, EN, *, -h]

set_option maxRecDepth 20000 in
set_option maxHeartbeats 4000000 in
theorem c_spec_IsKey (p0 : M.Key) (r : Bool) (h : m_spec_IsKey p0 = some r) : SCalls Tryz.prog 251 [(true, M.Key.en p0)] [(false, [.ro (.bool r)])] := by
  unfold m_spec_IsKey at h
  simp only [M.Key.en]
  refine scalls_n (N := 36) (vars := [.tmp 2]) Tryz.func251 rfl rfl rfl (by decide +kernel) (Nat.le_of_ble_eq_true rfl) fun base wd => ?_
  refine sq (rn ?_)
  refine an (sq ?_)
  obtain ⟨x1, h2, h⟩ := bind_some h
  rcases bcas x1 with b3 | b3
  · replace h := ite_f b3 h
    refine rn1 (c_spec_l1In _ _ _ _ h2) ?_
    refine an (rt ?_)
    cases h
    simp [Ret, TB, EN, *]
  replace h := ite_t b3 h
  obtain ⟨x4, h5, h⟩ := bind_some h
  rcases bcas x4 with b6 | b6
  · replace h := ite_f b6 h
    refine rn2 (c_spec_l1In _ _ _ _ h2) (c_spec_l1In _ _ _ _ h5) ?_
    refine an (rt ?_)
    cases h
    simp [Ret, TB, EN, *]
  replace h := ite_t b6 h
  rcases bcase (p0.Kind != 2) with b7 | b7
  · replace h := ite_t b7 h
    obtain ⟨x8, h9, h⟩ := bind_some h
    rcases bcas x8 with b10 | b10
    · replace h := ite_f b10 h
      refine rn3 (c_spec_l1In _ _ _ _ h2) (c_spec_l1In _ _ _ _ h5) (c_spec_l4Text _ _ h9) ?_
      refine an (rt ?_)
      cases h
      simp [Ret, TB, EN, *]
    replace h := ite_t b10 h
    rcases bcase (p0.Kind != 1) with b11 | b11
    · replace h := ite_t b11 h
      refine rn3 (c_spec_l1In _ _ _ _ h2) (c_spec_l1In _ _ _ _ h5) (c_spec_l4Text _ _ h9) ?_
      refine an (rt ?_)
      cases h
      simp [Ret, TB, EN, *]
    replace h := ite_f b11 h
    refine rn3 (c_spec_l1In _ _ _ _ h2) (c_spec_l1In _ _ _ _ h5) (c_spec_l4Text _ _ h9) ?_
    refine an (rt ?_)
    cases h
    simp [Ret, TB, EN, *]
  replace h := ite_f b7 h
  rcases bcas (p0.N == 0) with b12 | b12
  · replace h := ite_f b12 h
    refine rn2 (c_spec_l1In _ _ _ _ h2) (c_spec_l1In _ _ _ _ h5) ?_
    refine an (rt ?_)
    cases h
    simp [Ret, TB, EN, *]
  replace h := ite_t b12 h
  obtain ⟨x13, h14, h⟩ := bind_some h
  rcases bcas x13 with b15 | b15
  · replace h := ite_f b15 h
    refine rn3 (c_spec_l1In _ _ _ _ h2) (c_spec_l1In _ _ _ _ h5) (c_spec_l4Text _ _ h14) ?_
    refine an (rt ?_)
    cases h
    simp [Ret, TB, EN, *]
  replace h := ite_t b15 h
  rcases bcase (p0.Kind != 1) with b16 | b16
  · replace h := ite_t b16 h
    refine rn3 (c_spec_l1In _ _ _ _ h2) (c_spec_l1In _ _ _ _ h5) (c_spec_l4Text _ _ h14) ?_
    refine an (rt ?_)
    cases h
    simp [Ret, TB, EN, *]
  replace h := ite_f b16 h
  refine rn3 (c_spec_l1In _ _ _ _ h2) (c_spec_l1In _ _ _ _ h5) (c_spec_l4Text _ _ h14) ?_
  refine an (rt ?_)
  cases h
  simp [Ret, TB, EN, *]

set_option maxRecDepth 20000 in
set_option maxHeartbeats 4000000 in
theorem c_spec_IsQueuedWrite (p0 : M.Write) (r : Bool) (h : m_spec_IsQueuedWrite p0 = some r) : SCalls Tryz.prog 188 [(true, M.Write.en p0)] [(false, [.ro (.bool r)])] := by
  unfold m_spec_IsQueuedWrite at h
  simp only [M.Write.en]
  refine scalls_n (N := 26) (vars := [.tmp 2]) Tryz.func188 rfl rfl rfl (by decide +kernel) (Nat.le_of_ble_eq_true rfl) fun base wd => ?_
  refine sq (rn ?_)
  refine an (sq ?_)
  obtain ⟨x1, h2, h⟩ := bind_some h
  rcases bcas x1 with b3 | b3
  · replace h := ite_f b3 h
    refine rn1 (c_spec_l1In _ _ _ _ h2) ?_
    refine an (rt ?_)
    cases h
    simp [Ret, TB, EN, *]
  replace h := ite_t b3 h
  obtain ⟨x4, h5, h⟩ := bind_some h
  rcases bcas x4 with b6 | b6
  · replace h := ite_f b6 h
    refine rn2 (c_spec_l1In _ _ _ _ h2) (c_spec_l1In _ _ _ _ h5) ?_
    refine an (rt ?_)
    cases h
    simp [Ret, TB, EN, *]
  replace h := ite_t b6 h
  obtain ⟨x7, h8, h⟩ := bind_some h
  rcases bcas x7 with b9 | b9
  · replace h := ite_f b9 h
    refine rn3 (c_spec_l1In _ _ _ _ h2) (c_spec_l1In _ _ _ _ h5) (c_spec_IsKey _ _ h8) ?_
    refine an (rt ?_)
    cases h
    simp [Ret, TB, EN, *]
  replace h := ite_t b9 h
  obtain ⟨x10, h11, h⟩ := bind_some h
  rcases bcas x10 with b12 | b12
  · replace h := ite_f b12 h
    refine rn4 (c_spec_l1In _ _ _ _ h2) (c_spec_l1In _ _ _ _ h5) (c_spec_IsKey _ _ h8) (c_spec_IsName _ _ h11) ?_
    refine an (rt ?_)
    cases h
    simp [Ret, TB, EN, *]
  replace h := ite_t b12 h
  obtain ⟨x13, h14, h⟩ := bind_some h
  refine rn5 (c_spec_l1In _ _ _ _ h2) (c_spec_l1In _ _ _ _ h5) (c_spec_IsKey _ _ h8) (c_spec_IsName _ _ h11) (c_spec_l1In _ _ _ _ h14) ?_
  refine an (rt ?_)
  cases h
  simp [Ret, TB, EN, *]

set_option maxRecDepth 20000 in
set_option maxHeartbeats 4000000 in
theorem c_spec_IsRecord (p0 : M.Record) (r : Bool) (h : m_spec_IsRecord p0 = some r) : SCalls Tryz.prog 252 [(true, M.Record.en p0)] [(false, [.ro (.bool r)])] := by
  unfold m_spec_IsRecord at h
  simp only [M.Record.en]
  refine scalls_n (N := 53) (vars := [.tmp 2]) Tryz.func252 rfl rfl rfl (by decide +kernel) (Nat.le_of_ble_eq_true rfl) fun base wd => ?_
  refine sq (rn ?_)
  refine an (sq (sq (rn ?_)))
  refine an (bk ?_)
  refine SW_loop (fun m s => ∃ v3 : Int, s.t 1 = .v false [.bp 1 1 0] ∧ s.t 3 = .v false [.dat (.int .i64 v3)] ∧ s.h 1 = (1, .box 238 [.dat (.sl (List.map M.Field.en p0.Fields))]) ∧ m_spec_IsRecord_L1 p0 m v3 = some r) fuel ?_ ?_
  · refine ⟨0, ?_, ?_, ?_, h⟩
    all_goals simp +decide only [F, reduceIte, Nat.reduceAdd, Bool.not_true, Bool.not_false, EN, *, -h]
  rintro mL1 s1 ⟨v3, f2, f3, f4, h⟩
  rcases mL1 with _ | mL1
  · exact absurd h (by simp [m_spec_IsRecord_L1])
  simp only [m_spec_IsRecord_L1] at h
  refine sq (sq (rn ?_))
  refine an ?_
  rcases bcas (decide (v3 < (List.length p0.Fields : Int))) with b5 | b5
  · replace h := ite_f b5 h
    refine cf (xt (aft_cx (aft_ix (aft_x (an (sq (rn ?_)))))))
    refine an (rt ?_)
    cases h
    simp [Ret, TB, EN, *]
  replace h := ite_t b5 h
  refine ct (sk (an (sq (bk (sq ?_)))))
  obtain ⟨x6, h7, h⟩ := bind_some h
  obtain ⟨q8, q9, q10⟩ := idx_some h7
  obtain ⟨x11, h12, h⟩ := bind_some h
  rcases bcase (!x11) with b13 | b13
  · replace h := ite_t b13 h
    refine rd1 mixed (c_spec_IsName _ _ h12) ?_
    refine an (ct (sq (rn ?_)))
    refine an (rt ?_)
    cases h
    simp [Ret, TB, EN, *]
  replace h := ite_f b13 h
  obtain ⟨x14, h15, h⟩ := bind_some h
  rcases bcase (!x14) with b16 | b16
  · replace h := ite_t b16 h
    refine rd2 mixed (c_spec_IsName _ _ h12) (c_spec_l1In _ _ _ _ h15) ?_
    refine an (ct (sq (rn ?_)))
    refine an (rt ?_)
    cases h
    simp [Ret, TB, EN, *]
  replace h := ite_f b16 h
  rcases bcas (decide (v3 > 0)) with b17 | b17
  · replace h := ite_f b17 h
    refine rd2 mixed (c_spec_IsName _ _ h12) (c_spec_l1In _ _ _ _ h15) ?_
    refine an (cf (sk (ab (an (rn ?_)))))
    refine aft_i ⟨mL1, by omega, (IntKind.i64.wrap (v3 + 1)), ?_, ?_, ?_, h⟩
    all_goals simp +decide only [F, reduceIte, Nat.reduceAdd, Bool.not_true, Bool.not_false, EN, *, -h]
  replace h := ite_t b17 h
  obtain ⟨x18, h19, h⟩ := bind_some h
  obtain ⟨q20, q21, q22⟩ := idx_some h19
  refine rd2 mixed (c_spec_IsName _ _ h12) (c_spec_l1In _ _ _ _ h15) ?_
  refine an ?_
  rcases bcase (!(Op.bytesLess x18.Name.toList x6.Name.toList)) with b23 | b23
  · replace h := ite_t b23 h
    refine ct (sq (rn ?_))
    refine an (rt ?_)
    cases h
    simp [Ret, TB, EN, *]
  replace h := ite_f b23 h
  refine cf (sk (ab (an (rn ?_))))
  refine aft_i ⟨mL1, by omega, (IntKind.i64.wrap (v3 + 1)), ?_, ?_, ?_, h⟩
  all_goals simp +decide only [F, reduceIte, Nat.reduceAdd, Bool.not_true, Bool.not_false, EN, *, -h]

set_option maxRecDepth 20000 in
set_option maxHeartbeats 4000000 in
theorem c_spec_l4Sign (p0 : Bool) (p1 : Bool) (r : Int) (h : m_spec_l4Sign p0 p1 = some r) : SCalls Tryz.prog 301 [(false, [.bool p0]), (false, [.bool p1])] [(false, [.ro (.int .i64 r)])] := by
  unfold m_spec_l4Sign at h
  refine scalls_n (N := 7) (vars := [.tmp 4]) Tryz.func301 rfl rfl rfl (by decide +kernel) (Nat.le_of_ble_eq_true rfl) fun base wd => ?_
  refine sq (rn ?_)
  refine an (sq (sq (rn ?_)))
  refine an ?_
  rcases bcase p0 with b1 | b1
  · replace h := ite_t b1 h
    refine ct (sq (rn ?_))
    refine an (rt ?_)
    cases h
    simp [Ret, TB, EN, *]
  replace h := ite_f b1 h
  refine cf (sk (an (sq (sq (rn ?_)))))
  refine an ?_
  rcases bcase p1 with b2 | b2
  · replace h := ite_t b2 h
    refine ct (sq (rn ?_))
    refine an (rt ?_)
    cases h
    simp [Ret, TB, EN, *]
  replace h := ite_f b2 h
  refine cf (sk (an (sq (rn ?_))))
  refine an (rt ?_)
  cases h
  simp [Ret, TB, EN, *]

set_option maxRecDepth 20000 in
set_option maxHeartbeats 4000000 in
theorem c_spec_CompareKeys (p0 : M.Key) (p1 : M.Key) (r : Int) (h : m_spec_CompareKeys p0 p1 = some r) : SCalls Tryz.prog 253 [(true, M.Key.en p0), (true, M.Key.en p1)] [(false, [.ro (.int .i64 r)])] := by
  unfold m_spec_CompareKeys at h
  simp only [M.Key.en]
  refine scalls_n (N := 46) (vars := [.tmp 4]) Tryz.func253 rfl rfl rfl (by decide +kernel) (Nat.le_of_ble_eq_true rfl) fun base wd => ?_
  refine sq (rn ?_)
  refine an (sq (sq ?_))
  obtain ⟨x1, h2, h⟩ := bind_some h
  rcases bcase (!x1) with b3 | b3
  · replace h := ite_t b3 h
    refine rn1 (c_spec_IsKey _ _ h2) ?_
    refine an (ct (sq (rn ?_)))
    refine an (rt ?_)
    cases h
    simp [Ret, TB, EN, *]
  replace h := ite_f b3 h
  obtain ⟨x4, h5, h⟩ := bind_some h
  refine rn2 (c_spec_IsKey _ _ h2) (c_spec_IsKey _ _ h5) ?_
  refine an ?_
  rcases bcase (!x4) with b6 | b6
  · replace h := ite_t b6 h
    refine ct (sq (rn ?_))
    refine an (rt ?_)
    cases h
    simp [Ret, TB, EN, *]
  replace h := ite_f b6 h
  refine cf (sk (an (sq (sq (rn ?_)))))
  refine an ?_
  rcases bcase (p0.Kind != p1.Kind) with b7 | b7
  · replace h := ite_t b7 h
    refine ct (sq ?_)
    obtain ⟨x8, h9, h⟩ := bind_some h
    refine rn1 (c_spec_l4Sign _ _ _ h9) ?_
    refine an (rt ?_)
    cases h
    simp [Ret, TB, EN, *]
  replace h := ite_f b7 h
  refine cf (sk (an (sq (sq (rn ?_)))))
  refine an ?_
  rcases bcase (p0.N != p1.N) with b10 | b10
  · replace h := ite_t b10 h
    refine ct (sq ?_)
    obtain ⟨x11, h12, h⟩ := bind_some h
    refine rn1 (c_spec_l4Sign _ _ _ h12) ?_
    refine an (rt ?_)
    cases h
    simp [Ret, TB, EN, *]
  replace h := ite_f b10 h
  refine cf (sk (an (sq ?_)))
  obtain ⟨x13, h14, h⟩ := bind_some h
  refine rn1 (c_spec_l4Sign _ _ _ h14) ?_
  refine an (rt ?_)
  cases h
  simp [Ret, TB, EN, *]

set_option maxRecDepth 20000 in
set_option maxHeartbeats 4000000 in
theorem c_spec_IsStore (p0 : M.Store) (r : Bool) (h : m_spec_IsStore p0 = some r) : SCalls Tryz.prog 189 [(true, M.Store.en p0)] [(false, [.ro (.bool r)])] := by
  unfold m_spec_IsStore at h
  simp only [M.Store.en]
  refine scalls_n (N := 64) (vars := [.tmp 2]) Tryz.func189 rfl rfl rfl (by decide +kernel) (Nat.le_of_ble_eq_true rfl) fun base wd => ?_
  refine sq (rn ?_)
  refine an (sq (sq (rn ?_)))
  refine an (bk ?_)
  refine SW_loop (fun m s => ∃ v3 : Int, s.t 1 = .v false [.bp 1 1 0] ∧ s.t 3 = .v false [.dat (.int .i64 v3)] ∧ s.h 1 = (1, .box 81 [.dat (.str p0.Name), .dat (.sl (List.map M.Item.en p0.Items)), .dat (.int .i64 p0.Auto)]) ∧ m_spec_IsStore_L1 p0 m v3 = some r) fuel ?_ ?_
  · refine ⟨0, ?_, ?_, ?_, h⟩
    all_goals simp +decide only [F, reduceIte, Nat.reduceAdd, Bool.not_true, Bool.not_false, EN, *, -h]
  rintro mL1 s1 ⟨v3, f2, f3, f4, h⟩
  rcases mL1 with _ | mL1
  · exact absurd h (by simp [m_spec_IsStore_L1])
  simp only [m_spec_IsStore_L1] at h
  refine sq (sq (rn ?_))
  refine an ?_
  rcases bcas (decide (v3 < (List.length p0.Items : Int))) with b5 | b5
  · replace h := ite_f b5 h
    refine cf (xt (aft_cx (aft_ix (aft_x (an (sq ?_))))))
    obtain ⟨x26, h27, h⟩ := bind_some h
    rcases bcas x26 with b28 | b28
    · replace h := ite_f b28 h
      refine rn1 (c_spec_IsName _ _ h27) ?_
      refine an (rt ?_)
      cases h
      simp [Ret, TB, EN, *]
    replace h := ite_t b28 h
    rcases bcas (decide ((List.length p0.Items : Int) ≤ 16)) with b29 | b29
    · replace h := ite_f b29 h
      refine rn1 (c_spec_IsName _ _ h27) ?_
      refine an (rt ?_)
      cases h
      simp [Ret, TB, EN, *]
    replace h := ite_t b29 h
    obtain ⟨x30, h31, h⟩ := bind_some h
    refine rn2 (c_spec_IsName _ _ h27) (c_spec_l1In _ _ _ _ h31) ?_
    refine an (rt ?_)
    cases h
    simp [Ret, TB, EN, *]
  replace h := ite_t b5 h
  refine ct (sk (an (sq (bk (sq ?_)))))
  obtain ⟨x6, h7, h⟩ := bind_some h
  obtain ⟨q8, q9, q10⟩ := idx_some h7
  obtain ⟨x11, h12, h⟩ := bind_some h
  rcases bcase (!x11) with b13 | b13
  · replace h := ite_t b13 h
    refine rd1 mixed (c_spec_IsKey _ _ h12) ?_
    refine an (ct (sq (rn ?_)))
    refine an (rt ?_)
    cases h
    simp [Ret, TB, EN, *]
  replace h := ite_f b13 h
  obtain ⟨x14, h15, h⟩ := bind_some h
  rcases bcase (!x14) with b16 | b16
  · replace h := ite_t b16 h
    refine rd2 mixed (c_spec_IsKey _ _ h12) (c_spec_IsRecord _ _ h15) ?_
    refine an (ct (sq (rn ?_)))
    refine an (rt ?_)
    cases h
    simp [Ret, TB, EN, *]
  replace h := ite_f b16 h
  rcases bcas (decide (v3 > 0)) with b17 | b17
  · replace h := ite_f b17 h
    refine rd2 mixed (c_spec_IsKey _ _ h12) (c_spec_IsRecord _ _ h15) ?_
    refine an (cf (sk (ab (an (rn ?_)))))
    refine aft_i ⟨mL1, by omega, (IntKind.i64.wrap (v3 + 1)), ?_, ?_, ?_, h⟩
    all_goals simp +decide only [F, reduceIte, Nat.reduceAdd, Bool.not_true, Bool.not_false, EN, *, -h]
  replace h := ite_t b17 h
  obtain ⟨x18, h19, h⟩ := bind_some h
  obtain ⟨q20, q21, q22⟩ := idx_some h19
  obtain ⟨x23, h24, h⟩ := bind_some h
  refine rd3 mixed (c_spec_IsKey _ _ h12) (c_spec_IsRecord _ _ h15) (c_spec_CompareKeys _ _ _ h24) ?_
  refine an ?_
  rcases bcase (decide (x23 ≥ 0)) with b25 | b25
  · replace h := ite_t b25 h
    refine ct (sq (rn ?_))
    refine an (rt ?_)
    cases h
    simp [Ret, TB, EN, *]
  replace h := ite_f b25 h
  refine cf (sk (ab (an (rn ?_))))
  refine aft_i ⟨mL1, by omega, (IntKind.i64.wrap (v3 + 1)), ?_, ?_, ?_, h⟩
  all_goals simp +decide only [F, reduceIte, Nat.reduceAdd, Bool.not_true, Bool.not_false, EN, *, -h]

set_option maxRecDepth 20000 in
set_option maxHeartbeats 4000000 in
theorem c_spec_IsServer (p0 : M.Server) (r : Bool) (h : m_spec_IsServer p0 = some r) : SCalls Tryz.prog 116 [(true, M.Server.en p0)] [(false, [.ro (.bool r)])] := by
  unfold m_spec_IsServer at h
  simp only [M.Server.en]
  refine scalls_n (N := 79) (vars := [.tmp 2]) Tryz.func116 rfl rfl rfl (by decide +kernel) (Nat.le_of_ble_eq_true rfl) fun base wd => ?_
  refine sq (rn ?_)
  refine an (sq (sq (rn ?_)))
  refine an (bk ?_)
  refine SW_loop (fun m s => ∃ v3 : Int, s.t 1 = .v false [.bp 1 1 0] ∧ s.t 3 = .v false [.dat (.int .i64 v3)] ∧ s.h 1 = (1, .box 102 [.dat (.str p0.Store.Name), .dat (.sl (List.map M.Item.en p0.Store.Items)), .dat (.int .i64 p0.Store.Auto), .dat (.sl (List.map M.Applied.en p0.Applied)), .dat (.sl (List.map M.Write.en p0.Changes))]) ∧ m_spec_IsServer_L1 p0 m v3 = some r) fuel ?_ ?_
  · refine ⟨0, ?_, ?_, ?_, h⟩
    all_goals simp +decide only [F, reduceIte, Nat.reduceAdd, Bool.not_true, Bool.not_false, EN, *, -h]
  rintro mL1 s1 ⟨v3, f2, f3, f4, h⟩
  rcases mL1 with _ | mL1
  · exact absurd h (by simp [m_spec_IsServer_L1])
  simp only [m_spec_IsServer_L1] at h
  refine sq (sq (rn ?_))
  refine an ?_
  rcases bcase (decide (v3 < (List.length p0.Applied : Int))) with b5 | b5
  · replace h := ite_t b5 h
    refine ct (sk (an (sq (bk (sq ?_)))))
    obtain ⟨x6, h7, h⟩ := bind_some h
    obtain ⟨q8, q9, q10⟩ := idx_some h7
    obtain ⟨x11, h12, h⟩ := bind_some h
    rcases bcase (!x11) with b13 | b13
    · replace h := ite_t b13 h
      refine rd1 mixed (c_spec_l1In _ _ _ _ h12) ?_
      refine an (ct (sq (rn ?_)))
      refine an (rt ?_)
      cases h
      simp [Ret, TB, EN, *]
    replace h := ite_f b13 h
    obtain ⟨x14, h15, h⟩ := bind_some h
    rcases bcase (!x14) with b16 | b16
    · replace h := ite_t b16 h
      refine rd2 mixed (c_spec_l1In _ _ _ _ h12) (c_spec_l1In _ _ _ _ h15) ?_
      refine an (ct (sq (rn ?_)))
      refine an (rt ?_)
      cases h
      simp [Ret, TB, EN, *]
    replace h := ite_f b16 h
    rcases bcas (decide (v3 > 0)) with b17 | b17
    · replace h := ite_f b17 h
      refine rd2 mixed (c_spec_l1In _ _ _ _ h12) (c_spec_l1In _ _ _ _ h15) ?_
      refine an (cf (sk (ab (an (rn ?_)))))
      refine aft_i ⟨mL1, by omega, (IntKind.i64.wrap (v3 + 1)), ?_, ?_, ?_, h⟩
      all_goals simp +decide only [F, reduceIte, Nat.reduceAdd, Bool.not_true, Bool.not_false, EN, *, -h]
    replace h := ite_t b17 h
    obtain ⟨x18, h19, h⟩ := bind_some h
    obtain ⟨q20, q21, q22⟩ := idx_some h19
    refine rd2 mixed (c_spec_l1In _ _ _ _ h12) (c_spec_l1In _ _ _ _ h15) ?_
    refine an ?_
    rcases bcase (decide (x18.Device ≥ x6.Device)) with b23 | b23
    · replace h := ite_t b23 h
      refine ct (sq (rn ?_))
      refine an (rt ?_)
      cases h
      simp [Ret, TB, EN, *]
    replace h := ite_f b23 h
    refine cf (sk (ab (an (rn ?_))))
    refine aft_i ⟨mL1, by omega, (IntKind.i64.wrap (v3 + 1)), ?_, ?_, ?_, h⟩
    all_goals simp +decide only [F, reduceIte, Nat.reduceAdd, Bool.not_true, Bool.not_false, EN, *, -h]
  replace h := ite_f b5 h
  refine cf (xt (aft_cx (aft_ix (aft_x (an (sq (sq (rn ?_))))))))
  refine an (bk ?_)
  refine SW_loop (fun m s => ∃ v4 : Int, s.t 1 = .v false [.bp 1 1 0] ∧ s.t 4 = .v false [.dat (.int .i64 v4)] ∧ s.h 1 = (1, .box 102 [.dat (.str p0.Store.Name), .dat (.sl (List.map M.Item.en p0.Store.Items)), .dat (.int .i64 p0.Store.Auto), .dat (.sl (List.map M.Applied.en p0.Applied)), .dat (.sl (List.map M.Write.en p0.Changes))]) ∧ m_spec_IsServer_L2 p0 m v4 = some r) fuel ?_ ?_
  · refine ⟨0, ?_, ?_, ?_, h⟩
    all_goals simp +decide only [F, reduceIte, Nat.reduceAdd, Bool.not_true, Bool.not_false, EN, *, -h]
  rintro mL2 s24 ⟨v4, f25, f26, f27, h⟩
  rcases mL2 with _ | mL2
  · exact absurd h (by simp [m_spec_IsServer_L2])
  simp only [m_spec_IsServer_L2] at h
  refine sq (sq (rn ?_))
  refine an ?_
  rcases bcase (decide (v4 < (List.length p0.Changes : Int))) with b28 | b28
  · replace h := ite_t b28 h
    refine ct (sk (an (sq (bk (sq ?_)))))
    obtain ⟨x29, h30, h⟩ := bind_some h
    obtain ⟨q31, q32, q33⟩ := idx_some h30
    obtain ⟨x34, h35, h⟩ := bind_some h
    refine rn1 (c_spec_IsQueuedWrite _ _ h35) ?_
    refine an ?_
    rcases bcase (!x34) with b36 | b36
    · replace h := ite_t b36 h
      refine ct (sq (rn ?_))
      refine an (rt ?_)
      cases h
      simp [Ret, TB, EN, *]
    replace h := ite_f b36 h
    refine cf (sk (ab (an (rn ?_))))
    refine aft_i ⟨mL2, by omega, (IntKind.i64.wrap (v4 + 1)), ?_, ?_, ?_, h⟩
    all_goals simp +decide only [F, reduceIte, Nat.reduceAdd, Bool.not_true, Bool.not_false, EN, *, -h]
  replace h := ite_f b28 h
  refine cf (xt (aft_cx (aft_ix (aft_x (an (sq ?_))))))
  obtain ⟨x37, h38, h⟩ := bind_some h
  rcases bcas x37 with b39 | b39
  · replace h := ite_f b39 h
    refine rn1 (c_spec_IsStore _ _ h38) ?_
    refine an (rt ?_)
    cases h
    simp [Ret, TB, EN, *]
  replace h := ite_t b39 h
  rcases bcase (p0.Store.Name.toList == (⟨#[110, 111, 116, 101, 115]⟩ : ByteArray).toList) with b40 | b40
  · replace h := ite_t b40 h
    refine rn1 (c_spec_IsStore _ _ h38) ?_
    refine an (rt ?_)
    cases h
    simp [Ret, TB, EN, *]
  replace h := ite_f b40 h
  refine rn1 (c_spec_IsStore _ _ h38) ?_
  refine an (rt ?_)
  cases h
  simp [Ret, TB, EN, *]

set_option maxRecDepth 20000 in
set_option maxHeartbeats 4000000 in
theorem c_spec_IsPage (p0 : M.Page) (r : Bool) (h : m_spec_IsPage p0 = some r) : SCalls Tryz.prog 117 [(true, M.Page.en p0)] [(false, [.ro (.bool r)])] := by
  unfold m_spec_IsPage at h
  simp only [M.Page.en]
  refine scalls_n (N := 54) (vars := [.tmp 2]) Tryz.func117 rfl rfl rfl (by decide +kernel) (Nat.le_of_ble_eq_true rfl) fun base wd => ?_
  refine sq (rn ?_)
  refine an (sq (sq (rn ?_)))
  refine an (bk ?_)
  refine SW_loop (fun m s => ∃ v3 : Int, s.t 1 = .v false [.bp 1 1 0] ∧ s.t 3 = .v false [.dat (.int .i64 v3)] ∧ s.h 1 = (1, .box 70 [.dat (.int .i64 p0.Id), .dat (.str p0.Site), .dat (.str p0.Top), .dat (.int .i64 p0.Version), .dat (.sl (List.map M.Loaded.en p0.Loaded)), .dat (.sl (List.map M.Instr.en p0.Machine.Script)), .dat (.int .i64 p0.Machine.Pc), .dat (.sl (List.map enI p0.Machine.Regs)), .dat (.int .i64 p0.Machine.Steps), .dat (.bool p0.Machine.Done), .dat (.bool p0.Machine.Wait)]) ∧ m_spec_IsPage_L1 p0 m v3 = some r) fuel ?_ ?_
  · refine ⟨0, ?_, ?_, ?_, h⟩
    all_goals simp +decide only [F, reduceIte, Nat.reduceAdd, Bool.not_true, Bool.not_false, EN, *, -h]
  rintro mL1 s1 ⟨v3, f2, f3, f4, h⟩
  rcases mL1 with _ | mL1
  · exact absurd h (by simp [m_spec_IsPage_L1])
  simp only [m_spec_IsPage_L1] at h
  refine sq (sq (rn ?_))
  refine an ?_
  rcases bcase (decide (v3 < (List.length p0.Loaded : Int))) with b5 | b5
  · replace h := ite_t b5 h
    refine ct (sk (an (sq (bk (sq ?_)))))
    obtain ⟨x6, h7, h⟩ := bind_some h
    obtain ⟨q8, q9, q10⟩ := idx_some h7
    obtain ⟨x11, h12, h⟩ := bind_some h
    rcases bcase (!x11) with b13 | b13
    · replace h := ite_t b13 h
      refine rd1 mixed (c_spec_IsName _ _ h12) ?_
      refine an (ct (sq (rn ?_)))
      refine an (rt ?_)
      cases h
      simp [Ret, TB, EN, *]
    replace h := ite_f b13 h
    refine rd1 mixed (c_spec_IsName _ _ h12) ?_
    refine an ?_
    rcases bcase (x6.Version != p0.Version) with b14 | b14
    · replace h := ite_t b14 h
      refine ct (sq (rn ?_))
      refine an (rt ?_)
      cases h
      simp [Ret, TB, EN, *]
    replace h := ite_f b14 h
    refine cf (sk (ab (an (rn ?_))))
    refine aft_i ⟨mL1, by omega, (IntKind.i64.wrap (v3 + 1)), ?_, ?_, ?_, h⟩
    all_goals simp +decide only [F, reduceIte, Nat.reduceAdd, Bool.not_true, Bool.not_false, EN, *, -h]
  replace h := ite_f b5 h
  refine cf (xt (aft_cx (aft_ix (aft_x (an (sq ?_))))))
  obtain ⟨x15, h16, h⟩ := bind_some h
  rcases bcas x15 with b17 | b17
  · replace h := ite_f b17 h
    refine rn1 (c_spec_l1In _ _ _ _ h16) ?_
    refine an (rt ?_)
    cases h
    simp [Ret, TB, EN, *]
  replace h := ite_t b17 h
  obtain ⟨x18, h19, h⟩ := bind_some h
  rcases bcas x18 with b20 | b20
  · replace h := ite_f b20 h
    refine rn2 (c_spec_l1In _ _ _ _ h16) (c_spec_IsName _ _ h19) ?_
    refine an (rt ?_)
    cases h
    simp [Ret, TB, EN, *]
  replace h := ite_t b20 h
  obtain ⟨x21, h22, h⟩ := bind_some h
  rcases bcas x21 with b23 | b23
  · replace h := ite_f b23 h
    refine rn3 (c_spec_l1In _ _ _ _ h16) (c_spec_IsName _ _ h19) (c_spec_IsName _ _ h22) ?_
    refine an (rt ?_)
    cases h
    simp [Ret, TB, EN, *]
  replace h := ite_t b23 h
  obtain ⟨x24, h25, h⟩ := bind_some h
  rcases bcase x24 with b26 | b26
  · replace h := ite_t b26 h
    refine rn4 (c_spec_l1In _ _ _ _ h16) (c_spec_IsName _ _ h19) (c_spec_IsName _ _ h22) (c_spec_l1In _ _ _ _ h25) ?_
    refine an (rt ?_)
    cases h
    simp [Ret, TB, EN, *]
  replace h := ite_f b26 h
  refine rn4 (c_spec_l1In _ _ _ _ h16) (c_spec_IsName _ _ h19) (c_spec_IsName _ _ h22) (c_spec_l1In _ _ _ _ h25) ?_
  refine an (rt ?_)
  cases h
  simp [Ret, TB, EN, *]

set_option maxRecDepth 20000 in
set_option maxHeartbeats 4000000 in
theorem c_spec_FindBucket (p0 : M.Storage) (p1 : ByteArray) (p2 : ByteArray) (r : Int) (h : m_spec_FindBucket p0 p1 p2 = some r) : SCalls Tryz.prog 73 [(true, M.Storage.en p0), (false, [.str p1]), (false, [.str p2])] [(false, [.ro (.int .i64 r)])] := by
  unfold m_spec_FindBucket at h
  simp only [M.Storage.en]
  refine scalls_n (N := 34) (vars := [.tmp 6]) Tryz.func73 rfl rfl rfl (by decide +kernel) (Nat.le_of_ble_eq_true rfl) fun base wd => ?_
  refine sq (rn ?_)
  refine an (sq (sq (rn ?_)))
  refine an (bk ?_)
  refine SW_loop (fun m s => ∃ v7 : Int, s.t 1 = .v false [.dat (.str p1)] ∧ s.t 2 = .v false [.dat (.str p2)] ∧ s.t 3 = .v false [.bp 3 1 0] ∧ s.t 7 = .v false [.dat (.int .i64 v7)] ∧ s.h 3 = (1, .box 24 [.dat (.sl (List.map M.Bucket.en p0.Buckets))]) ∧ m_spec_FindBucket_L1 p0 p1 p2 m v7 = some r) fuel ?_ ?_
  · refine ⟨0, ?_, ?_, ?_, ?_, ?_, h⟩
    all_goals simp +decide only [F, reduceIte, Nat.reduceAdd, Bool.not_true, Bool.not_false, EN, *, -h]
  rintro mL1 s1 ⟨v7, f2, f3, f4, f5, f6, h⟩
  rcases mL1 with _ | mL1
  · exact absurd h (by simp [m_spec_FindBucket_L1])
  simp only [m_spec_FindBucket_L1] at h
  refine sq (sq (rn ?_))
  refine an ?_
  rcases bcas (decide (v7 < (List.length p0.Buckets : Int))) with b7 | b7
  · replace h := ite_f b7 h
    refine cf (xt (aft_cx (aft_ix (aft_x (an (sq (rn ?_)))))))
    refine an (rt ?_)
    cases h
    simp [Ret, TB, EN, *]
  replace h := ite_t b7 h
  refine ct (sk (an (sq (bk (sq ?_)))))
  obtain ⟨x8, h9, h⟩ := bind_some h
  obtain ⟨q10, q11, q12⟩ := idx_some h9
  rcases bcas (x8.Site.toList == p1.toList) with b13 | b13
  · replace h := ite_f b13 h
    refine rn ?_
    refine an (cf (sk (ab (an (rn ?_)))))
    refine aft_i ⟨mL1, by omega, (IntKind.i64.wrap (v7 + 1)), ?_, ?_, ?_, ?_, ?_, h⟩
    all_goals simp +decide only [F, reduceIte, Nat.reduceAdd, Bool.not_true, Bool.not_false, EN, *, -h]
  replace h := ite_t b13 h
  refine rn ?_
  refine an ?_
  rcases bcase (x8.Top.toList == p2.toList) with b14 | b14
  · replace h := ite_t b14 h
    refine ct (sq (rn ?_))
    refine an (rt ?_)
    cases h
    simp [Ret, TB, EN, *]
  replace h := ite_f b14 h
  refine cf (sk (ab (an (rn ?_))))
  refine aft_i ⟨mL1, by omega, (IntKind.i64.wrap (v7 + 1)), ?_, ?_, ?_, ?_, ?_, h⟩
  all_goals simp +decide only [F, reduceIte, Nat.reduceAdd, Bool.not_true, Bool.not_false, EN, *, -h]

end Go.Proofs.YtcpahpbjjnekkaaGreat.gen
