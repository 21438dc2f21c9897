/-
  Helper text: walks: each function's contract out of its model. No conditions beyond those of each contract.
-/
import Derived.Test.YtgemmnkhddlhpaaGreatNewBucketTi
import Derived.Test.YtgemmnkhddlhpaaGreatNewBucketWspec0
namespace Go.Proofs.YtgemmnkhddlhpaaGreat.gen
open Go Go.Sh
set_option linter.unusedVariables false
set_option linter.unusedSimpArgs false
set_option maxRecDepth 20000 in
set_option maxHeartbeats 4000000 in
theorem c_spec_IsStore (p0 : M.Store) (r : Bool) (h : m_spec_IsStore p0 = some r) : SCalls Tryz.prog 249 [(true, M.Store.en p0)] [(false, [.ro (.bool r)])] := by
  unfold m_spec_IsStore at h
  simp only [M.Store.en]
  refine scalls_n (N := 64) (vars := [.tmp 2]) Tryz.func249 rfl rfl rfl (by decide +kernel) (Nat.le_of_ble_eq_true rfl) fun base wd => ?_
  refine sq (rn ?_)
  refine an (sq (sq (rn ?_)))
  refine an (bk ?_)
  refine SW_loop (fun m s => ∃ v3 : Int, s.t 1 = .v false [.bp 1 1 0] ∧ s.t 3 = .v false [.dat (.int .i64 v3)] ∧ s.h 1 = (1, .box 36 [.dat (.str p0.Name), .dat (.sl (List.map M.Item.en p0.Items)), .dat (.int .i64 p0.Auto)]) ∧ m_spec_IsStore_L1 p0 m v3 = some r) fuel ?_ ?_
  · refine ⟨0, ?_, ?_, ?_, h⟩
    all_goals simp +decide only [F, reduceIte, Nat.reduceAdd, Bool.not_true, Bool.not_false, EN, *, -h]
  rintro mL1 s1 ⟨v3, f2, f3, f4, h⟩
  rcases mL1 with _ | mL1
  · exact absurd h (by simp [m_spec_IsStore_L1])
  simp only [m_spec_IsStore_L1] at h
  refine sq (sq (rn ?_))
  refine an ?_
  rcases bcas (decide (v3 < (List.length p0.Items : Int))) with b5 | b5
  · replace h := ite_f b5 h
    refine cf (xt (aft_cx (aft_ix (aft_x (an (sq ?_))))))
    obtain ⟨x26, h27, h⟩ := bind_some h
    rcases bcas x26 with b28 | b28
    · replace h := ite_f b28 h
      refine rn1 (c_spec_IsName _ _ h27) ?_
      refine an (rt ?_)
      cases h
      simp [Ret, TB, EN, *]
    replace h := ite_t b28 h
    rcases bcas (decide ((List.length p0.Items : Int) ≤ 16)) with b29 | b29
    · replace h := ite_f b29 h
      refine rn1 (c_spec_IsName _ _ h27) ?_
      refine an (rt ?_)
      cases h
      simp [Ret, TB, EN, *]
    replace h := ite_t b29 h
    obtain ⟨x30, h31, h⟩ := bind_some h
    refine rn2 (c_spec_IsName _ _ h27) (c_spec_l1In _ _ _ _ h31) ?_
    refine an (rt ?_)
    cases h
    simp [Ret, TB, EN, *]
  replace h := ite_t b5 h
  refine ct (sk (an (sq (bk (sq ?_)))))
  obtain ⟨x6, h7, h⟩ := bind_some h
  obtain ⟨q8, q9, q10⟩ := idx_some h7
  obtain ⟨x11, h12, h⟩ := bind_some h
  rcases bcase (!x11) with b13 | b13
  · replace h := ite_t b13 h
    refine rd1 mixed (c_spec_IsKey _ _ h12) ?_
    refine an (ct (sq (rn ?_)))
    refine an (rt ?_)
    cases h
    simp [Ret, TB, EN, *]
  replace h := ite_f b13 h
  obtain ⟨x14, h15, h⟩ := bind_some h
  rcases bcase (!x14) with b16 | b16
  · replace h := ite_t b16 h
    refine rd2 mixed (c_spec_IsKey _ _ h12) (c_spec_IsRecord _ _ h15) ?_
    refine an (ct (sq (rn ?_)))
    refine an (rt ?_)
    cases h
    simp [Ret, TB, EN, *]
  replace h := ite_f b16 h
  rcases bcas (decide (v3 > 0)) with b17 | b17
  · replace h := ite_f b17 h
    refine rd2 mixed (c_spec_IsKey _ _ h12) (c_spec_IsRecord _ _ h15) ?_
    refine an (cf (sk (ab (an (rn ?_)))))
    refine aft_i ⟨mL1, by omega, (IntKind.i64.wrap (v3 + 1)), ?_, ?_, ?_, h⟩
    all_goals simp +decide only [F, reduceIte, Nat.reduceAdd, Bool.not_true, Bool.not_false, EN, *, -h]
  replace h := ite_t b17 h
  obtain ⟨x18, h19, h⟩ := bind_some h
  obtain ⟨q20, q21, q22⟩ := idx_some h19
  obtain ⟨x23, h24, h⟩ := bind_some h
  refine rd3 mixed (c_spec_IsKey _ _ h12) (c_spec_IsRecord _ _ h15) (c_spec_CompareKeys _ _ _ h24) ?_
  refine an ?_
  rcases bcase (decide (x23 ≥ 0)) with b25 | b25
  · replace h := ite_t b25 h
    refine ct (sq (rn ?_))
    refine an (rt ?_)
    cases h
    simp [Ret, TB, EN, *]
  replace h := ite_f b25 h
  refine cf (sk (ab (an (rn ?_))))
  refine aft_i ⟨mL1, by omega, (IntKind.i64.wrap (v3 + 1)), ?_, ?_, ?_, h⟩
  all_goals simp +decide only [F, reduceIte, Nat.reduceAdd, Bool.not_true, Bool.not_false, EN, *, -h]

set_option maxRecDepth 20000 in
set_option maxHeartbeats 4000000 in
theorem c_spec_FindStore (p0 : M.Database) (p1 : ByteArray) (r : Int) (h : m_spec_FindStore p0 p1 = some r) : SCalls Tryz.prog 229 [(true, M.Database.en p0), (false, [.str p1])] [(false, [.ro (.int .i64 r)])] := by
  unfold m_spec_FindStore at h
  simp only [M.Database.en]
  refine scalls_n (N := 22) (vars := [.tmp 4]) Tryz.func229 rfl rfl rfl (by decide +kernel) (Nat.le_of_ble_eq_true rfl) fun base wd => ?_
  refine sq (rn ?_)
  refine an (sq (sq (rn ?_)))
  refine an (bk ?_)
  refine SW_loop (fun m s => ∃ v5 : Int, s.t 1 = .v false [.dat (.str p1)] ∧ s.t 2 = .v false [.bp 2 1 0] ∧ s.t 5 = .v false [.dat (.int .i64 v5)] ∧ s.h 2 = (1, .box 30 [.dat (.str p0.Name), .dat (.int .i64 p0.Version), .dat (.sl (List.map M.Store.en p0.Stores)), .dat (.sl (List.map M.IndexDef.en p0.Unique))]) ∧ m_spec_FindStore_L1 p0 p1 m v5 = some r) fuel ?_ ?_
  · refine ⟨0, ?_, ?_, ?_, ?_, h⟩
    all_goals simp +decide only [F, reduceIte, Nat.reduceAdd, Bool.not_true, Bool.not_false, EN, *, -h]
  rintro mL1 s1 ⟨v5, f2, f3, f4, f5, h⟩
  rcases mL1 with _ | mL1
  · exact absurd h (by simp [m_spec_FindStore_L1])
  simp only [m_spec_FindStore_L1] at h
  refine sq (sq (rn ?_))
  refine an ?_
  rcases bcas (decide (v5 < (List.length p0.Stores : Int))) with b6 | b6
  · replace h := ite_f b6 h
    refine cf (xt (aft_cx (aft_ix (aft_x (an (sq (rn ?_)))))))
    refine an (rt ?_)
    cases h
    simp [Ret, TB, EN, *]
  replace h := ite_t b6 h
  refine ct (sk (an (sq (bk (sq ?_)))))
  obtain ⟨x7, h8, h⟩ := bind_some h
  obtain ⟨q9, q10, q11⟩ := idx_some h8
  refine rn ?_
  refine an ?_
  rcases bcase (x7.Name.toList == p1.toList) with b12 | b12
  · replace h := ite_t b12 h
    refine ct (sq (rn ?_))
    refine an (rt ?_)
    cases h
    simp [Ret, TB, EN, *]
  replace h := ite_f b12 h
  refine cf (sk (ab (an (rn ?_))))
  refine aft_i ⟨mL1, by omega, (IntKind.i64.wrap (v5 + 1)), ?_, ?_, ?_, ?_, h⟩
  all_goals simp +decide only [F, reduceIte, Nat.reduceAdd, Bool.not_true, Bool.not_false, EN, *, -h]

set_option maxRecDepth 20000 in
set_option maxHeartbeats 4000000 in
theorem c_spec_GetField (p0 : M.Record) (p1 : ByteArray) (r : (Int × Bool)) (h : m_spec_GetField p0 p1 = some r) : SCalls Tryz.prog 134 [(true, M.Record.en p0), (false, [.str p1])] [(false, [.ro (.int .i64 r.1)]), (false, [.ro (.bool r.2)])] := by
  unfold m_spec_GetField at h
  simp only [M.Record.en]
  refine scalls_n (N := 28) (vars := [.tmp 4, .tmp 5]) Tryz.func134 rfl rfl rfl (by decide +kernel) (Nat.le_of_ble_eq_true rfl) fun base wd => ?_
  refine sq (rn ?_)
  refine an (sq (sq (rn ?_)))
  refine an (bk ?_)
  refine SW_loop (fun m s => ∃ v6 : Int, s.t 1 = .v false [.dat (.str p1)] ∧ s.t 2 = .v false [.bp 2 1 0] ∧ s.t 6 = .v false [.dat (.int .i64 v6)] ∧ s.h 2 = (1, .box 225 [.dat (.sl (List.map M.Field.en p0.Fields))]) ∧ m_spec_GetField_L1 p0 p1 m v6 = some r) fuel ?_ ?_
  · refine ⟨0, ?_, ?_, ?_, ?_, h⟩
    all_goals simp +decide only [F, reduceIte, Nat.reduceAdd, Bool.not_true, Bool.not_false, EN, *, -h]
  rintro mL1 s1 ⟨v6, f2, f3, f4, f5, h⟩
  rcases mL1 with _ | mL1
  · exact absurd h (by simp [m_spec_GetField_L1])
  simp only [m_spec_GetField_L1] at h
  refine sq (sq (rn ?_))
  refine an ?_
  rcases bcas (decide (v6 < (List.length p0.Fields : Int))) with b6 | b6
  · replace h := ite_f b6 h
    refine cf (xt (aft_cx (aft_ix (aft_x (an (sq (rn ?_)))))))
    refine an (rt ?_)
    cases h
    simp [Ret, TB, EN, *]
  replace h := ite_t b6 h
  refine ct (sk (an (sq (bk (sq ?_)))))
  obtain ⟨x7, h8, h⟩ := bind_some h
  obtain ⟨q9, q10, q11⟩ := idx_some h8
  refine rn ?_
  refine an ?_
  rcases bcase (x7.Name.toList == p1.toList) with b12 | b12
  · replace h := ite_t b12 h
    refine ct (sq (rn ?_))
    refine an (rt ?_)
    cases h
    simp [Ret, TB, EN, *]
  replace h := ite_f b12 h
  refine cf (sk (ab (an (rn ?_))))
  refine aft_i ⟨mL1, by omega, (IntKind.i64.wrap (v6 + 1)), ?_, ?_, ?_, ?_, h⟩
  all_goals simp +decide only [F, reduceIte, Nat.reduceAdd, Bool.not_true, Bool.not_false, EN, *, -h]

set_option maxRecDepth 20000 in
set_option maxHeartbeats 4000000 in
theorem c_spec_l7Less (p0 : M.Item) (p1 : M.Item) (p2 : ByteArray) (r : Bool) (h : m_spec_l7Less p0 p1 p2 = some r) : SCalls Tryz.prog 394 [(true, M.Item.en p0), (true, M.Item.en p1), (false, [.str p2])] [(false, [.ro (.bool r)])] := by
  unfold m_spec_l7Less at h
  simp only [M.Item.en]
  refine scalls_n (N := 41) (vars := [.tmp 6]) Tryz.func394 rfl rfl rfl (by decide +kernel) (Nat.le_of_ble_eq_true rfl) fun base wd => ?_
  refine sq (rn ?_)
  refine an (sq ?_)
  obtain ⟨x1, h2, h⟩ := bind_some h
  refine rn1 (c_spec_GetField _ _ _ h2) ?_
  refine an (sq ?_)
  obtain ⟨x3, h4, h⟩ := bind_some h
  refine rn1 (c_spec_GetField _ _ _ h4) ?_
  refine an (sq ?_)
  rcases bcase (decide (x1.1 < x3.1)) with b5 | b5
  · replace h := ite_t b5 h
    refine rn ?_
    refine an (rt ?_)
    cases h
    simp [Ret, TB, EN, *]
  replace h := ite_f b5 h
  rcases bcas (x1.1 == x3.1) with b6 | b6
  · replace h := ite_f b6 h
    refine rn ?_
    refine an (rt ?_)
    cases h
    simp [Ret, TB, EN, *]
  replace h := ite_t b6 h
  obtain ⟨x7, h8, h⟩ := bind_some h
  refine rn1 (c_spec_CompareKeys _ _ _ h8) ?_
  refine an (rt ?_)
  cases h
  simp [Ret, TB, EN, *]

set_option maxRecDepth 20000 in
set_option maxHeartbeats 4000000 in
theorem c_spec_l5Copy (p0 : M.Record) (r : M.Record) (h : m_spec_l5Copy p0 = some r) : SCalls Tryz.prog 232 [(true, M.Record.en p0)] [(true, [.own 317 2 (List.map M.Field.en r.Fields)])] := by
  unfold m_spec_l5Copy at h
  simp only [M.Record.en]
  refine scalls_n (N := 8) (vars := [.cell 2 225]) Tryz.func232 rfl rfl rfl (by decide +kernel) (Nat.le_of_ble_eq_true rfl) fun base wd => ?_
  refine sq (rn ?_)
  refine an (sq ?_)
  obtain ⟨x1, h2, h⟩ := bind_some h
  refine rn1 h2 ?_
  refine an (rt ?_)
  cases h
  simp [Ret, TB, EN, *]

set_option maxRecDepth 20000 in
set_option maxHeartbeats 4000000 in
theorem c_spec_l6Item (p0 : M.Item) (r : M.Item) (h : m_spec_l6Item p0 = some r) : SCalls Tryz.prog 296 [(true, M.Item.en p0)] [(true, [.ro (.int .i64 r.Key.Kind), .ro (.int .i64 r.Key.N), .ro (.str r.Key.Text), .own 317 2 (List.map M.Field.en r.Record.Fields)])] := by
  unfold m_spec_l6Item at h
  simp only [M.Item.en]
  refine scalls_n (N := 9) (vars := [.cell 2 315]) Tryz.func296 rfl rfl rfl (by decide +kernel) (Nat.le_of_ble_eq_true rfl) fun base wd => ?_
  refine sq (rn ?_)
  refine an (sq ?_)
  obtain ⟨x1, h2, h⟩ := bind_some h
  refine rd1 mixed (c_spec_l5Copy _ _ h2) ?_
  refine an (rt ?_)
  cases h
  simp [Ret, TB, EN, *]

set_option maxRecDepth 20000 in
set_option maxHeartbeats 4000000 in
theorem c_spec_IndexOn (p0 : M.Store) (p1 : ByteArray) (r : (List M.Item)) (h : m_spec_IndexOn p0 p1 = some r) : SCalls Tryz.prog 335 [(true, M.Store.en p0), (false, [.str p1])] [(false, [.own 315 4 (List.map M.Item.en r)])] := by
  unfold m_spec_IndexOn at h
  simp only [M.Store.en]
  refine scalls_n (N := 72) (vars := [.tmp 4]) Tryz.func335 rfl rfl rfl (by decide +kernel) (Nat.le_of_ble_eq_true rfl) fun base wd => ?_
  refine sq (rn ?_)
  refine an (sq (rn ?_))
  refine an (sq (sq ?_))
  refine cu (fun s => s.t 1 = .v false [.dat (.str p1)] ∧ s.t 2 = .v false [.bp 2 1 0] ∧ s.t 5 = .v false [.row 100011 1] ∧ s.h 2 = (1, .box 36 [.dat (.str p0.Name), .dat (.sl (List.map M.Item.en p0.Items)), .dat (.int .i64 p0.Auto)]) ∧ s.h 100011 = (1, .row 315 4 (List.map M.Item.en ([] : List M.Item)) true) ∧ True) ?_
  rintro s1 ⟨f2, f3, f4, f5, f6, _⟩
  refine rn ?_
  refine an (bk ?_)
  refine SW_gho ((Gho.ren_t (i := 5) (K := 7050000) (j := 100011) (by simp +decide only [F, reduceIte, Nat.reduceAdd, Bool.not_true, Bool.not_false, EN, *, -h]; rfl) (by simp +decide only [F, reduceIte, Nat.reduceAdd, Bool.not_true, Bool.not_false, EN, *, -h]; rfl))) ?_
  refine SW_loopG (fun m s => ∃ v6 : Int, ∃ r50000 : List M.Item, ∃ u50000 : Nat, s.t 1 = .v false [.dat (.str p1)] ∧ s.t 2 = .v false [.bp 2 1 0] ∧ s.t 5 = .v false [.row 7050000 u50000] ∧ s.t 6 = .v false [.dat (.int .i64 v6)] ∧ s.h 2 = (1, .box 36 [.dat (.str p0.Name), .dat (.sl (List.map M.Item.en p0.Items)), .dat (.int .i64 p0.Auto)]) ∧ s.h 7050000 = (u50000, .row 315 4 (List.map M.Item.en r50000) true) ∧ m_spec_IndexOn_L1 p0 p1 m v6 r50000 = some r) fuel ?_ ?_
  · refine ⟨0, ([] : List M.Item), ((s1.h 7050000).1 + 1), ?_, ?_, ?_, ?_, ?_, ?_, h⟩
    all_goals simp +decide only [F, reduceIte, Nat.reduceAdd, Bool.not_true, Bool.not_false, EN, *, -h]
  rintro mL1 s7 ⟨v6, r50000, u50000, f8, f9, f10, f11, f12, f13, h⟩
  rcases mL1 with _ | mL1
  · exact absurd h (by simp [m_spec_IndexOn_L1])
  simp only [m_spec_IndexOn_L1] at h
  refine sq (sq (rn ?_))
  refine an ?_
  rcases bcas (decide (v6 < (List.length p0.Items : Int))) with b14 | b14
  · replace h := ite_f b14 h
    refine cf (xt (aft_cx (aft_ix (aft_x (an (sq (rn ?_)))))))
    refine an (rt ?_)
    cases h
    simp [Ret, TB, EN, *]
  replace h := ite_t b14 h
  refine ct (sk (an (sq (bk (sq (sq ?_))))))
  obtain ⟨x15, h16, h⟩ := bind_some h
  obtain ⟨q17, q18, q19⟩ := idx_some h16
  obtain ⟨x20, h21, h⟩ := bind_some h
  refine rn1 (c_spec_GetField _ _ _ h21) ?_
  refine an (sq (rn ?_))
  refine an ?_
  rcases bcase (!x20.2) with b22 | b22
  · replace h := ite_t b22 h
    refine ct (xt (aft_cx (aft_x (an (rn ?_)))))
    refine aft_i ⟨_, (Gho.ren_t (i := 5) (K := 7050000) (j := 7050000) (by simp +decide only [F, reduceIte, Nat.reduceAdd, Bool.not_true, Bool.not_false, EN, *, -h]; rfl) (by simp +decide only [F, reduceIte, Nat.reduceAdd, Bool.not_true, Bool.not_false, EN, *, -h]; rfl)), mL1, by omega, (IntKind.i64.wrap (v6 + 1)), r50000, (u50000 + 1), ?_, ?_, ?_, ?_, ?_, ?_, h⟩
    all_goals simp +decide only [F, reduceIte, Nat.reduceAdd, Bool.not_true, Bool.not_false, EN, *, -h]
  replace h := ite_f b22 h
  refine cf (sk (an (sq (rn ?_))))
  refine an (sq (bk ?_))
  obtain ⟨k24, e25, h⟩ := absk (f := fun kk => m_spec_IndexOn_L2 p1 r50000 x15 kk fuel (List.length r50000 : Int)) h
  refine SW_loop (fun m s => ∃ v9_L2 : Int, s.t 1 = .v false [.dat (.str p1)] ∧ s.t 2 = .v false [.bp 2 1 0] ∧ s.t 5 = .v false [.row 7050000 u50000] ∧ s.t 6 = .v false [.dat (.int .i64 v6)] ∧ s.t 9 = .v false [.dat (.int .i64 v9_L2)] ∧ s.h 2 = (1, .box 36 [.dat (.str p0.Name), .dat (.sl (List.map M.Item.en p0.Items)), .dat (.int .i64 p0.Auto)]) ∧ s.h 7050000 = (u50000, .row 315 4 (List.map M.Item.en r50000) true) ∧ m_spec_IndexOn_L2 p1 r50000 x15 k24 m v9_L2 = some r) fuel ?_ ?_
  · refine ⟨(List.length r50000 : Int), ?_, ?_, ?_, ?_, ?_, ?_, ?_, h⟩
    all_goals simp +decide only [F, reduceIte, Nat.reduceAdd, Bool.not_true, Bool.not_false, EN, *, -h]
  rintro mL2 s23 ⟨v9_L2, f26, f27, f28, f29, f30, f31, f32, h⟩
  rcases mL2 with _ | mL2
  · exact absurd h (by simp [m_spec_IndexOn_L2])
  simp only [m_spec_IndexOn_L2] at h
  refine sq (sq ?_)
  rcases bcas (decide (v9_L2 > 0)) with b33 | b33
  · replace h := ite_f b33 h
    refine rd mixed ?_
    refine an (cf (xt (aft_cx ?_)))
    subst e25
    refine aft_ix (aft_x (an (sq ?_)))
    obtain ⟨x79, h80, h⟩ := bind_some h
    obtain ⟨x81, h82, h⟩ := bind_some h
    apply SW_run
    · simp +decide only [E, reduceIte, Nat.reduceAdd, Nat.reduceMul, Bool.not_true, Bool.not_false, ← List.map_take, ← List.map_drop, L, ti34, ti315, M.Item.en, b14, q17, q18, q19, b22, f26, f27, f28, f29, f30, f31, f32, b33]
      refine ⟨by first | exact slcHi_p h80 | exact (slcHi_p h80).2 | exact (slcHi_p h80).2.2, ?_⟩
      try simp +decide only [E, reduceIte, Nat.reduceAdd, Nat.reduceMul, Bool.not_true, Bool.not_false, ← List.map_take, ← List.map_drop, L, ti34, ti315, M.Item.en, b14, q17, q18, q19, b22, f26, f27, f28, f29, f30, f31, f32, b33]
      refine ⟨by (have hb := app_some h82); simp [M.Item.en, List.length_append, strBytes_len, ← List.map_take, ← List.map_drop, -List.map_take, -List.map_drop] at hb ⊢ <;> omega, ?_⟩
      try simp +decide only [E, reduceIte, Nat.reduceAdd, Nat.reduceMul, Bool.not_true, Bool.not_false, ← List.map_take, ← List.map_drop, L, ti34, ti315, M.Item.en, b14, q17, q18, q19, b22, f26, f27, f28, f29, f30, f31, f32, b33]
      exact Is.mk _
    refine an (sq ?_)
    refine cu (fun s => s.t 1 = .v false [.dat (.str p1)] ∧ s.t 2 = .v false [.bp 2 1 0] ∧ s.t 5 = .v false [.row 7050000 u50000] ∧ s.t 6 = .v false [.dat (.int .i64 v6)] ∧ s.t 9 = .v false [.dat (.int .i64 v9_L2)] ∧ s.t 10 = .v false [.row 100052 (((s23.h 100052).1 + 1) + 1)] ∧ s.h 2 = (1, .box 36 [.dat (.str p0.Name), .dat (.sl (List.map M.Item.en p0.Items)), .dat (.int .i64 p0.Auto)]) ∧ s.h 100052 = ((((s23.h 100052).1 + 1) + 1), .row 315 4 (List.map M.Item.en (List.take v9_L2.toNat r50000)) true) ∧ s.h 7050000 = (u50000, .row 315 4 (opqTo 4 0 v9_L2.toNat (List.map M.Item.en r50000)) true) ∧ True) ?_
    rintro s83 ⟨f84, f85, f86, f87, f88, f89, f90, f91, f92, _⟩
    obtain ⟨x93, h94, h⟩ := bind_some h
    obtain ⟨x95, h96, h⟩ := bind_some h
    refine rn2 (c_spec_l6Item _ _ h94) h96 ?_
    refine an ?_
    refine cu (fun s => s.t 1 = .v false [.dat (.str p1)] ∧ s.t 2 = .v false [.bp 2 1 0] ∧ s.t 5 = .v false [.row 7050000 u50000] ∧ s.t 6 = .v false [.dat (.int .i64 v6)] ∧ s.t 9 = .v false [.dat (.int .i64 v9_L2)] ∧ s.t 10 = .v false [.row 100052 ((((s23.h 100052).1 + 1) + 1) + 1)] ∧ s.h 2 = (1, .box 36 [.dat (.str p0.Name), .dat (.sl (List.map M.Item.en p0.Items)), .dat (.int .i64 p0.Auto)]) ∧ s.h 100052 = (((((s23.h 100052).1 + 1) + 1) + 1), .row 315 4 (List.map M.Item.en ((List.take v9_L2.toNat r50000) ++ [x93])) true) ∧ s.h 7050000 = (u50000, .row 315 4 (opqTo 4 0 v9_L2.toNat (List.map M.Item.en r50000)) true) ∧ True) ?_
    rintro s97 ⟨f98, f99, f100, f101, f102, f103, f104, f105, f106, _⟩
    obtain ⟨x107, h108, h⟩ := bind_some h
    apply SW_run
    · simp +decide only [E, reduceIte, Nat.reduceAdd, Nat.reduceMul, Bool.not_true, Bool.not_false, ← List.map_take, ← List.map_drop, L, ti34, ti315, M.Item.en, b14, q17, q18, q19, b22, b33, f98, f99, f100, f101, f102, f103, f104, f105, f106]
      refine ⟨by first | exact opq_ge (slcHi_p h80).1 | exact (opq_ge (slcHi_p h80).1).2 | exact (opq_ge (slcHi_p h80).1).2.2, ?_⟩
      try simp +decide only [E, reduceIte, Nat.reduceAdd, Nat.reduceMul, Bool.not_true, Bool.not_false, ← List.map_take, ← List.map_drop, L, ti34, ti315, M.Item.en, b14, q17, q18, q19, b22, b33, f98, f99, f100, f101, f102, f103, f104, f105, f106]
      refine ⟨by (have hb := app_some h108); simp [M.Item.en, List.length_append, strBytes_len, ← List.map_take, ← List.map_drop, -List.map_take, -List.map_drop] at hb ⊢ <;> omega, ?_⟩
      try simp +decide only [E, reduceIte, Nat.reduceAdd, Nat.reduceMul, Bool.not_true, Bool.not_false, ← List.map_take, ← List.map_drop, L, ti34, ti315, M.Item.en, b14, q17, q18, q19, b22, b33, f98, f99, f100, f101, f102, f103, f104, f105, f106]
      exact Is.mk _
    refine ab (an ?_)
    refine cu (fun s => s.t 1 = .v false [.dat (.str p1)] ∧ s.t 2 = .v false [.bp 2 1 0] ∧ s.t 5 = .v false [.row 100052 (((((s23.h 100052).1 + 1) + 1) + 1) + 1)] ∧ s.t 6 = .v false [.dat (.int .i64 v6)] ∧ s.h 2 = (1, .box 36 [.dat (.str p0.Name), .dat (.sl (List.map M.Item.en p0.Items)), .dat (.int .i64 p0.Auto)]) ∧ s.h 100052 = ((((((s23.h 100052).1 + 1) + 1) + 1) + 1), .row 315 4 (List.map M.Item.en (((List.take v9_L2.toNat r50000) ++ [x93]) ++ (List.drop v9_L2.toNat r50000))) true) ∧ True) ?_
    rintro s109 ⟨f110, f111, f112, f113, f114, f115, _⟩
    refine rn ?_
    refine aft_i ⟨_, (Gho.ren_t (i := 5) (K := 7050000) (j := 100052) (by simp +decide only [F, reduceIte, Nat.reduceAdd, Bool.not_true, Bool.not_false, EN, *, -h]; rfl) (by simp +decide only [F, reduceIte, Nat.reduceAdd, Bool.not_true, Bool.not_false, EN, *, -h]; rfl)), mL1, by omega, (IntKind.i64.wrap (v6 + 1)), (((List.take v9_L2.toNat r50000) ++ [x93]) ++ (List.drop v9_L2.toNat r50000)), ((s109.h 7050000).1 + 1), ?_, ?_, ?_, ?_, ?_, ?_, h⟩
    all_goals simp +decide only [F, reduceIte, Nat.reduceAdd, Bool.not_true, Bool.not_false, EN, *, -h]
  replace h := ite_t b33 h
  obtain ⟨x34, h35, h⟩ := bind_some h
  obtain ⟨q36, q37, q38⟩ := idx_some h35
  obtain ⟨x39, h40, h⟩ := bind_some h
  refine rd1 mixed (c_spec_l7Less _ _ _ _ h40) ?_
  refine an ?_
  rcases bcase x39 with b41 | b41
  · replace h := ite_t b41 h
    refine ct (sk (an (bk (rn ?_))))
    refine ab ?_
    refine aft_i ⟨mL2, by omega, (IntKind.i64.wrap (v9_L2 - 1)), ?_, ?_, ?_, ?_, ?_, ?_, ?_, h⟩
    all_goals simp +decide only [F, reduceIte, Nat.reduceAdd, Bool.not_true, Bool.not_false, EN, *, -h]
  replace h := ite_f b41 h
  refine cf (xt (aft_cx ?_))
  subst e25
  refine aft_ix (aft_x (an (sq ?_)))
  obtain ⟨x42, h43, h⟩ := bind_some h
  obtain ⟨x44, h45, h⟩ := bind_some h
  apply SW_run
  · simp +decide only [E, reduceIte, Nat.reduceAdd, Nat.reduceMul, Bool.not_true, Bool.not_false, ← List.map_take, ← List.map_drop, L, ti34, ti315, M.Item.en, b14, q17, q18, q19, b22, f26, f27, f28, f29, f30, f31, f32, b33, q36, q37, q38, b41]
    refine ⟨by first | exact slcHi_p h43 | exact (slcHi_p h43).2 | exact (slcHi_p h43).2.2, ?_⟩
    try simp +decide only [E, reduceIte, Nat.reduceAdd, Nat.reduceMul, Bool.not_true, Bool.not_false, ← List.map_take, ← List.map_drop, L, ti34, ti315, M.Item.en, b14, q17, q18, q19, b22, f26, f27, f28, f29, f30, f31, f32, b33, q36, q37, q38, b41]
    refine ⟨by (have hb := app_some h45); simp [M.Item.en, List.length_append, strBytes_len, ← List.map_take, ← List.map_drop, -List.map_take, -List.map_drop] at hb ⊢ <;> omega, ?_⟩
    try simp +decide only [E, reduceIte, Nat.reduceAdd, Nat.reduceMul, Bool.not_true, Bool.not_false, ← List.map_take, ← List.map_drop, L, ti34, ti315, M.Item.en, b14, q17, q18, q19, b22, f26, f27, f28, f29, f30, f31, f32, b33, q36, q37, q38, b41]
    exact Is.mk _
  refine an (sq ?_)
  refine cu (fun s => s.t 1 = .v false [.dat (.str p1)] ∧ s.t 2 = .v false [.bp 2 1 0] ∧ s.t 5 = .v false [.row 7050000 u50000] ∧ s.t 6 = .v false [.dat (.int .i64 v6)] ∧ s.t 9 = .v false [.dat (.int .i64 v9_L2)] ∧ s.t 10 = .v false [.row 100052 (((s23.h 100052).1 + 1) + 1)] ∧ s.h 2 = (1, .box 36 [.dat (.str p0.Name), .dat (.sl (List.map M.Item.en p0.Items)), .dat (.int .i64 p0.Auto)]) ∧ s.h 100052 = ((((s23.h 100052).1 + 1) + 1), .row 315 4 (List.map M.Item.en (List.take v9_L2.toNat r50000)) true) ∧ s.h 7050000 = (u50000, .row 315 4 (opqTo 4 0 v9_L2.toNat (List.map M.Item.en r50000)) true) ∧ True) ?_
  rintro s46 ⟨f47, f48, f49, f50, f51, f52, f53, f54, f55, _⟩
  obtain ⟨x56, h57, h⟩ := bind_some h
  obtain ⟨x58, h59, h⟩ := bind_some h
  refine rn2 (c_spec_l6Item _ _ h57) h59 ?_
  refine an ?_
  refine cu (fun s => s.t 1 = .v false [.dat (.str p1)] ∧ s.t 2 = .v false [.bp 2 1 0] ∧ s.t 5 = .v false [.row 7050000 u50000] ∧ s.t 6 = .v false [.dat (.int .i64 v6)] ∧ s.t 9 = .v false [.dat (.int .i64 v9_L2)] ∧ s.t 10 = .v false [.row 100052 ((((s23.h 100052).1 + 1) + 1) + 1)] ∧ s.h 2 = (1, .box 36 [.dat (.str p0.Name), .dat (.sl (List.map M.Item.en p0.Items)), .dat (.int .i64 p0.Auto)]) ∧ s.h 100052 = (((((s23.h 100052).1 + 1) + 1) + 1), .row 315 4 (List.map M.Item.en ((List.take v9_L2.toNat r50000) ++ [x56])) true) ∧ s.h 7050000 = (u50000, .row 315 4 (opqTo 4 0 v9_L2.toNat (List.map M.Item.en r50000)) true) ∧ True) ?_
  rintro s60 ⟨f61, f62, f63, f64, f65, f66, f67, f68, f69, _⟩
  obtain ⟨x70, h71, h⟩ := bind_some h
  apply SW_run
  · simp +decide only [E, reduceIte, Nat.reduceAdd, Nat.reduceMul, Bool.not_true, Bool.not_false, ← List.map_take, ← List.map_drop, L, ti34, ti315, M.Item.en, b14, q17, q18, q19, b22, b33, q36, q37, q38, b41, f61, f62, f63, f64, f65, f66, f67, f68, f69]
    refine ⟨by first | exact opq_ge (slcHi_p h43).1 | exact (opq_ge (slcHi_p h43).1).2 | exact (opq_ge (slcHi_p h43).1).2.2, ?_⟩
    try simp +decide only [E, reduceIte, Nat.reduceAdd, Nat.reduceMul, Bool.not_true, Bool.not_false, ← List.map_take, ← List.map_drop, L, ti34, ti315, M.Item.en, b14, q17, q18, q19, b22, b33, q36, q37, q38, b41, f61, f62, f63, f64, f65, f66, f67, f68, f69]
    refine ⟨by (have hb := app_some h71); simp [M.Item.en, List.length_append, strBytes_len, ← List.map_take, ← List.map_drop, -List.map_take, -List.map_drop] at hb ⊢ <;> omega, ?_⟩
    try simp +decide only [E, reduceIte, Nat.reduceAdd, Nat.reduceMul, Bool.not_true, Bool.not_false, ← List.map_take, ← List.map_drop, L, ti34, ti315, M.Item.en, b14, q17, q18, q19, b22, b33, q36, q37, q38, b41, f61, f62, f63, f64, f65, f66, f67, f68, f69]
    exact Is.mk _
  refine ab (an ?_)
  refine cu (fun s => s.t 1 = .v false [.dat (.str p1)] ∧ s.t 2 = .v false [.bp 2 1 0] ∧ s.t 5 = .v false [.row 100052 (((((s23.h 100052).1 + 1) + 1) + 1) + 1)] ∧ s.t 6 = .v false [.dat (.int .i64 v6)] ∧ s.h 2 = (1, .box 36 [.dat (.str p0.Name), .dat (.sl (List.map M.Item.en p0.Items)), .dat (.int .i64 p0.Auto)]) ∧ s.h 100052 = ((((((s23.h 100052).1 + 1) + 1) + 1) + 1), .row 315 4 (List.map M.Item.en (((List.take v9_L2.toNat r50000) ++ [x56]) ++ (List.drop v9_L2.toNat r50000))) true) ∧ True) ?_
  rintro s72 ⟨f73, f74, f75, f76, f77, f78, _⟩
  refine rn ?_
  refine aft_i ⟨_, (Gho.ren_t (i := 5) (K := 7050000) (j := 100052) (by simp +decide only [F, reduceIte, Nat.reduceAdd, Bool.not_true, Bool.not_false, EN, *, -h]; rfl) (by simp +decide only [F, reduceIte, Nat.reduceAdd, Bool.not_true, Bool.not_false, EN, *, -h]; rfl)), mL1, by omega, (IntKind.i64.wrap (v6 + 1)), (((List.take v9_L2.toNat r50000) ++ [x56]) ++ (List.drop v9_L2.toNat r50000)), ((s72.h 7050000).1 + 1), ?_, ?_, ?_, ?_, ?_, ?_, h⟩
  all_goals simp +decide only [F, reduceIte, Nat.reduceAdd, Bool.not_true, Bool.not_false, EN, *, -h]

set_option maxRecDepth 20000 in
set_option maxHeartbeats 4000000 in
theorem c_spec_UniqueFault (p0 : M.Store) (p1 : ByteArray) (r : (M.Key × M.Key × Bool)) (h : m_spec_UniqueFault p0 p1 = some r) : SCalls Tryz.prog 250 [(true, M.Store.en p0), (false, [.str p1])] [(true, [.ro (.int .i64 r.1.Kind), .ro (.int .i64 r.1.N), .ro (.str r.1.Text)]), (true, [.ro (.int .i64 r.2.1.Kind), .ro (.int .i64 r.2.1.N), .ro (.str r.2.1.Text)]), (false, [.ro (.bool r.2.2)])] := by
  unfold m_spec_UniqueFault at h
  simp only [M.Store.en]
  refine scalls_n (N := 59) (vars := [.cell 4 259, .cell 5 259, .tmp 6]) Tryz.func250 rfl rfl rfl (by decide +kernel) (Nat.le_of_ble_eq_true rfl) fun base wd => ?_
  refine sq (rn ?_)
  refine an (sq ?_)
  obtain ⟨x1, h2, h⟩ := bind_some h
  refine rn1 (c_spec_IndexOn _ _ _ h2) ?_
  refine an (sq (sq (rn ?_)))
  refine an (bk ?_)
  refine SW_loop (fun m s => ∃ v8 : Int, s.t 1 = .v false [.dat (.str p1)] ∧ s.t 4 = .v false [.bp 4 1 0] ∧ s.t 5 = .v false [.bp 5 1 0] ∧ s.t 7 = .v false [.row 100015 1] ∧ s.t 8 = .v false [.dat (.int .i64 v8)] ∧ s.h 4 = (1, .box 259 [.dat (.int .i64 0), .dat (.int .i64 0), .dat (.str (⟨#[]⟩ : ByteArray))]) ∧ s.h 5 = (1, .box 259 [.dat (.int .i64 0), .dat (.int .i64 0), .dat (.str (⟨#[]⟩ : ByteArray))]) ∧ s.h 100015 = (1, .row 315 4 (List.map M.Item.en x1) true) ∧ m_spec_UniqueFault_L1 p1 x1 m v8 = some r) fuel ?_ ?_
  · refine ⟨1, ?_, ?_, ?_, ?_, ?_, ?_, ?_, ?_, h⟩
    all_goals simp +decide only [F, reduceIte, Nat.reduceAdd, Bool.not_true, Bool.not_false, EN, *, -h]
  rintro mL1 s3 ⟨v8, f4, f5, f6, f7, f8, f9, f10, f11, h⟩
  rcases mL1 with _ | mL1
  · exact absurd h (by simp [m_spec_UniqueFault_L1])
  simp only [m_spec_UniqueFault_L1] at h
  refine sq (sq (rn ?_))
  refine an ?_
  rcases bcas (decide (v8 < (List.length x1 : Int))) with b12 | b12
  · replace h := ite_f b12 h
    refine cf (xt (aft_cx (aft_ix (aft_x (an (sq (rn ?_)))))))
    refine an (rt ?_)
    cases h
    simp [Ret, TB, EN, *]
  replace h := ite_t b12 h
  refine ct (sk (an (sq (bk (sq ?_)))))
  obtain ⟨x13, h14, h⟩ := bind_some h
  obtain ⟨q15, q16, q17⟩ := idx_some h14
  obtain ⟨x18, h19, h⟩ := bind_some h
  refine rn1 (c_spec_GetField _ _ _ h19) ?_
  refine an (sq ?_)
  obtain ⟨x20, h21, h⟩ := bind_some h
  obtain ⟨q22, q23, q24⟩ := idx_some h21
  obtain ⟨x25, h26, h⟩ := bind_some h
  refine rn1 (c_spec_GetField _ _ _ h26) ?_
  refine an (sq (rn ?_))
  refine an ?_
  rcases bcase (x18.1 == x25.1) with b27 | b27
  · replace h := ite_t b27 h
    refine ct (sq (rd mixed ?_))
    refine an (rt ?_)
    cases h
    simp [Ret, TB, EN, *]
  replace h := ite_f b27 h
  refine cf (sk (ab (an (rn ?_))))
  refine aft_i ⟨mL1, by omega, (IntKind.i64.wrap (v8 + 1)), ?_, ?_, ?_, ?_, ?_, ?_, ?_, ?_, h⟩
  all_goals simp +decide only [F, reduceIte, Nat.reduceAdd, Bool.not_true, Bool.not_false, EN, *, -h]

end Go.Proofs.YtgemmnkhddlhpaaGreat.gen
