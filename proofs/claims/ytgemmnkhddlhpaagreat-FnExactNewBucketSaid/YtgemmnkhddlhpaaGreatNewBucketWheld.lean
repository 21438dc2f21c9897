/-
  Helper text: walks: each function's contract out of its model. No conditions beyond those of each contract.
-/
import Derived.Test.YtgemmnkhddlhpaaGreatNewBucketTi
import Derived.Test.YtgemmnkhddlhpaaGreatNewBucketWmark
namespace Go.Proofs.YtgemmnkhddlhpaaGreat.gen
open Go Go.Sh
set_option linter.unusedVariables false
set_option linter.unusedSimpArgs false
set_option maxRecDepth 20000 in
set_option maxHeartbeats 4000000 in
theorem c_laws_heldByteS (p0 : List Int) (p1 : Int) (r : Int) (h : m_laws_heldByteS p0 p1 = some r) : SCalls Tryz.prog 162 [(false, [.sl (List.map enB p0)]), (false, [.int .i64 p1])] [(false, [.ro (.int .i64 r)])] := by
  unfold m_laws_heldByteS at h
  refine scalls_n (N := 22) (vars := [.tmp 4]) Tryz.func162 rfl rfl rfl (by decide +kernel) (Nat.le_of_ble_eq_true rfl) fun base wd => ?_
  refine sq (rn ?_)
  refine an (sq (sq (rn ?_)))
  refine an (bk ?_)
  refine SW_loop (fun m s => ∃ v1 : Int, ∃ v5 : Int, s.t 0 = .v false [.dat (.sl (List.map enB p0))] ∧ s.t 1 = .v false [.dat (.int .i64 v1)] ∧ s.t 5 = .v false [.dat (.int .i64 v5)] ∧ m_laws_heldByteS_L1 p0 m v1 v5 = some r) fuel ?_ ?_
  · refine ⟨p1, 0, ?_, ?_, ?_, h⟩
    all_goals simp +decide only [F, reduceIte, Nat.reduceAdd, Bool.not_true, Bool.not_false, EN, *, -h]
  rintro mL1 s1 ⟨v1, v5, f2, f3, f4, h⟩
  rcases mL1 with _ | mL1
  · exact absurd h (by simp [m_laws_heldByteS_L1])
  simp only [m_laws_heldByteS_L1] at h
  refine sq (sq (rn ?_))
  refine an ?_
  rcases bcas (decide (v5 < (List.length p0 : Int))) with b5 | b5
  · replace h := ite_f b5 h
    refine cf (xt (aft_cx (aft_ix (aft_x (an (sq (rn ?_)))))))
    refine an (rt ?_)
    cases h
    simp [Ret, TB, EN, *]
  replace h := ite_t b5 h
  refine ct (sk (an (sq (bk (sq (sq ?_))))))
  obtain ⟨x6, h7, h⟩ := bind_some h
  obtain ⟨q8, q9, q10⟩ := idx_some h7
  refine rn ?_
  refine an ?_
  rcases bcase (x6 != (IntKind.u8.wrap v1)) with b11 | b11
  · replace h := ite_t b11 h
    refine ct (sq (rn ?_))
    refine an (rt ?_)
    cases h
    simp [Ret, TB, EN, *]
  replace h := ite_f b11 h
  refine cf (sk (an (rn ?_)))
  refine ab (an (rn ?_))
  refine aft_i ⟨mL1, by omega, (IntKind.i64.wrap (v1 + 1)), (IntKind.i64.wrap (v5 + 1)), ?_, ?_, ?_, h⟩
  all_goals simp +decide only [F, reduceIte, Nat.reduceAdd, Bool.not_true, Bool.not_false, EN, *, -h]

set_option maxRecDepth 20000 in
set_option maxHeartbeats 4000000 in
theorem c_laws_heldCachedS (p0 : List M.Cached) (p1 : Int) (r : Int) (h : m_laws_heldCachedS p0 p1 = some r) : SCalls Tryz.prog 264 [(false, [.sl (List.map M.Cached.en p0)]), (false, [.int .i64 p1])] [(false, [.ro (.int .i64 r)])] := by
  unfold m_laws_heldCachedS at h
  refine scalls_n (N := 85) (vars := [.tmp 4]) Tryz.func264 rfl rfl rfl (by decide +kernel) (Nat.le_of_ble_eq_true rfl) fun base wd => ?_
  refine sq (rn ?_)
  refine an (sq (sq (rn ?_)))
  refine an (bk ?_)
  refine SW_loop (fun m s => ∃ v1 : Int, ∃ v5 : Int, s.t 0 = .v false [.dat (.sl (List.map M.Cached.en p0))] ∧ s.t 1 = .v false [.dat (.int .i64 v1)] ∧ s.t 5 = .v false [.dat (.int .i64 v5)] ∧ m_laws_heldCachedS_L1 p0 m v1 v5 = some r) fuel ?_ ?_
  · refine ⟨p1, 0, ?_, ?_, ?_, h⟩
    all_goals simp +decide only [F, reduceIte, Nat.reduceAdd, Bool.not_true, Bool.not_false, EN, *, -h]
  rintro mL1 s1 ⟨v1, v5, f2, f3, f4, h⟩
  rcases mL1 with _ | mL1
  · exact absurd h (by simp [m_laws_heldCachedS_L1])
  simp only [m_laws_heldCachedS_L1] at h
  refine sq (sq (rn ?_))
  refine an ?_
  rcases bcas (decide (v5 < (List.length p0 : Int))) with b5 | b5
  · replace h := ite_f b5 h
    refine cf (xt (aft_cx (aft_ix (aft_x (an (sq (rn ?_)))))))
    refine an (rt ?_)
    cases h
    simp [Ret, TB, EN, *]
  replace h := ite_t b5 h
  refine ct (sk (an (sq (bk (sq (sq ?_))))))
  obtain ⟨x6, h7, h⟩ := bind_some h
  obtain ⟨q8, q9, q10⟩ := idx_some h7
  obtain ⟨x11, h12, h⟩ := bind_some h
  refine rd1 mixed (c_laws_markText _ _ h12) ?_
  refine an ?_
  rcases bcase (!(x6.Site.toList == x11.toList)) with b13 | b13
  · replace h := ite_t b13 h
    refine ct (sq (rn ?_))
    refine an (rt ?_)
    cases h
    simp [Ret, TB, EN, *]
  replace h := ite_f b13 h
  refine cf (sk (an (sq (rn ?_))))
  refine an (sq (sq ?_))
  obtain ⟨x14, h15, h⟩ := bind_some h
  refine rd1 mixed (c_laws_markText _ _ h15) ?_
  refine an ?_
  rcases bcase (!(x6.Path.toList == x14.toList)) with b16 | b16
  · replace h := ite_t b16 h
    refine ct (sq (rn ?_))
    refine an (rt ?_)
    cases h
    simp [Ret, TB, EN, *]
  replace h := ite_f b16 h
  refine cf (sk (an (sq (rn ?_))))
  refine an (sq (sq (rn ?_)))
  refine an ?_
  rcases bcase (x6.Response.Type_ != (IntKind.i64.wrap ((IntKind.i64.wrap (v1 + 1)) + 1))) with b17 | b17
  · replace h := ite_t b17 h
    refine ct (sq (rn ?_))
    refine an (rt ?_)
    cases h
    simp [Ret, TB, EN, *]
  replace h := ite_f b17 h
  refine cf (sk (an (sq (rn ?_))))
  refine an (sq (sq (rn ?_)))
  refine an ?_
  rcases bcase (x6.Response.Status != (IntKind.i64.wrap ((IntKind.i64.wrap ((IntKind.i64.wrap (v1 + 1)) + 1)) + 1))) with b18 | b18
  · replace h := ite_t b18 h
    refine ct (sq (rn ?_))
    refine an (rt ?_)
    cases h
    simp [Ret, TB, EN, *]
  replace h := ite_f b18 h
  refine cf (sk (an (sq (rn ?_))))
  refine an (sq (sq (rn ?_)))
  refine an ?_
  rcases bcase (x6.Response.Version != (IntKind.i64.wrap ((IntKind.i64.wrap ((IntKind.i64.wrap ((IntKind.i64.wrap (v1 + 1)) + 1)) + 1)) + 1))) with b19 | b19
  · replace h := ite_t b19 h
    refine ct (sq (rn ?_))
    refine an (rt ?_)
    cases h
    simp [Ret, TB, EN, *]
  replace h := ite_f b19 h
  refine cf (sk (an (sq (rn ?_))))
  refine an (sq ?_)
  obtain ⟨x20, h21, h⟩ := bind_some h
  refine rn1 (c_laws_heldByteS _ _ _ h21) ?_
  refine an (sq (sq (rn ?_)))
  refine an ?_
  rcases bcase (decide (x20 < 0)) with b22 | b22
  · replace h := ite_t b22 h
    refine ct (sq (rn ?_))
    refine an (rt ?_)
    cases h
    simp [Ret, TB, EN, *]
  replace h := ite_f b22 h
  refine cf (sk (an (sq (sq ?_))))
  refine cu (fun s => s.t 0 = .v false [.dat (.sl (List.map M.Cached.en p0))] ∧ s.t 1 = .v false [.dat (.int .i64 x20)] ∧ s.t 5 = .v false [.dat (.int .i64 v5)] ∧ True) ?_
  rintro s23 ⟨f24, f25, f26, _⟩
  refine rn ?_
  refine an ?_
  rcases bcase (!(x6.Response.Shares == ((Int.tmod x20 3) == 0))) with b27 | b27
  · replace h := ite_t b27 h
    refine ct (sq (rn ?_))
    refine an (rt ?_)
    cases h
    simp [Ret, TB, EN, *]
  replace h := ite_f b27 h
  refine cf (sk (an (rn ?_)))
  refine ab (an (rn ?_))
  refine aft_i ⟨mL1, by omega, (IntKind.i64.wrap (x20 + 1)), (IntKind.i64.wrap (v5 + 1)), ?_, ?_, ?_, h⟩
  all_goals simp +decide only [F, reduceIte, Nat.reduceAdd, Bool.not_true, Bool.not_false, EN, *, -h]

set_option maxRecDepth 20000 in
set_option maxHeartbeats 4000000 in
theorem c_laws_heldCacheS (p0 : List M.Cache) (p1 : Int) (r : Int) (h : m_laws_heldCacheS p0 p1 = some r) : SCalls Tryz.prog 160 [(false, [.sl (List.map M.Cache.en p0)]), (false, [.int .i64 p1])] [(false, [.ro (.int .i64 r)])] := by
  unfold m_laws_heldCacheS at h
  refine scalls_n (N := 31) (vars := [.tmp 4]) Tryz.func160 rfl rfl rfl (by decide +kernel) (Nat.le_of_ble_eq_true rfl) fun base wd => ?_
  refine sq (rn ?_)
  refine an (sq (sq (rn ?_)))
  refine an (bk ?_)
  refine SW_loop (fun m s => ∃ v1 : Int, ∃ v5 : Int, s.t 0 = .v false [.dat (.sl (List.map M.Cache.en p0))] ∧ s.t 1 = .v false [.dat (.int .i64 v1)] ∧ s.t 5 = .v false [.dat (.int .i64 v5)] ∧ m_laws_heldCacheS_L1 p0 m v1 v5 = some r) fuel ?_ ?_
  · refine ⟨p1, 0, ?_, ?_, ?_, h⟩
    all_goals simp +decide only [F, reduceIte, Nat.reduceAdd, Bool.not_true, Bool.not_false, EN, *, -h]
  rintro mL1 s1 ⟨v1, v5, f2, f3, f4, h⟩
  rcases mL1 with _ | mL1
  · exact absurd h (by simp [m_laws_heldCacheS_L1])
  simp only [m_laws_heldCacheS_L1] at h
  refine sq (sq (rn ?_))
  refine an ?_
  rcases bcas (decide (v5 < (List.length p0 : Int))) with b5 | b5
  · replace h := ite_f b5 h
    refine cf (xt (aft_cx (aft_ix (aft_x (an (sq (rn ?_)))))))
    refine an (rt ?_)
    cases h
    simp [Ret, TB, EN, *]
  replace h := ite_t b5 h
  refine ct (sk (an (sq (bk (sq (sq ?_))))))
  obtain ⟨x6, h7, h⟩ := bind_some h
  obtain ⟨q8, q9, q10⟩ := idx_some h7
  refine rn ?_
  refine an ?_
  rcases bcase (x6.Version != v1) with b11 | b11
  · replace h := ite_t b11 h
    refine ct (sq (rn ?_))
    refine an (rt ?_)
    cases h
    simp [Ret, TB, EN, *]
  replace h := ite_f b11 h
  refine cf (sk (an (sq (rn ?_))))
  refine an (sq ?_)
  obtain ⟨x12, h13, h⟩ := bind_some h
  refine rn1 (c_laws_heldCachedS _ _ _ h13) ?_
  refine an (sq (rn ?_))
  refine an ?_
  rcases bcase (decide (x12 < 0)) with b14 | b14
  · replace h := ite_t b14 h
    refine ct (sq (rn ?_))
    refine an (rt ?_)
    cases h
    simp [Ret, TB, EN, *]
  replace h := ite_f b14 h
  refine cf (sk (ab (an (rn ?_))))
  refine aft_i ⟨mL1, by omega, x12, (IntKind.i64.wrap (v5 + 1)), ?_, ?_, ?_, h⟩
  all_goals simp +decide only [F, reduceIte, Nat.reduceAdd, Bool.not_true, Bool.not_false, EN, *, -h]

set_option maxRecDepth 20000 in
set_option maxHeartbeats 4000000 in
theorem c_laws_heldCacheSet (p0 : M.CacheSet) (p1 : Int) (r : Int) (h : m_laws_heldCacheSet p0 p1 = some r) : SCalls Tryz.prog 59 [(true, M.CacheSet.en p0), (false, [.int .i64 p1])] [(false, [.ro (.int .i64 r)])] := by
  unfold m_laws_heldCacheSet at h
  simp only [M.CacheSet.en]
  refine scalls_n (N := 12) (vars := [.tmp 4]) Tryz.func59 rfl rfl rfl (by decide +kernel) (Nat.le_of_ble_eq_true rfl) fun base wd => ?_
  refine sq (rn ?_)
  refine an (sq ?_)
  obtain ⟨x1, h2, h⟩ := bind_some h
  refine rn1 (c_laws_heldCacheS _ _ _ h2) ?_
  refine an (sq (sq (rn ?_)))
  refine an ?_
  rcases bcase (decide (x1 < 0)) with b3 | b3
  · replace h := ite_t b3 h
    refine ct (sq (rn ?_))
    refine an (rt ?_)
    cases h
    simp [Ret, TB, EN, *]
  replace h := ite_f b3 h
  refine cf (sk (an (sq (rn ?_))))
  refine an (rt ?_)
  cases h
  simp [Ret, TB, EN, *]

set_option maxRecDepth 20000 in
set_option maxHeartbeats 4000000 in
theorem c_laws_heldFieldS (p0 : List M.Field) (p1 : Int) (r : Int) (h : m_laws_heldFieldS p0 p1 = some r) : SCalls Tryz.prog 310 [(false, [.sl (List.map M.Field.en p0)]), (false, [.int .i64 p1])] [(false, [.ro (.int .i64 r)])] := by
  unfold m_laws_heldFieldS at h
  refine scalls_n (N := 32) (vars := [.tmp 4]) Tryz.func310 rfl rfl rfl (by decide +kernel) (Nat.le_of_ble_eq_true rfl) fun base wd => ?_
  refine sq (rn ?_)
  refine an (sq (sq (rn ?_)))
  refine an (bk ?_)
  refine SW_loop (fun m s => ∃ v1 : Int, ∃ v5 : Int, s.t 0 = .v false [.dat (.sl (List.map M.Field.en p0))] ∧ s.t 1 = .v false [.dat (.int .i64 v1)] ∧ s.t 5 = .v false [.dat (.int .i64 v5)] ∧ m_laws_heldFieldS_L1 p0 m v1 v5 = some r) fuel ?_ ?_
  · refine ⟨p1, 0, ?_, ?_, ?_, h⟩
    all_goals simp +decide only [F, reduceIte, Nat.reduceAdd, Bool.not_true, Bool.not_false, EN, *, -h]
  rintro mL1 s1 ⟨v1, v5, f2, f3, f4, h⟩
  rcases mL1 with _ | mL1
  · exact absurd h (by simp [m_laws_heldFieldS_L1])
  simp only [m_laws_heldFieldS_L1] at h
  refine sq (sq (rn ?_))
  refine an ?_
  rcases bcas (decide (v5 < (List.length p0 : Int))) with b5 | b5
  · replace h := ite_f b5 h
    refine cf (xt (aft_cx (aft_ix (aft_x (an (sq (rn ?_)))))))
    refine an (rt ?_)
    cases h
    simp [Ret, TB, EN, *]
  replace h := ite_t b5 h
  refine ct (sk (an (sq (bk (sq (sq ?_))))))
  obtain ⟨x6, h7, h⟩ := bind_some h
  obtain ⟨q8, q9, q10⟩ := idx_some h7
  obtain ⟨x11, h12, h⟩ := bind_some h
  refine rd1 mixed (c_laws_markText _ _ h12) ?_
  refine an ?_
  rcases bcase (!(x6.Name.toList == x11.toList)) with b13 | b13
  · replace h := ite_t b13 h
    refine ct (sq (rn ?_))
    refine an (rt ?_)
    cases h
    simp [Ret, TB, EN, *]
  replace h := ite_f b13 h
  refine cf (sk (an (sq (rn ?_))))
  refine an (sq (sq (rn ?_)))
  refine an ?_
  rcases bcase (x6.N != (IntKind.i64.wrap (v1 + 1))) with b14 | b14
  · replace h := ite_t b14 h
    refine ct (sq (rn ?_))
    refine an (rt ?_)
    cases h
    simp [Ret, TB, EN, *]
  replace h := ite_f b14 h
  refine cf (sk (an (rn ?_)))
  refine ab (an (rn ?_))
  refine aft_i ⟨mL1, by omega, (IntKind.i64.wrap ((IntKind.i64.wrap (v1 + 1)) + 1)), (IntKind.i64.wrap (v5 + 1)), ?_, ?_, ?_, h⟩
  all_goals simp +decide only [F, reduceIte, Nat.reduceAdd, Bool.not_true, Bool.not_false, EN, *, -h]

set_option maxRecDepth 20000 in
set_option maxHeartbeats 4000000 in
theorem c_laws_heldItemS (p0 : List M.Item) (p1 : Int) (r : Int) (h : m_laws_heldItemS p0 p1 = some r) : SCalls Tryz.prog 223 [(false, [.sl (List.map M.Item.en p0)]), (false, [.int .i64 p1])] [(false, [.ro (.int .i64 r)])] := by
  unfold m_laws_heldItemS at h
  refine scalls_n (N := 54) (vars := [.tmp 4]) Tryz.func223 rfl rfl rfl (by decide +kernel) (Nat.le_of_ble_eq_true rfl) fun base wd => ?_
  refine sq (rn ?_)
  refine an (sq (sq (rn ?_)))
  refine an (bk ?_)
  refine SW_loop (fun m s => ∃ v1 : Int, ∃ v5 : Int, s.t 0 = .v false [.dat (.sl (List.map M.Item.en p0))] ∧ s.t 1 = .v false [.dat (.int .i64 v1)] ∧ s.t 5 = .v false [.dat (.int .i64 v5)] ∧ m_laws_heldItemS_L1 p0 m v1 v5 = some r) fuel ?_ ?_
  · refine ⟨p1, 0, ?_, ?_, ?_, h⟩
    all_goals simp +decide only [F, reduceIte, Nat.reduceAdd, Bool.not_true, Bool.not_false, EN, *, -h]
  rintro mL1 s1 ⟨v1, v5, f2, f3, f4, h⟩
  rcases mL1 with _ | mL1
  · exact absurd h (by simp [m_laws_heldItemS_L1])
  simp only [m_laws_heldItemS_L1] at h
  refine sq (sq (rn ?_))
  refine an ?_
  rcases bcas (decide (v5 < (List.length p0 : Int))) with b5 | b5
  · replace h := ite_f b5 h
    refine cf (xt (aft_cx (aft_ix (aft_x (an (sq (rn ?_)))))))
    refine an (rt ?_)
    cases h
    simp [Ret, TB, EN, *]
  replace h := ite_t b5 h
  refine ct (sk (an (sq (bk (sq (sq ?_))))))
  obtain ⟨x6, h7, h⟩ := bind_some h
  obtain ⟨q8, q9, q10⟩ := idx_some h7
  refine rn ?_
  refine an ?_
  rcases bcase (x6.Key.Kind != v1) with b11 | b11
  · replace h := ite_t b11 h
    refine ct (sq (rn ?_))
    refine an (rt ?_)
    cases h
    simp [Ret, TB, EN, *]
  replace h := ite_f b11 h
  refine cf (sk (an (sq (rn ?_))))
  refine an (sq (sq (rn ?_)))
  refine an ?_
  rcases bcase (x6.Key.N != (IntKind.i64.wrap (v1 + 1))) with b12 | b12
  · replace h := ite_t b12 h
    refine ct (sq (rn ?_))
    refine an (rt ?_)
    cases h
    simp [Ret, TB, EN, *]
  replace h := ite_f b12 h
  refine cf (sk (an (sq (rn ?_))))
  refine an (sq (sq ?_))
  obtain ⟨x13, h14, h⟩ := bind_some h
  refine rd1 mixed (c_laws_markText _ _ h14) ?_
  refine an ?_
  rcases bcase (!(x6.Key.Text.toList == x13.toList)) with b15 | b15
  · replace h := ite_t b15 h
    refine ct (sq (rn ?_))
    refine an (rt ?_)
    cases h
    simp [Ret, TB, EN, *]
  replace h := ite_f b15 h
  refine cf (sk (an (sq (rn ?_))))
  refine an (sq ?_)
  obtain ⟨x16, h17, h⟩ := bind_some h
  refine rn1 (c_laws_heldFieldS _ _ _ h17) ?_
  refine an (sq (rn ?_))
  refine an ?_
  rcases bcase (decide (x16 < 0)) with b18 | b18
  · replace h := ite_t b18 h
    refine ct (sq (rn ?_))
    refine an (rt ?_)
    cases h
    simp [Ret, TB, EN, *]
  replace h := ite_f b18 h
  refine cf (sk (ab (an (rn ?_))))
  refine aft_i ⟨mL1, by omega, x16, (IntKind.i64.wrap (v5 + 1)), ?_, ?_, ?_, h⟩
  all_goals simp +decide only [F, reduceIte, Nat.reduceAdd, Bool.not_true, Bool.not_false, EN, *, -h]

set_option maxRecDepth 20000 in
set_option maxHeartbeats 4000000 in
theorem c_laws_heldStoreS (p0 : List M.Store) (p1 : Int) (r : Int) (h : m_laws_heldStoreS p0 p1 = some r) : SCalls Tryz.prog 221 [(false, [.sl (List.map M.Store.en p0)]), (false, [.int .i64 p1])] [(false, [.ro (.int .i64 r)])] := by
  unfold m_laws_heldStoreS at h
  refine scalls_n (N := 41) (vars := [.tmp 4]) Tryz.func221 rfl rfl rfl (by decide +kernel) (Nat.le_of_ble_eq_true rfl) fun base wd => ?_
  refine sq (rn ?_)
  refine an (sq (sq (rn ?_)))
  refine an (bk ?_)
  refine SW_loop (fun m s => ∃ v1 : Int, ∃ v5 : Int, s.t 0 = .v false [.dat (.sl (List.map M.Store.en p0))] ∧ s.t 1 = .v false [.dat (.int .i64 v1)] ∧ s.t 5 = .v false [.dat (.int .i64 v5)] ∧ m_laws_heldStoreS_L1 p0 m v1 v5 = some r) fuel ?_ ?_
  · refine ⟨p1, 0, ?_, ?_, ?_, h⟩
    all_goals simp +decide only [F, reduceIte, Nat.reduceAdd, Bool.not_true, Bool.not_false, EN, *, -h]
  rintro mL1 s1 ⟨v1, v5, f2, f3, f4, h⟩
  rcases mL1 with _ | mL1
  · exact absurd h (by simp [m_laws_heldStoreS_L1])
  simp only [m_laws_heldStoreS_L1] at h
  refine sq (sq (rn ?_))
  refine an ?_
  rcases bcas (decide (v5 < (List.length p0 : Int))) with b5 | b5
  · replace h := ite_f b5 h
    refine cf (xt (aft_cx (aft_ix (aft_x (an (sq (rn ?_)))))))
    refine an (rt ?_)
    cases h
    simp [Ret, TB, EN, *]
  replace h := ite_t b5 h
  refine ct (sk (an (sq (bk (sq (sq ?_))))))
  obtain ⟨x6, h7, h⟩ := bind_some h
  obtain ⟨q8, q9, q10⟩ := idx_some h7
  obtain ⟨x11, h12, h⟩ := bind_some h
  refine rd1 mixed (c_laws_markText _ _ h12) ?_
  refine an ?_
  rcases bcase (!(x6.Name.toList == x11.toList)) with b13 | b13
  · replace h := ite_t b13 h
    refine ct (sq (rn ?_))
    refine an (rt ?_)
    cases h
    simp [Ret, TB, EN, *]
  replace h := ite_f b13 h
  refine cf (sk (an (sq (rn ?_))))
  refine an (sq ?_)
  obtain ⟨x14, h15, h⟩ := bind_some h
  refine rn1 (c_laws_heldItemS _ _ _ h15) ?_
  refine an (sq (sq (rn ?_)))
  refine an ?_
  rcases bcase (decide (x14 < 0)) with b16 | b16
  · replace h := ite_t b16 h
    refine ct (sq (rn ?_))
    refine an (rt ?_)
    cases h
    simp [Ret, TB, EN, *]
  replace h := ite_f b16 h
  refine cf (sk (an (sq (sq (rn ?_)))))
  refine an ?_
  rcases bcase (x6.Auto != x14) with b17 | b17
  · replace h := ite_t b17 h
    refine ct (sq (rn ?_))
    refine an (rt ?_)
    cases h
    simp [Ret, TB, EN, *]
  replace h := ite_f b17 h
  refine cf (sk (an (rn ?_)))
  refine ab (an (rn ?_))
  refine aft_i ⟨mL1, by omega, (IntKind.i64.wrap (x14 + 1)), (IntKind.i64.wrap (v5 + 1)), ?_, ?_, ?_, h⟩
  all_goals simp +decide only [F, reduceIte, Nat.reduceAdd, Bool.not_true, Bool.not_false, EN, *, -h]

set_option maxRecDepth 20000 in
set_option maxHeartbeats 4000000 in
theorem c_laws_heldIndexDefS (p0 : List M.IndexDef) (p1 : Int) (r : Int) (h : m_laws_heldIndexDefS p0 p1 = some r) : SCalls Tryz.prog 222 [(false, [.sl (List.map M.IndexDef.en p0)]), (false, [.int .i64 p1])] [(false, [.ro (.int .i64 r)])] := by
  unfold m_laws_heldIndexDefS at h
  refine scalls_n (N := 33) (vars := [.tmp 4]) Tryz.func222 rfl rfl rfl (by decide +kernel) (Nat.le_of_ble_eq_true rfl) fun base wd => ?_
  refine sq (rn ?_)
  refine an (sq (sq (rn ?_)))
  refine an (bk ?_)
  refine SW_loop (fun m s => ∃ v1 : Int, ∃ v5 : Int, s.t 0 = .v false [.dat (.sl (List.map M.IndexDef.en p0))] ∧ s.t 1 = .v false [.dat (.int .i64 v1)] ∧ s.t 5 = .v false [.dat (.int .i64 v5)] ∧ m_laws_heldIndexDefS_L1 p0 m v1 v5 = some r) fuel ?_ ?_
  · refine ⟨p1, 0, ?_, ?_, ?_, h⟩
    all_goals simp +decide only [F, reduceIte, Nat.reduceAdd, Bool.not_true, Bool.not_false, EN, *, -h]
  rintro mL1 s1 ⟨v1, v5, f2, f3, f4, h⟩
  rcases mL1 with _ | mL1
  · exact absurd h (by simp [m_laws_heldIndexDefS_L1])
  simp only [m_laws_heldIndexDefS_L1] at h
  refine sq (sq (rn ?_))
  refine an ?_
  rcases bcas (decide (v5 < (List.length p0 : Int))) with b5 | b5
  · replace h := ite_f b5 h
    refine cf (xt (aft_cx (aft_ix (aft_x (an (sq (rn ?_)))))))
    refine an (rt ?_)
    cases h
    simp [Ret, TB, EN, *]
  replace h := ite_t b5 h
  refine ct (sk (an (sq (bk (sq (sq ?_))))))
  obtain ⟨x6, h7, h⟩ := bind_some h
  obtain ⟨q8, q9, q10⟩ := idx_some h7
  obtain ⟨x11, h12, h⟩ := bind_some h
  refine rd1 mixed (c_laws_markText _ _ h12) ?_
  refine an ?_
  rcases bcase (!(x6.Store.toList == x11.toList)) with b13 | b13
  · replace h := ite_t b13 h
    refine ct (sq (rn ?_))
    refine an (rt ?_)
    cases h
    simp [Ret, TB, EN, *]
  replace h := ite_f b13 h
  refine cf (sk (an (sq (rn ?_))))
  refine an (sq (sq ?_))
  obtain ⟨x14, h15, h⟩ := bind_some h
  refine rd1 mixed (c_laws_markText _ _ h15) ?_
  refine an ?_
  rcases bcase (!(x6.Field.toList == x14.toList)) with b16 | b16
  · replace h := ite_t b16 h
    refine ct (sq (rn ?_))
    refine an (rt ?_)
    cases h
    simp [Ret, TB, EN, *]
  replace h := ite_f b16 h
  refine cf (sk (an (rn ?_)))
  refine ab (an (rn ?_))
  refine aft_i ⟨mL1, by omega, (IntKind.i64.wrap ((IntKind.i64.wrap (v1 + 1)) + 1)), (IntKind.i64.wrap (v5 + 1)), ?_, ?_, ?_, h⟩
  all_goals simp +decide only [F, reduceIte, Nat.reduceAdd, Bool.not_true, Bool.not_false, EN, *, -h]

set_option maxRecDepth 20000 in
set_option maxHeartbeats 4000000 in
theorem c_laws_heldDatabase (p0 : M.Database) (p1 : Int) (r : Int) (h : m_laws_heldDatabase p0 p1 = some r) : SCalls Tryz.prog 161 [(true, M.Database.en p0), (false, [.int .i64 p1])] [(false, [.ro (.int .i64 r)])] := by
  unfold m_laws_heldDatabase at h
  simp only [M.Database.en]
  refine scalls_n (N := 18) (vars := [.tmp 4]) Tryz.func161 rfl rfl rfl (by decide +kernel) (Nat.le_of_ble_eq_true rfl) fun base wd => ?_
  refine sq (rn ?_)
  refine an (sq ?_)
  obtain ⟨x1, h2, h⟩ := bind_some h
  refine rn1 (c_laws_heldStoreS _ _ _ h2) ?_
  refine an (sq (sq (rn ?_)))
  refine an ?_
  rcases bcase (decide (x1 < 0)) with b3 | b3
  · replace h := ite_t b3 h
    refine ct (sq (rn ?_))
    refine an (rt ?_)
    cases h
    simp [Ret, TB, EN, *]
  replace h := ite_f b3 h
  refine cf (sk (an (sq ?_)))
  obtain ⟨x4, h5, h⟩ := bind_some h
  refine rn1 (c_laws_heldIndexDefS _ _ _ h5) ?_
  refine an (sq (sq (rn ?_)))
  refine an ?_
  rcases bcase (decide (x4 < 0)) with b6 | b6
  · replace h := ite_t b6 h
    refine ct (sq (rn ?_))
    refine an (rt ?_)
    cases h
    simp [Ret, TB, EN, *]
  replace h := ite_f b6 h
  refine cf (sk (an (sq (rn ?_))))
  refine an (rt ?_)
  cases h
  simp [Ret, TB, EN, *]

set_option maxRecDepth 20000 in
set_option maxHeartbeats 4000000 in
theorem c_laws_heldDisk (p0 : M.Disk) (p1 : Int) (r : Int) (h : m_laws_heldDisk p0 p1 = some r) : SCalls Tryz.prog 60 [(true, M.Disk.en p0), (false, [.int .i64 p1])] [(false, [.ro (.int .i64 r)])] := by
  unfold m_laws_heldDisk at h
  simp only [M.Disk.en]
  refine scalls_n (N := 18) (vars := [.tmp 4]) Tryz.func60 rfl rfl rfl (by decide +kernel) (Nat.le_of_ble_eq_true rfl) fun base wd => ?_
  refine sq (rn ?_)
  refine an (sq ?_)
  obtain ⟨x1, h2, h⟩ := bind_some h
  refine rn1 (c_laws_heldDatabase _ _ _ h2) ?_
  refine an (sq (sq (rn ?_)))
  refine an ?_
  rcases bcase (decide (x1 < 0)) with b3 | b3
  · replace h := ite_t b3 h
    refine ct (sq (rn ?_))
    refine an (rt ?_)
    cases h
    simp [Ret, TB, EN, *]
  replace h := ite_f b3 h
  refine cf (sk (an (sq ?_)))
  obtain ⟨x4, h5, h⟩ := bind_some h
  refine rn1 (c_laws_heldByteS _ _ _ h5) ?_
  refine an (sq (sq (rn ?_)))
  refine an ?_
  rcases bcase (decide (x4 < 0)) with b6 | b6
  · replace h := ite_t b6 h
    refine ct (sq (rn ?_))
    refine an (rt ?_)
    cases h
    simp [Ret, TB, EN, *]
  replace h := ite_f b6 h
  refine cf (sk (an (sq (rn ?_))))
  refine an (rt ?_)
  cases h
  simp [Ret, TB, EN, *]

set_option maxRecDepth 20000 in
set_option maxHeartbeats 4000000 in
theorem c_laws_heldStore (p0 : M.Store) (p1 : Int) (r : Int) (h : m_laws_heldStore p0 p1 = some r) : SCalls Tryz.prog 163 [(true, M.Store.en p0), (false, [.int .i64 p1])] [(false, [.ro (.int .i64 r)])] := by
  unfold m_laws_heldStore at h
  simp only [M.Store.en]
  refine scalls_n (N := 12) (vars := [.tmp 4]) Tryz.func163 rfl rfl rfl (by decide +kernel) (Nat.le_of_ble_eq_true rfl) fun base wd => ?_
  refine sq (rn ?_)
  refine an (sq ?_)
  obtain ⟨x1, h2, h⟩ := bind_some h
  refine rn1 (c_laws_heldItemS _ _ _ h2) ?_
  refine an (sq (sq (rn ?_)))
  refine an ?_
  rcases bcase (decide (x1 < 0)) with b3 | b3
  · replace h := ite_t b3 h
    refine ct (sq (rn ?_))
    refine an (rt ?_)
    cases h
    simp [Ret, TB, EN, *]
  replace h := ite_f b3 h
  refine cf (sk (an (sq (rn ?_))))
  refine an (rt ?_)
  cases h
  simp [Ret, TB, EN, *]

set_option maxRecDepth 20000 in
set_option maxHeartbeats 4000000 in
theorem c_laws_heldWriteS (p0 : List M.Write) (p1 : Int) (r : Int) (h : m_laws_heldWriteS p0 p1 = some r) : SCalls Tryz.prog 224 [(false, [.sl (List.map M.Write.en p0)]), (false, [.int .i64 p1])] [(false, [.ro (.int .i64 r)])] := by
  unfold m_laws_heldWriteS at h
  refine scalls_n (N := 81) (vars := [.tmp 4]) Tryz.func224 rfl rfl rfl (by decide +kernel) (Nat.le_of_ble_eq_true rfl) fun base wd => ?_
  refine sq (rn ?_)
  refine an (sq (sq (rn ?_)))
  refine an (bk ?_)
  refine SW_loop (fun m s => ∃ v1 : Int, ∃ v5 : Int, s.t 0 = .v false [.dat (.sl (List.map M.Write.en p0))] ∧ s.t 1 = .v false [.dat (.int .i64 v1)] ∧ s.t 5 = .v false [.dat (.int .i64 v5)] ∧ m_laws_heldWriteS_L1 p0 m v1 v5 = some r) fuel ?_ ?_
  · refine ⟨p1, 0, ?_, ?_, ?_, h⟩
    all_goals simp +decide only [F, reduceIte, Nat.reduceAdd, Bool.not_true, Bool.not_false, EN, *, -h]
  rintro mL1 s1 ⟨v1, v5, f2, f3, f4, h⟩
  rcases mL1 with _ | mL1
  · exact absurd h (by simp [m_laws_heldWriteS_L1])
  simp only [m_laws_heldWriteS_L1] at h
  refine sq (sq (rn ?_))
  refine an ?_
  rcases bcas (decide (v5 < (List.length p0 : Int))) with b5 | b5
  · replace h := ite_f b5 h
    refine cf (xt (aft_cx (aft_ix (aft_x (an (sq (rn ?_)))))))
    refine an (rt ?_)
    cases h
    simp [Ret, TB, EN, *]
  replace h := ite_t b5 h
  refine ct (sk (an (sq (bk (sq (sq ?_))))))
  obtain ⟨x6, h7, h⟩ := bind_some h
  obtain ⟨q8, q9, q10⟩ := idx_some h7
  refine rn ?_
  refine an ?_
  rcases bcase (x6.Device != v1) with b11 | b11
  · replace h := ite_t b11 h
    refine ct (sq (rn ?_))
    refine an (rt ?_)
    cases h
    simp [Ret, TB, EN, *]
  replace h := ite_f b11 h
  refine cf (sk (an (sq (rn ?_))))
  refine an (sq (sq (rn ?_)))
  refine an ?_
  rcases bcase (x6.Seq != (IntKind.i64.wrap (v1 + 1))) with b12 | b12
  · replace h := ite_t b12 h
    refine ct (sq (rn ?_))
    refine an (rt ?_)
    cases h
    simp [Ret, TB, EN, *]
  replace h := ite_f b12 h
  refine cf (sk (an (sq (rn ?_))))
  refine an (sq (sq (rn ?_)))
  refine an ?_
  rcases bcase (x6.Key.Kind != (IntKind.i64.wrap ((IntKind.i64.wrap (v1 + 1)) + 1))) with b13 | b13
  · replace h := ite_t b13 h
    refine ct (sq (rn ?_))
    refine an (rt ?_)
    cases h
    simp [Ret, TB, EN, *]
  replace h := ite_f b13 h
  refine cf (sk (an (sq (rn ?_))))
  refine an (sq (sq (rn ?_)))
  refine an ?_
  rcases bcase (x6.Key.N != (IntKind.i64.wrap ((IntKind.i64.wrap ((IntKind.i64.wrap (v1 + 1)) + 1)) + 1))) with b14 | b14
  · replace h := ite_t b14 h
    refine ct (sq (rn ?_))
    refine an (rt ?_)
    cases h
    simp [Ret, TB, EN, *]
  replace h := ite_f b14 h
  refine cf (sk (an (sq (rn ?_))))
  refine an (sq (sq ?_))
  obtain ⟨x15, h16, h⟩ := bind_some h
  refine rd1 mixed (c_laws_markText _ _ h16) ?_
  refine an ?_
  rcases bcase (!(x6.Key.Text.toList == x15.toList)) with b17 | b17
  · replace h := ite_t b17 h
    refine ct (sq (rn ?_))
    refine an (rt ?_)
    cases h
    simp [Ret, TB, EN, *]
  replace h := ite_f b17 h
  refine cf (sk (an (sq (rn ?_))))
  refine an (sq (sq ?_))
  obtain ⟨x18, h19, h⟩ := bind_some h
  refine rd1 mixed (c_laws_markText _ _ h19) ?_
  refine an ?_
  rcases bcase (!(x6.Field.toList == x18.toList)) with b20 | b20
  · replace h := ite_t b20 h
    refine ct (sq (rn ?_))
    refine an (rt ?_)
    cases h
    simp [Ret, TB, EN, *]
  replace h := ite_f b20 h
  refine cf (sk (an (sq (rn ?_))))
  refine an (sq (sq ?_))
  refine cu (fun s => s.t 0 = .v false [.dat (.sl (List.map M.Write.en p0))] ∧ s.t 1 = .v false [.dat (.int .i64 (IntKind.i64.wrap ((IntKind.i64.wrap ((IntKind.i64.wrap ((IntKind.i64.wrap ((IntKind.i64.wrap ((IntKind.i64.wrap (v1 + 1)) + 1)) + 1)) + 1)) + 1)) + 1)))] ∧ s.t 5 = .v false [.dat (.int .i64 v5)] ∧ True) ?_
  rintro s21 ⟨f22, f23, f24, _⟩
  refine rn ?_
  refine an ?_
  rcases bcase (x6.N != (IntKind.i64.wrap ((IntKind.i64.wrap ((IntKind.i64.wrap ((IntKind.i64.wrap ((IntKind.i64.wrap ((IntKind.i64.wrap (v1 + 1)) + 1)) + 1)) + 1)) + 1)) + 1))) with b25 | b25
  · replace h := ite_t b25 h
    refine ct (sq (rn ?_))
    refine an (rt ?_)
    cases h
    simp [Ret, TB, EN, *]
  replace h := ite_f b25 h
  refine cf (sk (an (rn ?_)))
  refine ab (an (rn ?_))
  refine aft_i ⟨mL1, by omega, (IntKind.i64.wrap ((IntKind.i64.wrap ((IntKind.i64.wrap ((IntKind.i64.wrap ((IntKind.i64.wrap ((IntKind.i64.wrap ((IntKind.i64.wrap (v1 + 1)) + 1)) + 1)) + 1)) + 1)) + 1)) + 1)), (IntKind.i64.wrap (v5 + 1)), ?_, ?_, ?_, h⟩
  all_goals simp +decide only [F, reduceIte, Nat.reduceAdd, Bool.not_true, Bool.not_false, EN, *, -h]

set_option maxRecDepth 20000 in
set_option maxHeartbeats 4000000 in
theorem c_laws_heldOutbox (p0 : M.Outbox) (p1 : Int) (r : Int) (h : m_laws_heldOutbox p0 p1 = some r) : SCalls Tryz.prog 265 [(true, M.Outbox.en p0), (false, [.int .i64 p1])] [(false, [.ro (.int .i64 r)])] := by
  unfold m_laws_heldOutbox at h
  simp only [M.Outbox.en]
  refine scalls_n (N := 12) (vars := [.tmp 4]) Tryz.func265 rfl rfl rfl (by decide +kernel) (Nat.le_of_ble_eq_true rfl) fun base wd => ?_
  refine sq (rn ?_)
  refine an (sq ?_)
  obtain ⟨x1, h2, h⟩ := bind_some h
  refine rn1 (c_laws_heldWriteS _ _ _ h2) ?_
  refine an (sq (sq (rn ?_)))
  refine an ?_
  rcases bcase (decide (x1 < 0)) with b3 | b3
  · replace h := ite_t b3 h
    refine ct (sq (rn ?_))
    refine an (rt ?_)
    cases h
    simp [Ret, TB, EN, *]
  replace h := ite_f b3 h
  refine cf (sk (an (sq (rn ?_))))
  refine an (rt ?_)
  cases h
  simp [Ret, TB, EN, *]

set_option maxRecDepth 20000 in
set_option maxHeartbeats 4000000 in
theorem c_laws_heldSync (p0 : M.Sync) (p1 : Int) (r : Int) (h : m_laws_heldSync p0 p1 = some r) : SCalls Tryz.prog 164 [(true, M.Sync.en p0), (false, [.int .i64 p1])] [(false, [.ro (.int .i64 r)])] := by
  unfold m_laws_heldSync at h
  simp only [M.Sync.en]
  refine scalls_n (N := 12) (vars := [.tmp 4]) Tryz.func164 rfl rfl rfl (by decide +kernel) (Nat.le_of_ble_eq_true rfl) fun base wd => ?_
  refine sq (rn ?_)
  refine an (sq ?_)
  obtain ⟨x1, h2, h⟩ := bind_some h
  refine rn1 (c_laws_heldOutbox _ _ _ h2) ?_
  refine an (sq (sq (rn ?_)))
  refine an ?_
  rcases bcase (decide (x1 < 0)) with b3 | b3
  · replace h := ite_t b3 h
    refine ct (sq (rn ?_))
    refine an (rt ?_)
    cases h
    simp [Ret, TB, EN, *]
  replace h := ite_f b3 h
  refine cf (sk (an (sq (rn ?_))))
  refine an (rt ?_)
  cases h
  simp [Ret, TB, EN, *]

set_option maxRecDepth 20000 in
set_option maxHeartbeats 4000000 in
theorem c_laws_heldReplica (p0 : M.Replica) (p1 : Int) (r : Int) (h : m_laws_heldReplica p0 p1 = some r) : SCalls Tryz.prog 61 [(true, M.Replica.en p0), (false, [.int .i64 p1])] [(false, [.ro (.int .i64 r)])] := by
  unfold m_laws_heldReplica at h
  simp only [M.Replica.en]
  refine scalls_n (N := 18) (vars := [.tmp 4]) Tryz.func61 rfl rfl rfl (by decide +kernel) (Nat.le_of_ble_eq_true rfl) fun base wd => ?_
  refine sq (rn ?_)
  refine an (sq ?_)
  obtain ⟨x1, h2, h⟩ := bind_some h
  refine rn1 (c_laws_heldStore _ _ _ h2) ?_
  refine an (sq (sq (rn ?_)))
  refine an ?_
  rcases bcase (decide (x1 < 0)) with b3 | b3
  · replace h := ite_t b3 h
    refine ct (sq (rn ?_))
    refine an (rt ?_)
    cases h
    simp [Ret, TB, EN, *]
  replace h := ite_f b3 h
  refine cf (sk (an (sq ?_)))
  obtain ⟨x4, h5, h⟩ := bind_some h
  refine rn1 (c_laws_heldSync _ _ _ h5) ?_
  refine an (sq (sq (rn ?_)))
  refine an ?_
  rcases bcase (decide (x4 < 0)) with b6 | b6
  · replace h := ite_t b6 h
    refine ct (sq (rn ?_))
    refine an (rt ?_)
    cases h
    simp [Ret, TB, EN, *]
  replace h := ite_f b6 h
  refine cf (sk (an (sq (rn ?_))))
  refine an (rt ?_)
  cases h
  simp [Ret, TB, EN, *]

set_option maxRecDepth 20000 in
set_option maxHeartbeats 4000000 in
theorem c_laws_heldBucket (p0 : M.Bucket) (p1 : Int) (r : Int) (h : m_laws_heldBucket p0 p1 = some r) : SCalls Tryz.prog 14 [(true, M.Bucket.en p0), (false, [.int .i64 p1])] [(false, [.ro (.int .i64 r)])] := by
  unfold m_laws_heldBucket at h
  simp only [M.Bucket.en]
  refine scalls_n (N := 24) (vars := [.tmp 4]) Tryz.func14 rfl rfl rfl (by decide +kernel) (Nat.le_of_ble_eq_true rfl) fun base wd => ?_
  refine sq (rn ?_)
  refine an (sq ?_)
  obtain ⟨x1, h2, h⟩ := bind_some h
  refine rn1 (c_laws_heldCacheSet _ _ _ h2) ?_
  refine an (sq (sq (rn ?_)))
  refine an ?_
  rcases bcase (decide (x1 < 0)) with b3 | b3
  · replace h := ite_t b3 h
    refine ct (sq (rn ?_))
    refine an (rt ?_)
    cases h
    simp [Ret, TB, EN, *]
  replace h := ite_f b3 h
  refine cf (sk (an (sq ?_)))
  obtain ⟨x4, h5, h⟩ := bind_some h
  refine rn1 (c_laws_heldDisk _ _ _ h5) ?_
  refine an (sq (sq (rn ?_)))
  refine an ?_
  rcases bcase (decide (x4 < 0)) with b6 | b6
  · replace h := ite_t b6 h
    refine ct (sq (rn ?_))
    refine an (rt ?_)
    cases h
    simp [Ret, TB, EN, *]
  replace h := ite_f b6 h
  refine cf (sk (an (sq ?_)))
  obtain ⟨x7, h8, h⟩ := bind_some h
  refine rn1 (c_laws_heldReplica _ _ _ h8) ?_
  refine an (sq (sq (rn ?_)))
  refine an ?_
  rcases bcase (decide (x7 < 0)) with b9 | b9
  · replace h := ite_t b9 h
    refine ct (sq (rn ?_))
    refine an (rt ?_)
    cases h
    simp [Ret, TB, EN, *]
  replace h := ite_f b9 h
  refine cf (sk (an (sq (rn ?_))))
  refine an (rt ?_)
  cases h
  simp [Ret, TB, EN, *]

end Go.Proofs.YtgemmnkhddlhpaaGreat.gen
