/-
  Helper text: walks: each function's contract out of its model. No conditions beyond those of each contract.
-/
import Derived.Test.YtgemmnkhddlhpaaGreatEqualWorldsTi
namespace Go.Proofs.YtgemmnkhddlhpaaGreat.gen
open Go Go.Sh
set_option linter.unusedVariables false
set_option linter.unusedSimpArgs false
set_option maxRecDepth 20000 in
set_option maxHeartbeats 4000000 in
theorem c_laws_eqRegistration (p0 : M.Registration) (p1 : M.Registration) (r : Bool) (h : m_laws_eqRegistration p0 p1 = some r) : SCalls Tryz.prog 58 [(true, M.Registration.en p0), (true, M.Registration.en p1)] [(false, [.ro (.bool r)])] := by
  unfold m_laws_eqRegistration at h
  simp only [M.Registration.en]
  refine scalls_n (N := 25) (vars := [.tmp 4]) Tryz.func58 rfl rfl rfl (by decide +kernel) (Nat.le_of_ble_eq_true rfl) fun base wd => ?_
  refine sq (rn ?_)
  refine an (sq (sq (rn ?_)))
  refine an ?_
  rcases bcase (!(p0.Site.toList == p1.Site.toList)) with b1 | b1
  · replace h := ite_t b1 h
    refine ct (sq (rn ?_))
    refine an (rt ?_)
    cases h
    simp [Ret, TB, EN, *]
  replace h := ite_f b1 h
  refine cf (sk (an (sq (sq (rn ?_)))))
  refine an ?_
  rcases bcase (p0.Installing != p1.Installing) with b2 | b2
  · replace h := ite_t b2 h
    refine ct (sq (rn ?_))
    refine an (rt ?_)
    cases h
    simp [Ret, TB, EN, *]
  replace h := ite_f b2 h
  refine cf (sk (an (sq (sq (rn ?_)))))
  refine an ?_
  rcases bcase (p0.Waiting != p1.Waiting) with b3 | b3
  · replace h := ite_t b3 h
    refine ct (sq (rn ?_))
    refine an (rt ?_)
    cases h
    simp [Ret, TB, EN, *]
  replace h := ite_f b3 h
  refine cf (sk (an (sq (sq (rn ?_)))))
  refine an ?_
  rcases bcase (p0.Active != p1.Active) with b4 | b4
  · replace h := ite_t b4 h
    refine ct (sq (rn ?_))
    refine an (rt ?_)
    cases h
    simp [Ret, TB, EN, *]
  replace h := ite_f b4 h
  refine cf (sk (an (sq (rn ?_))))
  refine an (rt ?_)
  cases h
  simp [Ret, TB, EN, *]

set_option maxRecDepth 20000 in
set_option maxHeartbeats 4000000 in
theorem c_laws_eqByteS (p0 : List Int) (p1 : List Int) (r : Bool) (h : m_laws_eqByteS p0 p1 = some r) : SCalls Tryz.prog 99 [(false, [.sl (List.map enB p0)]), (false, [.sl (List.map enB p1)])] [(false, [.ro (.bool r)])] := by
  unfold m_laws_eqByteS at h
  refine scalls_n (N := 26) (vars := [.tmp 4]) Tryz.func99 rfl rfl rfl (by decide +kernel) (Nat.le_of_ble_eq_true rfl) fun base wd => ?_
  refine sq (rn ?_)
  refine an (sq (sq (rn ?_)))
  refine an ?_
  rcases bcase ((List.length p0 : Int) != (List.length p1 : Int)) with b1 | b1
  · replace h := ite_t b1 h
    refine ct (sq (rn ?_))
    refine an (rt ?_)
    cases h
    simp [Ret, TB, EN, *]
  replace h := ite_f b1 h
  refine cf (sk (an (sq (sq (rn ?_)))))
  refine an (bk ?_)
  refine SW_loop (fun m s => ∃ v5 : Int, s.t 0 = .v false [.dat (.sl (List.map enB p0))] ∧ s.t 1 = .v false [.dat (.sl (List.map enB p1))] ∧ s.t 5 = .v false [.dat (.int .i64 v5)] ∧ m_laws_eqByteS_L1 p0 p1 m v5 = some r) fuel ?_ ?_
  · refine ⟨0, ?_, ?_, ?_, h⟩
    all_goals simp +decide only [F, reduceIte, Nat.reduceAdd, Bool.not_true, Bool.not_false, EN, *, -h]
  rintro mL1 s2 ⟨v5, f3, f4, f5, h⟩
  rcases mL1 with _ | mL1
  · exact absurd h (by simp [m_laws_eqByteS_L1])
  simp only [m_laws_eqByteS_L1] at h
  refine sq (sq (rn ?_))
  refine an ?_
  rcases bcas (decide (v5 < (List.length p0 : Int))) with b6 | b6
  · replace h := ite_f b6 h
    refine cf (xt (aft_cx (aft_ix (aft_x (an (sq (rn ?_)))))))
    refine an (rt ?_)
    cases h
    simp [Ret, TB, EN, *]
  replace h := ite_t b6 h
  refine ct (sk (an (sq (bk (sq ?_)))))
  obtain ⟨x7, h8, h⟩ := bind_some h
  obtain ⟨q9, q10, q11⟩ := idx_some h8
  obtain ⟨x12, h13, h⟩ := bind_some h
  obtain ⟨q14, q15, q16⟩ := idx_some h13
  refine rd mixed ?_
  refine an ?_
  rcases bcase (x7 != x12) with b17 | b17
  · replace h := ite_t b17 h
    refine ct (sq (rn ?_))
    refine an (rt ?_)
    cases h
    simp [Ret, TB, EN, *]
  replace h := ite_f b17 h
  refine cf (sk (ab (an (rn ?_))))
  refine aft_i ⟨mL1, by omega, (IntKind.i64.wrap (v5 + 1)), ?_, ?_, ?_, h⟩
  all_goals simp +decide only [F, reduceIte, Nat.reduceAdd, Bool.not_true, Bool.not_false, EN, *, -h]

set_option maxRecDepth 20000 in
set_option maxHeartbeats 4000000 in
theorem c_laws_eqResponse (p0 : M.Response) (p1 : M.Response) (r : Bool) (h : m_laws_eqResponse p0 p1 = some r) : SCalls Tryz.prog 414 [(true, M.Response.en p0), (true, M.Response.en p1)] [(false, [.ro (.bool r)])] := by
  unfold m_laws_eqResponse at h
  simp only [M.Response.en]
  refine scalls_n (N := 31) (vars := [.tmp 4]) Tryz.func414 rfl rfl rfl (by decide +kernel) (Nat.le_of_ble_eq_true rfl) fun base wd => ?_
  refine sq (rn ?_)
  refine an (sq (sq (rn ?_)))
  refine an ?_
  rcases bcase (p0.Type_ != p1.Type_) with b1 | b1
  · replace h := ite_t b1 h
    refine ct (sq (rn ?_))
    refine an (rt ?_)
    cases h
    simp [Ret, TB, EN, *]
  replace h := ite_f b1 h
  refine cf (sk (an (sq (sq (rn ?_)))))
  refine an ?_
  rcases bcase (p0.Status != p1.Status) with b2 | b2
  · replace h := ite_t b2 h
    refine ct (sq (rn ?_))
    refine an (rt ?_)
    cases h
    simp [Ret, TB, EN, *]
  replace h := ite_f b2 h
  refine cf (sk (an (sq (sq (rn ?_)))))
  refine an ?_
  rcases bcase (p0.Version != p1.Version) with b3 | b3
  · replace h := ite_t b3 h
    refine ct (sq (rn ?_))
    refine an (rt ?_)
    cases h
    simp [Ret, TB, EN, *]
  replace h := ite_f b3 h
  refine cf (sk (an (sq (sq ?_))))
  obtain ⟨x4, h5, h⟩ := bind_some h
  refine rn1 (c_laws_eqByteS _ _ _ h5) ?_
  refine an ?_
  rcases bcase (!x4) with b6 | b6
  · replace h := ite_t b6 h
    refine ct (sq (rn ?_))
    refine an (rt ?_)
    cases h
    simp [Ret, TB, EN, *]
  replace h := ite_f b6 h
  refine cf (sk (an (sq (sq (rn ?_)))))
  refine an ?_
  rcases bcase (!(p0.Shares == p1.Shares)) with b7 | b7
  · replace h := ite_t b7 h
    refine ct (sq (rn ?_))
    refine an (rt ?_)
    cases h
    simp [Ret, TB, EN, *]
  replace h := ite_f b7 h
  refine cf (sk (an (sq (rn ?_))))
  refine an (rt ?_)
  cases h
  simp [Ret, TB, EN, *]

set_option maxRecDepth 20000 in
set_option maxHeartbeats 4000000 in
theorem c_laws_eqCached (p0 : M.Cached) (p1 : M.Cached) (r : Bool) (h : m_laws_eqCached p0 p1 = some r) : SCalls Tryz.prog 374 [(true, M.Cached.en p0), (true, M.Cached.en p1)] [(false, [.ro (.bool r)])] := by
  unfold m_laws_eqCached at h
  simp only [M.Cached.en]
  refine scalls_n (N := 21) (vars := [.tmp 4]) Tryz.func374 rfl rfl rfl (by decide +kernel) (Nat.le_of_ble_eq_true rfl) fun base wd => ?_
  refine sq (rn ?_)
  refine an (sq (sq (rn ?_)))
  refine an ?_
  rcases bcase (!(p0.Site.toList == p1.Site.toList)) with b1 | b1
  · replace h := ite_t b1 h
    refine ct (sq (rn ?_))
    refine an (rt ?_)
    cases h
    simp [Ret, TB, EN, *]
  replace h := ite_f b1 h
  refine cf (sk (an (sq (sq (rn ?_)))))
  refine an ?_
  rcases bcase (!(p0.Path.toList == p1.Path.toList)) with b2 | b2
  · replace h := ite_t b2 h
    refine ct (sq (rn ?_))
    refine an (rt ?_)
    cases h
    simp [Ret, TB, EN, *]
  replace h := ite_f b2 h
  refine cf (sk (an (sq (sq ?_))))
  obtain ⟨x3, h4, h⟩ := bind_some h
  refine rn1 (c_laws_eqResponse _ _ _ h4) ?_
  refine an ?_
  rcases bcase (!x3) with b5 | b5
  · replace h := ite_t b5 h
    refine ct (sq (rn ?_))
    refine an (rt ?_)
    cases h
    simp [Ret, TB, EN, *]
  replace h := ite_f b5 h
  refine cf (sk (an (sq (rn ?_))))
  refine an (rt ?_)
  cases h
  simp [Ret, TB, EN, *]

set_option maxRecDepth 20000 in
set_option maxHeartbeats 4000000 in
theorem c_laws_eqCachedS (p0 : List M.Cached) (p1 : List M.Cached) (r : Bool) (h : m_laws_eqCachedS p0 p1 = some r) : SCalls Tryz.prog 304 [(false, [.sl (List.map M.Cached.en p0)]), (false, [.sl (List.map M.Cached.en p1)])] [(false, [.ro (.bool r)])] := by
  unfold m_laws_eqCachedS at h
  refine scalls_n (N := 27) (vars := [.tmp 4]) Tryz.func304 rfl rfl rfl (by decide +kernel) (Nat.le_of_ble_eq_true rfl) fun base wd => ?_
  refine sq (rn ?_)
  refine an (sq (sq (rn ?_)))
  refine an ?_
  rcases bcase ((List.length p0 : Int) != (List.length p1 : Int)) with b1 | b1
  · replace h := ite_t b1 h
    refine ct (sq (rn ?_))
    refine an (rt ?_)
    cases h
    simp [Ret, TB, EN, *]
  replace h := ite_f b1 h
  refine cf (sk (an (sq (sq (rn ?_)))))
  refine an (bk ?_)
  refine SW_loop (fun m s => ∃ v5 : Int, s.t 0 = .v false [.dat (.sl (List.map M.Cached.en p0))] ∧ s.t 1 = .v false [.dat (.sl (List.map M.Cached.en p1))] ∧ s.t 5 = .v false [.dat (.int .i64 v5)] ∧ m_laws_eqCachedS_L1 p0 p1 m v5 = some r) fuel ?_ ?_
  · refine ⟨0, ?_, ?_, ?_, h⟩
    all_goals simp +decide only [F, reduceIte, Nat.reduceAdd, Bool.not_true, Bool.not_false, EN, *, -h]
  rintro mL1 s2 ⟨v5, f3, f4, f5, h⟩
  rcases mL1 with _ | mL1
  · exact absurd h (by simp [m_laws_eqCachedS_L1])
  simp only [m_laws_eqCachedS_L1] at h
  refine sq (sq (rn ?_))
  refine an ?_
  rcases bcas (decide (v5 < (List.length p0 : Int))) with b6 | b6
  · replace h := ite_f b6 h
    refine cf (xt (aft_cx (aft_ix (aft_x (an (sq (rn ?_)))))))
    refine an (rt ?_)
    cases h
    simp [Ret, TB, EN, *]
  replace h := ite_t b6 h
  refine ct (sk (an (sq (bk (sq ?_)))))
  obtain ⟨x7, h8, h⟩ := bind_some h
  obtain ⟨q9, q10, q11⟩ := idx_some h8
  obtain ⟨x12, h13, h⟩ := bind_some h
  obtain ⟨q14, q15, q16⟩ := idx_some h13
  obtain ⟨x17, h18, h⟩ := bind_some h
  refine rd1 mixed (c_laws_eqCached _ _ _ h18) ?_
  refine an ?_
  rcases bcase (!x17) with b19 | b19
  · replace h := ite_t b19 h
    refine ct (sq (rn ?_))
    refine an (rt ?_)
    cases h
    simp [Ret, TB, EN, *]
  replace h := ite_f b19 h
  refine cf (sk (ab (an (rn ?_))))
  refine aft_i ⟨mL1, by omega, (IntKind.i64.wrap (v5 + 1)), ?_, ?_, ?_, h⟩
  all_goals simp +decide only [F, reduceIte, Nat.reduceAdd, Bool.not_true, Bool.not_false, EN, *, -h]

set_option maxRecDepth 20000 in
set_option maxHeartbeats 4000000 in
theorem c_laws_eqCache (p0 : M.Cache) (p1 : M.Cache) (r : Bool) (h : m_laws_eqCache p0 p1 = some r) : SCalls Tryz.prog 210 [(true, M.Cache.en p0), (true, M.Cache.en p1)] [(false, [.ro (.bool r)])] := by
  unfold m_laws_eqCache at h
  simp only [M.Cache.en]
  refine scalls_n (N := 16) (vars := [.tmp 4]) Tryz.func210 rfl rfl rfl (by decide +kernel) (Nat.le_of_ble_eq_true rfl) fun base wd => ?_
  refine sq (rn ?_)
  refine an (sq (sq (rn ?_)))
  refine an ?_
  rcases bcase (p0.Version != p1.Version) with b1 | b1
  · replace h := ite_t b1 h
    refine ct (sq (rn ?_))
    refine an (rt ?_)
    cases h
    simp [Ret, TB, EN, *]
  replace h := ite_f b1 h
  refine cf (sk (an (sq (sq ?_))))
  obtain ⟨x2, h3, h⟩ := bind_some h
  refine rn1 (c_laws_eqCachedS _ _ _ h3) ?_
  refine an ?_
  rcases bcase (!x2) with b4 | b4
  · replace h := ite_t b4 h
    refine ct (sq (rn ?_))
    refine an (rt ?_)
    cases h
    simp [Ret, TB, EN, *]
  replace h := ite_f b4 h
  refine cf (sk (an (sq (rn ?_))))
  refine an (rt ?_)
  cases h
  simp [Ret, TB, EN, *]

set_option maxRecDepth 20000 in
set_option maxHeartbeats 4000000 in
theorem c_laws_eqCacheS (p0 : List M.Cache) (p1 : List M.Cache) (r : Bool) (h : m_laws_eqCacheS p0 p1 = some r) : SCalls Tryz.prog 114 [(false, [.sl (List.map M.Cache.en p0)]), (false, [.sl (List.map M.Cache.en p1)])] [(false, [.ro (.bool r)])] := by
  unfold m_laws_eqCacheS at h
  refine scalls_n (N := 27) (vars := [.tmp 4]) Tryz.func114 rfl rfl rfl (by decide +kernel) (Nat.le_of_ble_eq_true rfl) fun base wd => ?_
  refine sq (rn ?_)
  refine an (sq (sq (rn ?_)))
  refine an ?_
  rcases bcase ((List.length p0 : Int) != (List.length p1 : Int)) with b1 | b1
  · replace h := ite_t b1 h
    refine ct (sq (rn ?_))
    refine an (rt ?_)
    cases h
    simp [Ret, TB, EN, *]
  replace h := ite_f b1 h
  refine cf (sk (an (sq (sq (rn ?_)))))
  refine an (bk ?_)
  refine SW_loop (fun m s => ∃ v5 : Int, s.t 0 = .v false [.dat (.sl (List.map M.Cache.en p0))] ∧ s.t 1 = .v false [.dat (.sl (List.map M.Cache.en p1))] ∧ s.t 5 = .v false [.dat (.int .i64 v5)] ∧ m_laws_eqCacheS_L1 p0 p1 m v5 = some r) fuel ?_ ?_
  · refine ⟨0, ?_, ?_, ?_, h⟩
    all_goals simp +decide only [F, reduceIte, Nat.reduceAdd, Bool.not_true, Bool.not_false, EN, *, -h]
  rintro mL1 s2 ⟨v5, f3, f4, f5, h⟩
  rcases mL1 with _ | mL1
  · exact absurd h (by simp [m_laws_eqCacheS_L1])
  simp only [m_laws_eqCacheS_L1] at h
  refine sq (sq (rn ?_))
  refine an ?_
  rcases bcas (decide (v5 < (List.length p0 : Int))) with b6 | b6
  · replace h := ite_f b6 h
    refine cf (xt (aft_cx (aft_ix (aft_x (an (sq (rn ?_)))))))
    refine an (rt ?_)
    cases h
    simp [Ret, TB, EN, *]
  replace h := ite_t b6 h
  refine ct (sk (an (sq (bk (sq ?_)))))
  obtain ⟨x7, h8, h⟩ := bind_some h
  obtain ⟨q9, q10, q11⟩ := idx_some h8
  obtain ⟨x12, h13, h⟩ := bind_some h
  obtain ⟨q14, q15, q16⟩ := idx_some h13
  obtain ⟨x17, h18, h⟩ := bind_some h
  refine rd1 mixed (c_laws_eqCache _ _ _ h18) ?_
  refine an ?_
  rcases bcase (!x17) with b19 | b19
  · replace h := ite_t b19 h
    refine ct (sq (rn ?_))
    refine an (rt ?_)
    cases h
    simp [Ret, TB, EN, *]
  replace h := ite_f b19 h
  refine cf (sk (ab (an (rn ?_))))
  refine aft_i ⟨mL1, by omega, (IntKind.i64.wrap (v5 + 1)), ?_, ?_, ?_, h⟩
  all_goals simp +decide only [F, reduceIte, Nat.reduceAdd, Bool.not_true, Bool.not_false, EN, *, -h]

set_option maxRecDepth 20000 in
set_option maxHeartbeats 4000000 in
theorem c_laws_eqCacheSet (p0 : M.CacheSet) (p1 : M.CacheSet) (r : Bool) (h : m_laws_eqCacheSet p0 p1 = some r) : SCalls Tryz.prog 40 [(true, M.CacheSet.en p0), (true, M.CacheSet.en p1)] [(false, [.ro (.bool r)])] := by
  unfold m_laws_eqCacheSet at h
  simp only [M.CacheSet.en]
  refine scalls_n (N := 11) (vars := [.tmp 4]) Tryz.func40 rfl rfl rfl (by decide +kernel) (Nat.le_of_ble_eq_true rfl) fun base wd => ?_
  refine sq (rn ?_)
  refine an (sq (sq ?_))
  obtain ⟨x1, h2, h⟩ := bind_some h
  refine rn1 (c_laws_eqCacheS _ _ _ h2) ?_
  refine an ?_
  rcases bcase (!x1) with b3 | b3
  · replace h := ite_t b3 h
    refine ct (sq (rn ?_))
    refine an (rt ?_)
    cases h
    simp [Ret, TB, EN, *]
  replace h := ite_f b3 h
  refine cf (sk (an (sq (rn ?_))))
  refine an (rt ?_)
  cases h
  simp [Ret, TB, EN, *]

set_option maxRecDepth 20000 in
set_option maxHeartbeats 4000000 in
theorem c_laws_eqKey (p0 : M.Key) (p1 : M.Key) (r : Bool) (h : m_laws_eqKey p0 p1 = some r) : SCalls Tryz.prog 370 [(true, M.Key.en p0), (true, M.Key.en p1)] [(false, [.ro (.bool r)])] := by
  unfold m_laws_eqKey at h
  simp only [M.Key.en]
  refine scalls_n (N := 20) (vars := [.tmp 4]) Tryz.func370 rfl rfl rfl (by decide +kernel) (Nat.le_of_ble_eq_true rfl) fun base wd => ?_
  refine sq (rn ?_)
  refine an (sq (sq (rn ?_)))
  refine an ?_
  rcases bcase (p0.Kind != p1.Kind) with b1 | b1
  · replace h := ite_t b1 h
    refine ct (sq (rn ?_))
    refine an (rt ?_)
    cases h
    simp [Ret, TB, EN, *]
  replace h := ite_f b1 h
  refine cf (sk (an (sq (sq (rn ?_)))))
  refine an ?_
  rcases bcase (p0.N != p1.N) with b2 | b2
  · replace h := ite_t b2 h
    refine ct (sq (rn ?_))
    refine an (rt ?_)
    cases h
    simp [Ret, TB, EN, *]
  replace h := ite_f b2 h
  refine cf (sk (an (sq (sq (rn ?_)))))
  refine an ?_
  rcases bcase (!(p0.Text.toList == p1.Text.toList)) with b3 | b3
  · replace h := ite_t b3 h
    refine ct (sq (rn ?_))
    refine an (rt ?_)
    cases h
    simp [Ret, TB, EN, *]
  replace h := ite_f b3 h
  refine cf (sk (an (sq (rn ?_))))
  refine an (rt ?_)
  cases h
  simp [Ret, TB, EN, *]

set_option maxRecDepth 20000 in
set_option maxHeartbeats 4000000 in
theorem c_laws_eqField (p0 : M.Field) (p1 : M.Field) (r : Bool) (h : m_laws_eqField p0 p1 = some r) : SCalls Tryz.prog 433 [(true, M.Field.en p0), (true, M.Field.en p1)] [(false, [.ro (.bool r)])] := by
  unfold m_laws_eqField at h
  simp only [M.Field.en]
  refine scalls_n (N := 15) (vars := [.tmp 4]) Tryz.func433 rfl rfl rfl (by decide +kernel) (Nat.le_of_ble_eq_true rfl) fun base wd => ?_
  refine sq (rn ?_)
  refine an (sq (sq (rn ?_)))
  refine an ?_
  rcases bcase (!(p0.Name.toList == p1.Name.toList)) with b1 | b1
  · replace h := ite_t b1 h
    refine ct (sq (rn ?_))
    refine an (rt ?_)
    cases h
    simp [Ret, TB, EN, *]
  replace h := ite_f b1 h
  refine cf (sk (an (sq (sq (rn ?_)))))
  refine an ?_
  rcases bcase (p0.N != p1.N) with b2 | b2
  · replace h := ite_t b2 h
    refine ct (sq (rn ?_))
    refine an (rt ?_)
    cases h
    simp [Ret, TB, EN, *]
  replace h := ite_f b2 h
  refine cf (sk (an (sq (rn ?_))))
  refine an (rt ?_)
  cases h
  simp [Ret, TB, EN, *]

set_option maxRecDepth 20000 in
set_option maxHeartbeats 4000000 in
theorem c_laws_eqFieldS (p0 : List M.Field) (p1 : List M.Field) (r : Bool) (h : m_laws_eqFieldS p0 p1 = some r) : SCalls Tryz.prog 411 [(false, [.sl (List.map M.Field.en p0)]), (false, [.sl (List.map M.Field.en p1)])] [(false, [.ro (.bool r)])] := by
  unfold m_laws_eqFieldS at h
  refine scalls_n (N := 27) (vars := [.tmp 4]) Tryz.func411 rfl rfl rfl (by decide +kernel) (Nat.le_of_ble_eq_true rfl) fun base wd => ?_
  refine sq (rn ?_)
  refine an (sq (sq (rn ?_)))
  refine an ?_
  rcases bcase ((List.length p0 : Int) != (List.length p1 : Int)) with b1 | b1
  · replace h := ite_t b1 h
    refine ct (sq (rn ?_))
    refine an (rt ?_)
    cases h
    simp [Ret, TB, EN, *]
  replace h := ite_f b1 h
  refine cf (sk (an (sq (sq (rn ?_)))))
  refine an (bk ?_)
  refine SW_loop (fun m s => ∃ v5 : Int, s.t 0 = .v false [.dat (.sl (List.map M.Field.en p0))] ∧ s.t 1 = .v false [.dat (.sl (List.map M.Field.en p1))] ∧ s.t 5 = .v false [.dat (.int .i64 v5)] ∧ m_laws_eqFieldS_L1 p0 p1 m v5 = some r) fuel ?_ ?_
  · refine ⟨0, ?_, ?_, ?_, h⟩
    all_goals simp +decide only [F, reduceIte, Nat.reduceAdd, Bool.not_true, Bool.not_false, EN, *, -h]
  rintro mL1 s2 ⟨v5, f3, f4, f5, h⟩
  rcases mL1 with _ | mL1
  · exact absurd h (by simp [m_laws_eqFieldS_L1])
  simp only [m_laws_eqFieldS_L1] at h
  refine sq (sq (rn ?_))
  refine an ?_
  rcases bcas (decide (v5 < (List.length p0 : Int))) with b6 | b6
  · replace h := ite_f b6 h
    refine cf (xt (aft_cx (aft_ix (aft_x (an (sq (rn ?_)))))))
    refine an (rt ?_)
    cases h
    simp [Ret, TB, EN, *]
  replace h := ite_t b6 h
  refine ct (sk (an (sq (bk (sq ?_)))))
  obtain ⟨x7, h8, h⟩ := bind_some h
  obtain ⟨q9, q10, q11⟩ := idx_some h8
  obtain ⟨x12, h13, h⟩ := bind_some h
  obtain ⟨q14, q15, q16⟩ := idx_some h13
  obtain ⟨x17, h18, h⟩ := bind_some h
  refine rd1 mixed (c_laws_eqField _ _ _ h18) ?_
  refine an ?_
  rcases bcase (!x17) with b19 | b19
  · replace h := ite_t b19 h
    refine ct (sq (rn ?_))
    refine an (rt ?_)
    cases h
    simp [Ret, TB, EN, *]
  replace h := ite_f b19 h
  refine cf (sk (ab (an (rn ?_))))
  refine aft_i ⟨mL1, by omega, (IntKind.i64.wrap (v5 + 1)), ?_, ?_, ?_, h⟩
  all_goals simp +decide only [F, reduceIte, Nat.reduceAdd, Bool.not_true, Bool.not_false, EN, *, -h]

set_option maxRecDepth 20000 in
set_option maxHeartbeats 4000000 in
theorem c_laws_eqRecord (p0 : M.Record) (p1 : M.Record) (r : Bool) (h : m_laws_eqRecord p0 p1 = some r) : SCalls Tryz.prog 371 [(true, M.Record.en p0), (true, M.Record.en p1)] [(false, [.ro (.bool r)])] := by
  unfold m_laws_eqRecord at h
  simp only [M.Record.en]
  refine scalls_n (N := 11) (vars := [.tmp 4]) Tryz.func371 rfl rfl rfl (by decide +kernel) (Nat.le_of_ble_eq_true rfl) fun base wd => ?_
  refine sq (rn ?_)
  refine an (sq (sq ?_))
  obtain ⟨x1, h2, h⟩ := bind_some h
  refine rn1 (c_laws_eqFieldS _ _ _ h2) ?_
  refine an ?_
  rcases bcase (!x1) with b3 | b3
  · replace h := ite_t b3 h
    refine ct (sq (rn ?_))
    refine an (rt ?_)
    cases h
    simp [Ret, TB, EN, *]
  replace h := ite_f b3 h
  refine cf (sk (an (sq (rn ?_))))
  refine an (rt ?_)
  cases h
  simp [Ret, TB, EN, *]

set_option maxRecDepth 20000 in
set_option maxHeartbeats 4000000 in
theorem c_laws_eqItem (p0 : M.Item) (p1 : M.Item) (r : Bool) (h : m_laws_eqItem p0 p1 = some r) : SCalls Tryz.prog 299 [(true, M.Item.en p0), (true, M.Item.en p1)] [(false, [.ro (.bool r)])] := by
  unfold m_laws_eqItem at h
  simp only [M.Item.en]
  refine scalls_n (N := 17) (vars := [.tmp 4]) Tryz.func299 rfl rfl rfl (by decide +kernel) (Nat.le_of_ble_eq_true rfl) fun base wd => ?_
  refine sq (rn ?_)
  refine an (sq (sq ?_))
  obtain ⟨x1, h2, h⟩ := bind_some h
  refine rn1 (c_laws_eqKey _ _ _ h2) ?_
  refine an ?_
  rcases bcase (!x1) with b3 | b3
  · replace h := ite_t b3 h
    refine ct (sq (rn ?_))
    refine an (rt ?_)
    cases h
    simp [Ret, TB, EN, *]
  replace h := ite_f b3 h
  refine cf (sk (an (sq (sq ?_))))
  obtain ⟨x4, h5, h⟩ := bind_some h
  refine rn1 (c_laws_eqRecord _ _ _ h5) ?_
  refine an ?_
  rcases bcase (!x4) with b6 | b6
  · replace h := ite_t b6 h
    refine ct (sq (rn ?_))
    refine an (rt ?_)
    cases h
    simp [Ret, TB, EN, *]
  replace h := ite_f b6 h
  refine cf (sk (an (sq (rn ?_))))
  refine an (rt ?_)
  cases h
  simp [Ret, TB, EN, *]

set_option maxRecDepth 20000 in
set_option maxHeartbeats 4000000 in
theorem c_laws_eqItemS (p0 : List M.Item) (p1 : List M.Item) (r : Bool) (h : m_laws_eqItemS p0 p1 = some r) : SCalls Tryz.prog 203 [(false, [.sl (List.map M.Item.en p0)]), (false, [.sl (List.map M.Item.en p1)])] [(false, [.ro (.bool r)])] := by
  unfold m_laws_eqItemS at h
  refine scalls_n (N := 27) (vars := [.tmp 4]) Tryz.func203 rfl rfl rfl (by decide +kernel) (Nat.le_of_ble_eq_true rfl) fun base wd => ?_
  refine sq (rn ?_)
  refine an (sq (sq (rn ?_)))
  refine an ?_
  rcases bcase ((List.length p0 : Int) != (List.length p1 : Int)) with b1 | b1
  · replace h := ite_t b1 h
    refine ct (sq (rn ?_))
    refine an (rt ?_)
    cases h
    simp [Ret, TB, EN, *]
  replace h := ite_f b1 h
  refine cf (sk (an (sq (sq (rn ?_)))))
  refine an (bk ?_)
  refine SW_loop (fun m s => ∃ v5 : Int, s.t 0 = .v false [.dat (.sl (List.map M.Item.en p0))] ∧ s.t 1 = .v false [.dat (.sl (List.map M.Item.en p1))] ∧ s.t 5 = .v false [.dat (.int .i64 v5)] ∧ m_laws_eqItemS_L1 p0 p1 m v5 = some r) fuel ?_ ?_
  · refine ⟨0, ?_, ?_, ?_, h⟩
    all_goals simp +decide only [F, reduceIte, Nat.reduceAdd, Bool.not_true, Bool.not_false, EN, *, -h]
  rintro mL1 s2 ⟨v5, f3, f4, f5, h⟩
  rcases mL1 with _ | mL1
  · exact absurd h (by simp [m_laws_eqItemS_L1])
  simp only [m_laws_eqItemS_L1] at h
  refine sq (sq (rn ?_))
  refine an ?_
  rcases bcas (decide (v5 < (List.length p0 : Int))) with b6 | b6
  · replace h := ite_f b6 h
    refine cf (xt (aft_cx (aft_ix (aft_x (an (sq (rn ?_)))))))
    refine an (rt ?_)
    cases h
    simp [Ret, TB, EN, *]
  replace h := ite_t b6 h
  refine ct (sk (an (sq (bk (sq ?_)))))
  obtain ⟨x7, h8, h⟩ := bind_some h
  obtain ⟨q9, q10, q11⟩ := idx_some h8
  obtain ⟨x12, h13, h⟩ := bind_some h
  obtain ⟨q14, q15, q16⟩ := idx_some h13
  obtain ⟨x17, h18, h⟩ := bind_some h
  refine rd1 mixed (c_laws_eqItem _ _ _ h18) ?_
  refine an ?_
  rcases bcase (!x17) with b19 | b19
  · replace h := ite_t b19 h
    refine ct (sq (rn ?_))
    refine an (rt ?_)
    cases h
    simp [Ret, TB, EN, *]
  replace h := ite_f b19 h
  refine cf (sk (ab (an (rn ?_))))
  refine aft_i ⟨mL1, by omega, (IntKind.i64.wrap (v5 + 1)), ?_, ?_, ?_, h⟩
  all_goals simp +decide only [F, reduceIte, Nat.reduceAdd, Bool.not_true, Bool.not_false, EN, *, -h]

set_option maxRecDepth 20000 in
set_option maxHeartbeats 4000000 in
theorem c_laws_eqStore (p0 : M.Store) (p1 : M.Store) (r : Bool) (h : m_laws_eqStore p0 p1 = some r) : SCalls Tryz.prog 107 [(true, M.Store.en p0), (true, M.Store.en p1)] [(false, [.ro (.bool r)])] := by
  unfold m_laws_eqStore at h
  simp only [M.Store.en]
  refine scalls_n (N := 21) (vars := [.tmp 4]) Tryz.func107 rfl rfl rfl (by decide +kernel) (Nat.le_of_ble_eq_true rfl) fun base wd => ?_
  refine sq (rn ?_)
  refine an (sq (sq (rn ?_)))
  refine an ?_
  rcases bcase (!(p0.Name.toList == p1.Name.toList)) with b1 | b1
  · replace h := ite_t b1 h
    refine ct (sq (rn ?_))
    refine an (rt ?_)
    cases h
    simp [Ret, TB, EN, *]
  replace h := ite_f b1 h
  refine cf (sk (an (sq (sq ?_))))
  obtain ⟨x2, h3, h⟩ := bind_some h
  refine rn1 (c_laws_eqItemS _ _ _ h3) ?_
  refine an ?_
  rcases bcase (!x2) with b4 | b4
  · replace h := ite_t b4 h
    refine ct (sq (rn ?_))
    refine an (rt ?_)
    cases h
    simp [Ret, TB, EN, *]
  replace h := ite_f b4 h
  refine cf (sk (an (sq (sq (rn ?_)))))
  refine an ?_
  rcases bcase (p0.Auto != p1.Auto) with b5 | b5
  · replace h := ite_t b5 h
    refine ct (sq (rn ?_))
    refine an (rt ?_)
    cases h
    simp [Ret, TB, EN, *]
  replace h := ite_f b5 h
  refine cf (sk (an (sq (rn ?_))))
  refine an (rt ?_)
  cases h
  simp [Ret, TB, EN, *]

set_option maxRecDepth 20000 in
set_option maxHeartbeats 4000000 in
theorem c_laws_eqStoreS (p0 : List M.Store) (p1 : List M.Store) (r : Bool) (h : m_laws_eqStoreS p0 p1 = some r) : SCalls Tryz.prog 193 [(false, [.sl (List.map M.Store.en p0)]), (false, [.sl (List.map M.Store.en p1)])] [(false, [.ro (.bool r)])] := by
  unfold m_laws_eqStoreS at h
  refine scalls_n (N := 27) (vars := [.tmp 4]) Tryz.func193 rfl rfl rfl (by decide +kernel) (Nat.le_of_ble_eq_true rfl) fun base wd => ?_
  refine sq (rn ?_)
  refine an (sq (sq (rn ?_)))
  refine an ?_
  rcases bcase ((List.length p0 : Int) != (List.length p1 : Int)) with b1 | b1
  · replace h := ite_t b1 h
    refine ct (sq (rn ?_))
    refine an (rt ?_)
    cases h
    simp [Ret, TB, EN, *]
  replace h := ite_f b1 h
  refine cf (sk (an (sq (sq (rn ?_)))))
  refine an (bk ?_)
  refine SW_loop (fun m s => ∃ v5 : Int, s.t 0 = .v false [.dat (.sl (List.map M.Store.en p0))] ∧ s.t 1 = .v false [.dat (.sl (List.map M.Store.en p1))] ∧ s.t 5 = .v false [.dat (.int .i64 v5)] ∧ m_laws_eqStoreS_L1 p0 p1 m v5 = some r) fuel ?_ ?_
  · refine ⟨0, ?_, ?_, ?_, h⟩
    all_goals simp +decide only [F, reduceIte, Nat.reduceAdd, Bool.not_true, Bool.not_false, EN, *, -h]
  rintro mL1 s2 ⟨v5, f3, f4, f5, h⟩
  rcases mL1 with _ | mL1
  · exact absurd h (by simp [m_laws_eqStoreS_L1])
  simp only [m_laws_eqStoreS_L1] at h
  refine sq (sq (rn ?_))
  refine an ?_
  rcases bcas (decide (v5 < (List.length p0 : Int))) with b6 | b6
  · replace h := ite_f b6 h
    refine cf (xt (aft_cx (aft_ix (aft_x (an (sq (rn ?_)))))))
    refine an (rt ?_)
    cases h
    simp [Ret, TB, EN, *]
  replace h := ite_t b6 h
  refine ct (sk (an (sq (bk (sq ?_)))))
  obtain ⟨x7, h8, h⟩ := bind_some h
  obtain ⟨q9, q10, q11⟩ := idx_some h8
  obtain ⟨x12, h13, h⟩ := bind_some h
  obtain ⟨q14, q15, q16⟩ := idx_some h13
  obtain ⟨x17, h18, h⟩ := bind_some h
  refine rd1 mixed (c_laws_eqStore _ _ _ h18) ?_
  refine an ?_
  rcases bcase (!x17) with b19 | b19
  · replace h := ite_t b19 h
    refine ct (sq (rn ?_))
    refine an (rt ?_)
    cases h
    simp [Ret, TB, EN, *]
  replace h := ite_f b19 h
  refine cf (sk (ab (an (rn ?_))))
  refine aft_i ⟨mL1, by omega, (IntKind.i64.wrap (v5 + 1)), ?_, ?_, ?_, h⟩
  all_goals simp +decide only [F, reduceIte, Nat.reduceAdd, Bool.not_true, Bool.not_false, EN, *, -h]

set_option maxRecDepth 20000 in
set_option maxHeartbeats 4000000 in
theorem c_laws_eqIndexDef (p0 : M.IndexDef) (p1 : M.IndexDef) (r : Bool) (h : m_laws_eqIndexDef p0 p1 = some r) : SCalls Tryz.prog 294 [(true, M.IndexDef.en p0), (true, M.IndexDef.en p1)] [(false, [.ro (.bool r)])] := by
  unfold m_laws_eqIndexDef at h
  simp only [M.IndexDef.en]
  refine scalls_n (N := 15) (vars := [.tmp 4]) Tryz.func294 rfl rfl rfl (by decide +kernel) (Nat.le_of_ble_eq_true rfl) fun base wd => ?_
  refine sq (rn ?_)
  refine an (sq (sq (rn ?_)))
  refine an ?_
  rcases bcase (!(p0.Store.toList == p1.Store.toList)) with b1 | b1
  · replace h := ite_t b1 h
    refine ct (sq (rn ?_))
    refine an (rt ?_)
    cases h
    simp [Ret, TB, EN, *]
  replace h := ite_f b1 h
  refine cf (sk (an (sq (sq (rn ?_)))))
  refine an ?_
  rcases bcase (!(p0.Field.toList == p1.Field.toList)) with b2 | b2
  · replace h := ite_t b2 h
    refine ct (sq (rn ?_))
    refine an (rt ?_)
    cases h
    simp [Ret, TB, EN, *]
  replace h := ite_f b2 h
  refine cf (sk (an (sq (rn ?_))))
  refine an (rt ?_)
  cases h
  simp [Ret, TB, EN, *]

set_option maxRecDepth 20000 in
set_option maxHeartbeats 4000000 in
theorem c_laws_eqIndexDefS (p0 : List M.IndexDef) (p1 : List M.IndexDef) (r : Bool) (h : m_laws_eqIndexDefS p0 p1 = some r) : SCalls Tryz.prog 194 [(false, [.sl (List.map M.IndexDef.en p0)]), (false, [.sl (List.map M.IndexDef.en p1)])] [(false, [.ro (.bool r)])] := by
  unfold m_laws_eqIndexDefS at h
  refine scalls_n (N := 27) (vars := [.tmp 4]) Tryz.func194 rfl rfl rfl (by decide +kernel) (Nat.le_of_ble_eq_true rfl) fun base wd => ?_
  refine sq (rn ?_)
  refine an (sq (sq (rn ?_)))
  refine an ?_
  rcases bcase ((List.length p0 : Int) != (List.length p1 : Int)) with b1 | b1
  · replace h := ite_t b1 h
    refine ct (sq (rn ?_))
    refine an (rt ?_)
    cases h
    simp [Ret, TB, EN, *]
  replace h := ite_f b1 h
  refine cf (sk (an (sq (sq (rn ?_)))))
  refine an (bk ?_)
  refine SW_loop (fun m s => ∃ v5 : Int, s.t 0 = .v false [.dat (.sl (List.map M.IndexDef.en p0))] ∧ s.t 1 = .v false [.dat (.sl (List.map M.IndexDef.en p1))] ∧ s.t 5 = .v false [.dat (.int .i64 v5)] ∧ m_laws_eqIndexDefS_L1 p0 p1 m v5 = some r) fuel ?_ ?_
  · refine ⟨0, ?_, ?_, ?_, h⟩
    all_goals simp +decide only [F, reduceIte, Nat.reduceAdd, Bool.not_true, Bool.not_false, EN, *, -h]
  rintro mL1 s2 ⟨v5, f3, f4, f5, h⟩
  rcases mL1 with _ | mL1
  · exact absurd h (by simp [m_laws_eqIndexDefS_L1])
  simp only [m_laws_eqIndexDefS_L1] at h
  refine sq (sq (rn ?_))
  refine an ?_
  rcases bcas (decide (v5 < (List.length p0 : Int))) with b6 | b6
  · replace h := ite_f b6 h
    refine cf (xt (aft_cx (aft_ix (aft_x (an (sq (rn ?_)))))))
    refine an (rt ?_)
    cases h
    simp [Ret, TB, EN, *]
  replace h := ite_t b6 h
  refine ct (sk (an (sq (bk (sq ?_)))))
  obtain ⟨x7, h8, h⟩ := bind_some h
  obtain ⟨q9, q10, q11⟩ := idx_some h8
  obtain ⟨x12, h13, h⟩ := bind_some h
  obtain ⟨q14, q15, q16⟩ := idx_some h13
  obtain ⟨x17, h18, h⟩ := bind_some h
  refine rd1 mixed (c_laws_eqIndexDef _ _ _ h18) ?_
  refine an ?_
  rcases bcase (!x17) with b19 | b19
  · replace h := ite_t b19 h
    refine ct (sq (rn ?_))
    refine an (rt ?_)
    cases h
    simp [Ret, TB, EN, *]
  replace h := ite_f b19 h
  refine cf (sk (ab (an (rn ?_))))
  refine aft_i ⟨mL1, by omega, (IntKind.i64.wrap (v5 + 1)), ?_, ?_, ?_, h⟩
  all_goals simp +decide only [F, reduceIte, Nat.reduceAdd, Bool.not_true, Bool.not_false, EN, *, -h]

set_option maxRecDepth 20000 in
set_option maxHeartbeats 4000000 in
theorem c_laws_eqDatabase (p0 : M.Database) (p1 : M.Database) (r : Bool) (h : m_laws_eqDatabase p0 p1 = some r) : SCalls Tryz.prog 98 [(true, M.Database.en p0), (true, M.Database.en p1)] [(false, [.ro (.bool r)])] := by
  unfold m_laws_eqDatabase at h
  simp only [M.Database.en]
  refine scalls_n (N := 27) (vars := [.tmp 4]) Tryz.func98 rfl rfl rfl (by decide +kernel) (Nat.le_of_ble_eq_true rfl) fun base wd => ?_
  refine sq (rn ?_)
  refine an (sq (sq (rn ?_)))
  refine an ?_
  rcases bcase (!(p0.Name.toList == p1.Name.toList)) with b1 | b1
  · replace h := ite_t b1 h
    refine ct (sq (rn ?_))
    refine an (rt ?_)
    cases h
    simp [Ret, TB, EN, *]
  replace h := ite_f b1 h
  refine cf (sk (an (sq (sq (rn ?_)))))
  refine an ?_
  rcases bcase (p0.Version != p1.Version) with b2 | b2
  · replace h := ite_t b2 h
    refine ct (sq (rn ?_))
    refine an (rt ?_)
    cases h
    simp [Ret, TB, EN, *]
  replace h := ite_f b2 h
  refine cf (sk (an (sq (sq ?_))))
  obtain ⟨x3, h4, h⟩ := bind_some h
  refine rn1 (c_laws_eqStoreS _ _ _ h4) ?_
  refine an ?_
  rcases bcase (!x3) with b5 | b5
  · replace h := ite_t b5 h
    refine ct (sq (rn ?_))
    refine an (rt ?_)
    cases h
    simp [Ret, TB, EN, *]
  replace h := ite_f b5 h
  refine cf (sk (an (sq (sq ?_))))
  obtain ⟨x6, h7, h⟩ := bind_some h
  refine rn1 (c_laws_eqIndexDefS _ _ _ h7) ?_
  refine an ?_
  rcases bcase (!x6) with b8 | b8
  · replace h := ite_t b8 h
    refine ct (sq (rn ?_))
    refine an (rt ?_)
    cases h
    simp [Ret, TB, EN, *]
  replace h := ite_f b8 h
  refine cf (sk (an (sq (rn ?_))))
  refine an (rt ?_)
  cases h
  simp [Ret, TB, EN, *]

set_option maxRecDepth 20000 in
set_option maxHeartbeats 4000000 in
theorem c_laws_eqDisk (p0 : M.Disk) (p1 : M.Disk) (r : Bool) (h : m_laws_eqDisk p0 p1 = some r) : SCalls Tryz.prog 26 [(true, M.Disk.en p0), (true, M.Disk.en p1)] [(false, [.ro (.bool r)])] := by
  unfold m_laws_eqDisk at h
  simp only [M.Disk.en]
  refine scalls_n (N := 22) (vars := [.tmp 4]) Tryz.func26 rfl rfl rfl (by decide +kernel) (Nat.le_of_ble_eq_true rfl) fun base wd => ?_
  refine sq (rn ?_)
  refine an (sq (sq ?_))
  obtain ⟨x1, h2, h⟩ := bind_some h
  refine rn1 (c_laws_eqDatabase _ _ _ h2) ?_
  refine an ?_
  rcases bcase (!x1) with b3 | b3
  · replace h := ite_t b3 h
    refine ct (sq (rn ?_))
    refine an (rt ?_)
    cases h
    simp [Ret, TB, EN, *]
  replace h := ite_f b3 h
  refine cf (sk (an (sq (sq ?_))))
  obtain ⟨x4, h5, h⟩ := bind_some h
  refine rn1 (c_laws_eqByteS _ _ _ h5) ?_
  refine an ?_
  rcases bcase (!x4) with b6 | b6
  · replace h := ite_t b6 h
    refine ct (sq (rn ?_))
    refine an (rt ?_)
    cases h
    simp [Ret, TB, EN, *]
  replace h := ite_f b6 h
  refine cf (sk (an (sq (sq (rn ?_)))))
  refine an ?_
  rcases bcase (p0.Count != p1.Count) with b7 | b7
  · replace h := ite_t b7 h
    refine ct (sq (rn ?_))
    refine an (rt ?_)
    cases h
    simp [Ret, TB, EN, *]
  replace h := ite_f b7 h
  refine cf (sk (an (sq (rn ?_))))
  refine an (rt ?_)
  cases h
  simp [Ret, TB, EN, *]

set_option maxRecDepth 20000 in
set_option maxHeartbeats 4000000 in
theorem c_laws_eqWrite (p0 : M.Write) (p1 : M.Write) (r : Bool) (h : m_laws_eqWrite p0 p1 = some r) : SCalls Tryz.prog 365 [(true, M.Write.en p0), (true, M.Write.en p1)] [(false, [.ro (.bool r)])] := by
  unfold m_laws_eqWrite at h
  simp only [M.Write.en]
  refine scalls_n (N := 31) (vars := [.tmp 4]) Tryz.func365 rfl rfl rfl (by decide +kernel) (Nat.le_of_ble_eq_true rfl) fun base wd => ?_
  refine sq (rn ?_)
  refine an (sq (sq (rn ?_)))
  refine an ?_
  rcases bcase (p0.Device != p1.Device) with b1 | b1
  · replace h := ite_t b1 h
    refine ct (sq (rn ?_))
    refine an (rt ?_)
    cases h
    simp [Ret, TB, EN, *]
  replace h := ite_f b1 h
  refine cf (sk (an (sq (sq (rn ?_)))))
  refine an ?_
  rcases bcase (p0.Seq != p1.Seq) with b2 | b2
  · replace h := ite_t b2 h
    refine ct (sq (rn ?_))
    refine an (rt ?_)
    cases h
    simp [Ret, TB, EN, *]
  replace h := ite_f b2 h
  refine cf (sk (an (sq (sq ?_))))
  obtain ⟨x3, h4, h⟩ := bind_some h
  refine rn1 (c_laws_eqKey _ _ _ h4) ?_
  refine an ?_
  rcases bcase (!x3) with b5 | b5
  · replace h := ite_t b5 h
    refine ct (sq (rn ?_))
    refine an (rt ?_)
    cases h
    simp [Ret, TB, EN, *]
  replace h := ite_f b5 h
  refine cf (sk (an (sq (sq (rn ?_)))))
  refine an ?_
  rcases bcase (!(p0.Field.toList == p1.Field.toList)) with b6 | b6
  · replace h := ite_t b6 h
    refine ct (sq (rn ?_))
    refine an (rt ?_)
    cases h
    simp [Ret, TB, EN, *]
  replace h := ite_f b6 h
  refine cf (sk (an (sq (sq (rn ?_)))))
  refine an ?_
  rcases bcase (p0.N != p1.N) with b7 | b7
  · replace h := ite_t b7 h
    refine ct (sq (rn ?_))
    refine an (rt ?_)
    cases h
    simp [Ret, TB, EN, *]
  replace h := ite_f b7 h
  refine cf (sk (an (sq (rn ?_))))
  refine an (rt ?_)
  cases h
  simp [Ret, TB, EN, *]

end Go.Proofs.YtgemmnkhddlhpaaGreat.gen
