/-
  Helper text: walks: each function's contract out of its model. No conditions beyond those of each contract.
-/
import Derived.Test.YtgemmnkhddlhpaaGreatEqualWorldsTi
namespace Go.Proofs.YtgemmnkhddlhpaaGreat.gen
open Go Go.Sh
set_option linter.unusedVariables false
set_option linter.unusedSimpArgs false
set_option maxRecDepth 20000 in
set_option maxHeartbeats 4000000 in
theorem c_laws_szRegistration (p0 : M.Registration) (p1 : Int) (r : Int) (h : m_laws_szRegistration p0 p1 = some r) : SCalls Tryz.prog 35 [(true, M.Registration.en p0), (false, [.int .i64 p1])] [(false, [.ro (.int .i64 r)])] := by
  unfold m_laws_szRegistration at h
  simp only [M.Registration.en]
  refine scalls_n (N := 13) (vars := [.tmp 4]) Tryz.func35 rfl rfl rfl (by decide +kernel) (Nat.le_of_ble_eq_true rfl) fun base wd => ?_
  refine sq (rn ?_)
  refine an (sq (rn ?_))
  refine an (sq (sq (rn ?_)))
  refine an ?_
  rcases bcase (decide ((IntKind.i64.wrap (p1 - (p0.Site.size : Int))) < 0)) with b1 | b1
  · replace h := ite_t b1 h
    refine ct (sq (rn ?_))
    refine an (rt ?_)
    cases h
    simp [Ret, TB, EN, *]
  replace h := ite_f b1 h
  refine cf (sk (an (sq (rn ?_))))
  refine an (rt ?_)
  cases h
  simp [Ret, TB, EN, *]

set_option maxRecDepth 20000 in
set_option maxHeartbeats 4000000 in
theorem c_laws_szByteS (p0 : List Int) (p1 : Int) (r : Int) (h : m_laws_szByteS p0 p1 = some r) : SCalls Tryz.prog 91 [(false, [.sl (List.map enB p0)]), (false, [.int .i64 p1])] [(false, [.ro (.int .i64 r)])] := by
  unfold m_laws_szByteS at h
  refine scalls_n (N := 12) (vars := [.tmp 4]) Tryz.func91 rfl rfl rfl (by decide +kernel) (Nat.le_of_ble_eq_true rfl) fun base wd => ?_
  refine sq (rn ?_)
  refine an (sq (rn ?_))
  refine an (sq (sq (rn ?_)))
  refine an ?_
  rcases bcase (decide ((IntKind.i64.wrap (p1 - (List.length p0 : Int))) < 0)) with b1 | b1
  · replace h := ite_t b1 h
    refine ct (sq (rn ?_))
    refine an (rt ?_)
    cases h
    simp [Ret, TB, EN, *]
  replace h := ite_f b1 h
  refine cf (sk (an (sq (rn ?_))))
  refine an (rt ?_)
  cases h
  simp [Ret, TB, EN, *]

set_option maxRecDepth 20000 in
set_option maxHeartbeats 4000000 in
theorem c_laws_szResponse (p0 : M.Response) (p1 : Int) (r : Int) (h : m_laws_szResponse p0 p1 = some r) : SCalls Tryz.prog 412 [(true, M.Response.en p0), (false, [.int .i64 p1])] [(false, [.ro (.int .i64 r)])] := by
  unfold m_laws_szResponse at h
  simp only [M.Response.en]
  refine scalls_n (N := 12) (vars := [.tmp 4]) Tryz.func412 rfl rfl rfl (by decide +kernel) (Nat.le_of_ble_eq_true rfl) fun base wd => ?_
  refine sq (rn ?_)
  refine an (sq ?_)
  obtain ⟨x1, h2, h⟩ := bind_some h
  refine rn1 (c_laws_szByteS _ _ _ h2) ?_
  refine an (sq (sq (rn ?_)))
  refine an ?_
  rcases bcase (decide (x1 < 0)) with b3 | b3
  · replace h := ite_t b3 h
    refine ct (sq (rn ?_))
    refine an (rt ?_)
    cases h
    simp [Ret, TB, EN, *]
  replace h := ite_f b3 h
  refine cf (sk (an (sq (rn ?_))))
  refine an (rt ?_)
  cases h
  simp [Ret, TB, EN, *]

set_option maxRecDepth 20000 in
set_option maxHeartbeats 4000000 in
theorem c_laws_szCached (p0 : M.Cached) (p1 : Int) (r : Int) (h : m_laws_szCached p0 p1 = some r) : SCalls Tryz.prog 372 [(true, M.Cached.en p0), (false, [.int .i64 p1])] [(false, [.ro (.int .i64 r)])] := by
  unfold m_laws_szCached at h
  simp only [M.Cached.en]
  refine scalls_n (N := 26) (vars := [.tmp 4]) Tryz.func372 rfl rfl rfl (by decide +kernel) (Nat.le_of_ble_eq_true rfl) fun base wd => ?_
  refine sq (rn ?_)
  refine an (sq (rn ?_))
  refine an (sq (sq (rn ?_)))
  refine an ?_
  rcases bcase (decide ((IntKind.i64.wrap (p1 - (p0.Site.size : Int))) < 0)) with b1 | b1
  · replace h := ite_t b1 h
    refine ct (sq (rn ?_))
    refine an (rt ?_)
    cases h
    simp [Ret, TB, EN, *]
  replace h := ite_f b1 h
  refine cf (sk (an (sq (rn ?_))))
  refine an (sq (sq (rn ?_)))
  refine an ?_
  rcases bcase (decide ((IntKind.i64.wrap ((IntKind.i64.wrap (p1 - (p0.Site.size : Int))) - (p0.Path.size : Int))) < 0)) with b2 | b2
  · replace h := ite_t b2 h
    refine ct (sq (rn ?_))
    refine an (rt ?_)
    cases h
    simp [Ret, TB, EN, *]
  replace h := ite_f b2 h
  refine cf (sk (an (sq ?_)))
  obtain ⟨x3, h4, h⟩ := bind_some h
  refine rn1 (c_laws_szResponse _ _ _ h4) ?_
  refine an (sq (sq (rn ?_)))
  refine an ?_
  rcases bcase (decide (x3 < 0)) with b5 | b5
  · replace h := ite_t b5 h
    refine ct (sq (rn ?_))
    refine an (rt ?_)
    cases h
    simp [Ret, TB, EN, *]
  replace h := ite_f b5 h
  refine cf (sk (an (sq (rn ?_))))
  refine an (rt ?_)
  cases h
  simp [Ret, TB, EN, *]

set_option maxRecDepth 20000 in
set_option maxHeartbeats 4000000 in
theorem c_laws_szCachedS (p0 : List M.Cached) (p1 : Int) (r : Int) (h : m_laws_szCachedS p0 p1 = some r) : SCalls Tryz.prog 301 [(false, [.sl (List.map M.Cached.en p0)]), (false, [.int .i64 p1])] [(false, [.ro (.int .i64 r)])] := by
  unfold m_laws_szCachedS at h
  refine scalls_n (N := 27) (vars := [.tmp 4]) Tryz.func301 rfl rfl rfl (by decide +kernel) (Nat.le_of_ble_eq_true rfl) fun base wd => ?_
  refine sq (rn ?_)
  refine an (sq (rn ?_))
  refine an (sq (sq (rn ?_)))
  refine an ?_
  rcases bcase (decide ((IntKind.i64.wrap (p1 - (List.length p0 : Int))) < 0)) with b1 | b1
  · replace h := ite_t b1 h
    refine ct (sq (rn ?_))
    refine an (rt ?_)
    cases h
    simp [Ret, TB, EN, *]
  replace h := ite_f b1 h
  refine cf (sk (an (sq (sq (rn ?_)))))
  refine an (bk ?_)
  refine SW_loop (fun m s => ∃ v1 : Int, ∃ v5 : Int, s.t 0 = .v false [.dat (.sl (List.map M.Cached.en p0))] ∧ s.t 1 = .v false [.dat (.int .i64 v1)] ∧ s.t 5 = .v false [.dat (.int .i64 v5)] ∧ m_laws_szCachedS_L1 p0 m v1 v5 = some r) fuel ?_ ?_
  · refine ⟨(IntKind.i64.wrap (p1 - (List.length p0 : Int))), 0, ?_, ?_, ?_, h⟩
    all_goals simp +decide only [F, reduceIte, Nat.reduceAdd, Bool.not_true, Bool.not_false, EN, *, -h]
  rintro mL1 s2 ⟨v1, v5, f3, f4, f5, h⟩
  rcases mL1 with _ | mL1
  · exact absurd h (by simp [m_laws_szCachedS_L1])
  simp only [m_laws_szCachedS_L1] at h
  refine sq (sq (rn ?_))
  refine an ?_
  rcases bcas (decide (v5 < (List.length p0 : Int))) with b6 | b6
  · replace h := ite_f b6 h
    refine cf (xt (aft_cx (aft_ix (aft_x (an (sq (rn ?_)))))))
    refine an (rt ?_)
    cases h
    simp [Ret, TB, EN, *]
  replace h := ite_t b6 h
  refine ct (sk (an (sq (bk (sq ?_)))))
  obtain ⟨x7, h8, h⟩ := bind_some h
  obtain ⟨q9, q10, q11⟩ := idx_some h8
  obtain ⟨x12, h13, h⟩ := bind_some h
  refine rn1 (c_laws_szCached _ _ _ h13) ?_
  refine an (sq (rn ?_))
  refine an ?_
  rcases bcase (decide (x12 < 0)) with b14 | b14
  · replace h := ite_t b14 h
    refine ct (sq (rn ?_))
    refine an (rt ?_)
    cases h
    simp [Ret, TB, EN, *]
  replace h := ite_f b14 h
  refine cf (sk (ab (an (rn ?_))))
  refine aft_i ⟨mL1, by omega, x12, (IntKind.i64.wrap (v5 + 1)), ?_, ?_, ?_, h⟩
  all_goals simp +decide only [F, reduceIte, Nat.reduceAdd, Bool.not_true, Bool.not_false, EN, *, -h]

set_option maxRecDepth 20000 in
set_option maxHeartbeats 4000000 in
theorem c_laws_szCache (p0 : M.Cache) (p1 : Int) (r : Int) (h : m_laws_szCache p0 p1 = some r) : SCalls Tryz.prog 207 [(true, M.Cache.en p0), (false, [.int .i64 p1])] [(false, [.ro (.int .i64 r)])] := by
  unfold m_laws_szCache at h
  simp only [M.Cache.en]
  refine scalls_n (N := 12) (vars := [.tmp 4]) Tryz.func207 rfl rfl rfl (by decide +kernel) (Nat.le_of_ble_eq_true rfl) fun base wd => ?_
  refine sq (rn ?_)
  refine an (sq ?_)
  obtain ⟨x1, h2, h⟩ := bind_some h
  refine rn1 (c_laws_szCachedS _ _ _ h2) ?_
  refine an (sq (sq (rn ?_)))
  refine an ?_
  rcases bcase (decide (x1 < 0)) with b3 | b3
  · replace h := ite_t b3 h
    refine ct (sq (rn ?_))
    refine an (rt ?_)
    cases h
    simp [Ret, TB, EN, *]
  replace h := ite_f b3 h
  refine cf (sk (an (sq (rn ?_))))
  refine an (rt ?_)
  cases h
  simp [Ret, TB, EN, *]

set_option maxRecDepth 20000 in
set_option maxHeartbeats 4000000 in
theorem c_laws_szCacheS (p0 : List M.Cache) (p1 : Int) (r : Int) (h : m_laws_szCacheS p0 p1 = some r) : SCalls Tryz.prog 111 [(false, [.sl (List.map M.Cache.en p0)]), (false, [.int .i64 p1])] [(false, [.ro (.int .i64 r)])] := by
  unfold m_laws_szCacheS at h
  refine scalls_n (N := 27) (vars := [.tmp 4]) Tryz.func111 rfl rfl rfl (by decide +kernel) (Nat.le_of_ble_eq_true rfl) fun base wd => ?_
  refine sq (rn ?_)
  refine an (sq (rn ?_))
  refine an (sq (sq (rn ?_)))
  refine an ?_
  rcases bcase (decide ((IntKind.i64.wrap (p1 - (List.length p0 : Int))) < 0)) with b1 | b1
  · replace h := ite_t b1 h
    refine ct (sq (rn ?_))
    refine an (rt ?_)
    cases h
    simp [Ret, TB, EN, *]
  replace h := ite_f b1 h
  refine cf (sk (an (sq (sq (rn ?_)))))
  refine an (bk ?_)
  refine SW_loop (fun m s => ∃ v1 : Int, ∃ v5 : Int, s.t 0 = .v false [.dat (.sl (List.map M.Cache.en p0))] ∧ s.t 1 = .v false [.dat (.int .i64 v1)] ∧ s.t 5 = .v false [.dat (.int .i64 v5)] ∧ m_laws_szCacheS_L1 p0 m v1 v5 = some r) fuel ?_ ?_
  · refine ⟨(IntKind.i64.wrap (p1 - (List.length p0 : Int))), 0, ?_, ?_, ?_, h⟩
    all_goals simp +decide only [F, reduceIte, Nat.reduceAdd, Bool.not_true, Bool.not_false, EN, *, -h]
  rintro mL1 s2 ⟨v1, v5, f3, f4, f5, h⟩
  rcases mL1 with _ | mL1
  · exact absurd h (by simp [m_laws_szCacheS_L1])
  simp only [m_laws_szCacheS_L1] at h
  refine sq (sq (rn ?_))
  refine an ?_
  rcases bcas (decide (v5 < (List.length p0 : Int))) with b6 | b6
  · replace h := ite_f b6 h
    refine cf (xt (aft_cx (aft_ix (aft_x (an (sq (rn ?_)))))))
    refine an (rt ?_)
    cases h
    simp [Ret, TB, EN, *]
  replace h := ite_t b6 h
  refine ct (sk (an (sq (bk (sq ?_)))))
  obtain ⟨x7, h8, h⟩ := bind_some h
  obtain ⟨q9, q10, q11⟩ := idx_some h8
  obtain ⟨x12, h13, h⟩ := bind_some h
  refine rn1 (c_laws_szCache _ _ _ h13) ?_
  refine an (sq (rn ?_))
  refine an ?_
  rcases bcase (decide (x12 < 0)) with b14 | b14
  · replace h := ite_t b14 h
    refine ct (sq (rn ?_))
    refine an (rt ?_)
    cases h
    simp [Ret, TB, EN, *]
  replace h := ite_f b14 h
  refine cf (sk (ab (an (rn ?_))))
  refine aft_i ⟨mL1, by omega, x12, (IntKind.i64.wrap (v5 + 1)), ?_, ?_, ?_, h⟩
  all_goals simp +decide only [F, reduceIte, Nat.reduceAdd, Bool.not_true, Bool.not_false, EN, *, -h]

set_option maxRecDepth 20000 in
set_option maxHeartbeats 4000000 in
theorem c_laws_szCacheSet (p0 : M.CacheSet) (p1 : Int) (r : Int) (h : m_laws_szCacheSet p0 p1 = some r) : SCalls Tryz.prog 34 [(true, M.CacheSet.en p0), (false, [.int .i64 p1])] [(false, [.ro (.int .i64 r)])] := by
  unfold m_laws_szCacheSet at h
  simp only [M.CacheSet.en]
  refine scalls_n (N := 12) (vars := [.tmp 4]) Tryz.func34 rfl rfl rfl (by decide +kernel) (Nat.le_of_ble_eq_true rfl) fun base wd => ?_
  refine sq (rn ?_)
  refine an (sq ?_)
  obtain ⟨x1, h2, h⟩ := bind_some h
  refine rn1 (c_laws_szCacheS _ _ _ h2) ?_
  refine an (sq (sq (rn ?_)))
  refine an ?_
  rcases bcase (decide (x1 < 0)) with b3 | b3
  · replace h := ite_t b3 h
    refine ct (sq (rn ?_))
    refine an (rt ?_)
    cases h
    simp [Ret, TB, EN, *]
  replace h := ite_f b3 h
  refine cf (sk (an (sq (rn ?_))))
  refine an (rt ?_)
  cases h
  simp [Ret, TB, EN, *]

set_option maxRecDepth 20000 in
set_option maxHeartbeats 4000000 in
theorem c_laws_szKey (p0 : M.Key) (p1 : Int) (r : Int) (h : m_laws_szKey p0 p1 = some r) : SCalls Tryz.prog 366 [(true, M.Key.en p0), (false, [.int .i64 p1])] [(false, [.ro (.int .i64 r)])] := by
  unfold m_laws_szKey at h
  simp only [M.Key.en]
  refine scalls_n (N := 13) (vars := [.tmp 4]) Tryz.func366 rfl rfl rfl (by decide +kernel) (Nat.le_of_ble_eq_true rfl) fun base wd => ?_
  refine sq (rn ?_)
  refine an (sq (rn ?_))
  refine an (sq (sq (rn ?_)))
  refine an ?_
  rcases bcase (decide ((IntKind.i64.wrap (p1 - (p0.Text.size : Int))) < 0)) with b1 | b1
  · replace h := ite_t b1 h
    refine ct (sq (rn ?_))
    refine an (rt ?_)
    cases h
    simp [Ret, TB, EN, *]
  replace h := ite_f b1 h
  refine cf (sk (an (sq (rn ?_))))
  refine an (rt ?_)
  cases h
  simp [Ret, TB, EN, *]

set_option maxRecDepth 20000 in
set_option maxHeartbeats 4000000 in
theorem c_laws_szField (p0 : M.Field) (p1 : Int) (r : Int) (h : m_laws_szField p0 p1 = some r) : SCalls Tryz.prog 431 [(true, M.Field.en p0), (false, [.int .i64 p1])] [(false, [.ro (.int .i64 r)])] := by
  unfold m_laws_szField at h
  simp only [M.Field.en]
  refine scalls_n (N := 13) (vars := [.tmp 4]) Tryz.func431 rfl rfl rfl (by decide +kernel) (Nat.le_of_ble_eq_true rfl) fun base wd => ?_
  refine sq (rn ?_)
  refine an (sq (rn ?_))
  refine an (sq (sq (rn ?_)))
  refine an ?_
  rcases bcase (decide ((IntKind.i64.wrap (p1 - (p0.Name.size : Int))) < 0)) with b1 | b1
  · replace h := ite_t b1 h
    refine ct (sq (rn ?_))
    refine an (rt ?_)
    cases h
    simp [Ret, TB, EN, *]
  replace h := ite_f b1 h
  refine cf (sk (an (sq (rn ?_))))
  refine an (rt ?_)
  cases h
  simp [Ret, TB, EN, *]

set_option maxRecDepth 20000 in
set_option maxHeartbeats 4000000 in
theorem c_laws_szFieldS (p0 : List M.Field) (p1 : Int) (r : Int) (h : m_laws_szFieldS p0 p1 = some r) : SCalls Tryz.prog 409 [(false, [.sl (List.map M.Field.en p0)]), (false, [.int .i64 p1])] [(false, [.ro (.int .i64 r)])] := by
  unfold m_laws_szFieldS at h
  refine scalls_n (N := 27) (vars := [.tmp 4]) Tryz.func409 rfl rfl rfl (by decide +kernel) (Nat.le_of_ble_eq_true rfl) fun base wd => ?_
  refine sq (rn ?_)
  refine an (sq (rn ?_))
  refine an (sq (sq (rn ?_)))
  refine an ?_
  rcases bcase (decide ((IntKind.i64.wrap (p1 - (List.length p0 : Int))) < 0)) with b1 | b1
  · replace h := ite_t b1 h
    refine ct (sq (rn ?_))
    refine an (rt ?_)
    cases h
    simp [Ret, TB, EN, *]
  replace h := ite_f b1 h
  refine cf (sk (an (sq (sq (rn ?_)))))
  refine an (bk ?_)
  refine SW_loop (fun m s => ∃ v1 : Int, ∃ v5 : Int, s.t 0 = .v false [.dat (.sl (List.map M.Field.en p0))] ∧ s.t 1 = .v false [.dat (.int .i64 v1)] ∧ s.t 5 = .v false [.dat (.int .i64 v5)] ∧ m_laws_szFieldS_L1 p0 m v1 v5 = some r) fuel ?_ ?_
  · refine ⟨(IntKind.i64.wrap (p1 - (List.length p0 : Int))), 0, ?_, ?_, ?_, h⟩
    all_goals simp +decide only [F, reduceIte, Nat.reduceAdd, Bool.not_true, Bool.not_false, EN, *, -h]
  rintro mL1 s2 ⟨v1, v5, f3, f4, f5, h⟩
  rcases mL1 with _ | mL1
  · exact absurd h (by simp [m_laws_szFieldS_L1])
  simp only [m_laws_szFieldS_L1] at h
  refine sq (sq (rn ?_))
  refine an ?_
  rcases bcas (decide (v5 < (List.length p0 : Int))) with b6 | b6
  · replace h := ite_f b6 h
    refine cf (xt (aft_cx (aft_ix (aft_x (an (sq (rn ?_)))))))
    refine an (rt ?_)
    cases h
    simp [Ret, TB, EN, *]
  replace h := ite_t b6 h
  refine ct (sk (an (sq (bk (sq ?_)))))
  obtain ⟨x7, h8, h⟩ := bind_some h
  obtain ⟨q9, q10, q11⟩ := idx_some h8
  obtain ⟨x12, h13, h⟩ := bind_some h
  refine rn1 (c_laws_szField _ _ _ h13) ?_
  refine an (sq (rn ?_))
  refine an ?_
  rcases bcase (decide (x12 < 0)) with b14 | b14
  · replace h := ite_t b14 h
    refine ct (sq (rn ?_))
    refine an (rt ?_)
    cases h
    simp [Ret, TB, EN, *]
  replace h := ite_f b14 h
  refine cf (sk (ab (an (rn ?_))))
  refine aft_i ⟨mL1, by omega, x12, (IntKind.i64.wrap (v5 + 1)), ?_, ?_, ?_, h⟩
  all_goals simp +decide only [F, reduceIte, Nat.reduceAdd, Bool.not_true, Bool.not_false, EN, *, -h]

set_option maxRecDepth 20000 in
set_option maxHeartbeats 4000000 in
theorem c_laws_szRecord (p0 : M.Record) (p1 : Int) (r : Int) (h : m_laws_szRecord p0 p1 = some r) : SCalls Tryz.prog 367 [(true, M.Record.en p0), (false, [.int .i64 p1])] [(false, [.ro (.int .i64 r)])] := by
  unfold m_laws_szRecord at h
  simp only [M.Record.en]
  refine scalls_n (N := 12) (vars := [.tmp 4]) Tryz.func367 rfl rfl rfl (by decide +kernel) (Nat.le_of_ble_eq_true rfl) fun base wd => ?_
  refine sq (rn ?_)
  refine an (sq ?_)
  obtain ⟨x1, h2, h⟩ := bind_some h
  refine rn1 (c_laws_szFieldS _ _ _ h2) ?_
  refine an (sq (sq (rn ?_)))
  refine an ?_
  rcases bcase (decide (x1 < 0)) with b3 | b3
  · replace h := ite_t b3 h
    refine ct (sq (rn ?_))
    refine an (rt ?_)
    cases h
    simp [Ret, TB, EN, *]
  replace h := ite_f b3 h
  refine cf (sk (an (sq (rn ?_))))
  refine an (rt ?_)
  cases h
  simp [Ret, TB, EN, *]

set_option maxRecDepth 20000 in
set_option maxHeartbeats 4000000 in
theorem c_laws_szItem (p0 : M.Item) (p1 : Int) (r : Int) (h : m_laws_szItem p0 p1 = some r) : SCalls Tryz.prog 295 [(true, M.Item.en p0), (false, [.int .i64 p1])] [(false, [.ro (.int .i64 r)])] := by
  unfold m_laws_szItem at h
  simp only [M.Item.en]
  refine scalls_n (N := 18) (vars := [.tmp 4]) Tryz.func295 rfl rfl rfl (by decide +kernel) (Nat.le_of_ble_eq_true rfl) fun base wd => ?_
  refine sq (rn ?_)
  refine an (sq ?_)
  obtain ⟨x1, h2, h⟩ := bind_some h
  refine rn1 (c_laws_szKey _ _ _ h2) ?_
  refine an (sq (sq (rn ?_)))
  refine an ?_
  rcases bcase (decide (x1 < 0)) with b3 | b3
  · replace h := ite_t b3 h
    refine ct (sq (rn ?_))
    refine an (rt ?_)
    cases h
    simp [Ret, TB, EN, *]
  replace h := ite_f b3 h
  refine cf (sk (an (sq ?_)))
  obtain ⟨x4, h5, h⟩ := bind_some h
  refine rn1 (c_laws_szRecord _ _ _ h5) ?_
  refine an (sq (sq (rn ?_)))
  refine an ?_
  rcases bcase (decide (x4 < 0)) with b6 | b6
  · replace h := ite_t b6 h
    refine ct (sq (rn ?_))
    refine an (rt ?_)
    cases h
    simp [Ret, TB, EN, *]
  replace h := ite_f b6 h
  refine cf (sk (an (sq (rn ?_))))
  refine an (rt ?_)
  cases h
  simp [Ret, TB, EN, *]

set_option maxRecDepth 20000 in
set_option maxHeartbeats 4000000 in
theorem c_laws_szItemS (p0 : List M.Item) (p1 : Int) (r : Int) (h : m_laws_szItemS p0 p1 = some r) : SCalls Tryz.prog 197 [(false, [.sl (List.map M.Item.en p0)]), (false, [.int .i64 p1])] [(false, [.ro (.int .i64 r)])] := by
  unfold m_laws_szItemS at h
  refine scalls_n (N := 27) (vars := [.tmp 4]) Tryz.func197 rfl rfl rfl (by decide +kernel) (Nat.le_of_ble_eq_true rfl) fun base wd => ?_
  refine sq (rn ?_)
  refine an (sq (rn ?_))
  refine an (sq (sq (rn ?_)))
  refine an ?_
  rcases bcase (decide ((IntKind.i64.wrap (p1 - (List.length p0 : Int))) < 0)) with b1 | b1
  · replace h := ite_t b1 h
    refine ct (sq (rn ?_))
    refine an (rt ?_)
    cases h
    simp [Ret, TB, EN, *]
  replace h := ite_f b1 h
  refine cf (sk (an (sq (sq (rn ?_)))))
  refine an (bk ?_)
  refine SW_loop (fun m s => ∃ v1 : Int, ∃ v5 : Int, s.t 0 = .v false [.dat (.sl (List.map M.Item.en p0))] ∧ s.t 1 = .v false [.dat (.int .i64 v1)] ∧ s.t 5 = .v false [.dat (.int .i64 v5)] ∧ m_laws_szItemS_L1 p0 m v1 v5 = some r) fuel ?_ ?_
  · refine ⟨(IntKind.i64.wrap (p1 - (List.length p0 : Int))), 0, ?_, ?_, ?_, h⟩
    all_goals simp +decide only [F, reduceIte, Nat.reduceAdd, Bool.not_true, Bool.not_false, EN, *, -h]
  rintro mL1 s2 ⟨v1, v5, f3, f4, f5, h⟩
  rcases mL1 with _ | mL1
  · exact absurd h (by simp [m_laws_szItemS_L1])
  simp only [m_laws_szItemS_L1] at h
  refine sq (sq (rn ?_))
  refine an ?_
  rcases bcas (decide (v5 < (List.length p0 : Int))) with b6 | b6
  · replace h := ite_f b6 h
    refine cf (xt (aft_cx (aft_ix (aft_x (an (sq (rn ?_)))))))
    refine an (rt ?_)
    cases h
    simp [Ret, TB, EN, *]
  replace h := ite_t b6 h
  refine ct (sk (an (sq (bk (sq ?_)))))
  obtain ⟨x7, h8, h⟩ := bind_some h
  obtain ⟨q9, q10, q11⟩ := idx_some h8
  obtain ⟨x12, h13, h⟩ := bind_some h
  refine rn1 (c_laws_szItem _ _ _ h13) ?_
  refine an (sq (rn ?_))
  refine an ?_
  rcases bcase (decide (x12 < 0)) with b14 | b14
  · replace h := ite_t b14 h
    refine ct (sq (rn ?_))
    refine an (rt ?_)
    cases h
    simp [Ret, TB, EN, *]
  replace h := ite_f b14 h
  refine cf (sk (ab (an (rn ?_))))
  refine aft_i ⟨mL1, by omega, x12, (IntKind.i64.wrap (v5 + 1)), ?_, ?_, ?_, h⟩
  all_goals simp +decide only [F, reduceIte, Nat.reduceAdd, Bool.not_true, Bool.not_false, EN, *, -h]

set_option maxRecDepth 20000 in
set_option maxHeartbeats 4000000 in
theorem c_laws_szStore (p0 : M.Store) (p1 : Int) (r : Int) (h : m_laws_szStore p0 p1 = some r) : SCalls Tryz.prog 102 [(true, M.Store.en p0), (false, [.int .i64 p1])] [(false, [.ro (.int .i64 r)])] := by
  unfold m_laws_szStore at h
  simp only [M.Store.en]
  refine scalls_n (N := 19) (vars := [.tmp 4]) Tryz.func102 rfl rfl rfl (by decide +kernel) (Nat.le_of_ble_eq_true rfl) fun base wd => ?_
  refine sq (rn ?_)
  refine an (sq (rn ?_))
  refine an (sq (sq (rn ?_)))
  refine an ?_
  rcases bcase (decide ((IntKind.i64.wrap (p1 - (p0.Name.size : Int))) < 0)) with b1 | b1
  · replace h := ite_t b1 h
    refine ct (sq (rn ?_))
    refine an (rt ?_)
    cases h
    simp [Ret, TB, EN, *]
  replace h := ite_f b1 h
  refine cf (sk (an (sq ?_)))
  obtain ⟨x2, h3, h⟩ := bind_some h
  refine rn1 (c_laws_szItemS _ _ _ h3) ?_
  refine an (sq (sq (rn ?_)))
  refine an ?_
  rcases bcase (decide (x2 < 0)) with b4 | b4
  · replace h := ite_t b4 h
    refine ct (sq (rn ?_))
    refine an (rt ?_)
    cases h
    simp [Ret, TB, EN, *]
  replace h := ite_f b4 h
  refine cf (sk (an (sq (rn ?_))))
  refine an (rt ?_)
  cases h
  simp [Ret, TB, EN, *]

set_option maxRecDepth 20000 in
set_option maxHeartbeats 4000000 in
theorem c_laws_szStoreS (p0 : List M.Store) (p1 : Int) (r : Int) (h : m_laws_szStoreS p0 p1 = some r) : SCalls Tryz.prog 188 [(false, [.sl (List.map M.Store.en p0)]), (false, [.int .i64 p1])] [(false, [.ro (.int .i64 r)])] := by
  unfold m_laws_szStoreS at h
  refine scalls_n (N := 27) (vars := [.tmp 4]) Tryz.func188 rfl rfl rfl (by decide +kernel) (Nat.le_of_ble_eq_true rfl) fun base wd => ?_
  refine sq (rn ?_)
  refine an (sq (rn ?_))
  refine an (sq (sq (rn ?_)))
  refine an ?_
  rcases bcase (decide ((IntKind.i64.wrap (p1 - (List.length p0 : Int))) < 0)) with b1 | b1
  · replace h := ite_t b1 h
    refine ct (sq (rn ?_))
    refine an (rt ?_)
    cases h
    simp [Ret, TB, EN, *]
  replace h := ite_f b1 h
  refine cf (sk (an (sq (sq (rn ?_)))))
  refine an (bk ?_)
  refine SW_loop (fun m s => ∃ v1 : Int, ∃ v5 : Int, s.t 0 = .v false [.dat (.sl (List.map M.Store.en p0))] ∧ s.t 1 = .v false [.dat (.int .i64 v1)] ∧ s.t 5 = .v false [.dat (.int .i64 v5)] ∧ m_laws_szStoreS_L1 p0 m v1 v5 = some r) fuel ?_ ?_
  · refine ⟨(IntKind.i64.wrap (p1 - (List.length p0 : Int))), 0, ?_, ?_, ?_, h⟩
    all_goals simp +decide only [F, reduceIte, Nat.reduceAdd, Bool.not_true, Bool.not_false, EN, *, -h]
  rintro mL1 s2 ⟨v1, v5, f3, f4, f5, h⟩
  rcases mL1 with _ | mL1
  · exact absurd h (by simp [m_laws_szStoreS_L1])
  simp only [m_laws_szStoreS_L1] at h
  refine sq (sq (rn ?_))
  refine an ?_
  rcases bcas (decide (v5 < (List.length p0 : Int))) with b6 | b6
  · replace h := ite_f b6 h
    refine cf (xt (aft_cx (aft_ix (aft_x (an (sq (rn ?_)))))))
    refine an (rt ?_)
    cases h
    simp [Ret, TB, EN, *]
  replace h := ite_t b6 h
  refine ct (sk (an (sq (bk (sq ?_)))))
  obtain ⟨x7, h8, h⟩ := bind_some h
  obtain ⟨q9, q10, q11⟩ := idx_some h8
  obtain ⟨x12, h13, h⟩ := bind_some h
  refine rn1 (c_laws_szStore _ _ _ h13) ?_
  refine an (sq (rn ?_))
  refine an ?_
  rcases bcase (decide (x12 < 0)) with b14 | b14
  · replace h := ite_t b14 h
    refine ct (sq (rn ?_))
    refine an (rt ?_)
    cases h
    simp [Ret, TB, EN, *]
  replace h := ite_f b14 h
  refine cf (sk (ab (an (rn ?_))))
  refine aft_i ⟨mL1, by omega, x12, (IntKind.i64.wrap (v5 + 1)), ?_, ?_, ?_, h⟩
  all_goals simp +decide only [F, reduceIte, Nat.reduceAdd, Bool.not_true, Bool.not_false, EN, *, -h]

set_option maxRecDepth 20000 in
set_option maxHeartbeats 4000000 in
theorem c_laws_szIndexDef (p0 : M.IndexDef) (p1 : Int) (r : Int) (h : m_laws_szIndexDef p0 p1 = some r) : SCalls Tryz.prog 292 [(true, M.IndexDef.en p0), (false, [.int .i64 p1])] [(false, [.ro (.int .i64 r)])] := by
  unfold m_laws_szIndexDef at h
  simp only [M.IndexDef.en]
  refine scalls_n (N := 20) (vars := [.tmp 4]) Tryz.func292 rfl rfl rfl (by decide +kernel) (Nat.le_of_ble_eq_true rfl) fun base wd => ?_
  refine sq (rn ?_)
  refine an (sq (rn ?_))
  refine an (sq (sq (rn ?_)))
  refine an ?_
  rcases bcase (decide ((IntKind.i64.wrap (p1 - (p0.Store.size : Int))) < 0)) with b1 | b1
  · replace h := ite_t b1 h
    refine ct (sq (rn ?_))
    refine an (rt ?_)
    cases h
    simp [Ret, TB, EN, *]
  replace h := ite_f b1 h
  refine cf (sk (an (sq (rn ?_))))
  refine an (sq (sq (rn ?_)))
  refine an ?_
  rcases bcase (decide ((IntKind.i64.wrap ((IntKind.i64.wrap (p1 - (p0.Store.size : Int))) - (p0.Field.size : Int))) < 0)) with b2 | b2
  · replace h := ite_t b2 h
    refine ct (sq (rn ?_))
    refine an (rt ?_)
    cases h
    simp [Ret, TB, EN, *]
  replace h := ite_f b2 h
  refine cf (sk (an (sq (rn ?_))))
  refine an (rt ?_)
  cases h
  simp [Ret, TB, EN, *]

set_option maxRecDepth 20000 in
set_option maxHeartbeats 4000000 in
theorem c_laws_szIndexDefS (p0 : List M.IndexDef) (p1 : Int) (r : Int) (h : m_laws_szIndexDefS p0 p1 = some r) : SCalls Tryz.prog 189 [(false, [.sl (List.map M.IndexDef.en p0)]), (false, [.int .i64 p1])] [(false, [.ro (.int .i64 r)])] := by
  unfold m_laws_szIndexDefS at h
  refine scalls_n (N := 27) (vars := [.tmp 4]) Tryz.func189 rfl rfl rfl (by decide +kernel) (Nat.le_of_ble_eq_true rfl) fun base wd => ?_
  refine sq (rn ?_)
  refine an (sq (rn ?_))
  refine an (sq (sq (rn ?_)))
  refine an ?_
  rcases bcase (decide ((IntKind.i64.wrap (p1 - (List.length p0 : Int))) < 0)) with b1 | b1
  · replace h := ite_t b1 h
    refine ct (sq (rn ?_))
    refine an (rt ?_)
    cases h
    simp [Ret, TB, EN, *]
  replace h := ite_f b1 h
  refine cf (sk (an (sq (sq (rn ?_)))))
  refine an (bk ?_)
  refine SW_loop (fun m s => ∃ v1 : Int, ∃ v5 : Int, s.t 0 = .v false [.dat (.sl (List.map M.IndexDef.en p0))] ∧ s.t 1 = .v false [.dat (.int .i64 v1)] ∧ s.t 5 = .v false [.dat (.int .i64 v5)] ∧ m_laws_szIndexDefS_L1 p0 m v1 v5 = some r) fuel ?_ ?_
  · refine ⟨(IntKind.i64.wrap (p1 - (List.length p0 : Int))), 0, ?_, ?_, ?_, h⟩
    all_goals simp +decide only [F, reduceIte, Nat.reduceAdd, Bool.not_true, Bool.not_false, EN, *, -h]
  rintro mL1 s2 ⟨v1, v5, f3, f4, f5, h⟩
  rcases mL1 with _ | mL1
  · exact absurd h (by simp [m_laws_szIndexDefS_L1])
  simp only [m_laws_szIndexDefS_L1] at h
  refine sq (sq (rn ?_))
  refine an ?_
  rcases bcas (decide (v5 < (List.length p0 : Int))) with b6 | b6
  · replace h := ite_f b6 h
    refine cf (xt (aft_cx (aft_ix (aft_x (an (sq (rn ?_)))))))
    refine an (rt ?_)
    cases h
    simp [Ret, TB, EN, *]
  replace h := ite_t b6 h
  refine ct (sk (an (sq (bk (sq ?_)))))
  obtain ⟨x7, h8, h⟩ := bind_some h
  obtain ⟨q9, q10, q11⟩ := idx_some h8
  obtain ⟨x12, h13, h⟩ := bind_some h
  refine rn1 (c_laws_szIndexDef _ _ _ h13) ?_
  refine an (sq (rn ?_))
  refine an ?_
  rcases bcase (decide (x12 < 0)) with b14 | b14
  · replace h := ite_t b14 h
    refine ct (sq (rn ?_))
    refine an (rt ?_)
    cases h
    simp [Ret, TB, EN, *]
  replace h := ite_f b14 h
  refine cf (sk (ab (an (rn ?_))))
  refine aft_i ⟨mL1, by omega, x12, (IntKind.i64.wrap (v5 + 1)), ?_, ?_, ?_, h⟩
  all_goals simp +decide only [F, reduceIte, Nat.reduceAdd, Bool.not_true, Bool.not_false, EN, *, -h]

set_option maxRecDepth 20000 in
set_option maxHeartbeats 4000000 in
theorem c_laws_szDatabase (p0 : M.Database) (p1 : Int) (r : Int) (h : m_laws_szDatabase p0 p1 = some r) : SCalls Tryz.prog 90 [(true, M.Database.en p0), (false, [.int .i64 p1])] [(false, [.ro (.int .i64 r)])] := by
  unfold m_laws_szDatabase at h
  simp only [M.Database.en]
  refine scalls_n (N := 25) (vars := [.tmp 4]) Tryz.func90 rfl rfl rfl (by decide +kernel) (Nat.le_of_ble_eq_true rfl) fun base wd => ?_
  refine sq (rn ?_)
  refine an (sq (rn ?_))
  refine an (sq (sq (rn ?_)))
  refine an ?_
  rcases bcase (decide ((IntKind.i64.wrap (p1 - (p0.Name.size : Int))) < 0)) with b1 | b1
  · replace h := ite_t b1 h
    refine ct (sq (rn ?_))
    refine an (rt ?_)
    cases h
    simp [Ret, TB, EN, *]
  replace h := ite_f b1 h
  refine cf (sk (an (sq ?_)))
  obtain ⟨x2, h3, h⟩ := bind_some h
  refine rn1 (c_laws_szStoreS _ _ _ h3) ?_
  refine an (sq (sq (rn ?_)))
  refine an ?_
  rcases bcase (decide (x2 < 0)) with b4 | b4
  · replace h := ite_t b4 h
    refine ct (sq (rn ?_))
    refine an (rt ?_)
    cases h
    simp [Ret, TB, EN, *]
  replace h := ite_f b4 h
  refine cf (sk (an (sq ?_)))
  obtain ⟨x5, h6, h⟩ := bind_some h
  refine rn1 (c_laws_szIndexDefS _ _ _ h6) ?_
  refine an (sq (sq (rn ?_)))
  refine an ?_
  rcases bcase (decide (x5 < 0)) with b7 | b7
  · replace h := ite_t b7 h
    refine ct (sq (rn ?_))
    refine an (rt ?_)
    cases h
    simp [Ret, TB, EN, *]
  replace h := ite_f b7 h
  refine cf (sk (an (sq (rn ?_))))
  refine an (rt ?_)
  cases h
  simp [Ret, TB, EN, *]

set_option maxRecDepth 20000 in
set_option maxHeartbeats 4000000 in
theorem c_laws_szDisk (p0 : M.Disk) (p1 : Int) (r : Int) (h : m_laws_szDisk p0 p1 = some r) : SCalls Tryz.prog 21 [(true, M.Disk.en p0), (false, [.int .i64 p1])] [(false, [.ro (.int .i64 r)])] := by
  unfold m_laws_szDisk at h
  simp only [M.Disk.en]
  refine scalls_n (N := 18) (vars := [.tmp 4]) Tryz.func21 rfl rfl rfl (by decide +kernel) (Nat.le_of_ble_eq_true rfl) fun base wd => ?_
  refine sq (rn ?_)
  refine an (sq ?_)
  obtain ⟨x1, h2, h⟩ := bind_some h
  refine rn1 (c_laws_szDatabase _ _ _ h2) ?_
  refine an (sq (sq (rn ?_)))
  refine an ?_
  rcases bcase (decide (x1 < 0)) with b3 | b3
  · replace h := ite_t b3 h
    refine ct (sq (rn ?_))
    refine an (rt ?_)
    cases h
    simp [Ret, TB, EN, *]
  replace h := ite_f b3 h
  refine cf (sk (an (sq ?_)))
  obtain ⟨x4, h5, h⟩ := bind_some h
  refine rn1 (c_laws_szByteS _ _ _ h5) ?_
  refine an (sq (sq (rn ?_)))
  refine an ?_
  rcases bcase (decide (x4 < 0)) with b6 | b6
  · replace h := ite_t b6 h
    refine ct (sq (rn ?_))
    refine an (rt ?_)
    cases h
    simp [Ret, TB, EN, *]
  replace h := ite_f b6 h
  refine cf (sk (an (sq (rn ?_))))
  refine an (rt ?_)
  cases h
  simp [Ret, TB, EN, *]

set_option maxRecDepth 20000 in
set_option maxHeartbeats 4000000 in
theorem c_laws_szWrite (p0 : M.Write) (p1 : Int) (r : Int) (h : m_laws_szWrite p0 p1 = some r) : SCalls Tryz.prog 351 [(true, M.Write.en p0), (false, [.int .i64 p1])] [(false, [.ro (.int .i64 r)])] := by
  unfold m_laws_szWrite at h
  simp only [M.Write.en]
  refine scalls_n (N := 19) (vars := [.tmp 4]) Tryz.func351 rfl rfl rfl (by decide +kernel) (Nat.le_of_ble_eq_true rfl) fun base wd => ?_
  refine sq (rn ?_)
  refine an (sq ?_)
  obtain ⟨x1, h2, h⟩ := bind_some h
  refine rn1 (c_laws_szKey _ _ _ h2) ?_
  refine an (sq (sq (rn ?_)))
  refine an ?_
  rcases bcase (decide (x1 < 0)) with b3 | b3
  · replace h := ite_t b3 h
    refine ct (sq (rn ?_))
    refine an (rt ?_)
    cases h
    simp [Ret, TB, EN, *]
  replace h := ite_f b3 h
  refine cf (sk (an (sq (rn ?_))))
  refine an (sq (sq (rn ?_)))
  refine an ?_
  rcases bcase (decide ((IntKind.i64.wrap (x1 - (p0.Field.size : Int))) < 0)) with b4 | b4
  · replace h := ite_t b4 h
    refine ct (sq (rn ?_))
    refine an (rt ?_)
    cases h
    simp [Ret, TB, EN, *]
  replace h := ite_f b4 h
  refine cf (sk (an (sq (rn ?_))))
  refine an (rt ?_)
  cases h
  simp [Ret, TB, EN, *]

set_option maxRecDepth 20000 in
set_option maxHeartbeats 4000000 in
theorem c_laws_szWriteS (p0 : List M.Write) (p1 : Int) (r : Int) (h : m_laws_szWriteS p0 p1 = some r) : SCalls Tryz.prog 269 [(false, [.sl (List.map M.Write.en p0)]), (false, [.int .i64 p1])] [(false, [.ro (.int .i64 r)])] := by
  unfold m_laws_szWriteS at h
  refine scalls_n (N := 27) (vars := [.tmp 4]) Tryz.func269 rfl rfl rfl (by decide +kernel) (Nat.le_of_ble_eq_true rfl) fun base wd => ?_
  refine sq (rn ?_)
  refine an (sq (rn ?_))
  refine an (sq (sq (rn ?_)))
  refine an ?_
  rcases bcase (decide ((IntKind.i64.wrap (p1 - (List.length p0 : Int))) < 0)) with b1 | b1
  · replace h := ite_t b1 h
    refine ct (sq (rn ?_))
    refine an (rt ?_)
    cases h
    simp [Ret, TB, EN, *]
  replace h := ite_f b1 h
  refine cf (sk (an (sq (sq (rn ?_)))))
  refine an (bk ?_)
  refine SW_loop (fun m s => ∃ v1 : Int, ∃ v5 : Int, s.t 0 = .v false [.dat (.sl (List.map M.Write.en p0))] ∧ s.t 1 = .v false [.dat (.int .i64 v1)] ∧ s.t 5 = .v false [.dat (.int .i64 v5)] ∧ m_laws_szWriteS_L1 p0 m v1 v5 = some r) fuel ?_ ?_
  · refine ⟨(IntKind.i64.wrap (p1 - (List.length p0 : Int))), 0, ?_, ?_, ?_, h⟩
    all_goals simp +decide only [F, reduceIte, Nat.reduceAdd, Bool.not_true, Bool.not_false, EN, *, -h]
  rintro mL1 s2 ⟨v1, v5, f3, f4, f5, h⟩
  rcases mL1 with _ | mL1
  · exact absurd h (by simp [m_laws_szWriteS_L1])
  simp only [m_laws_szWriteS_L1] at h
  refine sq (sq (rn ?_))
  refine an ?_
  rcases bcas (decide (v5 < (List.length p0 : Int))) with b6 | b6
  · replace h := ite_f b6 h
    refine cf (xt (aft_cx (aft_ix (aft_x (an (sq (rn ?_)))))))
    refine an (rt ?_)
    cases h
    simp [Ret, TB, EN, *]
  replace h := ite_t b6 h
  refine ct (sk (an (sq (bk (sq ?_)))))
  obtain ⟨x7, h8, h⟩ := bind_some h
  obtain ⟨q9, q10, q11⟩ := idx_some h8
  obtain ⟨x12, h13, h⟩ := bind_some h
  refine rn1 (c_laws_szWrite _ _ _ h13) ?_
  refine an (sq (rn ?_))
  refine an ?_
  rcases bcase (decide (x12 < 0)) with b14 | b14
  · replace h := ite_t b14 h
    refine ct (sq (rn ?_))
    refine an (rt ?_)
    cases h
    simp [Ret, TB, EN, *]
  replace h := ite_f b14 h
  refine cf (sk (ab (an (rn ?_))))
  refine aft_i ⟨mL1, by omega, x12, (IntKind.i64.wrap (v5 + 1)), ?_, ?_, ?_, h⟩
  all_goals simp +decide only [F, reduceIte, Nat.reduceAdd, Bool.not_true, Bool.not_false, EN, *, -h]

set_option maxRecDepth 20000 in
set_option maxHeartbeats 4000000 in
theorem c_laws_szOutbox (p0 : M.Outbox) (p1 : Int) (r : Int) (h : m_laws_szOutbox p0 p1 = some r) : SCalls Tryz.prog 198 [(true, M.Outbox.en p0), (false, [.int .i64 p1])] [(false, [.ro (.int .i64 r)])] := by
  unfold m_laws_szOutbox at h
  simp only [M.Outbox.en]
  refine scalls_n (N := 12) (vars := [.tmp 4]) Tryz.func198 rfl rfl rfl (by decide +kernel) (Nat.le_of_ble_eq_true rfl) fun base wd => ?_
  refine sq (rn ?_)
  refine an (sq ?_)
  obtain ⟨x1, h2, h⟩ := bind_some h
  refine rn1 (c_laws_szWriteS _ _ _ h2) ?_
  refine an (sq (sq (rn ?_)))
  refine an ?_
  rcases bcase (decide (x1 < 0)) with b3 | b3
  · replace h := ite_t b3 h
    refine ct (sq (rn ?_))
    refine an (rt ?_)
    cases h
    simp [Ret, TB, EN, *]
  replace h := ite_f b3 h
  refine cf (sk (an (sq (rn ?_))))
  refine an (rt ?_)
  cases h
  simp [Ret, TB, EN, *]

set_option maxRecDepth 20000 in
set_option maxHeartbeats 4000000 in
theorem c_laws_szSync (p0 : M.Sync) (p1 : Int) (r : Int) (h : m_laws_szSync p0 p1 = some r) : SCalls Tryz.prog 103 [(true, M.Sync.en p0), (false, [.int .i64 p1])] [(false, [.ro (.int .i64 r)])] := by
  unfold m_laws_szSync at h
  simp only [M.Sync.en]
  refine scalls_n (N := 12) (vars := [.tmp 4]) Tryz.func103 rfl rfl rfl (by decide +kernel) (Nat.le_of_ble_eq_true rfl) fun base wd => ?_
  refine sq (rn ?_)
  refine an (sq ?_)
  obtain ⟨x1, h2, h⟩ := bind_some h
  refine rn1 (c_laws_szOutbox _ _ _ h2) ?_
  refine an (sq (sq (rn ?_)))
  refine an ?_
  rcases bcase (decide (x1 < 0)) with b3 | b3
  · replace h := ite_t b3 h
    refine ct (sq (rn ?_))
    refine an (rt ?_)
    cases h
    simp [Ret, TB, EN, *]
  replace h := ite_f b3 h
  refine cf (sk (an (sq (rn ?_))))
  refine an (rt ?_)
  cases h
  simp [Ret, TB, EN, *]

end Go.Proofs.YtgemmnkhddlhpaaGreat.gen
