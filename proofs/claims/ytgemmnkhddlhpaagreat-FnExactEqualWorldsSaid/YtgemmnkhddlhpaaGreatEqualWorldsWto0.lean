/-
  Helper text: walks: each function's contract out of its model. No conditions beyond those of each contract.
-/
import Derived.Test.YtgemmnkhddlhpaaGreatEqualWorldsTi
namespace Go.Proofs.YtgemmnkhddlhpaaGreat.gen
open Go Go.Sh
set_option linter.unusedVariables false
set_option linter.unusedSimpArgs false
set_option maxRecDepth 20000 in
set_option maxHeartbeats 4000000 in
theorem c_laws_toRegistration (p0 : M.Registration) (r : M.Registration) (h : m_laws_toRegistration p0 = some r) : SCalls Tryz.prog 38 [(true, M.Registration.en p0)] [(true, [.ro (.str r.Site), .ro (.int .i64 r.Installing), .ro (.int .i64 r.Waiting), .ro (.int .i64 r.Active)])] := by
  unfold m_laws_toRegistration at h
  simp only [M.Registration.en]
  refine scalls_n (N := 17) (vars := [.cell 2 23]) Tryz.func38 rfl rfl rfl (by decide +kernel) (Nat.le_of_ble_eq_true rfl) fun base wd => ?_
  refine sq (rn ?_)
  refine an (sq (rn ?_))
  refine an (sq (rn ?_))
  refine an (sq (rn ?_))
  refine an (sq (rn ?_))
  refine an (sq (rn ?_))
  refine an (sq (rn ?_))
  refine an (rt ?_)
  cases h
  simp [Ret, TB, EN, *]

set_option maxRecDepth 20000 in
set_option maxHeartbeats 4000000 in
theorem c_laws_toByteS (p0 : List Int) (r : (List Int)) (h : m_laws_toByteS p0 = some r) : SCalls Tryz.prog 96 [(false, [.sl (List.map enB p0)])] [(false, [.own 5 1 (List.map enB r)])] := by
  unfold m_laws_toByteS at h
  refine scalls_n (N := 22) (vars := [.tmp 2]) Tryz.func96 rfl rfl rfl (by decide +kernel) (Nat.le_of_ble_eq_true rfl) fun base wd => ?_
  refine sq (rn ?_)
  refine an (sq ?_)
  obtain ⟨x1, h2, h⟩ := bind_some h
  refine rn1 (mkL_must h2) ?_
  refine an (sq (sq ?_))
  refine cu (fun s => s.t 0 = .v false [.dat (.sl (List.map enB p0))] ∧ s.t 3 = .v false [.row 100007 1] ∧ s.h 100007 = (1, .row 5 1 (List.map enB (List.replicate (List.length p0 : Int).toNat 0)) true) ∧ True) ?_
  rintro s3 ⟨f4, f5, f6, _⟩
  refine rn ?_
  refine an (bk ?_)
  refine SW_loop (fun m s => ∃ v4 : Int, ∃ r7 : List Int, s.t 0 = .v false [.dat (.sl (List.map enB p0))] ∧ s.t 3 = .v false [.row 100007 1] ∧ s.t 4 = .v false [.dat (.int .i64 v4)] ∧ s.h 100007 = (1, .row 5 1 (List.map enB r7) true) ∧ m_laws_toByteS_L1 p0 m v4 r7 = some r) fuel ?_ ?_
  · refine ⟨0, (List.replicate (List.length p0 : Int).toNat 0), ?_, ?_, ?_, ?_, h⟩
    all_goals simp +decide only [F, reduceIte, Nat.reduceAdd, Bool.not_true, Bool.not_false, EN, *, -h]
  rintro mL1 s7 ⟨v4, r7, f8, f9, f10, f11, h⟩
  rcases mL1 with _ | mL1
  · exact absurd h (by simp [m_laws_toByteS_L1])
  simp only [m_laws_toByteS_L1] at h
  refine sq (sq (rn ?_))
  refine an ?_
  rcases bcas (decide (v4 < (List.length p0 : Int))) with b12 | b12
  · replace h := ite_f b12 h
    refine cf (xt (aft_cx (aft_ix (aft_x (an (sq (rn ?_)))))))
    refine an (rt ?_)
    cases h
    simp [Ret, TB, EN, *]
  replace h := ite_t b12 h
  refine ct (sk (an (sq (bk ?_))))
  obtain ⟨x13, h14, h⟩ := bind_some h
  obtain ⟨q15, q16, q17⟩ := idx_some h14
  obtain ⟨x18, h19, h⟩ := bind_some h
  obtain ⟨q20, q21, q22⟩ := idx_some h19
  refine rn ?_
  refine ab (an ?_)
  refine cu (fun s => s.t 0 = .v false [.dat (.sl (List.map enB p0))] ∧ s.t 3 = .v false [.row 100007 1] ∧ s.t 4 = .v false [.dat (.int .i64 v4)] ∧ s.h 100007 = (1, .row 5 1 (List.map enB (List.set r7 v4.toNat x13)) true) ∧ True) ?_
  rintro s23 ⟨f24, f25, f26, f27, _⟩
  refine rn ?_
  refine aft_i ⟨mL1, by omega, (IntKind.i64.wrap (v4 + 1)), (List.set r7 v4.toNat x13), ?_, ?_, ?_, ?_, h⟩
  all_goals simp +decide only [F, reduceIte, Nat.reduceAdd, Bool.not_true, Bool.not_false, EN, *, -h]

set_option maxRecDepth 20000 in
set_option maxHeartbeats 4000000 in
theorem c_laws_toResponse (p0 : M.Response) (r : M.Response) (h : m_laws_toResponse p0 = some r) : SCalls Tryz.prog 413 [(true, M.Response.en p0)] [(true, [.ro (.int .i64 r.Type_), .ro (.int .i64 r.Status), .ro (.int .i64 r.Version), .own 5 1 (List.map enB r.Body), .ro (.bool r.Shares)])] := by
  unfold m_laws_toResponse at h
  simp only [M.Response.en]
  refine scalls_n (N := 21) (vars := [.cell 2 345]) Tryz.func413 rfl rfl rfl (by decide +kernel) (Nat.le_of_ble_eq_true rfl) fun base wd => ?_
  refine sq (rn ?_)
  refine an (sq (rn ?_))
  refine an (sq (rn ?_))
  refine an (sq (rn ?_))
  refine an (sq (rn ?_))
  refine an (sq ?_)
  obtain ⟨x1, h2, h⟩ := bind_some h
  refine rn1 (c_laws_toByteS _ _ h2) ?_
  refine an (sq (rn ?_))
  refine an (sq (rn ?_))
  refine an (rt ?_)
  cases h
  simp [Ret, TB, EN, *]

set_option maxRecDepth 20000 in
set_option maxHeartbeats 4000000 in
theorem c_laws_toCached (p0 : M.Cached) (r : M.Cached) (h : m_laws_toCached p0 = some r) : SCalls Tryz.prog 373 [(true, M.Cached.en p0)] [(true, [.ro (.str r.Site), .ro (.str r.Path), .ro (.int .i64 r.Response.Type_), .ro (.int .i64 r.Response.Status), .ro (.int .i64 r.Response.Version), .own 5 1 (List.map enB r.Response.Body), .ro (.bool r.Response.Shares)])] := by
  unfold m_laws_toCached at h
  simp only [M.Cached.en]
  refine scalls_n (N := 15) (vars := [.cell 2 347]) Tryz.func373 rfl rfl rfl (by decide +kernel) (Nat.le_of_ble_eq_true rfl) fun base wd => ?_
  refine sq (rn ?_)
  refine an (sq (rn ?_))
  refine an (sq (rn ?_))
  refine an (sq (rn ?_))
  refine an (sq ?_)
  obtain ⟨x1, h2, h⟩ := bind_some h
  refine rn1 (c_laws_toResponse _ _ h2) ?_
  refine an (sq (rn ?_))
  refine an (rt ?_)
  cases h
  simp [Ret, TB, EN, *]

set_option maxRecDepth 20000 in
set_option maxHeartbeats 4000000 in
theorem c_laws_toCachedS (p0 : List M.Cached) (r : (List M.Cached)) (h : m_laws_toCachedS p0 = some r) : SCalls Tryz.prog 303 [(false, [.sl (List.map M.Cached.en p0)])] [(false, [.own 347 7 (List.map M.Cached.en r)])] := by
  unfold m_laws_toCachedS at h
  refine scalls_n (N := 23) (vars := [.tmp 2]) Tryz.func303 rfl rfl rfl (by decide +kernel) (Nat.le_of_ble_eq_true rfl) fun base wd => ?_
  refine sq (rn ?_)
  refine an (sq ?_)
  obtain ⟨x1, h2, h⟩ := bind_some h
  refine rn1 (mkL_must h2) ?_
  refine an (sq (sq ?_))
  refine cu (fun s => s.t 0 = .v false [.dat (.sl (List.map M.Cached.en p0))] ∧ s.t 3 = .v false [.row 100007 1] ∧ s.h 100007 = (1, .row 347 7 (List.map M.Cached.en (List.replicate (List.length p0 : Int).toNat (⟨(⟨#[]⟩ : ByteArray), (⟨#[]⟩ : ByteArray), (⟨0, 0, 0, ([] : List Int), false⟩ : M.Response)⟩ : M.Cached))) true) ∧ True) ?_
  rintro s3 ⟨f4, f5, f6, _⟩
  refine rn ?_
  refine an (bk ?_)
  refine SW_loop (fun m s => ∃ v4 : Int, ∃ r7 : List M.Cached, s.t 0 = .v false [.dat (.sl (List.map M.Cached.en p0))] ∧ s.t 3 = .v false [.row 100007 1] ∧ s.t 4 = .v false [.dat (.int .i64 v4)] ∧ s.h 100007 = (1, .row 347 7 (List.map M.Cached.en r7) true) ∧ m_laws_toCachedS_L1 p0 m v4 r7 = some r) fuel ?_ ?_
  · refine ⟨0, (List.replicate (List.length p0 : Int).toNat (⟨(⟨#[]⟩ : ByteArray), (⟨#[]⟩ : ByteArray), (⟨0, 0, 0, ([] : List Int), false⟩ : M.Response)⟩ : M.Cached)), ?_, ?_, ?_, ?_, h⟩
    all_goals simp +decide only [F, reduceIte, Nat.reduceAdd, Bool.not_true, Bool.not_false, EN, *, -h]
  rintro mL1 s7 ⟨v4, r7, f8, f9, f10, f11, h⟩
  rcases mL1 with _ | mL1
  · exact absurd h (by simp [m_laws_toCachedS_L1])
  simp only [m_laws_toCachedS_L1] at h
  refine sq (sq (rn ?_))
  refine an ?_
  rcases bcas (decide (v4 < (List.length p0 : Int))) with b12 | b12
  · replace h := ite_f b12 h
    refine cf (xt (aft_cx (aft_ix (aft_x (an (sq (rn ?_)))))))
    refine an (rt ?_)
    cases h
    simp [Ret, TB, EN, *]
  replace h := ite_t b12 h
  refine ct (sk (an (sq (bk ?_))))
  obtain ⟨x13, h14, h⟩ := bind_some h
  obtain ⟨q15, q16, q17⟩ := idx_some h14
  obtain ⟨x18, h19, h⟩ := bind_some h
  obtain ⟨x20, h21, h⟩ := bind_some h
  obtain ⟨q22, q23, q24⟩ := idx_some h21
  refine rn1 (c_laws_toCached _ _ h19) ?_
  refine ab (an ?_)
  refine cu (fun s => s.t 0 = .v false [.dat (.sl (List.map M.Cached.en p0))] ∧ s.t 3 = .v false [.row 100007 1] ∧ s.t 4 = .v false [.dat (.int .i64 v4)] ∧ s.h 100007 = (1, .row 347 7 (List.map M.Cached.en (List.set r7 v4.toNat x18)) true) ∧ True) ?_
  rintro s25 ⟨f26, f27, f28, f29, _⟩
  refine rn ?_
  refine aft_i ⟨mL1, by omega, (IntKind.i64.wrap (v4 + 1)), (List.set r7 v4.toNat x18), ?_, ?_, ?_, ?_, h⟩
  all_goals simp +decide only [F, reduceIte, Nat.reduceAdd, Bool.not_true, Bool.not_false, EN, *, -h]

set_option maxRecDepth 20000 in
set_option maxHeartbeats 4000000 in
theorem c_laws_toCache (p0 : M.Cache) (r : M.Cache) (h : m_laws_toCache p0 = some r) : SCalls Tryz.prog 209 [(true, M.Cache.en p0)] [(true, [.ro (.int .i64 r.Version), .own 347 7 (List.map M.Cached.en r.Entries)])] := by
  unfold m_laws_toCache at h
  simp only [M.Cache.en]
  refine scalls_n (N := 12) (vars := [.cell 2 297]) Tryz.func209 rfl rfl rfl (by decide +kernel) (Nat.le_of_ble_eq_true rfl) fun base wd => ?_
  refine sq (rn ?_)
  refine an (sq (rn ?_))
  refine an (sq (rn ?_))
  refine an (sq ?_)
  obtain ⟨x1, h2, h⟩ := bind_some h
  refine rn1 (c_laws_toCachedS _ _ h2) ?_
  refine an (sq (rn ?_))
  refine an (rt ?_)
  cases h
  simp [Ret, TB, EN, *]

set_option maxRecDepth 20000 in
set_option maxHeartbeats 4000000 in
theorem c_laws_toCacheS (p0 : List M.Cache) (r : (List M.Cache)) (h : m_laws_toCacheS p0 = some r) : SCalls Tryz.prog 113 [(false, [.sl (List.map M.Cache.en p0)])] [(false, [.own 297 2 (List.map M.Cache.en r)])] := by
  unfold m_laws_toCacheS at h
  refine scalls_n (N := 23) (vars := [.tmp 2]) Tryz.func113 rfl rfl rfl (by decide +kernel) (Nat.le_of_ble_eq_true rfl) fun base wd => ?_
  refine sq (rn ?_)
  refine an (sq ?_)
  obtain ⟨x1, h2, h⟩ := bind_some h
  refine rn1 (mkL_must h2) ?_
  refine an (sq (sq ?_))
  refine cu (fun s => s.t 0 = .v false [.dat (.sl (List.map M.Cache.en p0))] ∧ s.t 3 = .v false [.row 100007 1] ∧ s.h 100007 = (1, .row 297 2 (List.map M.Cache.en (List.replicate (List.length p0 : Int).toNat (⟨0, ([] : List M.Cached)⟩ : M.Cache))) true) ∧ True) ?_
  rintro s3 ⟨f4, f5, f6, _⟩
  refine rn ?_
  refine an (bk ?_)
  refine SW_loop (fun m s => ∃ v4 : Int, ∃ r7 : List M.Cache, s.t 0 = .v false [.dat (.sl (List.map M.Cache.en p0))] ∧ s.t 3 = .v false [.row 100007 1] ∧ s.t 4 = .v false [.dat (.int .i64 v4)] ∧ s.h 100007 = (1, .row 297 2 (List.map M.Cache.en r7) true) ∧ m_laws_toCacheS_L1 p0 m v4 r7 = some r) fuel ?_ ?_
  · refine ⟨0, (List.replicate (List.length p0 : Int).toNat (⟨0, ([] : List M.Cached)⟩ : M.Cache)), ?_, ?_, ?_, ?_, h⟩
    all_goals simp +decide only [F, reduceIte, Nat.reduceAdd, Bool.not_true, Bool.not_false, EN, *, -h]
  rintro mL1 s7 ⟨v4, r7, f8, f9, f10, f11, h⟩
  rcases mL1 with _ | mL1
  · exact absurd h (by simp [m_laws_toCacheS_L1])
  simp only [m_laws_toCacheS_L1] at h
  refine sq (sq (rn ?_))
  refine an ?_
  rcases bcas (decide (v4 < (List.length p0 : Int))) with b12 | b12
  · replace h := ite_f b12 h
    refine cf (xt (aft_cx (aft_ix (aft_x (an (sq (rn ?_)))))))
    refine an (rt ?_)
    cases h
    simp [Ret, TB, EN, *]
  replace h := ite_t b12 h
  refine ct (sk (an (sq (bk ?_))))
  obtain ⟨x13, h14, h⟩ := bind_some h
  obtain ⟨q15, q16, q17⟩ := idx_some h14
  obtain ⟨x18, h19, h⟩ := bind_some h
  obtain ⟨x20, h21, h⟩ := bind_some h
  obtain ⟨q22, q23, q24⟩ := idx_some h21
  refine rn1 (c_laws_toCache _ _ h19) ?_
  refine ab (an ?_)
  refine cu (fun s => s.t 0 = .v false [.dat (.sl (List.map M.Cache.en p0))] ∧ s.t 3 = .v false [.row 100007 1] ∧ s.t 4 = .v false [.dat (.int .i64 v4)] ∧ s.h 100007 = (1, .row 297 2 (List.map M.Cache.en (List.set r7 v4.toNat x18)) true) ∧ True) ?_
  rintro s25 ⟨f26, f27, f28, f29, _⟩
  refine rn ?_
  refine aft_i ⟨mL1, by omega, (IntKind.i64.wrap (v4 + 1)), (List.set r7 v4.toNat x18), ?_, ?_, ?_, ?_, h⟩
  all_goals simp +decide only [F, reduceIte, Nat.reduceAdd, Bool.not_true, Bool.not_false, EN, *, -h]

set_option maxRecDepth 20000 in
set_option maxHeartbeats 4000000 in
theorem c_laws_toCacheSet (p0 : M.CacheSet) (r : M.CacheSet) (h : m_laws_toCacheSet p0 = some r) : SCalls Tryz.prog 37 [(true, M.CacheSet.en p0)] [(true, [.own 297 2 (List.map M.Cache.en r.Caches)])] := by
  unfold m_laws_toCacheSet at h
  simp only [M.CacheSet.en]
  refine scalls_n (N := 9) (vars := [.cell 2 26]) Tryz.func37 rfl rfl rfl (by decide +kernel) (Nat.le_of_ble_eq_true rfl) fun base wd => ?_
  refine sq (rn ?_)
  refine an (sq (rn ?_))
  refine an (sq ?_)
  obtain ⟨x1, h2, h⟩ := bind_some h
  refine rn1 (c_laws_toCacheS _ _ h2) ?_
  refine an (sq (rn ?_))
  refine an (rt ?_)
  cases h
  simp [Ret, TB, EN, *]

set_option maxRecDepth 20000 in
set_option maxHeartbeats 4000000 in
theorem c_laws_toKey (p0 : M.Key) (r : M.Key) (h : m_laws_toKey p0 = some r) : SCalls Tryz.prog 368 [(true, M.Key.en p0)] [(true, [.ro (.int .i64 r.Kind), .ro (.int .i64 r.N), .ro (.str r.Text)])] := by
  unfold m_laws_toKey at h
  simp only [M.Key.en]
  refine scalls_n (N := 14) (vars := [.cell 2 259]) Tryz.func368 rfl rfl rfl (by decide +kernel) (Nat.le_of_ble_eq_true rfl) fun base wd => ?_
  refine sq (rn ?_)
  refine an (sq (rn ?_))
  refine an (sq (rn ?_))
  refine an (sq (rn ?_))
  refine an (sq (rn ?_))
  refine an (sq (rn ?_))
  refine an (rt ?_)
  cases h
  simp [Ret, TB, EN, *]

set_option maxRecDepth 20000 in
set_option maxHeartbeats 4000000 in
theorem c_laws_toField (p0 : M.Field) (r : M.Field) (h : m_laws_toField p0 = some r) : SCalls Tryz.prog 432 [(true, M.Field.en p0)] [(true, [.ro (.str r.Name), .ro (.int .i64 r.N)])] := by
  unfold m_laws_toField at h
  simp only [M.Field.en]
  refine scalls_n (N := 11) (vars := [.cell 2 317]) Tryz.func432 rfl rfl rfl (by decide +kernel) (Nat.le_of_ble_eq_true rfl) fun base wd => ?_
  refine sq (rn ?_)
  refine an (sq (rn ?_))
  refine an (sq (rn ?_))
  refine an (sq (rn ?_))
  refine an (sq (rn ?_))
  refine an (rt ?_)
  cases h
  simp [Ret, TB, EN, *]

set_option maxRecDepth 20000 in
set_option maxHeartbeats 4000000 in
theorem c_laws_toFieldS (p0 : List M.Field) (r : (List M.Field)) (h : m_laws_toFieldS p0 = some r) : SCalls Tryz.prog 410 [(false, [.sl (List.map M.Field.en p0)])] [(false, [.own 317 2 (List.map M.Field.en r)])] := by
  unfold m_laws_toFieldS at h
  refine scalls_n (N := 23) (vars := [.tmp 2]) Tryz.func410 rfl rfl rfl (by decide +kernel) (Nat.le_of_ble_eq_true rfl) fun base wd => ?_
  refine sq (rn ?_)
  refine an (sq ?_)
  obtain ⟨x1, h2, h⟩ := bind_some h
  refine rn1 (mkL_must h2) ?_
  refine an (sq (sq ?_))
  refine cu (fun s => s.t 0 = .v false [.dat (.sl (List.map M.Field.en p0))] ∧ s.t 3 = .v false [.row 100007 1] ∧ s.h 100007 = (1, .row 317 2 (List.map M.Field.en (List.replicate (List.length p0 : Int).toNat (⟨(⟨#[]⟩ : ByteArray), 0⟩ : M.Field))) true) ∧ True) ?_
  rintro s3 ⟨f4, f5, f6, _⟩
  refine rn ?_
  refine an (bk ?_)
  refine SW_loop (fun m s => ∃ v4 : Int, ∃ r7 : List M.Field, s.t 0 = .v false [.dat (.sl (List.map M.Field.en p0))] ∧ s.t 3 = .v false [.row 100007 1] ∧ s.t 4 = .v false [.dat (.int .i64 v4)] ∧ s.h 100007 = (1, .row 317 2 (List.map M.Field.en r7) true) ∧ m_laws_toFieldS_L1 p0 m v4 r7 = some r) fuel ?_ ?_
  · refine ⟨0, (List.replicate (List.length p0 : Int).toNat (⟨(⟨#[]⟩ : ByteArray), 0⟩ : M.Field)), ?_, ?_, ?_, ?_, h⟩
    all_goals simp +decide only [F, reduceIte, Nat.reduceAdd, Bool.not_true, Bool.not_false, EN, *, -h]
  rintro mL1 s7 ⟨v4, r7, f8, f9, f10, f11, h⟩
  rcases mL1 with _ | mL1
  · exact absurd h (by simp [m_laws_toFieldS_L1])
  simp only [m_laws_toFieldS_L1] at h
  refine sq (sq (rn ?_))
  refine an ?_
  rcases bcas (decide (v4 < (List.length p0 : Int))) with b12 | b12
  · replace h := ite_f b12 h
    refine cf (xt (aft_cx (aft_ix (aft_x (an (sq (rn ?_)))))))
    refine an (rt ?_)
    cases h
    simp [Ret, TB, EN, *]
  replace h := ite_t b12 h
  refine ct (sk (an (sq (bk ?_))))
  obtain ⟨x13, h14, h⟩ := bind_some h
  obtain ⟨q15, q16, q17⟩ := idx_some h14
  obtain ⟨x18, h19, h⟩ := bind_some h
  obtain ⟨x20, h21, h⟩ := bind_some h
  obtain ⟨q22, q23, q24⟩ := idx_some h21
  refine rn1 (c_laws_toField _ _ h19) ?_
  refine ab (an ?_)
  refine cu (fun s => s.t 0 = .v false [.dat (.sl (List.map M.Field.en p0))] ∧ s.t 3 = .v false [.row 100007 1] ∧ s.t 4 = .v false [.dat (.int .i64 v4)] ∧ s.h 100007 = (1, .row 317 2 (List.map M.Field.en (List.set r7 v4.toNat x18)) true) ∧ True) ?_
  rintro s25 ⟨f26, f27, f28, f29, _⟩
  refine rn ?_
  refine aft_i ⟨mL1, by omega, (IntKind.i64.wrap (v4 + 1)), (List.set r7 v4.toNat x18), ?_, ?_, ?_, ?_, h⟩
  all_goals simp +decide only [F, reduceIte, Nat.reduceAdd, Bool.not_true, Bool.not_false, EN, *, -h]

set_option maxRecDepth 20000 in
set_option maxHeartbeats 4000000 in
theorem c_laws_toRecord (p0 : M.Record) (r : M.Record) (h : m_laws_toRecord p0 = some r) : SCalls Tryz.prog 369 [(true, M.Record.en p0)] [(true, [.own 317 2 (List.map M.Field.en r.Fields)])] := by
  unfold m_laws_toRecord at h
  simp only [M.Record.en]
  refine scalls_n (N := 9) (vars := [.cell 2 225]) Tryz.func369 rfl rfl rfl (by decide +kernel) (Nat.le_of_ble_eq_true rfl) fun base wd => ?_
  refine sq (rn ?_)
  refine an (sq (rn ?_))
  refine an (sq ?_)
  obtain ⟨x1, h2, h⟩ := bind_some h
  refine rn1 (c_laws_toFieldS _ _ h2) ?_
  refine an (sq (rn ?_))
  refine an (rt ?_)
  cases h
  simp [Ret, TB, EN, *]

set_option maxRecDepth 20000 in
set_option maxHeartbeats 4000000 in
theorem c_laws_toItem (p0 : M.Item) (r : M.Item) (h : m_laws_toItem p0 = some r) : SCalls Tryz.prog 298 [(true, M.Item.en p0)] [(true, [.ro (.int .i64 r.Key.Kind), .ro (.int .i64 r.Key.N), .ro (.str r.Key.Text), .own 317 2 (List.map M.Field.en r.Record.Fields)])] := by
  unfold m_laws_toItem at h
  simp only [M.Item.en]
  refine scalls_n (N := 13) (vars := [.cell 2 315]) Tryz.func298 rfl rfl rfl (by decide +kernel) (Nat.le_of_ble_eq_true rfl) fun base wd => ?_
  refine sq (rn ?_)
  refine an (sq (rn ?_))
  refine an (sq ?_)
  obtain ⟨x1, h2, h⟩ := bind_some h
  refine rn1 (c_laws_toKey _ _ h2) ?_
  refine an (sq ?_)
  obtain ⟨x3, h4, h⟩ := bind_some h
  refine rn1 (c_laws_toRecord _ _ h4) ?_
  refine an (sq (rn ?_))
  refine an (rt ?_)
  cases h
  simp [Ret, TB, EN, *]

set_option maxRecDepth 20000 in
set_option maxHeartbeats 4000000 in
theorem c_laws_toItemS (p0 : List M.Item) (r : (List M.Item)) (h : m_laws_toItemS p0 = some r) : SCalls Tryz.prog 201 [(false, [.sl (List.map M.Item.en p0)])] [(false, [.own 315 4 (List.map M.Item.en r)])] := by
  unfold m_laws_toItemS at h
  refine scalls_n (N := 23) (vars := [.tmp 2]) Tryz.func201 rfl rfl rfl (by decide +kernel) (Nat.le_of_ble_eq_true rfl) fun base wd => ?_
  refine sq (rn ?_)
  refine an (sq ?_)
  obtain ⟨x1, h2, h⟩ := bind_some h
  refine rn1 (mkL_must h2) ?_
  refine an (sq (sq ?_))
  refine cu (fun s => s.t 0 = .v false [.dat (.sl (List.map M.Item.en p0))] ∧ s.t 3 = .v false [.row 100007 1] ∧ s.h 100007 = (1, .row 315 4 (List.map M.Item.en (List.replicate (List.length p0 : Int).toNat (⟨(⟨0, 0, (⟨#[]⟩ : ByteArray)⟩ : M.Key), (⟨([] : List M.Field)⟩ : M.Record)⟩ : M.Item))) true) ∧ True) ?_
  rintro s3 ⟨f4, f5, f6, _⟩
  refine rn ?_
  refine an (bk ?_)
  refine SW_loop (fun m s => ∃ v4 : Int, ∃ r7 : List M.Item, s.t 0 = .v false [.dat (.sl (List.map M.Item.en p0))] ∧ s.t 3 = .v false [.row 100007 1] ∧ s.t 4 = .v false [.dat (.int .i64 v4)] ∧ s.h 100007 = (1, .row 315 4 (List.map M.Item.en r7) true) ∧ m_laws_toItemS_L1 p0 m v4 r7 = some r) fuel ?_ ?_
  · refine ⟨0, (List.replicate (List.length p0 : Int).toNat (⟨(⟨0, 0, (⟨#[]⟩ : ByteArray)⟩ : M.Key), (⟨([] : List M.Field)⟩ : M.Record)⟩ : M.Item)), ?_, ?_, ?_, ?_, h⟩
    all_goals simp +decide only [F, reduceIte, Nat.reduceAdd, Bool.not_true, Bool.not_false, EN, *, -h]
  rintro mL1 s7 ⟨v4, r7, f8, f9, f10, f11, h⟩
  rcases mL1 with _ | mL1
  · exact absurd h (by simp [m_laws_toItemS_L1])
  simp only [m_laws_toItemS_L1] at h
  refine sq (sq (rn ?_))
  refine an ?_
  rcases bcas (decide (v4 < (List.length p0 : Int))) with b12 | b12
  · replace h := ite_f b12 h
    refine cf (xt (aft_cx (aft_ix (aft_x (an (sq (rn ?_)))))))
    refine an (rt ?_)
    cases h
    simp [Ret, TB, EN, *]
  replace h := ite_t b12 h
  refine ct (sk (an (sq (bk ?_))))
  obtain ⟨x13, h14, h⟩ := bind_some h
  obtain ⟨q15, q16, q17⟩ := idx_some h14
  obtain ⟨x18, h19, h⟩ := bind_some h
  obtain ⟨x20, h21, h⟩ := bind_some h
  obtain ⟨q22, q23, q24⟩ := idx_some h21
  refine rn1 (c_laws_toItem _ _ h19) ?_
  refine ab (an ?_)
  refine cu (fun s => s.t 0 = .v false [.dat (.sl (List.map M.Item.en p0))] ∧ s.t 3 = .v false [.row 100007 1] ∧ s.t 4 = .v false [.dat (.int .i64 v4)] ∧ s.h 100007 = (1, .row 315 4 (List.map M.Item.en (List.set r7 v4.toNat x18)) true) ∧ True) ?_
  rintro s25 ⟨f26, f27, f28, f29, _⟩
  refine rn ?_
  refine aft_i ⟨mL1, by omega, (IntKind.i64.wrap (v4 + 1)), (List.set r7 v4.toNat x18), ?_, ?_, ?_, ?_, h⟩
  all_goals simp +decide only [F, reduceIte, Nat.reduceAdd, Bool.not_true, Bool.not_false, EN, *, -h]

set_option maxRecDepth 20000 in
set_option maxHeartbeats 4000000 in
theorem c_laws_toStore (p0 : M.Store) (r : M.Store) (h : m_laws_toStore p0 = some r) : SCalls Tryz.prog 105 [(true, M.Store.en p0)] [(true, [.ro (.str r.Name), .own 315 4 (List.map M.Item.en r.Items), .ro (.int .i64 r.Auto)])] := by
  unfold m_laws_toStore at h
  simp only [M.Store.en]
  refine scalls_n (N := 15) (vars := [.cell 2 36]) Tryz.func105 rfl rfl rfl (by decide +kernel) (Nat.le_of_ble_eq_true rfl) fun base wd => ?_
  refine sq (rn ?_)
  refine an (sq (rn ?_))
  refine an (sq (rn ?_))
  refine an (sq ?_)
  obtain ⟨x1, h2, h⟩ := bind_some h
  refine rn1 (c_laws_toItemS _ _ h2) ?_
  refine an (sq (rn ?_))
  refine an (sq (rn ?_))
  refine an (rt ?_)
  cases h
  simp [Ret, TB, EN, *]

set_option maxRecDepth 20000 in
set_option maxHeartbeats 4000000 in
theorem c_laws_toStoreS (p0 : List M.Store) (r : (List M.Store)) (h : m_laws_toStoreS p0 = some r) : SCalls Tryz.prog 191 [(false, [.sl (List.map M.Store.en p0)])] [(false, [.own 36 3 (List.map M.Store.en r)])] := by
  unfold m_laws_toStoreS at h
  refine scalls_n (N := 23) (vars := [.tmp 2]) Tryz.func191 rfl rfl rfl (by decide +kernel) (Nat.le_of_ble_eq_true rfl) fun base wd => ?_
  refine sq (rn ?_)
  refine an (sq ?_)
  obtain ⟨x1, h2, h⟩ := bind_some h
  refine rn1 (mkL_must h2) ?_
  refine an (sq (sq ?_))
  refine cu (fun s => s.t 0 = .v false [.dat (.sl (List.map M.Store.en p0))] ∧ s.t 3 = .v false [.row 100007 1] ∧ s.h 100007 = (1, .row 36 3 (List.map M.Store.en (List.replicate (List.length p0 : Int).toNat (⟨(⟨#[]⟩ : ByteArray), ([] : List M.Item), 0⟩ : M.Store))) true) ∧ True) ?_
  rintro s3 ⟨f4, f5, f6, _⟩
  refine rn ?_
  refine an (bk ?_)
  refine SW_loop (fun m s => ∃ v4 : Int, ∃ r7 : List M.Store, s.t 0 = .v false [.dat (.sl (List.map M.Store.en p0))] ∧ s.t 3 = .v false [.row 100007 1] ∧ s.t 4 = .v false [.dat (.int .i64 v4)] ∧ s.h 100007 = (1, .row 36 3 (List.map M.Store.en r7) true) ∧ m_laws_toStoreS_L1 p0 m v4 r7 = some r) fuel ?_ ?_
  · refine ⟨0, (List.replicate (List.length p0 : Int).toNat (⟨(⟨#[]⟩ : ByteArray), ([] : List M.Item), 0⟩ : M.Store)), ?_, ?_, ?_, ?_, h⟩
    all_goals simp +decide only [F, reduceIte, Nat.reduceAdd, Bool.not_true, Bool.not_false, EN, *, -h]
  rintro mL1 s7 ⟨v4, r7, f8, f9, f10, f11, h⟩
  rcases mL1 with _ | mL1
  · exact absurd h (by simp [m_laws_toStoreS_L1])
  simp only [m_laws_toStoreS_L1] at h
  refine sq (sq (rn ?_))
  refine an ?_
  rcases bcas (decide (v4 < (List.length p0 : Int))) with b12 | b12
  · replace h := ite_f b12 h
    refine cf (xt (aft_cx (aft_ix (aft_x (an (sq (rn ?_)))))))
    refine an (rt ?_)
    cases h
    simp [Ret, TB, EN, *]
  replace h := ite_t b12 h
  refine ct (sk (an (sq (bk ?_))))
  obtain ⟨x13, h14, h⟩ := bind_some h
  obtain ⟨q15, q16, q17⟩ := idx_some h14
  obtain ⟨x18, h19, h⟩ := bind_some h
  obtain ⟨x20, h21, h⟩ := bind_some h
  obtain ⟨q22, q23, q24⟩ := idx_some h21
  refine rn1 (c_laws_toStore _ _ h19) ?_
  refine ab (an ?_)
  refine cu (fun s => s.t 0 = .v false [.dat (.sl (List.map M.Store.en p0))] ∧ s.t 3 = .v false [.row 100007 1] ∧ s.t 4 = .v false [.dat (.int .i64 v4)] ∧ s.h 100007 = (1, .row 36 3 (List.map M.Store.en (List.set r7 v4.toNat x18)) true) ∧ True) ?_
  rintro s25 ⟨f26, f27, f28, f29, _⟩
  refine rn ?_
  refine aft_i ⟨mL1, by omega, (IntKind.i64.wrap (v4 + 1)), (List.set r7 v4.toNat x18), ?_, ?_, ?_, ?_, h⟩
  all_goals simp +decide only [F, reduceIte, Nat.reduceAdd, Bool.not_true, Bool.not_false, EN, *, -h]

set_option maxRecDepth 20000 in
set_option maxHeartbeats 4000000 in
theorem c_laws_toIndexDef (p0 : M.IndexDef) (r : M.IndexDef) (h : m_laws_toIndexDef p0 = some r) : SCalls Tryz.prog 293 [(true, M.IndexDef.en p0)] [(true, [.ro (.str r.Store), .ro (.str r.Field)])] := by
  unfold m_laws_toIndexDef at h
  simp only [M.IndexDef.en]
  refine scalls_n (N := 11) (vars := [.cell 2 337]) Tryz.func293 rfl rfl rfl (by decide +kernel) (Nat.le_of_ble_eq_true rfl) fun base wd => ?_
  refine sq (rn ?_)
  refine an (sq (rn ?_))
  refine an (sq (rn ?_))
  refine an (sq (rn ?_))
  refine an (sq (rn ?_))
  refine an (rt ?_)
  cases h
  simp [Ret, TB, EN, *]

set_option maxRecDepth 20000 in
set_option maxHeartbeats 4000000 in
theorem c_laws_toIndexDefS (p0 : List M.IndexDef) (r : (List M.IndexDef)) (h : m_laws_toIndexDefS p0 = some r) : SCalls Tryz.prog 192 [(false, [.sl (List.map M.IndexDef.en p0)])] [(false, [.own 337 2 (List.map M.IndexDef.en r)])] := by
  unfold m_laws_toIndexDefS at h
  refine scalls_n (N := 23) (vars := [.tmp 2]) Tryz.func192 rfl rfl rfl (by decide +kernel) (Nat.le_of_ble_eq_true rfl) fun base wd => ?_
  refine sq (rn ?_)
  refine an (sq ?_)
  obtain ⟨x1, h2, h⟩ := bind_some h
  refine rn1 (mkL_must h2) ?_
  refine an (sq (sq ?_))
  refine cu (fun s => s.t 0 = .v false [.dat (.sl (List.map M.IndexDef.en p0))] ∧ s.t 3 = .v false [.row 100007 1] ∧ s.h 100007 = (1, .row 337 2 (List.map M.IndexDef.en (List.replicate (List.length p0 : Int).toNat (⟨(⟨#[]⟩ : ByteArray), (⟨#[]⟩ : ByteArray)⟩ : M.IndexDef))) true) ∧ True) ?_
  rintro s3 ⟨f4, f5, f6, _⟩
  refine rn ?_
  refine an (bk ?_)
  refine SW_loop (fun m s => ∃ v4 : Int, ∃ r7 : List M.IndexDef, s.t 0 = .v false [.dat (.sl (List.map M.IndexDef.en p0))] ∧ s.t 3 = .v false [.row 100007 1] ∧ s.t 4 = .v false [.dat (.int .i64 v4)] ∧ s.h 100007 = (1, .row 337 2 (List.map M.IndexDef.en r7) true) ∧ m_laws_toIndexDefS_L1 p0 m v4 r7 = some r) fuel ?_ ?_
  · refine ⟨0, (List.replicate (List.length p0 : Int).toNat (⟨(⟨#[]⟩ : ByteArray), (⟨#[]⟩ : ByteArray)⟩ : M.IndexDef)), ?_, ?_, ?_, ?_, h⟩
    all_goals simp +decide only [F, reduceIte, Nat.reduceAdd, Bool.not_true, Bool.not_false, EN, *, -h]
  rintro mL1 s7 ⟨v4, r7, f8, f9, f10, f11, h⟩
  rcases mL1 with _ | mL1
  · exact absurd h (by simp [m_laws_toIndexDefS_L1])
  simp only [m_laws_toIndexDefS_L1] at h
  refine sq (sq (rn ?_))
  refine an ?_
  rcases bcas (decide (v4 < (List.length p0 : Int))) with b12 | b12
  · replace h := ite_f b12 h
    refine cf (xt (aft_cx (aft_ix (aft_x (an (sq (rn ?_)))))))
    refine an (rt ?_)
    cases h
    simp [Ret, TB, EN, *]
  replace h := ite_t b12 h
  refine ct (sk (an (sq (bk ?_))))
  obtain ⟨x13, h14, h⟩ := bind_some h
  obtain ⟨q15, q16, q17⟩ := idx_some h14
  obtain ⟨x18, h19, h⟩ := bind_some h
  obtain ⟨x20, h21, h⟩ := bind_some h
  obtain ⟨q22, q23, q24⟩ := idx_some h21
  refine rn1 (c_laws_toIndexDef _ _ h19) ?_
  refine ab (an ?_)
  refine cu (fun s => s.t 0 = .v false [.dat (.sl (List.map M.IndexDef.en p0))] ∧ s.t 3 = .v false [.row 100007 1] ∧ s.t 4 = .v false [.dat (.int .i64 v4)] ∧ s.h 100007 = (1, .row 337 2 (List.map M.IndexDef.en (List.set r7 v4.toNat x18)) true) ∧ True) ?_
  rintro s25 ⟨f26, f27, f28, f29, _⟩
  refine rn ?_
  refine aft_i ⟨mL1, by omega, (IntKind.i64.wrap (v4 + 1)), (List.set r7 v4.toNat x18), ?_, ?_, ?_, ?_, h⟩
  all_goals simp +decide only [F, reduceIte, Nat.reduceAdd, Bool.not_true, Bool.not_false, EN, *, -h]

set_option maxRecDepth 20000 in
set_option maxHeartbeats 4000000 in
theorem c_laws_toDatabase (p0 : M.Database) (r : M.Database) (h : m_laws_toDatabase p0 = some r) : SCalls Tryz.prog 95 [(true, M.Database.en p0)] [(true, [.ro (.str r.Name), .ro (.int .i64 r.Version), .own 36 3 (List.map M.Store.en r.Stores), .own 337 2 (List.map M.IndexDef.en r.Unique)])] := by
  unfold m_laws_toDatabase at h
  simp only [M.Database.en]
  refine scalls_n (N := 19) (vars := [.cell 2 30]) Tryz.func95 rfl rfl rfl (by decide +kernel) (Nat.le_of_ble_eq_true rfl) fun base wd => ?_
  refine sq (rn ?_)
  refine an (sq (rn ?_))
  refine an (sq (rn ?_))
  refine an (sq (rn ?_))
  refine an (sq ?_)
  obtain ⟨x1, h2, h⟩ := bind_some h
  refine rn1 (c_laws_toStoreS _ _ h2) ?_
  refine an (sq ?_)
  obtain ⟨x3, h4, h⟩ := bind_some h
  refine rn1 (c_laws_toIndexDefS _ _ h4) ?_
  refine an (sq (rn ?_))
  refine an (rt ?_)
  cases h
  simp [Ret, TB, EN, *]

set_option maxRecDepth 20000 in
set_option maxHeartbeats 4000000 in
theorem c_laws_toDisk (p0 : M.Disk) (r : M.Disk) (h : m_laws_toDisk p0 = some r) : SCalls Tryz.prog 24 [(true, M.Disk.en p0)] [(true, [.ro (.str r.Base.Name), .ro (.int .i64 r.Base.Version), .own 36 3 (List.map M.Store.en r.Base.Stores), .own 337 2 (List.map M.IndexDef.en r.Base.Unique), .own 5 1 (List.map enB r.Log), .ro (.int .i64 r.Count)])] := by
  unfold m_laws_toDisk at h
  simp only [M.Disk.en]
  refine scalls_n (N := 16) (vars := [.cell 2 33]) Tryz.func24 rfl rfl rfl (by decide +kernel) (Nat.le_of_ble_eq_true rfl) fun base wd => ?_
  refine sq (rn ?_)
  refine an (sq (rn ?_))
  refine an (sq ?_)
  obtain ⟨x1, h2, h⟩ := bind_some h
  refine rn1 (c_laws_toDatabase _ _ h2) ?_
  refine an (sq ?_)
  obtain ⟨x3, h4, h⟩ := bind_some h
  refine rn1 (c_laws_toByteS _ _ h4) ?_
  refine an (sq (rn ?_))
  refine an (sq (rn ?_))
  refine an (rt ?_)
  cases h
  simp [Ret, TB, EN, *]

set_option maxRecDepth 20000 in
set_option maxHeartbeats 4000000 in
theorem c_laws_toWrite (p0 : M.Write) (r : M.Write) (h : m_laws_toWrite p0 = some r) : SCalls Tryz.prog 358 [(true, M.Write.en p0)] [(true, [.ro (.int .i64 r.Device), .ro (.int .i64 r.Seq), .ro (.int .i64 r.Key.Kind), .ro (.int .i64 r.Key.N), .ro (.str r.Key.Text), .ro (.str r.Field), .ro (.int .i64 r.N)])] := by
  unfold m_laws_toWrite at h
  simp only [M.Write.en]
  refine scalls_n (N := 21) (vars := [.cell 2 261]) Tryz.func358 rfl rfl rfl (by decide +kernel) (Nat.le_of_ble_eq_true rfl) fun base wd => ?_
  refine sq (rn ?_)
  refine an (sq (rn ?_))
  refine an (sq (rn ?_))
  refine an (sq (rn ?_))
  refine an (sq ?_)
  obtain ⟨x1, h2, h⟩ := bind_some h
  refine rn1 (c_laws_toKey _ _ h2) ?_
  refine an (sq (rn ?_))
  refine an (sq (rn ?_))
  refine an (sq (rn ?_))
  refine an (rt ?_)
  cases h
  simp [Ret, TB, EN, *]

set_option maxRecDepth 20000 in
set_option maxHeartbeats 4000000 in
theorem c_laws_toWriteS (p0 : List M.Write) (r : (List M.Write)) (h : m_laws_toWriteS p0 = some r) : SCalls Tryz.prog 279 [(false, [.sl (List.map M.Write.en p0)])] [(false, [.own 261 7 (List.map M.Write.en r)])] := by
  unfold m_laws_toWriteS at h
  refine scalls_n (N := 23) (vars := [.tmp 2]) Tryz.func279 rfl rfl rfl (by decide +kernel) (Nat.le_of_ble_eq_true rfl) fun base wd => ?_
  refine sq (rn ?_)
  refine an (sq ?_)
  obtain ⟨x1, h2, h⟩ := bind_some h
  refine rn1 (mkL_must h2) ?_
  refine an (sq (sq ?_))
  refine cu (fun s => s.t 0 = .v false [.dat (.sl (List.map M.Write.en p0))] ∧ s.t 3 = .v false [.row 100007 1] ∧ s.h 100007 = (1, .row 261 7 (List.map M.Write.en (List.replicate (List.length p0 : Int).toNat (⟨0, 0, (⟨0, 0, (⟨#[]⟩ : ByteArray)⟩ : M.Key), (⟨#[]⟩ : ByteArray), 0⟩ : M.Write))) true) ∧ True) ?_
  rintro s3 ⟨f4, f5, f6, _⟩
  refine rn ?_
  refine an (bk ?_)
  refine SW_loop (fun m s => ∃ v4 : Int, ∃ r7 : List M.Write, s.t 0 = .v false [.dat (.sl (List.map M.Write.en p0))] ∧ s.t 3 = .v false [.row 100007 1] ∧ s.t 4 = .v false [.dat (.int .i64 v4)] ∧ s.h 100007 = (1, .row 261 7 (List.map M.Write.en r7) true) ∧ m_laws_toWriteS_L1 p0 m v4 r7 = some r) fuel ?_ ?_
  · refine ⟨0, (List.replicate (List.length p0 : Int).toNat (⟨0, 0, (⟨0, 0, (⟨#[]⟩ : ByteArray)⟩ : M.Key), (⟨#[]⟩ : ByteArray), 0⟩ : M.Write)), ?_, ?_, ?_, ?_, h⟩
    all_goals simp +decide only [F, reduceIte, Nat.reduceAdd, Bool.not_true, Bool.not_false, EN, *, -h]
  rintro mL1 s7 ⟨v4, r7, f8, f9, f10, f11, h⟩
  rcases mL1 with _ | mL1
  · exact absurd h (by simp [m_laws_toWriteS_L1])
  simp only [m_laws_toWriteS_L1] at h
  refine sq (sq (rn ?_))
  refine an ?_
  rcases bcas (decide (v4 < (List.length p0 : Int))) with b12 | b12
  · replace h := ite_f b12 h
    refine cf (xt (aft_cx (aft_ix (aft_x (an (sq (rn ?_)))))))
    refine an (rt ?_)
    cases h
    simp [Ret, TB, EN, *]
  replace h := ite_t b12 h
  refine ct (sk (an (sq (bk ?_))))
  obtain ⟨x13, h14, h⟩ := bind_some h
  obtain ⟨q15, q16, q17⟩ := idx_some h14
  obtain ⟨x18, h19, h⟩ := bind_some h
  obtain ⟨x20, h21, h⟩ := bind_some h
  obtain ⟨q22, q23, q24⟩ := idx_some h21
  refine rn1 (c_laws_toWrite _ _ h19) ?_
  refine ab (an ?_)
  refine cu (fun s => s.t 0 = .v false [.dat (.sl (List.map M.Write.en p0))] ∧ s.t 3 = .v false [.row 100007 1] ∧ s.t 4 = .v false [.dat (.int .i64 v4)] ∧ s.h 100007 = (1, .row 261 7 (List.map M.Write.en (List.set r7 v4.toNat x18)) true) ∧ True) ?_
  rintro s25 ⟨f26, f27, f28, f29, _⟩
  refine rn ?_
  refine aft_i ⟨mL1, by omega, (IntKind.i64.wrap (v4 + 1)), (List.set r7 v4.toNat x18), ?_, ?_, ?_, ?_, h⟩
  all_goals simp +decide only [F, reduceIte, Nat.reduceAdd, Bool.not_true, Bool.not_false, EN, *, -h]

set_option maxRecDepth 20000 in
set_option maxHeartbeats 4000000 in
theorem c_laws_toOutbox (p0 : M.Outbox) (r : M.Outbox) (h : m_laws_toOutbox p0 = some r) : SCalls Tryz.prog 202 [(true, M.Outbox.en p0)] [(true, [.ro (.int .i64 r.Device), .ro (.int .i64 r.Next), .own 261 7 (List.map M.Write.en r.Writes)])] := by
  unfold m_laws_toOutbox at h
  simp only [M.Outbox.en]
  refine scalls_n (N := 15) (vars := [.cell 2 39]) Tryz.func202 rfl rfl rfl (by decide +kernel) (Nat.le_of_ble_eq_true rfl) fun base wd => ?_
  refine sq (rn ?_)
  refine an (sq (rn ?_))
  refine an (sq (rn ?_))
  refine an (sq (rn ?_))
  refine an (sq ?_)
  obtain ⟨x1, h2, h⟩ := bind_some h
  refine rn1 (c_laws_toWriteS _ _ h2) ?_
  refine an (sq (rn ?_))
  refine an (rt ?_)
  cases h
  simp [Ret, TB, EN, *]

set_option maxRecDepth 20000 in
set_option maxHeartbeats 4000000 in
theorem c_laws_toSync (p0 : M.Sync) (r : M.Sync) (h : m_laws_toSync p0 = some r) : SCalls Tryz.prog 106 [(true, M.Sync.en p0)] [(true, [.ro (.int .i64 r.Outbox.Device), .ro (.int .i64 r.Outbox.Next), .own 261 7 (List.map M.Write.en r.Outbox.Writes), .ro (.int .i64 r.Tries), .ro (.int .i64 r.WaitUntil)])] := by
  unfold m_laws_toSync at h
  simp only [M.Sync.en]
  refine scalls_n (N := 15) (vars := [.cell 2 41]) Tryz.func106 rfl rfl rfl (by decide +kernel) (Nat.le_of_ble_eq_true rfl) fun base wd => ?_
  refine sq (rn ?_)
  refine an (sq (rn ?_))
  refine an (sq ?_)
  obtain ⟨x1, h2, h⟩ := bind_some h
  refine rn1 (c_laws_toOutbox _ _ h2) ?_
  refine an (sq (rn ?_))
  refine an (sq (rn ?_))
  refine an (sq (rn ?_))
  refine an (rt ?_)
  cases h
  simp [Ret, TB, EN, *]

end Go.Proofs.YtgemmnkhddlhpaaGreat.gen
