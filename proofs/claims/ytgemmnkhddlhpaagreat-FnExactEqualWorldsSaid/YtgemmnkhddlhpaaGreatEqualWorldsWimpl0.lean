/-
  Helper text: walks: each function's contract out of its model. No conditions beyond those of each contract.
-/
import Derived.Test.YtgemmnkhddlhpaaGreatEqualWorldsTi
namespace Go.Proofs.YtgemmnkhddlhpaaGreat.gen
open Go Go.Sh
set_option linter.unusedVariables false
set_option linter.unusedSimpArgs false
set_option maxRecDepth 20000 in
set_option maxHeartbeats 4000000 in
theorem c_slices_EqualFunc_Bucket (p0 : List M.Bucket) (p1 : List M.Bucket) (p2 : M.Bucket → M.Bucket → Option Bool) (f2_ : FuncId) (k2_ : List D) (hp2 : ∀ z0 z1 r, p2 z0 z1 = some r → SCalls Tryz.prog f2_ ((true, M.Bucket.en z0) :: (true, M.Bucket.en z1) ::  k2_.map fun c => (false, [c])) [(false, [.ro (.bool r)])]) (r : Bool) (h : m_slices_EqualFunc_Bucket p0 p1 p2 = some r) : SCalls Tryz.prog 176 [(false, [.sl (List.map M.Bucket.en p0)]), (false, [.sl (List.map M.Bucket.en p1)]), (false, [.fn f2_ k2_])] [(false, [.ro (.bool r)])] := by
  unfold m_slices_EqualFunc_Bucket at h
  refine scalls_n (N := 32) (vars := [.tmp 6]) Tryz.func176 rfl rfl rfl (by decide +kernel) (Nat.le_of_ble_eq_true rfl) fun base wd => ?_
  refine sq (rn ?_)
  refine an (sq (sq (rn ?_)))
  refine an ?_
  rcases bcase ((List.length p0 : Int) != (List.length p1 : Int)) with b1 | b1
  · replace h := ite_t b1 h
    refine ct (sq (rn ?_))
    refine an (rt ?_)
    cases h
    simp [Ret, TB, EN, *]
  replace h := ite_f b1 h
  refine cf (sk (an (sq (sq (rn ?_)))))
  refine an (bk ?_)
  refine SW_loop (fun m s => ∃ v17 : Int, s.t 1 = .v false [.dat (.sl (List.map M.Bucket.en p1))] ∧ s.t 2 = .v false [.dat (.fn f2_ k2_)] ∧ s.t 15 = .v false [.dat (.sl (List.map M.Bucket.en p0))] ∧ s.t 16 = .v false [.dat (.int .i64 (List.length p0 : Int))] ∧ s.t 17 = .v false [.dat (.int .i64 v17)] ∧ m_slices_EqualFunc_Bucket_L1 p0 p1 p2 m v17 = some r) fuel ?_ ?_
  · refine ⟨0, ?_, ?_, ?_, ?_, ?_, h⟩
    all_goals simp +decide only [F, reduceIte, Nat.reduceAdd, Bool.not_true, Bool.not_false, EN, *, -h]
  rintro mL1 s2 ⟨v17, f3, f4, f5, f6, f7, h⟩
  rcases mL1 with _ | mL1
  · exact absurd h (by simp [m_slices_EqualFunc_Bucket_L1])
  simp only [m_slices_EqualFunc_Bucket_L1] at h
  refine sq (rn ?_)
  refine an (sq ?_)
  rcases bcas (decide (v17 < (List.length p0 : Int))) with b8 | b8
  · replace h := ite_f b8 h
    refine cf (xt (aft_cx (aft_ix (aft_x (an (sq (rn ?_)))))))
    refine an (rt ?_)
    cases h
    simp [Ret, TB, EN, *]
  replace h := ite_t b8 h
  refine ct (sk (an (sq (bk (sq ?_)))))
  obtain ⟨x9, h10, h⟩ := bind_some h
  obtain ⟨q11, q12, q13⟩ := idx_some h10
  refine rn ?_
  refine an (sq ?_)
  obtain ⟨x14, h15, h⟩ := bind_some h
  obtain ⟨q16, q17, q18⟩ := idx_some h15
  refine rn ?_
  refine an (sq ?_)
  obtain ⟨x19, h20, h⟩ := bind_some h
  refine rn1 (hp2 x9 x14 x19 h20) ?_
  refine an ?_
  rcases bcase (!x19) with b21 | b21
  · replace h := ite_t b21 h
    refine ct (sq (rn ?_))
    refine an (rt ?_)
    cases h
    simp [Ret, TB, EN, *]
  replace h := ite_f b21 h
  refine cf (sk (ab (an (rn ?_))))
  refine aft_i ⟨mL1, by omega, (IntKind.i64.wrap (v17 + 1)), ?_, ?_, ?_, ?_, ?_, h⟩
  all_goals simp +decide only [F, reduceIte, Nat.reduceAdd, Bool.not_true, Bool.not_false, EN, *, -h]

set_option maxRecDepth 20000 in
set_option maxHeartbeats 4000000 in
theorem c_slices_EqualFunc_Cache (p0 : List M.Cache) (p1 : List M.Cache) (p2 : M.Cache → M.Cache → Option Bool) (f2_ : FuncId) (k2_ : List D) (hp2 : ∀ z0 z1 r, p2 z0 z1 = some r → SCalls Tryz.prog f2_ ((true, M.Cache.en z0) :: (true, M.Cache.en z1) ::  k2_.map fun c => (false, [c])) [(false, [.ro (.bool r)])]) (r : Bool) (h : m_slices_EqualFunc_Cache p0 p1 p2 = some r) : SCalls Tryz.prog 359 [(false, [.sl (List.map M.Cache.en p0)]), (false, [.sl (List.map M.Cache.en p1)]), (false, [.fn f2_ k2_])] [(false, [.ro (.bool r)])] := by
  unfold m_slices_EqualFunc_Cache at h
  refine scalls_n (N := 32) (vars := [.tmp 6]) Tryz.func359 rfl rfl rfl (by decide +kernel) (Nat.le_of_ble_eq_true rfl) fun base wd => ?_
  refine sq (rn ?_)
  refine an (sq (sq (rn ?_)))
  refine an ?_
  rcases bcase ((List.length p0 : Int) != (List.length p1 : Int)) with b1 | b1
  · replace h := ite_t b1 h
    refine ct (sq (rn ?_))
    refine an (rt ?_)
    cases h
    simp [Ret, TB, EN, *]
  replace h := ite_f b1 h
  refine cf (sk (an (sq (sq (rn ?_)))))
  refine an (bk ?_)
  refine SW_loop (fun m s => ∃ v17 : Int, s.t 1 = .v false [.dat (.sl (List.map M.Cache.en p1))] ∧ s.t 2 = .v false [.dat (.fn f2_ k2_)] ∧ s.t 15 = .v false [.dat (.sl (List.map M.Cache.en p0))] ∧ s.t 16 = .v false [.dat (.int .i64 (List.length p0 : Int))] ∧ s.t 17 = .v false [.dat (.int .i64 v17)] ∧ m_slices_EqualFunc_Cache_L1 p0 p1 p2 m v17 = some r) fuel ?_ ?_
  · refine ⟨0, ?_, ?_, ?_, ?_, ?_, h⟩
    all_goals simp +decide only [F, reduceIte, Nat.reduceAdd, Bool.not_true, Bool.not_false, EN, *, -h]
  rintro mL1 s2 ⟨v17, f3, f4, f5, f6, f7, h⟩
  rcases mL1 with _ | mL1
  · exact absurd h (by simp [m_slices_EqualFunc_Cache_L1])
  simp only [m_slices_EqualFunc_Cache_L1] at h
  refine sq (rn ?_)
  refine an (sq ?_)
  rcases bcas (decide (v17 < (List.length p0 : Int))) with b8 | b8
  · replace h := ite_f b8 h
    refine cf (xt (aft_cx (aft_ix (aft_x (an (sq (rn ?_)))))))
    refine an (rt ?_)
    cases h
    simp [Ret, TB, EN, *]
  replace h := ite_t b8 h
  refine ct (sk (an (sq (bk (sq ?_)))))
  obtain ⟨x9, h10, h⟩ := bind_some h
  obtain ⟨q11, q12, q13⟩ := idx_some h10
  refine rn ?_
  refine an (sq ?_)
  obtain ⟨x14, h15, h⟩ := bind_some h
  obtain ⟨q16, q17, q18⟩ := idx_some h15
  refine rn ?_
  refine an (sq ?_)
  obtain ⟨x19, h20, h⟩ := bind_some h
  refine rn1 (hp2 x9 x14 x19 h20) ?_
  refine an ?_
  rcases bcase (!x19) with b21 | b21
  · replace h := ite_t b21 h
    refine ct (sq (rn ?_))
    refine an (rt ?_)
    cases h
    simp [Ret, TB, EN, *]
  replace h := ite_f b21 h
  refine cf (sk (ab (an (rn ?_))))
  refine aft_i ⟨mL1, by omega, (IntKind.i64.wrap (v17 + 1)), ?_, ?_, ?_, ?_, ?_, h⟩
  all_goals simp +decide only [F, reduceIte, Nat.reduceAdd, Bool.not_true, Bool.not_false, EN, *, -h]

set_option maxRecDepth 20000 in
set_option maxHeartbeats 4000000 in
theorem c_slices_EqualFunc_Cached (p0 : List M.Cached) (p1 : List M.Cached) (p2 : M.Cached → M.Cached → Option Bool) (f2_ : FuncId) (k2_ : List D) (hp2 : ∀ z0 z1 r, p2 z0 z1 = some r → SCalls Tryz.prog f2_ ((true, M.Cached.en z0) :: (true, M.Cached.en z1) ::  k2_.map fun c => (false, [c])) [(false, [.ro (.bool r)])]) (r : Bool) (h : m_slices_EqualFunc_Cached p0 p1 p2 = some r) : SCalls Tryz.prog 403 [(false, [.sl (List.map M.Cached.en p0)]), (false, [.sl (List.map M.Cached.en p1)]), (false, [.fn f2_ k2_])] [(false, [.ro (.bool r)])] := by
  unfold m_slices_EqualFunc_Cached at h
  refine scalls_n (N := 32) (vars := [.tmp 6]) Tryz.func403 rfl rfl rfl (by decide +kernel) (Nat.le_of_ble_eq_true rfl) fun base wd => ?_
  refine sq (rn ?_)
  refine an (sq (sq (rn ?_)))
  refine an ?_
  rcases bcase ((List.length p0 : Int) != (List.length p1 : Int)) with b1 | b1
  · replace h := ite_t b1 h
    refine ct (sq (rn ?_))
    refine an (rt ?_)
    cases h
    simp [Ret, TB, EN, *]
  replace h := ite_f b1 h
  refine cf (sk (an (sq (sq (rn ?_)))))
  refine an (bk ?_)
  refine SW_loop (fun m s => ∃ v17 : Int, s.t 1 = .v false [.dat (.sl (List.map M.Cached.en p1))] ∧ s.t 2 = .v false [.dat (.fn f2_ k2_)] ∧ s.t 15 = .v false [.dat (.sl (List.map M.Cached.en p0))] ∧ s.t 16 = .v false [.dat (.int .i64 (List.length p0 : Int))] ∧ s.t 17 = .v false [.dat (.int .i64 v17)] ∧ m_slices_EqualFunc_Cached_L1 p0 p1 p2 m v17 = some r) fuel ?_ ?_
  · refine ⟨0, ?_, ?_, ?_, ?_, ?_, h⟩
    all_goals simp +decide only [F, reduceIte, Nat.reduceAdd, Bool.not_true, Bool.not_false, EN, *, -h]
  rintro mL1 s2 ⟨v17, f3, f4, f5, f6, f7, h⟩
  rcases mL1 with _ | mL1
  · exact absurd h (by simp [m_slices_EqualFunc_Cached_L1])
  simp only [m_slices_EqualFunc_Cached_L1] at h
  refine sq (rn ?_)
  refine an (sq ?_)
  rcases bcas (decide (v17 < (List.length p0 : Int))) with b8 | b8
  · replace h := ite_f b8 h
    refine cf (xt (aft_cx (aft_ix (aft_x (an (sq (rn ?_)))))))
    refine an (rt ?_)
    cases h
    simp [Ret, TB, EN, *]
  replace h := ite_t b8 h
  refine ct (sk (an (sq (bk (sq ?_)))))
  obtain ⟨x9, h10, h⟩ := bind_some h
  obtain ⟨q11, q12, q13⟩ := idx_some h10
  refine rn ?_
  refine an (sq ?_)
  obtain ⟨x14, h15, h⟩ := bind_some h
  obtain ⟨q16, q17, q18⟩ := idx_some h15
  refine rn ?_
  refine an (sq ?_)
  obtain ⟨x19, h20, h⟩ := bind_some h
  refine rn1 (hp2 x9 x14 x19 h20) ?_
  refine an ?_
  rcases bcase (!x19) with b21 | b21
  · replace h := ite_t b21 h
    refine ct (sq (rn ?_))
    refine an (rt ?_)
    cases h
    simp [Ret, TB, EN, *]
  replace h := ite_f b21 h
  refine cf (sk (ab (an (rn ?_))))
  refine aft_i ⟨mL1, by omega, (IntKind.i64.wrap (v17 + 1)), ?_, ?_, ?_, ?_, ?_, h⟩
  all_goals simp +decide only [F, reduceIte, Nat.reduceAdd, Bool.not_true, Bool.not_false, EN, *, -h]

set_option maxRecDepth 20000 in
set_option maxHeartbeats 4000000 in
theorem c_slices_Equal_byte (p0 : List Int) (p1 : List Int) (r : Bool) (h : m_slices_Equal_byte p0 p1 = some r) : SCalls Tryz.prog 386 [(false, [.sl (List.map enB p0)]), (false, [.sl (List.map enB p1)])] [(false, [.ro (.bool r)])] := by
  unfold m_slices_Equal_byte at h
  refine scalls_n (N := 26) (vars := [.tmp 4]) Tryz.func386 rfl rfl rfl (by decide +kernel) (Nat.le_of_ble_eq_true rfl) fun base wd => ?_
  refine sq (rn ?_)
  refine an (sq (sq (rn ?_)))
  refine an ?_
  rcases bcase ((List.length p0 : Int) != (List.length p1 : Int)) with b1 | b1
  · replace h := ite_t b1 h
    refine ct (sq (rn ?_))
    refine an (rt ?_)
    cases h
    simp [Ret, TB, EN, *]
  replace h := ite_f b1 h
  refine cf (sk (an (sq (sq (rn ?_)))))
  refine an (bk ?_)
  refine SW_loop (fun m s => ∃ v13 : Int, s.t 0 = .v false [.dat (.sl (List.map enB p0))] ∧ s.t 1 = .v false [.dat (.sl (List.map enB p1))] ∧ s.t 12 = .v false [.dat (.int .i64 (List.length p0 : Int))] ∧ s.t 13 = .v false [.dat (.int .i64 v13)] ∧ m_slices_Equal_byte_L1 p0 p1 m v13 = some r) fuel ?_ ?_
  · refine ⟨0, ?_, ?_, ?_, ?_, h⟩
    all_goals simp +decide only [F, reduceIte, Nat.reduceAdd, Bool.not_true, Bool.not_false, EN, *, -h]
  rintro mL1 s2 ⟨v13, f3, f4, f5, f6, h⟩
  rcases mL1 with _ | mL1
  · exact absurd h (by simp [m_slices_Equal_byte_L1])
  simp only [m_slices_Equal_byte_L1] at h
  refine sq (rn ?_)
  refine an (sq ?_)
  rcases bcas (decide (v13 < (List.length p0 : Int))) with b7 | b7
  · replace h := ite_f b7 h
    refine cf (xt (aft_cx (aft_ix (aft_x (an (sq (rn ?_)))))))
    refine an (rt ?_)
    cases h
    simp [Ret, TB, EN, *]
  replace h := ite_t b7 h
  refine ct (sk (an (sq (bk (sq (rn ?_))))))
  refine an (sq ?_)
  obtain ⟨x8, h9, h⟩ := bind_some h
  obtain ⟨q10, q11, q12⟩ := idx_some h9
  obtain ⟨x13, h14, h⟩ := bind_some h
  obtain ⟨q15, q16, q17⟩ := idx_some h14
  refine rd mixed ?_
  refine an ?_
  rcases bcase (x8 != x13) with b18 | b18
  · replace h := ite_t b18 h
    refine ct (sq (rn ?_))
    refine an (rt ?_)
    cases h
    simp [Ret, TB, EN, *]
  replace h := ite_f b18 h
  refine cf (sk (ab (an (rn ?_))))
  refine aft_i ⟨mL1, by omega, (IntKind.i64.wrap (v13 + 1)), ?_, ?_, ?_, ?_, h⟩
  all_goals simp +decide only [F, reduceIte, Nat.reduceAdd, Bool.not_true, Bool.not_false, EN, *, -h]

set_option maxRecDepth 20000 in
set_option maxHeartbeats 4000000 in
theorem c_impl_EqualBytes (p0 : List Int) (p1 : List Int) (r : Bool) (h : m_impl_EqualBytes p0 p1 = some r) : SCalls Tryz.prog 321 [(false, [.sl (List.map enB p0)]), (false, [.sl (List.map enB p1)])] [(false, [.ro (.bool r)])] := by
  unfold m_impl_EqualBytes at h
  refine scalls_n (N := 8) (vars := [.tmp 4]) Tryz.func321 rfl rfl rfl (by decide +kernel) (Nat.le_of_ble_eq_true rfl) fun base wd => ?_
  refine sq (rn ?_)
  refine an (sq ?_)
  obtain ⟨x1, h2, h⟩ := bind_some h
  refine rn1 (c_slices_Equal_byte _ _ _ h2) ?_
  refine an (rt ?_)
  cases h
  simp [Ret, TB, EN, *]

set_option maxRecDepth 20000 in
set_option maxHeartbeats 4000000 in
theorem c_impl_EqualResponses (p0 : M.Response) (p1 : M.Response) (r : Bool) (h : m_impl_EqualResponses p0 p1 = some r) : SCalls Tryz.prog 430 [(true, M.Response.en p0), (true, M.Response.en p1)] [(false, [.ro (.bool r)])] := by
  unfold m_impl_EqualResponses at h
  simp only [M.Response.en]
  refine scalls_n (N := 38) (vars := [.tmp 4]) Tryz.func430 rfl rfl rfl (by decide +kernel) (Nat.le_of_ble_eq_true rfl) fun base wd => ?_
  refine sq (rn ?_)
  refine an (sq ?_)
  rcases bcas (p0.Type_ == p1.Type_) with b1 | b1
  · replace h := ite_f b1 h
    refine rn ?_
    refine an (rt ?_)
    cases h
    simp [Ret, TB, EN, *]
  replace h := ite_t b1 h
  rcases bcas (p0.Status == p1.Status) with b2 | b2
  · replace h := ite_f b2 h
    refine rn ?_
    refine an (rt ?_)
    cases h
    simp [Ret, TB, EN, *]
  replace h := ite_t b2 h
  rcases bcas (p0.Version == p1.Version) with b3 | b3
  · replace h := ite_f b3 h
    refine rn ?_
    refine an (rt ?_)
    cases h
    simp [Ret, TB, EN, *]
  replace h := ite_t b3 h
  obtain ⟨x4, h5, h⟩ := bind_some h
  rcases bcase x4 with b6 | b6
  · replace h := ite_t b6 h
    refine rn1 (c_impl_EqualBytes _ _ _ h5) ?_
    refine an (rt ?_)
    cases h
    simp [Ret, TB, EN, *]
  replace h := ite_f b6 h
  refine rn1 (c_impl_EqualBytes _ _ _ h5) ?_
  refine an (rt ?_)
  cases h
  simp [Ret, TB, EN, *]

set_option maxRecDepth 20000 in
set_option maxHeartbeats 4000000 in
theorem c_impl_equalCached (p0 : M.Cached) (p1 : M.Cached) (r : Bool) (h : m_impl_equalCached p0 p1 = some r) : SCalls Tryz.prog 404 [(true, M.Cached.en p0), (true, M.Cached.en p1)] [(false, [.ro (.bool r)])] := by
  unfold m_impl_equalCached at h
  simp only [M.Cached.en]
  refine scalls_n (N := 24) (vars := [.tmp 4]) Tryz.func404 rfl rfl rfl (by decide +kernel) (Nat.le_of_ble_eq_true rfl) fun base wd => ?_
  refine sq (rn ?_)
  refine an (sq ?_)
  rcases bcas (p0.Site.toList == p1.Site.toList) with b1 | b1
  · replace h := ite_f b1 h
    refine rn ?_
    refine an (rt ?_)
    cases h
    simp [Ret, TB, EN, *]
  replace h := ite_t b1 h
  rcases bcas (p0.Path.toList == p1.Path.toList) with b2 | b2
  · replace h := ite_f b2 h
    refine rn ?_
    refine an (rt ?_)
    cases h
    simp [Ret, TB, EN, *]
  replace h := ite_t b2 h
  obtain ⟨x3, h4, h⟩ := bind_some h
  refine rn1 (c_impl_EqualResponses _ _ _ h4) ?_
  refine an (rt ?_)
  cases h
  simp [Ret, TB, EN, *]

set_option maxRecDepth 20000 in
set_option maxHeartbeats 4000000 in
theorem c_impl_equalCaches (p0 : M.Cache) (p1 : M.Cache) (r : Bool) (h : m_impl_equalCaches p0 p1 = some r) : SCalls Tryz.prog 360 [(true, M.Cache.en p0), (true, M.Cache.en p1)] [(false, [.ro (.bool r)])] := by
  unfold m_impl_equalCaches at h
  simp only [M.Cache.en]
  refine scalls_n (N := 17) (vars := [.tmp 4]) Tryz.func360 rfl rfl rfl (by decide +kernel) (Nat.le_of_ble_eq_true rfl) fun base wd => ?_
  refine sq (rn ?_)
  refine an (sq ?_)
  rcases bcas (p0.Version == p1.Version) with b1 | b1
  · replace h := ite_f b1 h
    refine rn ?_
    refine an (rt ?_)
    cases h
    simp [Ret, TB, EN, *]
  replace h := ite_t b1 h
  obtain ⟨x2, h3, h⟩ := bind_some h
  refine rn1 (c_slices_EqualFunc_Cached p0.Entries p1.Entries (fun z0 z1 => m_impl_equalCached z0 z1) 404 [] (fun z0 z1 r hr => c_impl_equalCached z0 z1 r hr) x2 h3) ?_
  refine an (rt ?_)
  cases h
  simp [Ret, TB, EN, *]

set_option maxRecDepth 20000 in
set_option maxHeartbeats 4000000 in
theorem c_impl_EqualCacheSets (p0 : M.CacheSet) (p1 : M.CacheSet) (r : Bool) (h : m_impl_EqualCacheSets p0 p1 = some r) : SCalls Tryz.prog 280 [(true, M.CacheSet.en p0), (true, M.CacheSet.en p1)] [(false, [.ro (.bool r)])] := by
  unfold m_impl_EqualCacheSets at h
  simp only [M.CacheSet.en]
  refine scalls_n (N := 10) (vars := [.tmp 4]) Tryz.func280 rfl rfl rfl (by decide +kernel) (Nat.le_of_ble_eq_true rfl) fun base wd => ?_
  refine sq (rn ?_)
  refine an (sq ?_)
  obtain ⟨x1, h2, h⟩ := bind_some h
  refine rn1 (c_slices_EqualFunc_Cache p0.Caches p1.Caches (fun z0 z1 => m_impl_equalCaches z0 z1) 360 [] (fun z0 z1 r hr => c_impl_equalCaches z0 z1 r hr) x1 h2) ?_
  refine an (rt ?_)
  cases h
  simp [Ret, TB, EN, *]

set_option maxRecDepth 20000 in
set_option maxHeartbeats 4000000 in
theorem c_slices_EqualFunc_Store (p0 : List M.Store) (p1 : List M.Store) (p2 : M.Store → M.Store → Option Bool) (f2_ : FuncId) (k2_ : List D) (hp2 : ∀ z0 z1 r, p2 z0 z1 = some r → SCalls Tryz.prog f2_ ((true, M.Store.en z0) :: (true, M.Store.en z1) ::  k2_.map fun c => (false, [c])) [(false, [.ro (.bool r)])]) (r : Bool) (h : m_slices_EqualFunc_Store p0 p1 p2 = some r) : SCalls Tryz.prog 405 [(false, [.sl (List.map M.Store.en p0)]), (false, [.sl (List.map M.Store.en p1)]), (false, [.fn f2_ k2_])] [(false, [.ro (.bool r)])] := by
  unfold m_slices_EqualFunc_Store at h
  refine scalls_n (N := 32) (vars := [.tmp 6]) Tryz.func405 rfl rfl rfl (by decide +kernel) (Nat.le_of_ble_eq_true rfl) fun base wd => ?_
  refine sq (rn ?_)
  refine an (sq (sq (rn ?_)))
  refine an ?_
  rcases bcase ((List.length p0 : Int) != (List.length p1 : Int)) with b1 | b1
  · replace h := ite_t b1 h
    refine ct (sq (rn ?_))
    refine an (rt ?_)
    cases h
    simp [Ret, TB, EN, *]
  replace h := ite_f b1 h
  refine cf (sk (an (sq (sq (rn ?_)))))
  refine an (bk ?_)
  refine SW_loop (fun m s => ∃ v17 : Int, s.t 1 = .v false [.dat (.sl (List.map M.Store.en p1))] ∧ s.t 2 = .v false [.dat (.fn f2_ k2_)] ∧ s.t 15 = .v false [.dat (.sl (List.map M.Store.en p0))] ∧ s.t 16 = .v false [.dat (.int .i64 (List.length p0 : Int))] ∧ s.t 17 = .v false [.dat (.int .i64 v17)] ∧ m_slices_EqualFunc_Store_L1 p0 p1 p2 m v17 = some r) fuel ?_ ?_
  · refine ⟨0, ?_, ?_, ?_, ?_, ?_, h⟩
    all_goals simp +decide only [F, reduceIte, Nat.reduceAdd, Bool.not_true, Bool.not_false, EN, *, -h]
  rintro mL1 s2 ⟨v17, f3, f4, f5, f6, f7, h⟩
  rcases mL1 with _ | mL1
  · exact absurd h (by simp [m_slices_EqualFunc_Store_L1])
  simp only [m_slices_EqualFunc_Store_L1] at h
  refine sq (rn ?_)
  refine an (sq ?_)
  rcases bcas (decide (v17 < (List.length p0 : Int))) with b8 | b8
  · replace h := ite_f b8 h
    refine cf (xt (aft_cx (aft_ix (aft_x (an (sq (rn ?_)))))))
    refine an (rt ?_)
    cases h
    simp [Ret, TB, EN, *]
  replace h := ite_t b8 h
  refine ct (sk (an (sq (bk (sq ?_)))))
  obtain ⟨x9, h10, h⟩ := bind_some h
  obtain ⟨q11, q12, q13⟩ := idx_some h10
  refine rn ?_
  refine an (sq ?_)
  obtain ⟨x14, h15, h⟩ := bind_some h
  obtain ⟨q16, q17, q18⟩ := idx_some h15
  refine rn ?_
  refine an (sq ?_)
  obtain ⟨x19, h20, h⟩ := bind_some h
  refine rn1 (hp2 x9 x14 x19 h20) ?_
  refine an ?_
  rcases bcase (!x19) with b21 | b21
  · replace h := ite_t b21 h
    refine ct (sq (rn ?_))
    refine an (rt ?_)
    cases h
    simp [Ret, TB, EN, *]
  replace h := ite_f b21 h
  refine cf (sk (ab (an (rn ?_))))
  refine aft_i ⟨mL1, by omega, (IntKind.i64.wrap (v17 + 1)), ?_, ?_, ?_, ?_, ?_, h⟩
  all_goals simp +decide only [F, reduceIte, Nat.reduceAdd, Bool.not_true, Bool.not_false, EN, *, -h]

set_option maxRecDepth 20000 in
set_option maxHeartbeats 4000000 in
theorem c_slices_EqualFunc_Item (p0 : List M.Item) (p1 : List M.Item) (p2 : M.Item → M.Item → Option Bool) (f2_ : FuncId) (k2_ : List D) (hp2 : ∀ z0 z1 r, p2 z0 z1 = some r → SCalls Tryz.prog f2_ ((true, M.Item.en z0) :: (true, M.Item.en z1) ::  k2_.map fun c => (false, [c])) [(false, [.ro (.bool r)])]) (r : Bool) (h : m_slices_EqualFunc_Item p0 p1 p2 = some r) : SCalls Tryz.prog 285 [(false, [.sl (List.map M.Item.en p0)]), (false, [.sl (List.map M.Item.en p1)]), (false, [.fn f2_ k2_])] [(false, [.ro (.bool r)])] := by
  unfold m_slices_EqualFunc_Item at h
  refine scalls_n (N := 32) (vars := [.tmp 6]) Tryz.func285 rfl rfl rfl (by decide +kernel) (Nat.le_of_ble_eq_true rfl) fun base wd => ?_
  refine sq (rn ?_)
  refine an (sq (sq (rn ?_)))
  refine an ?_
  rcases bcase ((List.length p0 : Int) != (List.length p1 : Int)) with b1 | b1
  · replace h := ite_t b1 h
    refine ct (sq (rn ?_))
    refine an (rt ?_)
    cases h
    simp [Ret, TB, EN, *]
  replace h := ite_f b1 h
  refine cf (sk (an (sq (sq (rn ?_)))))
  refine an (bk ?_)
  refine SW_loop (fun m s => ∃ v17 : Int, s.t 1 = .v false [.dat (.sl (List.map M.Item.en p1))] ∧ s.t 2 = .v false [.dat (.fn f2_ k2_)] ∧ s.t 15 = .v false [.dat (.sl (List.map M.Item.en p0))] ∧ s.t 16 = .v false [.dat (.int .i64 (List.length p0 : Int))] ∧ s.t 17 = .v false [.dat (.int .i64 v17)] ∧ m_slices_EqualFunc_Item_L1 p0 p1 p2 m v17 = some r) fuel ?_ ?_
  · refine ⟨0, ?_, ?_, ?_, ?_, ?_, h⟩
    all_goals simp +decide only [F, reduceIte, Nat.reduceAdd, Bool.not_true, Bool.not_false, EN, *, -h]
  rintro mL1 s2 ⟨v17, f3, f4, f5, f6, f7, h⟩
  rcases mL1 with _ | mL1
  · exact absurd h (by simp [m_slices_EqualFunc_Item_L1])
  simp only [m_slices_EqualFunc_Item_L1] at h
  refine sq (rn ?_)
  refine an (sq ?_)
  rcases bcas (decide (v17 < (List.length p0 : Int))) with b8 | b8
  · replace h := ite_f b8 h
    refine cf (xt (aft_cx (aft_ix (aft_x (an (sq (rn ?_)))))))
    refine an (rt ?_)
    cases h
    simp [Ret, TB, EN, *]
  replace h := ite_t b8 h
  refine ct (sk (an (sq (bk (sq ?_)))))
  obtain ⟨x9, h10, h⟩ := bind_some h
  obtain ⟨q11, q12, q13⟩ := idx_some h10
  refine rn ?_
  refine an (sq ?_)
  obtain ⟨x14, h15, h⟩ := bind_some h
  obtain ⟨q16, q17, q18⟩ := idx_some h15
  refine rn ?_
  refine an (sq ?_)
  obtain ⟨x19, h20, h⟩ := bind_some h
  refine rn1 (hp2 x9 x14 x19 h20) ?_
  refine an ?_
  rcases bcase (!x19) with b21 | b21
  · replace h := ite_t b21 h
    refine ct (sq (rn ?_))
    refine an (rt ?_)
    cases h
    simp [Ret, TB, EN, *]
  replace h := ite_f b21 h
  refine cf (sk (ab (an (rn ?_))))
  refine aft_i ⟨mL1, by omega, (IntKind.i64.wrap (v17 + 1)), ?_, ?_, ?_, ?_, ?_, h⟩
  all_goals simp +decide only [F, reduceIte, Nat.reduceAdd, Bool.not_true, Bool.not_false, EN, *, -h]

set_option maxRecDepth 20000 in
set_option maxHeartbeats 4000000 in
theorem c_slices_Equal_Field (p0 : List M.Field) (p1 : List M.Field) (r : Bool) (h : m_slices_Equal_Field p0 p1 = some r) : SCalls Tryz.prog 408 [(false, [.sl (List.map M.Field.en p0)]), (false, [.sl (List.map M.Field.en p1)])] [(false, [.ro (.bool r)])] := by
  unfold m_slices_Equal_Field at h
  refine scalls_n (N := 26) (vars := [.tmp 4]) Tryz.func408 rfl rfl rfl (by decide +kernel) (Nat.le_of_ble_eq_true rfl) fun base wd => ?_
  refine sq (rn ?_)
  refine an (sq (sq (rn ?_)))
  refine an ?_
  rcases bcase ((List.length p0 : Int) != (List.length p1 : Int)) with b1 | b1
  · replace h := ite_t b1 h
    refine ct (sq (rn ?_))
    refine an (rt ?_)
    cases h
    simp [Ret, TB, EN, *]
  replace h := ite_f b1 h
  refine cf (sk (an (sq (sq (rn ?_)))))
  refine an (bk ?_)
  refine SW_loop (fun m s => ∃ v13 : Int, s.t 0 = .v false [.dat (.sl (List.map M.Field.en p0))] ∧ s.t 1 = .v false [.dat (.sl (List.map M.Field.en p1))] ∧ s.t 12 = .v false [.dat (.int .i64 (List.length p0 : Int))] ∧ s.t 13 = .v false [.dat (.int .i64 v13)] ∧ m_slices_Equal_Field_L1 p0 p1 m v13 = some r) fuel ?_ ?_
  · refine ⟨0, ?_, ?_, ?_, ?_, h⟩
    all_goals simp +decide only [F, reduceIte, Nat.reduceAdd, Bool.not_true, Bool.not_false, EN, *, -h]
  rintro mL1 s2 ⟨v13, f3, f4, f5, f6, h⟩
  rcases mL1 with _ | mL1
  · exact absurd h (by simp [m_slices_Equal_Field_L1])
  simp only [m_slices_Equal_Field_L1] at h
  refine sq (rn ?_)
  refine an (sq ?_)
  rcases bcas (decide (v13 < (List.length p0 : Int))) with b7 | b7
  · replace h := ite_f b7 h
    refine cf (xt (aft_cx (aft_ix (aft_x (an (sq (rn ?_)))))))
    refine an (rt ?_)
    cases h
    simp [Ret, TB, EN, *]
  replace h := ite_t b7 h
  refine ct (sk (an (sq (bk (sq (rn ?_))))))
  refine an (sq ?_)
  obtain ⟨x8, h9, h⟩ := bind_some h
  obtain ⟨q10, q11, q12⟩ := idx_some h9
  obtain ⟨x13, h14, h⟩ := bind_some h
  obtain ⟨q15, q16, q17⟩ := idx_some h14
  refine rd mixed ?_
  refine an ?_
  rcases bcase (!((x8.Name.toList == x13.Name.toList) && (x8.N == x13.N))) with b18 | b18
  · replace h := ite_t b18 h
    refine ct (sq (rn ?_))
    refine an (rt ?_)
    cases h
    simp [Ret, TB, EN, *]
  replace h := ite_f b18 h
  refine cf (sk (ab (an (rn ?_))))
  refine aft_i ⟨mL1, by omega, (IntKind.i64.wrap (v13 + 1)), ?_, ?_, ?_, ?_, h⟩
  all_goals simp +decide only [F, reduceIte, Nat.reduceAdd, Bool.not_true, Bool.not_false, EN, *, -h]

set_option maxRecDepth 20000 in
set_option maxHeartbeats 4000000 in
theorem c_impl_EqualRecords (p0 : M.Record) (p1 : M.Record) (r : Bool) (h : m_impl_EqualRecords p0 p1 = some r) : SCalls Tryz.prog 363 [(true, M.Record.en p0), (true, M.Record.en p1)] [(false, [.ro (.bool r)])] := by
  unfold m_impl_EqualRecords at h
  simp only [M.Record.en]
  refine scalls_n (N := 10) (vars := [.tmp 4]) Tryz.func363 rfl rfl rfl (by decide +kernel) (Nat.le_of_ble_eq_true rfl) fun base wd => ?_
  refine sq (rn ?_)
  refine an (sq ?_)
  obtain ⟨x1, h2, h⟩ := bind_some h
  refine rn1 (c_slices_Equal_Field _ _ _ h2) ?_
  refine an (rt ?_)
  cases h
  simp [Ret, TB, EN, *]

set_option maxRecDepth 20000 in
set_option maxHeartbeats 4000000 in
theorem c_impl_equalItems (p0 : M.Item) (p1 : M.Item) (r : Bool) (h : m_impl_equalItems p0 p1 = some r) : SCalls Tryz.prog 286 [(true, M.Item.en p0), (true, M.Item.en p1)] [(false, [.ro (.bool r)])] := by
  unfold m_impl_equalItems at h
  simp only [M.Item.en]
  refine scalls_n (N := 17) (vars := [.tmp 4]) Tryz.func286 rfl rfl rfl (by decide +kernel) (Nat.le_of_ble_eq_true rfl) fun base wd => ?_
  refine sq (rn ?_)
  refine an (sq ?_)
  rcases bcas ((p0.Key.Kind == p1.Key.Kind) && ((p0.Key.N == p1.Key.N) && (p0.Key.Text.toList == p1.Key.Text.toList))) with b1 | b1
  · replace h := ite_f b1 h
    refine rn ?_
    refine an (rt ?_)
    cases h
    simp [Ret, TB, EN, *]
  replace h := ite_t b1 h
  obtain ⟨x2, h3, h⟩ := bind_some h
  refine rn1 (c_impl_EqualRecords _ _ _ h3) ?_
  refine an (rt ?_)
  cases h
  simp [Ret, TB, EN, *]

set_option maxRecDepth 20000 in
set_option maxHeartbeats 4000000 in
theorem c_impl_EqualStores (p0 : M.Store) (p1 : M.Store) (r : Bool) (h : m_impl_EqualStores p0 p1 = some r) : SCalls Tryz.prog 181 [(true, M.Store.en p0), (true, M.Store.en p1)] [(false, [.ro (.bool r)])] := by
  unfold m_impl_EqualStores at h
  simp only [M.Store.en]
  refine scalls_n (N := 24) (vars := [.tmp 4]) Tryz.func181 rfl rfl rfl (by decide +kernel) (Nat.le_of_ble_eq_true rfl) fun base wd => ?_
  refine sq (rn ?_)
  refine an (sq ?_)
  rcases bcas (p0.Name.toList == p1.Name.toList) with b1 | b1
  · replace h := ite_f b1 h
    refine rn ?_
    refine an (rt ?_)
    cases h
    simp [Ret, TB, EN, *]
  replace h := ite_t b1 h
  rcases bcas (p0.Auto == p1.Auto) with b2 | b2
  · replace h := ite_f b2 h
    refine rn ?_
    refine an (rt ?_)
    cases h
    simp [Ret, TB, EN, *]
  replace h := ite_t b2 h
  obtain ⟨x3, h4, h⟩ := bind_some h
  refine rn1 (c_slices_EqualFunc_Item p0.Items p1.Items (fun z0 z1 => m_impl_equalItems z0 z1) 286 [] (fun z0 z1 r hr => c_impl_equalItems z0 z1 r hr) x3 h4) ?_
  refine an (rt ?_)
  cases h
  simp [Ret, TB, EN, *]

set_option maxRecDepth 20000 in
set_option maxHeartbeats 4000000 in
theorem c_slices_Equal_IndexDef (p0 : List M.IndexDef) (p1 : List M.IndexDef) (r : Bool) (h : m_slices_Equal_IndexDef p0 p1 = some r) : SCalls Tryz.prog 406 [(false, [.sl (List.map M.IndexDef.en p0)]), (false, [.sl (List.map M.IndexDef.en p1)])] [(false, [.ro (.bool r)])] := by
  unfold m_slices_Equal_IndexDef at h
  refine scalls_n (N := 26) (vars := [.tmp 4]) Tryz.func406 rfl rfl rfl (by decide +kernel) (Nat.le_of_ble_eq_true rfl) fun base wd => ?_
  refine sq (rn ?_)
  refine an (sq (sq (rn ?_)))
  refine an ?_
  rcases bcase ((List.length p0 : Int) != (List.length p1 : Int)) with b1 | b1
  · replace h := ite_t b1 h
    refine ct (sq (rn ?_))
    refine an (rt ?_)
    cases h
    simp [Ret, TB, EN, *]
  replace h := ite_f b1 h
  refine cf (sk (an (sq (sq (rn ?_)))))
  refine an (bk ?_)
  refine SW_loop (fun m s => ∃ v13 : Int, s.t 0 = .v false [.dat (.sl (List.map M.IndexDef.en p0))] ∧ s.t 1 = .v false [.dat (.sl (List.map M.IndexDef.en p1))] ∧ s.t 12 = .v false [.dat (.int .i64 (List.length p0 : Int))] ∧ s.t 13 = .v false [.dat (.int .i64 v13)] ∧ m_slices_Equal_IndexDef_L1 p0 p1 m v13 = some r) fuel ?_ ?_
  · refine ⟨0, ?_, ?_, ?_, ?_, h⟩
    all_goals simp +decide only [F, reduceIte, Nat.reduceAdd, Bool.not_true, Bool.not_false, EN, *, -h]
  rintro mL1 s2 ⟨v13, f3, f4, f5, f6, h⟩
  rcases mL1 with _ | mL1
  · exact absurd h (by simp [m_slices_Equal_IndexDef_L1])
  simp only [m_slices_Equal_IndexDef_L1] at h
  refine sq (rn ?_)
  refine an (sq ?_)
  rcases bcas (decide (v13 < (List.length p0 : Int))) with b7 | b7
  · replace h := ite_f b7 h
    refine cf (xt (aft_cx (aft_ix (aft_x (an (sq (rn ?_)))))))
    refine an (rt ?_)
    cases h
    simp [Ret, TB, EN, *]
  replace h := ite_t b7 h
  refine ct (sk (an (sq (bk (sq (rn ?_))))))
  refine an (sq ?_)
  obtain ⟨x8, h9, h⟩ := bind_some h
  obtain ⟨q10, q11, q12⟩ := idx_some h9
  obtain ⟨x13, h14, h⟩ := bind_some h
  obtain ⟨q15, q16, q17⟩ := idx_some h14
  refine rd mixed ?_
  refine an ?_
  rcases bcase (!((x8.Store.toList == x13.Store.toList) && (x8.Field.toList == x13.Field.toList))) with b18 | b18
  · replace h := ite_t b18 h
    refine ct (sq (rn ?_))
    refine an (rt ?_)
    cases h
    simp [Ret, TB, EN, *]
  replace h := ite_f b18 h
  refine cf (sk (ab (an (rn ?_))))
  refine aft_i ⟨mL1, by omega, (IntKind.i64.wrap (v13 + 1)), ?_, ?_, ?_, ?_, h⟩
  all_goals simp +decide only [F, reduceIte, Nat.reduceAdd, Bool.not_true, Bool.not_false, EN, *, -h]

set_option maxRecDepth 20000 in
set_option maxHeartbeats 4000000 in
theorem c_impl_EqualDatabases (p0 : M.Database) (p1 : M.Database) (r : Bool) (h : m_impl_EqualDatabases p0 p1 = some r) : SCalls Tryz.prog 361 [(true, M.Database.en p0), (true, M.Database.en p1)] [(false, [.ro (.bool r)])] := by
  unfold m_impl_EqualDatabases at h
  simp only [M.Database.en]
  refine scalls_n (N := 31) (vars := [.tmp 4]) Tryz.func361 rfl rfl rfl (by decide +kernel) (Nat.le_of_ble_eq_true rfl) fun base wd => ?_
  refine sq (rn ?_)
  refine an (sq ?_)
  rcases bcas (p0.Name.toList == p1.Name.toList) with b1 | b1
  · replace h := ite_f b1 h
    refine rn ?_
    refine an (rt ?_)
    cases h
    simp [Ret, TB, EN, *]
  replace h := ite_t b1 h
  rcases bcas (p0.Version == p1.Version) with b2 | b2
  · replace h := ite_f b2 h
    refine rn ?_
    refine an (rt ?_)
    cases h
    simp [Ret, TB, EN, *]
  replace h := ite_t b2 h
  obtain ⟨x3, h4, h⟩ := bind_some h
  rcases bcas x3 with b5 | b5
  · replace h := ite_f b5 h
    refine rn1 (c_slices_EqualFunc_Store p0.Stores p1.Stores (fun z0 z1 => m_impl_EqualStores z0 z1) 181 [] (fun z0 z1 r hr => c_impl_EqualStores z0 z1 r hr) x3 h4) ?_
    refine an (rt ?_)
    cases h
    simp [Ret, TB, EN, *]
  replace h := ite_t b5 h
  obtain ⟨x6, h7, h⟩ := bind_some h
  refine rn2 (c_slices_EqualFunc_Store p0.Stores p1.Stores (fun z0 z1 => m_impl_EqualStores z0 z1) 181 [] (fun z0 z1 r hr => c_impl_EqualStores z0 z1 r hr) x3 h4) (c_slices_Equal_IndexDef _ _ _ h7) ?_
  refine an (rt ?_)
  cases h
  simp [Ret, TB, EN, *]

set_option maxRecDepth 20000 in
set_option maxHeartbeats 4000000 in
theorem c_impl_EqualDisks (p0 : M.Disk) (p1 : M.Disk) (r : Bool) (h : m_impl_EqualDisks p0 p1 = some r) : SCalls Tryz.prog 281 [(true, M.Disk.en p0), (true, M.Disk.en p1)] [(false, [.ro (.bool r)])] := by
  unfold m_impl_EqualDisks at h
  simp only [M.Disk.en]
  refine scalls_n (N := 24) (vars := [.tmp 4]) Tryz.func281 rfl rfl rfl (by decide +kernel) (Nat.le_of_ble_eq_true rfl) fun base wd => ?_
  refine sq (rn ?_)
  refine an (sq ?_)
  obtain ⟨x1, h2, h⟩ := bind_some h
  rcases bcas x1 with b3 | b3
  · replace h := ite_f b3 h
    refine rn1 (c_impl_EqualDatabases _ _ _ h2) ?_
    refine an (rt ?_)
    cases h
    simp [Ret, TB, EN, *]
  replace h := ite_t b3 h
  obtain ⟨x4, h5, h⟩ := bind_some h
  rcases bcase x4 with b6 | b6
  · replace h := ite_t b6 h
    refine rn2 (c_impl_EqualDatabases _ _ _ h2) (c_impl_EqualBytes _ _ _ h5) ?_
    refine an (rt ?_)
    cases h
    simp [Ret, TB, EN, *]
  replace h := ite_f b6 h
  refine rn2 (c_impl_EqualDatabases _ _ _ h2) (c_impl_EqualBytes _ _ _ h5) ?_
  refine an (rt ?_)
  cases h
  simp [Ret, TB, EN, *]

set_option maxRecDepth 20000 in
set_option maxHeartbeats 4000000 in
theorem c_slices_Equal_Write (p0 : List M.Write) (p1 : List M.Write) (r : Bool) (h : m_slices_Equal_Write p0 p1 = some r) : SCalls Tryz.prog 183 [(false, [.sl (List.map M.Write.en p0)]), (false, [.sl (List.map M.Write.en p1)])] [(false, [.ro (.bool r)])] := by
  unfold m_slices_Equal_Write at h
  refine scalls_n (N := 26) (vars := [.tmp 4]) Tryz.func183 rfl rfl rfl (by decide +kernel) (Nat.le_of_ble_eq_true rfl) fun base wd => ?_
  refine sq (rn ?_)
  refine an (sq (sq (rn ?_)))
  refine an ?_
  rcases bcase ((List.length p0 : Int) != (List.length p1 : Int)) with b1 | b1
  · replace h := ite_t b1 h
    refine ct (sq (rn ?_))
    refine an (rt ?_)
    cases h
    simp [Ret, TB, EN, *]
  replace h := ite_f b1 h
  refine cf (sk (an (sq (sq (rn ?_)))))
  refine an (bk ?_)
  refine SW_loop (fun m s => ∃ v13 : Int, s.t 0 = .v false [.dat (.sl (List.map M.Write.en p0))] ∧ s.t 1 = .v false [.dat (.sl (List.map M.Write.en p1))] ∧ s.t 12 = .v false [.dat (.int .i64 (List.length p0 : Int))] ∧ s.t 13 = .v false [.dat (.int .i64 v13)] ∧ m_slices_Equal_Write_L1 p0 p1 m v13 = some r) fuel ?_ ?_
  · refine ⟨0, ?_, ?_, ?_, ?_, h⟩
    all_goals simp +decide only [F, reduceIte, Nat.reduceAdd, Bool.not_true, Bool.not_false, EN, *, -h]
  rintro mL1 s2 ⟨v13, f3, f4, f5, f6, h⟩
  rcases mL1 with _ | mL1
  · exact absurd h (by simp [m_slices_Equal_Write_L1])
  simp only [m_slices_Equal_Write_L1] at h
  refine sq (rn ?_)
  refine an (sq ?_)
  rcases bcas (decide (v13 < (List.length p0 : Int))) with b7 | b7
  · replace h := ite_f b7 h
    refine cf (xt (aft_cx (aft_ix (aft_x (an (sq (rn ?_)))))))
    refine an (rt ?_)
    cases h
    simp [Ret, TB, EN, *]
  replace h := ite_t b7 h
  refine ct (sk (an (sq (bk (sq (rn ?_))))))
  refine an (sq ?_)
  obtain ⟨x8, h9, h⟩ := bind_some h
  obtain ⟨q10, q11, q12⟩ := idx_some h9
  obtain ⟨x13, h14, h⟩ := bind_some h
  obtain ⟨q15, q16, q17⟩ := idx_some h14
  refine rd mixed ?_
  refine an ?_
  rcases bcase (!((x8.Device == x13.Device) && ((x8.Seq == x13.Seq) && ((x8.Key.Kind == x13.Key.Kind) && ((x8.Key.N == x13.Key.N) && ((x8.Key.Text.toList == x13.Key.Text.toList) && ((x8.Field.toList == x13.Field.toList) && (x8.N == x13.N)))))))) with b18 | b18
  · replace h := ite_t b18 h
    refine ct (sq (rn ?_))
    refine an (rt ?_)
    cases h
    simp [Ret, TB, EN, *]
  replace h := ite_f b18 h
  refine cf (sk (ab (an (rn ?_))))
  refine aft_i ⟨mL1, by omega, (IntKind.i64.wrap (v13 + 1)), ?_, ?_, ?_, ?_, h⟩
  all_goals simp +decide only [F, reduceIte, Nat.reduceAdd, Bool.not_true, Bool.not_false, EN, *, -h]

end Go.Proofs.YtgemmnkhddlhpaaGreat.gen
