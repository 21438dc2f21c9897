/-
  Helper text: walks: each function's contract out of its model. No conditions beyond those of each contract.
-/
import Derived.Test.YtgemmnkhddlhpaaGreatEqualWorldsTi
namespace Go.Proofs.YtgemmnkhddlhpaaGreat.gen
open Go Go.Sh
set_option linter.unusedVariables false
set_option linter.unusedSimpArgs false
set_option maxRecDepth 20000 in
set_option maxHeartbeats 4000000 in
theorem c_spec_EqualRecords (p0 : M.Record) (p1 : M.Record) (r : Bool) (h : m_spec_EqualRecords p0 p1 = some r) : SCalls Tryz.prog 270 [(true, M.Record.en p0), (true, M.Record.en p1)] [(false, [.ro (.bool r)])] := by
  unfold m_spec_EqualRecords at h
  simp only [M.Record.en]
  refine scalls_n (N := 31) (vars := [.tmp 4]) Tryz.func270 rfl rfl rfl (by decide +kernel) (Nat.le_of_ble_eq_true rfl) fun base wd => ?_
  refine sq (rn ?_)
  refine an (sq (sq (rn ?_)))
  refine an ?_
  rcases bcase ((List.length p0.Fields : Int) != (List.length p1.Fields : Int)) with b1 | b1
  · replace h := ite_t b1 h
    refine ct (sq (rn ?_))
    refine an (rt ?_)
    cases h
    simp [Ret, TB, EN, *]
  replace h := ite_f b1 h
  refine cf (sk (an (sq (sq (rn ?_)))))
  refine an (bk ?_)
  refine SW_loop (fun m s => ∃ v5 : Int, s.t 2 = .v false [.bp 2 1 0] ∧ s.t 3 = .v false [.bp 3 1 0] ∧ s.t 5 = .v false [.dat (.int .i64 v5)] ∧ s.h 2 = (1, .box 225 [.dat (.sl (List.map M.Field.en p0.Fields))]) ∧ s.h 3 = (1, .box 225 [.dat (.sl (List.map M.Field.en p1.Fields))]) ∧ m_spec_EqualRecords_L1 p0 p1 m v5 = some r) fuel ?_ ?_
  · refine ⟨0, ?_, ?_, ?_, ?_, ?_, h⟩
    all_goals simp +decide only [F, reduceIte, Nat.reduceAdd, Bool.not_true, Bool.not_false, EN, *, -h]
  rintro mL1 s2 ⟨v5, f3, f4, f5, f6, f7, h⟩
  rcases mL1 with _ | mL1
  · exact absurd h (by simp [m_spec_EqualRecords_L1])
  simp only [m_spec_EqualRecords_L1] at h
  refine sq (sq (rn ?_))
  refine an ?_
  rcases bcas (decide (v5 < (List.length p0.Fields : Int))) with b8 | b8
  · replace h := ite_f b8 h
    refine cf (xt (aft_cx (aft_ix (aft_x (an (sq (rn ?_)))))))
    refine an (rt ?_)
    cases h
    simp [Ret, TB, EN, *]
  replace h := ite_t b8 h
  refine ct (sk (an (sq (bk (sq ?_)))))
  obtain ⟨x9, h10, h⟩ := bind_some h
  obtain ⟨q11, q12, q13⟩ := idx_some h10
  obtain ⟨x14, h15, h⟩ := bind_some h
  obtain ⟨q16, q17, q18⟩ := idx_some h15
  refine rd mixed ?_
  refine an ?_
  rcases bcase (!((x9.Name.toList == x14.Name.toList) && (x9.N == x14.N))) with b19 | b19
  · replace h := ite_t b19 h
    refine ct (sq (rn ?_))
    refine an (rt ?_)
    cases h
    simp [Ret, TB, EN, *]
  replace h := ite_f b19 h
  refine cf (sk (ab (an (rn ?_))))
  refine aft_i ⟨mL1, by omega, (IntKind.i64.wrap (v5 + 1)), ?_, ?_, ?_, ?_, ?_, h⟩
  all_goals simp +decide only [F, reduceIte, Nat.reduceAdd, Bool.not_true, Bool.not_false, EN, *, -h]

set_option maxRecDepth 20000 in
set_option maxHeartbeats 4000000 in
theorem c_spec_EqualStores (p0 : M.Store) (p1 : M.Store) (r : Bool) (h : m_spec_EqualStores p0 p1 = some r) : SCalls Tryz.prog 169 [(true, M.Store.en p0), (true, M.Store.en p1)] [(false, [.ro (.bool r)])] := by
  unfold m_spec_EqualStores at h
  simp only [M.Store.en]
  refine scalls_n (N := 63) (vars := [.tmp 4]) Tryz.func169 rfl rfl rfl (by decide +kernel) (Nat.le_of_ble_eq_true rfl) fun base wd => ?_
  refine sq (rn ?_)
  refine an (sq (sq ?_))
  rcases bcase (!(p0.Name.toList == p1.Name.toList)) with b1 | b1
  · replace h := ite_t b1 h
    refine rn ?_
    refine an (ct (sq (rn ?_)))
    refine an (rt ?_)
    cases h
    simp [Ret, TB, EN, *]
  replace h := ite_f b1 h
  rcases bcase (p0.Auto != p1.Auto) with b2 | b2
  · replace h := ite_t b2 h
    refine rn ?_
    refine an (ct (sq (rn ?_)))
    refine an (rt ?_)
    cases h
    simp [Ret, TB, EN, *]
  replace h := ite_f b2 h
  refine rn ?_
  refine an ?_
  rcases bcase ((List.length p0.Items : Int) != (List.length p1.Items : Int)) with b3 | b3
  · replace h := ite_t b3 h
    refine ct (sq (rn ?_))
    refine an (rt ?_)
    cases h
    simp [Ret, TB, EN, *]
  replace h := ite_f b3 h
  refine cf (sk (an (sq (sq (rn ?_)))))
  refine an (bk ?_)
  refine SW_loop (fun m s => ∃ v5 : Int, s.t 2 = .v false [.bp 2 1 0] ∧ s.t 3 = .v false [.bp 3 1 0] ∧ s.t 5 = .v false [.dat (.int .i64 v5)] ∧ s.h 2 = (1, .box 36 [.dat (.str p0.Name), .dat (.sl (List.map M.Item.en p0.Items)), .dat (.int .i64 p0.Auto)]) ∧ s.h 3 = (1, .box 36 [.dat (.str p1.Name), .dat (.sl (List.map M.Item.en p1.Items)), .dat (.int .i64 p1.Auto)]) ∧ m_spec_EqualStores_L1 p0 p1 m v5 = some r) fuel ?_ ?_
  · refine ⟨0, ?_, ?_, ?_, ?_, ?_, h⟩
    all_goals simp +decide only [F, reduceIte, Nat.reduceAdd, Bool.not_true, Bool.not_false, EN, *, -h]
  rintro mL1 s4 ⟨v5, f5, f6, f7, f8, f9, h⟩
  rcases mL1 with _ | mL1
  · exact absurd h (by simp [m_spec_EqualStores_L1])
  simp only [m_spec_EqualStores_L1] at h
  refine sq (sq (rn ?_))
  refine an ?_
  rcases bcas (decide (v5 < (List.length p0.Items : Int))) with b10 | b10
  · replace h := ite_f b10 h
    refine cf (xt (aft_cx (aft_ix (aft_x (an (sq (rn ?_)))))))
    refine an (rt ?_)
    cases h
    simp [Ret, TB, EN, *]
  replace h := ite_t b10 h
  refine ct (sk (an (sq (bk (sq ?_)))))
  obtain ⟨x11, h12, h⟩ := bind_some h
  obtain ⟨q13, q14, q15⟩ := idx_some h12
  obtain ⟨x16, h17, h⟩ := bind_some h
  obtain ⟨q18, q19, q20⟩ := idx_some h17
  rcases bcase (!((x11.Key.Kind == x16.Key.Kind) && ((x11.Key.N == x16.Key.N) && (x11.Key.Text.toList == x16.Key.Text.toList)))) with b21 | b21
  · replace h := ite_t b21 h
    refine rd mixed ?_
    refine an (ct (sq (rn ?_)))
    refine an (rt ?_)
    cases h
    simp [Ret, TB, EN, *]
  replace h := ite_f b21 h
  obtain ⟨x22, h23, h⟩ := bind_some h
  refine rd1 mixed (c_spec_EqualRecords _ _ _ h23) ?_
  refine an ?_
  rcases bcase (!x22) with b24 | b24
  · replace h := ite_t b24 h
    refine ct (sq (rn ?_))
    refine an (rt ?_)
    cases h
    simp [Ret, TB, EN, *]
  replace h := ite_f b24 h
  refine cf (sk (ab (an (rn ?_))))
  refine aft_i ⟨mL1, by omega, (IntKind.i64.wrap (v5 + 1)), ?_, ?_, ?_, ?_, ?_, h⟩
  all_goals simp +decide only [F, reduceIte, Nat.reduceAdd, Bool.not_true, Bool.not_false, EN, *, -h]

set_option maxRecDepth 20000 in
set_option maxHeartbeats 4000000 in
theorem c_spec_EqualServers (p0 : M.Server) (p1 : M.Server) (r : Bool) (h : m_spec_EqualServers p0 p1 = some r) : SCalls Tryz.prog 67 [(true, M.Server.en p0), (true, M.Server.en p1)] [(false, [.ro (.bool r)])] := by
  unfold m_spec_EqualServers at h
  simp only [M.Server.en]
  refine scalls_n (N := 67) (vars := [.tmp 4]) Tryz.func67 rfl rfl rfl (by decide +kernel) (Nat.le_of_ble_eq_true rfl) fun base wd => ?_
  refine sq (rn ?_)
  refine an (sq (sq ?_))
  obtain ⟨x1, h2, h⟩ := bind_some h
  rcases bcase (!x1) with b3 | b3
  · replace h := ite_t b3 h
    refine rn1 (c_spec_EqualStores _ _ _ h2) ?_
    refine an (ct (sq (rn ?_)))
    refine an (rt ?_)
    cases h
    simp [Ret, TB, EN, *]
  replace h := ite_f b3 h
  rcases bcase ((List.length p0.Applied : Int) != (List.length p1.Applied : Int)) with b4 | b4
  · replace h := ite_t b4 h
    refine rn1 (c_spec_EqualStores _ _ _ h2) ?_
    refine an (ct (sq (rn ?_)))
    refine an (rt ?_)
    cases h
    simp [Ret, TB, EN, *]
  replace h := ite_f b4 h
  refine rn1 (c_spec_EqualStores _ _ _ h2) ?_
  refine an ?_
  rcases bcase ((List.length p0.Changes : Int) != (List.length p1.Changes : Int)) with b5 | b5
  · replace h := ite_t b5 h
    refine ct (sq (rn ?_))
    refine an (rt ?_)
    cases h
    simp [Ret, TB, EN, *]
  replace h := ite_f b5 h
  refine cf (sk (an (sq (sq (rn ?_)))))
  refine an (bk ?_)
  refine SW_loop (fun m s => ∃ v5 : Int, s.t 2 = .v false [.bp 2 1 0] ∧ s.t 3 = .v false [.bp 3 1 0] ∧ s.t 5 = .v false [.dat (.int .i64 v5)] ∧ s.h 2 = (1, .box 164 [.dat (.str p0.Store.Name), .dat (.sl (List.map M.Item.en p0.Store.Items)), .dat (.int .i64 p0.Store.Auto), .dat (.sl (List.map M.Applied.en p0.Applied)), .dat (.sl (List.map M.Write.en p0.Changes))]) ∧ s.h 3 = (1, .box 164 [.dat (.str p1.Store.Name), .dat (.sl (List.map M.Item.en p1.Store.Items)), .dat (.int .i64 p1.Store.Auto), .dat (.sl (List.map M.Applied.en p1.Applied)), .dat (.sl (List.map M.Write.en p1.Changes))]) ∧ m_spec_EqualServers_L1 p0 p1 m v5 = some r) fuel ?_ ?_
  · refine ⟨0, ?_, ?_, ?_, ?_, ?_, h⟩
    all_goals simp +decide only [F, reduceIte, Nat.reduceAdd, Bool.not_true, Bool.not_false, EN, *, -h]
  rintro mL1 s6 ⟨v5, f7, f8, f9, f10, f11, h⟩
  rcases mL1 with _ | mL1
  · exact absurd h (by simp [m_spec_EqualServers_L1])
  simp only [m_spec_EqualServers_L1] at h
  refine sq (sq (rn ?_))
  refine an ?_
  rcases bcase (decide (v5 < (List.length p0.Applied : Int))) with b12 | b12
  · replace h := ite_t b12 h
    refine ct (sk (an (sq (bk (sq ?_)))))
    obtain ⟨x13, h14, h⟩ := bind_some h
    obtain ⟨q15, q16, q17⟩ := idx_some h14
    obtain ⟨x18, h19, h⟩ := bind_some h
    obtain ⟨q20, q21, q22⟩ := idx_some h19
    refine rd mixed ?_
    refine an ?_
    rcases bcase (!((x13.Device == x18.Device) && (x13.Seq == x18.Seq))) with b23 | b23
    · replace h := ite_t b23 h
      refine ct (sq (rn ?_))
      refine an (rt ?_)
      cases h
      simp [Ret, TB, EN, *]
    replace h := ite_f b23 h
    refine cf (sk (ab (an (rn ?_))))
    refine aft_i ⟨mL1, by omega, (IntKind.i64.wrap (v5 + 1)), ?_, ?_, ?_, ?_, ?_, h⟩
    all_goals simp +decide only [F, reduceIte, Nat.reduceAdd, Bool.not_true, Bool.not_false, EN, *, -h]
  replace h := ite_f b12 h
  refine cf (xt (aft_cx (aft_ix (aft_x (an (sq (sq (rn ?_))))))))
  refine an (bk ?_)
  refine SW_loop (fun m s => ∃ v6 : Int, s.t 2 = .v false [.bp 2 1 0] ∧ s.t 3 = .v false [.bp 3 1 0] ∧ s.t 6 = .v false [.dat (.int .i64 v6)] ∧ s.h 2 = (1, .box 164 [.dat (.str p0.Store.Name), .dat (.sl (List.map M.Item.en p0.Store.Items)), .dat (.int .i64 p0.Store.Auto), .dat (.sl (List.map M.Applied.en p0.Applied)), .dat (.sl (List.map M.Write.en p0.Changes))]) ∧ s.h 3 = (1, .box 164 [.dat (.str p1.Store.Name), .dat (.sl (List.map M.Item.en p1.Store.Items)), .dat (.int .i64 p1.Store.Auto), .dat (.sl (List.map M.Applied.en p1.Applied)), .dat (.sl (List.map M.Write.en p1.Changes))]) ∧ m_spec_EqualServers_L2 p0 p1 m v6 = some r) fuel ?_ ?_
  · refine ⟨0, ?_, ?_, ?_, ?_, ?_, h⟩
    all_goals simp +decide only [F, reduceIte, Nat.reduceAdd, Bool.not_true, Bool.not_false, EN, *, -h]
  rintro mL2 s24 ⟨v6, f25, f26, f27, f28, f29, h⟩
  rcases mL2 with _ | mL2
  · exact absurd h (by simp [m_spec_EqualServers_L2])
  simp only [m_spec_EqualServers_L2] at h
  refine sq (sq (rn ?_))
  refine an ?_
  rcases bcas (decide (v6 < (List.length p0.Changes : Int))) with b30 | b30
  · replace h := ite_f b30 h
    refine cf (xt (aft_cx (aft_ix (aft_x (an (sq (rn ?_)))))))
    refine an (rt ?_)
    cases h
    simp [Ret, TB, EN, *]
  replace h := ite_t b30 h
  refine ct (sk (an (sq (bk (sq ?_)))))
  obtain ⟨x31, h32, h⟩ := bind_some h
  obtain ⟨q33, q34, q35⟩ := idx_some h32
  obtain ⟨x36, h37, h⟩ := bind_some h
  obtain ⟨q38, q39, q40⟩ := idx_some h37
  refine rd mixed ?_
  refine an ?_
  rcases bcase (!((x31.Device == x36.Device) && ((x31.Seq == x36.Seq) && ((x31.Key.Kind == x36.Key.Kind) && ((x31.Key.N == x36.Key.N) && ((x31.Key.Text.toList == x36.Key.Text.toList) && ((x31.Field.toList == x36.Field.toList) && (x31.N == x36.N)))))))) with b41 | b41
  · replace h := ite_t b41 h
    refine ct (sq (rn ?_))
    refine an (rt ?_)
    cases h
    simp [Ret, TB, EN, *]
  replace h := ite_f b41 h
  refine cf (sk (ab (an (rn ?_))))
  refine aft_i ⟨mL2, by omega, (IntKind.i64.wrap (v6 + 1)), ?_, ?_, ?_, ?_, ?_, h⟩
  all_goals simp +decide only [F, reduceIte, Nat.reduceAdd, Bool.not_true, Bool.not_false, EN, *, -h]

set_option maxRecDepth 20000 in
set_option maxHeartbeats 4000000 in
theorem c_spec_EqualBytes (p0 : List Int) (p1 : List Int) (r : Bool) (h : m_spec_EqualBytes p0 p1 = some r) : SCalls Tryz.prog 354 [(false, [.sl (List.map enB p0)]), (false, [.sl (List.map enB p1)])] [(false, [.ro (.bool r)])] := by
  unfold m_spec_EqualBytes at h
  refine scalls_n (N := 10) (vars := [.tmp 4]) Tryz.func354 rfl rfl rfl (by decide +kernel) (Nat.le_of_ble_eq_true rfl) fun base wd => ?_
  refine sq (rn ?_)
  refine an (sq ?_)
  obtain ⟨x1, h2, h⟩ := bind_some h
  obtain ⟨x3, h4, h⟩ := bind_some h
  refine rn2 (toStr_must h2) (toStr_must h4) ?_
  refine an (rt ?_)
  cases h
  simp [Ret, TB, EN, *]

set_option maxRecDepth 20000 in
set_option maxHeartbeats 4000000 in
theorem c_spec_EqualResponses (p0 : M.Response) (p1 : M.Response) (r : Bool) (h : m_spec_EqualResponses p0 p1 = some r) : SCalls Tryz.prog 352 [(true, M.Response.en p0), (true, M.Response.en p1)] [(false, [.ro (.bool r)])] := by
  unfold m_spec_EqualResponses at h
  simp only [M.Response.en]
  refine scalls_n (N := 38) (vars := [.tmp 4]) Tryz.func352 rfl rfl rfl (by decide +kernel) (Nat.le_of_ble_eq_true rfl) fun base wd => ?_
  refine sq (rn ?_)
  refine an (sq ?_)
  rcases bcas (p0.Type_ == p1.Type_) with b1 | b1
  · replace h := ite_f b1 h
    refine rn ?_
    refine an (rt ?_)
    cases h
    simp [Ret, TB, EN, *]
  replace h := ite_t b1 h
  rcases bcas (p0.Status == p1.Status) with b2 | b2
  · replace h := ite_f b2 h
    refine rn ?_
    refine an (rt ?_)
    cases h
    simp [Ret, TB, EN, *]
  replace h := ite_t b2 h
  rcases bcas (p0.Version == p1.Version) with b3 | b3
  · replace h := ite_f b3 h
    refine rn ?_
    refine an (rt ?_)
    cases h
    simp [Ret, TB, EN, *]
  replace h := ite_t b3 h
  rcases bcas (p0.Shares == p1.Shares) with b4 | b4
  · replace h := ite_f b4 h
    refine rn ?_
    refine an (rt ?_)
    cases h
    simp [Ret, TB, EN, *]
  replace h := ite_t b4 h
  obtain ⟨x5, h6, h⟩ := bind_some h
  refine rn1 (c_spec_EqualBytes _ _ _ h6) ?_
  refine an (rt ?_)
  cases h
  simp [Ret, TB, EN, *]

set_option maxRecDepth 20000 in
set_option maxHeartbeats 4000000 in
theorem c_spec_EqualCacheSets (p0 : M.CacheSet) (p1 : M.CacheSet) (r : Bool) (h : m_spec_EqualCacheSets p0 p1 = some r) : SCalls Tryz.prog 271 [(true, M.CacheSet.en p0), (true, M.CacheSet.en p1)] [(false, [.ro (.bool r)])] := by
  unfold m_spec_EqualCacheSets at h
  simp only [M.CacheSet.en]
  refine scalls_n (N := 98) (vars := [.tmp 4]) Tryz.func271 rfl rfl rfl (by decide +kernel) (Nat.le_of_ble_eq_true rfl) fun base wd => ?_
  refine sq (rn ?_)
  refine an (sq (sq (rn ?_)))
  refine an ?_
  rcases bcase ((List.length p0.Caches : Int) != (List.length p1.Caches : Int)) with b1 | b1
  · replace h := ite_t b1 h
    refine ct (sq (rn ?_))
    refine an (rt ?_)
    cases h
    simp [Ret, TB, EN, *]
  replace h := ite_f b1 h
  refine cf (sk (an (sq (sq (rn ?_)))))
  refine an (bk ?_)
  refine SW_loop (fun m s => ∃ v5 : Int, s.t 2 = .v false [.bp 2 1 0] ∧ s.t 3 = .v false [.bp 3 1 0] ∧ s.t 5 = .v false [.dat (.int .i64 v5)] ∧ s.h 2 = (1, .box 26 [.dat (.sl (List.map M.Cache.en p0.Caches))]) ∧ s.h 3 = (1, .box 26 [.dat (.sl (List.map M.Cache.en p1.Caches))]) ∧ m_spec_EqualCacheSets_L1 p0 p1 m v5 = some r) fuel ?_ ?_
  · refine ⟨0, ?_, ?_, ?_, ?_, ?_, h⟩
    all_goals simp +decide only [F, reduceIte, Nat.reduceAdd, Bool.not_true, Bool.not_false, EN, *, -h]
  rintro mL1 s2 ⟨v5, f3, f4, f5, f6, f7, h⟩
  rcases mL1 with _ | mL1
  · exact absurd h (by simp [m_spec_EqualCacheSets_L1])
  simp only [m_spec_EqualCacheSets_L1] at h
  refine sq (sq (rn ?_))
  refine an ?_
  rcases bcas (decide (v5 < (List.length p0.Caches : Int))) with b8 | b8
  · replace h := ite_f b8 h
    refine cf (xt (aft_cx (aft_ix (aft_x (an (sq (rn ?_)))))))
    refine an (rt ?_)
    cases h
    simp [Ret, TB, EN, *]
  replace h := ite_t b8 h
  refine ct (sk (an (sq (bk (sq ?_)))))
  obtain ⟨x9, h10, h⟩ := bind_some h
  obtain ⟨q11, q12, q13⟩ := idx_some h10
  refine rn ?_
  refine an (sq ?_)
  obtain ⟨x14, h15, h⟩ := bind_some h
  obtain ⟨q16, q17, q18⟩ := idx_some h15
  refine rn ?_
  refine an (sq (sq ?_))
  rcases bcase (x9.Version != x14.Version) with b19 | b19
  · replace h := ite_t b19 h
    refine rn ?_
    refine an (ct (sq (rn ?_)))
    refine an (rt ?_)
    cases h
    simp [Ret, TB, EN, *]
  replace h := ite_f b19 h
  refine rn ?_
  refine an ?_
  rcases bcase ((List.length x9.Entries : Int) != (List.length x14.Entries : Int)) with b20 | b20
  · replace h := ite_t b20 h
    refine ct (sq (rn ?_))
    refine an (rt ?_)
    cases h
    simp [Ret, TB, EN, *]
  replace h := ite_f b20 h
  refine cf (sk (an (sq (rn ?_))))
  refine an (bk ?_)
  obtain ⟨k22, e23, h⟩ := absk (f := fun kk => m_spec_EqualCacheSets_L2 x9 x14 kk fuel 0) h
  refine SW_loop (fun m s => ∃ v8_L2 : Int, s.t 2 = .v false [.bp 2 1 0] ∧ s.t 3 = .v false [.bp 3 1 0] ∧ s.t 5 = .v false [.dat (.int .i64 v5)] ∧ s.t 6 = .v false [.bp 6 ((s2.h 6).1 + 1) 0] ∧ s.t 7 = .v false [.bp 7 ((s2.h 7).1 + 1) 0] ∧ s.t 8 = .v false [.dat (.int .i64 v8_L2)] ∧ s.h 2 = (1, .box 26 [.dat (.sl (List.map M.Cache.en p0.Caches))]) ∧ s.h 3 = (1, .box 26 [.dat (.sl (List.map M.Cache.en p1.Caches))]) ∧ s.h 6 = (((s2.h 6).1 + 1), .box 297 [.dat (.int .i64 x9.Version), .dat (.sl (List.map M.Cached.en x9.Entries))]) ∧ s.h 7 = (((s2.h 7).1 + 1), .box 297 [.dat (.int .i64 x14.Version), .dat (.sl (List.map M.Cached.en x14.Entries))]) ∧ m_spec_EqualCacheSets_L2 x9 x14 k22 m v8_L2 = some r) fuel ?_ ?_
  · refine ⟨0, ?_, ?_, ?_, ?_, ?_, ?_, ?_, ?_, ?_, ?_, h⟩
    all_goals simp +decide only [F, reduceIte, Nat.reduceAdd, Bool.not_true, Bool.not_false, EN, *, -h]
  rintro mL2 s21 ⟨v8_L2, f24, f25, f26, f27, f28, f29, f30, f31, f32, f33, h⟩
  rcases mL2 with _ | mL2
  · exact absurd h (by simp [m_spec_EqualCacheSets_L2])
  simp only [m_spec_EqualCacheSets_L2] at h
  refine sq (sq (rn ?_))
  refine an ?_
  rcases bcas (decide (v8_L2 < (List.length x9.Entries : Int))) with b34 | b34
  · replace h := ite_f b34 h
    refine cf (xt (aft_cx ?_))
    subst e23
    refine aft_ix (aft_x (ab (an (rn ?_))))
    refine aft_i ⟨mL1, by omega, (IntKind.i64.wrap (v5 + 1)), ?_, ?_, ?_, ?_, ?_, h⟩
    all_goals simp +decide only [F, reduceIte, Nat.reduceAdd, Bool.not_true, Bool.not_false, EN, *, -h]
  replace h := ite_t b34 h
  refine ct (sk (an (sq (bk (sq ?_)))))
  obtain ⟨x35, h36, h⟩ := bind_some h
  obtain ⟨q37, q38, q39⟩ := idx_some h36
  obtain ⟨x40, h41, h⟩ := bind_some h
  obtain ⟨q42, q43, q44⟩ := idx_some h41
  rcases bcase (!(x35.Site.toList == x40.Site.toList)) with b45 | b45
  · replace h := ite_t b45 h
    refine rd mixed ?_
    refine an (ct (sq (rn ?_)))
    refine an (rt ?_)
    cases h
    simp [Ret, TB, EN, *]
  replace h := ite_f b45 h
  rcases bcase (!(x35.Path.toList == x40.Path.toList)) with b46 | b46
  · replace h := ite_t b46 h
    refine rd mixed ?_
    refine an (ct (sq (rn ?_)))
    refine an (rt ?_)
    cases h
    simp [Ret, TB, EN, *]
  replace h := ite_f b46 h
  obtain ⟨x47, h48, h⟩ := bind_some h
  refine rd1 mixed (c_spec_EqualResponses _ _ _ h48) ?_
  refine an ?_
  rcases bcase (!x47) with b49 | b49
  · replace h := ite_t b49 h
    refine ct (sq (rn ?_))
    refine an (rt ?_)
    cases h
    simp [Ret, TB, EN, *]
  replace h := ite_f b49 h
  refine cf (sk (ab (an (rn ?_))))
  refine aft_i ⟨mL2, by omega, (IntKind.i64.wrap (v8_L2 + 1)), ?_, ?_, ?_, ?_, ?_, ?_, ?_, ?_, ?_, ?_, h⟩
  all_goals simp +decide only [F, reduceIte, Nat.reduceAdd, Bool.not_true, Bool.not_false, EN, *, -h]

set_option maxRecDepth 20000 in
set_option maxHeartbeats 4000000 in
theorem c_spec_EqualDatabases (p0 : M.Database) (p1 : M.Database) (r : Bool) (h : m_spec_EqualDatabases p0 p1 = some r) : SCalls Tryz.prog 353 [(true, M.Database.en p0), (true, M.Database.en p1)] [(false, [.ro (.bool r)])] := by
  unfold m_spec_EqualDatabases at h
  simp only [M.Database.en]
  refine scalls_n (N := 74) (vars := [.tmp 4]) Tryz.func353 rfl rfl rfl (by decide +kernel) (Nat.le_of_ble_eq_true rfl) fun base wd => ?_
  refine sq (rn ?_)
  refine an (sq (sq ?_))
  rcases bcase (!(p0.Name.toList == p1.Name.toList)) with b1 | b1
  · replace h := ite_t b1 h
    refine rn ?_
    refine an (ct (sq (rn ?_)))
    refine an (rt ?_)
    cases h
    simp [Ret, TB, EN, *]
  replace h := ite_f b1 h
  rcases bcase (p0.Version != p1.Version) with b2 | b2
  · replace h := ite_t b2 h
    refine rn ?_
    refine an (ct (sq (rn ?_)))
    refine an (rt ?_)
    cases h
    simp [Ret, TB, EN, *]
  replace h := ite_f b2 h
  rcases bcase ((List.length p0.Stores : Int) != (List.length p1.Stores : Int)) with b3 | b3
  · replace h := ite_t b3 h
    refine rn ?_
    refine an (ct (sq (rn ?_)))
    refine an (rt ?_)
    cases h
    simp [Ret, TB, EN, *]
  replace h := ite_f b3 h
  refine rn ?_
  refine an ?_
  rcases bcase ((List.length p0.Unique : Int) != (List.length p1.Unique : Int)) with b4 | b4
  · replace h := ite_t b4 h
    refine ct (sq (rn ?_))
    refine an (rt ?_)
    cases h
    simp [Ret, TB, EN, *]
  replace h := ite_f b4 h
  refine cf (sk (an (sq (sq (rn ?_)))))
  refine an (bk ?_)
  refine SW_loop (fun m s => ∃ v5 : Int, s.t 2 = .v false [.bp 2 1 0] ∧ s.t 3 = .v false [.bp 3 1 0] ∧ s.t 5 = .v false [.dat (.int .i64 v5)] ∧ s.h 2 = (1, .box 30 [.dat (.str p0.Name), .dat (.int .i64 p0.Version), .dat (.sl (List.map M.Store.en p0.Stores)), .dat (.sl (List.map M.IndexDef.en p0.Unique))]) ∧ s.h 3 = (1, .box 30 [.dat (.str p1.Name), .dat (.int .i64 p1.Version), .dat (.sl (List.map M.Store.en p1.Stores)), .dat (.sl (List.map M.IndexDef.en p1.Unique))]) ∧ m_spec_EqualDatabases_L1 p0 p1 m v5 = some r) fuel ?_ ?_
  · refine ⟨0, ?_, ?_, ?_, ?_, ?_, h⟩
    all_goals simp +decide only [F, reduceIte, Nat.reduceAdd, Bool.not_true, Bool.not_false, EN, *, -h]
  rintro mL1 s5 ⟨v5, f6, f7, f8, f9, f10, h⟩
  rcases mL1 with _ | mL1
  · exact absurd h (by simp [m_spec_EqualDatabases_L1])
  simp only [m_spec_EqualDatabases_L1] at h
  refine sq (sq (rn ?_))
  refine an ?_
  rcases bcase (decide (v5 < (List.length p0.Stores : Int))) with b11 | b11
  · replace h := ite_t b11 h
    refine ct (sk (an (sq (bk (sq ?_)))))
    obtain ⟨x12, h13, h⟩ := bind_some h
    obtain ⟨q14, q15, q16⟩ := idx_some h13
    obtain ⟨x17, h18, h⟩ := bind_some h
    obtain ⟨q19, q20, q21⟩ := idx_some h18
    obtain ⟨x22, h23, h⟩ := bind_some h
    refine rd1 mixed (c_spec_EqualStores _ _ _ h23) ?_
    refine an ?_
    rcases bcase (!x22) with b24 | b24
    · replace h := ite_t b24 h
      refine ct (sq (rn ?_))
      refine an (rt ?_)
      cases h
      simp [Ret, TB, EN, *]
    replace h := ite_f b24 h
    refine cf (sk (ab (an (rn ?_))))
    refine aft_i ⟨mL1, by omega, (IntKind.i64.wrap (v5 + 1)), ?_, ?_, ?_, ?_, ?_, h⟩
    all_goals simp +decide only [F, reduceIte, Nat.reduceAdd, Bool.not_true, Bool.not_false, EN, *, -h]
  replace h := ite_f b11 h
  refine cf (xt (aft_cx (aft_ix (aft_x (an (sq (sq (rn ?_))))))))
  refine an (bk ?_)
  refine SW_loop (fun m s => ∃ v6 : Int, s.t 2 = .v false [.bp 2 1 0] ∧ s.t 3 = .v false [.bp 3 1 0] ∧ s.t 6 = .v false [.dat (.int .i64 v6)] ∧ s.h 2 = (1, .box 30 [.dat (.str p0.Name), .dat (.int .i64 p0.Version), .dat (.sl (List.map M.Store.en p0.Stores)), .dat (.sl (List.map M.IndexDef.en p0.Unique))]) ∧ s.h 3 = (1, .box 30 [.dat (.str p1.Name), .dat (.int .i64 p1.Version), .dat (.sl (List.map M.Store.en p1.Stores)), .dat (.sl (List.map M.IndexDef.en p1.Unique))]) ∧ m_spec_EqualDatabases_L2 p0 p1 m v6 = some r) fuel ?_ ?_
  · refine ⟨0, ?_, ?_, ?_, ?_, ?_, h⟩
    all_goals simp +decide only [F, reduceIte, Nat.reduceAdd, Bool.not_true, Bool.not_false, EN, *, -h]
  rintro mL2 s25 ⟨v6, f26, f27, f28, f29, f30, h⟩
  rcases mL2 with _ | mL2
  · exact absurd h (by simp [m_spec_EqualDatabases_L2])
  simp only [m_spec_EqualDatabases_L2] at h
  refine sq (sq (rn ?_))
  refine an ?_
  rcases bcas (decide (v6 < (List.length p0.Unique : Int))) with b31 | b31
  · replace h := ite_f b31 h
    refine cf (xt (aft_cx (aft_ix (aft_x (an (sq (rn ?_)))))))
    refine an (rt ?_)
    cases h
    simp [Ret, TB, EN, *]
  replace h := ite_t b31 h
  refine ct (sk (an (sq (bk (sq ?_)))))
  obtain ⟨x32, h33, h⟩ := bind_some h
  obtain ⟨q34, q35, q36⟩ := idx_some h33
  obtain ⟨x37, h38, h⟩ := bind_some h
  obtain ⟨q39, q40, q41⟩ := idx_some h38
  refine rd mixed ?_
  refine an ?_
  rcases bcase (!((x32.Store.toList == x37.Store.toList) && (x32.Field.toList == x37.Field.toList))) with b42 | b42
  · replace h := ite_t b42 h
    refine ct (sq (rn ?_))
    refine an (rt ?_)
    cases h
    simp [Ret, TB, EN, *]
  replace h := ite_f b42 h
  refine cf (sk (ab (an (rn ?_))))
  refine aft_i ⟨mL2, by omega, (IntKind.i64.wrap (v6 + 1)), ?_, ?_, ?_, ?_, ?_, h⟩
  all_goals simp +decide only [F, reduceIte, Nat.reduceAdd, Bool.not_true, Bool.not_false, EN, *, -h]

set_option maxRecDepth 20000 in
set_option maxHeartbeats 4000000 in
theorem c_spec_EqualDisks (p0 : M.Disk) (p1 : M.Disk) (r : Bool) (h : m_spec_EqualDisks p0 p1 = some r) : SCalls Tryz.prog 272 [(true, M.Disk.en p0), (true, M.Disk.en p1)] [(false, [.ro (.bool r)])] := by
  unfold m_spec_EqualDisks at h
  simp only [M.Disk.en]
  refine scalls_n (N := 24) (vars := [.tmp 4]) Tryz.func272 rfl rfl rfl (by decide +kernel) (Nat.le_of_ble_eq_true rfl) fun base wd => ?_
  refine sq (rn ?_)
  refine an (sq ?_)
  obtain ⟨x1, h2, h⟩ := bind_some h
  rcases bcas x1 with b3 | b3
  · replace h := ite_f b3 h
    refine rn1 (c_spec_EqualDatabases _ _ _ h2) ?_
    refine an (rt ?_)
    cases h
    simp [Ret, TB, EN, *]
  replace h := ite_t b3 h
  obtain ⟨x4, h5, h⟩ := bind_some h
  rcases bcase x4 with b6 | b6
  · replace h := ite_t b6 h
    refine rn2 (c_spec_EqualDatabases _ _ _ h2) (c_spec_EqualBytes _ _ _ h5) ?_
    refine an (rt ?_)
    cases h
    simp [Ret, TB, EN, *]
  replace h := ite_f b6 h
  refine rn2 (c_spec_EqualDatabases _ _ _ h2) (c_spec_EqualBytes _ _ _ h5) ?_
  refine an (rt ?_)
  cases h
  simp [Ret, TB, EN, *]

set_option maxRecDepth 20000 in
set_option maxHeartbeats 4000000 in
theorem c_spec_EqualOutboxes (p0 : M.Outbox) (p1 : M.Outbox) (r : Bool) (h : m_spec_EqualOutboxes p0 p1 = some r) : SCalls Tryz.prog 402 [(true, M.Outbox.en p0), (true, M.Outbox.en p1)] [(false, [.ro (.bool r)])] := by
  unfold m_spec_EqualOutboxes at h
  simp only [M.Outbox.en]
  refine scalls_n (N := 45) (vars := [.tmp 4]) Tryz.func402 rfl rfl rfl (by decide +kernel) (Nat.le_of_ble_eq_true rfl) fun base wd => ?_
  refine sq (rn ?_)
  refine an (sq (sq ?_))
  rcases bcase (p0.Device != p1.Device) with b1 | b1
  · replace h := ite_t b1 h
    refine rn ?_
    refine an (ct (sq (rn ?_)))
    refine an (rt ?_)
    cases h
    simp [Ret, TB, EN, *]
  replace h := ite_f b1 h
  rcases bcase (p0.Next != p1.Next) with b2 | b2
  · replace h := ite_t b2 h
    refine rn ?_
    refine an (ct (sq (rn ?_)))
    refine an (rt ?_)
    cases h
    simp [Ret, TB, EN, *]
  replace h := ite_f b2 h
  refine rn ?_
  refine an ?_
  rcases bcase ((List.length p0.Writes : Int) != (List.length p1.Writes : Int)) with b3 | b3
  · replace h := ite_t b3 h
    refine ct (sq (rn ?_))
    refine an (rt ?_)
    cases h
    simp [Ret, TB, EN, *]
  replace h := ite_f b3 h
  refine cf (sk (an (sq (sq (rn ?_)))))
  refine an (bk ?_)
  refine SW_loop (fun m s => ∃ v5 : Int, s.t 2 = .v false [.bp 2 1 0] ∧ s.t 3 = .v false [.bp 3 1 0] ∧ s.t 5 = .v false [.dat (.int .i64 v5)] ∧ s.h 2 = (1, .box 39 [.dat (.int .i64 p0.Device), .dat (.int .i64 p0.Next), .dat (.sl (List.map M.Write.en p0.Writes))]) ∧ s.h 3 = (1, .box 39 [.dat (.int .i64 p1.Device), .dat (.int .i64 p1.Next), .dat (.sl (List.map M.Write.en p1.Writes))]) ∧ m_spec_EqualOutboxes_L1 p0 p1 m v5 = some r) fuel ?_ ?_
  · refine ⟨0, ?_, ?_, ?_, ?_, ?_, h⟩
    all_goals simp +decide only [F, reduceIte, Nat.reduceAdd, Bool.not_true, Bool.not_false, EN, *, -h]
  rintro mL1 s4 ⟨v5, f5, f6, f7, f8, f9, h⟩
  rcases mL1 with _ | mL1
  · exact absurd h (by simp [m_spec_EqualOutboxes_L1])
  simp only [m_spec_EqualOutboxes_L1] at h
  refine sq (sq (rn ?_))
  refine an ?_
  rcases bcas (decide (v5 < (List.length p0.Writes : Int))) with b10 | b10
  · replace h := ite_f b10 h
    refine cf (xt (aft_cx (aft_ix (aft_x (an (sq (rn ?_)))))))
    refine an (rt ?_)
    cases h
    simp [Ret, TB, EN, *]
  replace h := ite_t b10 h
  refine ct (sk (an (sq (bk (sq ?_)))))
  obtain ⟨x11, h12, h⟩ := bind_some h
  obtain ⟨q13, q14, q15⟩ := idx_some h12
  obtain ⟨x16, h17, h⟩ := bind_some h
  obtain ⟨q18, q19, q20⟩ := idx_some h17
  refine rd mixed ?_
  refine an ?_
  rcases bcase (!((x11.Device == x16.Device) && ((x11.Seq == x16.Seq) && ((x11.Key.Kind == x16.Key.Kind) && ((x11.Key.N == x16.Key.N) && ((x11.Key.Text.toList == x16.Key.Text.toList) && ((x11.Field.toList == x16.Field.toList) && (x11.N == x16.N)))))))) with b21 | b21
  · replace h := ite_t b21 h
    refine ct (sq (rn ?_))
    refine an (rt ?_)
    cases h
    simp [Ret, TB, EN, *]
  replace h := ite_f b21 h
  refine cf (sk (ab (an (rn ?_))))
  refine aft_i ⟨mL1, by omega, (IntKind.i64.wrap (v5 + 1)), ?_, ?_, ?_, ?_, ?_, h⟩
  all_goals simp +decide only [F, reduceIte, Nat.reduceAdd, Bool.not_true, Bool.not_false, EN, *, -h]

set_option maxRecDepth 20000 in
set_option maxHeartbeats 4000000 in
theorem c_spec_EqualSyncs (p0 : M.Sync) (p1 : M.Sync) (r : Bool) (h : m_spec_EqualSyncs p0 p1 = some r) : SCalls Tryz.prog 355 [(true, M.Sync.en p0), (true, M.Sync.en p1)] [(false, [.ro (.bool r)])] := by
  unfold m_spec_EqualSyncs at h
  simp only [M.Sync.en]
  refine scalls_n (N := 24) (vars := [.tmp 4]) Tryz.func355 rfl rfl rfl (by decide +kernel) (Nat.le_of_ble_eq_true rfl) fun base wd => ?_
  refine sq (rn ?_)
  refine an (sq ?_)
  obtain ⟨x1, h2, h⟩ := bind_some h
  rcases bcas x1 with b3 | b3
  · replace h := ite_f b3 h
    refine rn1 (c_spec_EqualOutboxes _ _ _ h2) ?_
    refine an (rt ?_)
    cases h
    simp [Ret, TB, EN, *]
  replace h := ite_t b3 h
  rcases bcase (p0.Tries == p1.Tries) with b4 | b4
  · replace h := ite_t b4 h
    refine rn1 (c_spec_EqualOutboxes _ _ _ h2) ?_
    refine an (rt ?_)
    cases h
    simp [Ret, TB, EN, *]
  replace h := ite_f b4 h
  refine rn1 (c_spec_EqualOutboxes _ _ _ h2) ?_
  refine an (rt ?_)
  cases h
  simp [Ret, TB, EN, *]

set_option maxRecDepth 20000 in
set_option maxHeartbeats 4000000 in
theorem c_spec_EqualReplicas (p0 : M.Replica) (p1 : M.Replica) (r : Bool) (h : m_spec_EqualReplicas p0 p1 = some r) : SCalls Tryz.prog 273 [(true, M.Replica.en p0), (true, M.Replica.en p1)] [(false, [.ro (.bool r)])] := by
  unfold m_spec_EqualReplicas at h
  simp only [M.Replica.en]
  refine scalls_n (N := 24) (vars := [.tmp 4]) Tryz.func273 rfl rfl rfl (by decide +kernel) (Nat.le_of_ble_eq_true rfl) fun base wd => ?_
  refine sq (rn ?_)
  refine an (sq ?_)
  obtain ⟨x1, h2, h⟩ := bind_some h
  rcases bcas x1 with b3 | b3
  · replace h := ite_f b3 h
    refine rn1 (c_spec_EqualStores _ _ _ h2) ?_
    refine an (rt ?_)
    cases h
    simp [Ret, TB, EN, *]
  replace h := ite_t b3 h
  rcases bcas (p0.Seen == p1.Seen) with b4 | b4
  · replace h := ite_f b4 h
    refine rn1 (c_spec_EqualStores _ _ _ h2) ?_
    refine an (rt ?_)
    cases h
    simp [Ret, TB, EN, *]
  replace h := ite_t b4 h
  obtain ⟨x5, h6, h⟩ := bind_some h
  refine rn2 (c_spec_EqualStores _ _ _ h2) (c_spec_EqualSyncs _ _ _ h6) ?_
  refine an (rt ?_)
  cases h
  simp [Ret, TB, EN, *]

set_option maxRecDepth 20000 in
set_option maxHeartbeats 4000000 in
theorem c_spec_EqualBuckets (p0 : M.Bucket) (p1 : M.Bucket) (r : Bool) (h : m_spec_EqualBuckets p0 p1 = some r) : SCalls Tryz.prog 170 [(true, M.Bucket.en p0), (true, M.Bucket.en p1)] [(false, [.ro (.bool r)])] := by
  unfold m_spec_EqualBuckets at h
  simp only [M.Bucket.en]
  refine scalls_n (N := 59) (vars := [.tmp 4]) Tryz.func170 rfl rfl rfl (by decide +kernel) (Nat.le_of_ble_eq_true rfl) fun base wd => ?_
  refine sq (rn ?_)
  refine an (sq ?_)
  rcases bcas (p0.Site.toList == p1.Site.toList) with b1 | b1
  · replace h := ite_f b1 h
    refine rgo ?_
    refine ec 20 ?_
    refine ec 20 ?_
    refine ez ?_
    refine an (rt ?_)
    cases h
    simp [Ret, TB, EN, *]
  replace h := ite_t b1 h
  rcases bcas (p0.Top.toList == p1.Top.toList) with b2 | b2
  · replace h := ite_f b2 h
    refine rgo ?_
    refine ec 20 ?_
    refine ec 20 ?_
    refine ez ?_
    refine an (rt ?_)
    cases h
    simp [Ret, TB, EN, *]
  replace h := ite_t b2 h
  rcases bcas ((p0.Registration.Site.toList == p1.Registration.Site.toList) && ((p0.Registration.Installing == p1.Registration.Installing) && ((p0.Registration.Waiting == p1.Registration.Waiting) && (p0.Registration.Active == p1.Registration.Active)))) with b3 | b3
  · replace h := ite_f b3 h
    refine rgo ?_
    refine ec 20 ?_
    refine ec 20 ?_
    refine ez ?_
    refine an (rt ?_)
    cases h
    simp [Ret, TB, EN, *]
  replace h := ite_t b3 h
  obtain ⟨x4, h5, h⟩ := bind_some h
  rcases bcas x4 with b6 | b6
  · replace h := ite_f b6 h
    refine rgo ?_
    refine ec 20 ?_
    refine ec1 20 (c_spec_EqualCacheSets _ _ _ h5) ?_
    refine ez ?_
    refine an (rt ?_)
    cases h
    simp [Ret, TB, EN, *]
  replace h := ite_t b6 h
  obtain ⟨x7, h8, h⟩ := bind_some h
  rcases bcas x7 with b9 | b9
  · replace h := ite_f b9 h
    refine rgo ?_
    refine ec 20 ?_
    refine ec2 20 (c_spec_EqualCacheSets _ _ _ h5) (c_spec_EqualDisks _ _ _ h8) ?_
    refine ez ?_
    refine an (rt ?_)
    cases h
    simp [Ret, TB, EN, *]
  replace h := ite_t b9 h
  obtain ⟨x10, h11, h⟩ := bind_some h
  rcases bcas x10 with b12 | b12
  · replace h := ite_f b12 h
    refine rgo ?_
    refine ec 20 ?_
    refine ec2 18 (c_spec_EqualCacheSets _ _ _ h5) (c_spec_EqualDisks _ _ _ h8) ?_
    refine ez1 (c_spec_EqualReplicas _ _ _ h11) ?_
    refine an (rt ?_)
    cases h
    simp [Ret, TB, EN, *]
  replace h := ite_t b12 h
  rcases bcase (p0.LastUsed == p1.LastUsed) with b13 | b13
  · replace h := ite_t b13 h
    refine rgo ?_
    refine ec 20 ?_
    refine ec2 18 (c_spec_EqualCacheSets _ _ _ h5) (c_spec_EqualDisks _ _ _ h8) ?_
    refine ez1 (c_spec_EqualReplicas _ _ _ h11) ?_
    refine an (rt ?_)
    cases h
    simp [Ret, TB, EN, *]
  replace h := ite_f b13 h
  refine rgo ?_
  refine ec 20 ?_
  refine ec2 18 (c_spec_EqualCacheSets _ _ _ h5) (c_spec_EqualDisks _ _ _ h8) ?_
  refine ez1 (c_spec_EqualReplicas _ _ _ h11) ?_
  refine an (rt ?_)
  cases h
  simp [Ret, TB, EN, *]

end Go.Proofs.YtgemmnkhddlhpaaGreat.gen
