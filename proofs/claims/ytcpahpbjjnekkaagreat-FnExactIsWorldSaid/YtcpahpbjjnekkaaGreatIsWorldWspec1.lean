/-
  Helper text: walks: each function's contract out of its model. No conditions beyond those of each contract.
-/
import Derived.Test.YtcpahpbjjnekkaaGreatIsWorldTi
import Derived.Test.YtcpahpbjjnekkaaGreatIsWorldWspec0
namespace Go.Proofs.YtcpahpbjjnekkaaGreat.gen
open Go Go.Sh
set_option linter.unusedVariables false
set_option linter.unusedSimpArgs false
set_option maxRecDepth 20000 in
set_option maxHeartbeats 4000000 in
theorem c_spec_IsRegistration (p0 : M.Registration) (r : Bool) (h : m_spec_IsRegistration p0 = some r) : SCalls Tryz.prog 254 [(true, M.Registration.en p0)] [(false, [.ro (.bool r)])] := by
  unfold m_spec_IsRegistration at h
  simp only [M.Registration.en]
  refine scalls_n (N := 52) (vars := [.tmp 2]) Tryz.func254 rfl rfl rfl (by decide +kernel) (Nat.le_of_ble_eq_true rfl) fun base wd => ?_
  refine sq (rn ?_)
  refine an (sq (rn ?_))
  refine an (sq (rn ?_))
  refine an (sq (sq ?_))
  refine cu (fun s => s.t 1 = .v false [.bp 1 1 0] ∧ s.t 3 = .v false [.dat (.int .i64 0)] ∧ s.t 4 = .v false [.row 100012 1] ∧ s.h 1 = (1, .box 128 [.dat (.str p0.Site), .dat (.int .i64 p0.Installing), .dat (.int .i64 p0.Waiting), .dat (.int .i64 p0.Active)]) ∧ s.h 100012 = (1, .row 3 1 (List.map enI ([p0.Active, p0.Waiting, p0.Installing])) true) ∧ True) ?_
  rintro s1 ⟨f2, f3, f4, f5, f6, _⟩
  refine rn ?_
  refine an (bk ?_)
  refine SW_loop (fun m s => ∃ v3 : Int, ∃ v5 : Int, s.t 1 = .v false [.bp 1 1 0] ∧ s.t 3 = .v false [.dat (.int .i64 v3)] ∧ s.t 4 = .v false [.row 100012 1] ∧ s.t 5 = .v false [.dat (.int .i64 v5)] ∧ s.h 1 = (1, .box 128 [.dat (.str p0.Site), .dat (.int .i64 p0.Installing), .dat (.int .i64 p0.Waiting), .dat (.int .i64 p0.Active)]) ∧ s.h 100012 = (1, .row 3 1 (List.map enI ([p0.Active, p0.Waiting, p0.Installing])) true) ∧ m_spec_IsRegistration_L1 p0 m v3 v5 = some r) fuel ?_ ?_
  · refine ⟨0, 0, ?_, ?_, ?_, ?_, ?_, ?_, h⟩
    all_goals simp +decide only [F, reduceIte, Nat.reduceAdd, Bool.not_true, Bool.not_false, EN, *, -h]
  rintro mL1 s7 ⟨v3, v5, f8, f9, f10, f11, f12, f13, h⟩
  rcases mL1 with _ | mL1
  · exact absurd h (by simp [m_spec_IsRegistration_L1])
  simp only [m_spec_IsRegistration_L1] at h
  refine sq (sq (rn ?_))
  refine an ?_
  rcases bcas (decide (v5 < ((3 : Nat) : Int))) with b14 | b14
  · replace h := ite_f b14 h
    refine cf (xt (aft_cx (aft_ix (aft_x (an (sq ?_))))))
    obtain ⟨x25, h26, h⟩ := bind_some h
    refine rn1 (c_spec_IsName _ _ h26) ?_
    refine an (rt ?_)
    cases h
    simp [Ret, TB, EN, *]
  replace h := ite_t b14 h
  refine ct (sk (an (sq (bk (sq (sq ?_))))))
  obtain ⟨x15, h16, h⟩ := bind_some h
  obtain ⟨q17, q18, q19⟩ := idx_some h16
  have q17m := congrArg (Option.map enI) (show ([p0.Active, p0.Waiting, p0.Installing])[v5.toNat]? = some x15 by assumption)
  simp only [← List.getElem?_map, List.map_cons, List.map_nil, Option.map_some, EN] at q17m
  simp only [List.length_cons, List.length_nil, Nat.reduceAdd] at q19
  obtain ⟨x20, h21, h⟩ := bind_some h
  rcases bcase (!x20) with b22 | b22
  · replace h := ite_t b22 h
    refine rn1 (c_spec_l1In _ _ _ _ h21) ?_
    refine an (ct (sq (rn ?_)))
    refine an (rt ?_)
    cases h
    simp [Ret, TB, EN, *]
  replace h := ite_f b22 h
  rcases bcas (x15 != 0) with b23 | b23
  · replace h := ite_f b23 h
    refine rn1 (c_spec_l1In _ _ _ _ h21) ?_
    refine an (cf (sk (an (sq (rn ?_)))))
    refine an (cf (sk (ab (an (rn ?_)))))
    refine aft_i ⟨mL1, by omega, v3, (IntKind.i64.wrap (v5 + 1)), ?_, ?_, ?_, ?_, ?_, ?_, h⟩
    all_goals simp +decide only [F, reduceIte, Nat.reduceAdd, Bool.not_true, Bool.not_false, EN, *, -h]
  replace h := ite_t b23 h
  refine rn1 (c_spec_l1In _ _ _ _ h21) ?_
  refine an ?_
  rcases bcase (decide (x15 ≤ v3)) with b24 | b24
  · replace h := ite_t b24 h
    refine ct (sq (rn ?_))
    refine an (rt ?_)
    cases h
    simp [Ret, TB, EN, *]
  replace h := ite_f b24 h
  refine cf (sk (an (sq (rn ?_))))
  refine an (ct (rn ?_))
  refine ab (an (rn ?_))
  refine aft_i ⟨mL1, by omega, x15, (IntKind.i64.wrap (v5 + 1)), ?_, ?_, ?_, ?_, ?_, ?_, h⟩
  all_goals simp +decide only [F, reduceIte, Nat.reduceAdd, Bool.not_true, Bool.not_false, EN, *, -h]

set_option maxRecDepth 20000 in
set_option maxHeartbeats 4000000 in
theorem c_spec_IsResponse (p0 : M.Response) (r : Bool) (h : m_spec_IsResponse p0 = some r) : SCalls Tryz.prog 345 [(true, M.Response.en p0)] [(false, [.ro (.bool r)])] := by
  unfold m_spec_IsResponse at h
  simp only [M.Response.en]
  refine scalls_n (N := 22) (vars := [.tmp 2]) Tryz.func345 rfl rfl rfl (by decide +kernel) (Nat.le_of_ble_eq_true rfl) fun base wd => ?_
  refine sq (rn ?_)
  refine an (sq ?_)
  obtain ⟨x1, h2, h⟩ := bind_some h
  rcases bcas x1 with b3 | b3
  · replace h := ite_f b3 h
    refine rn1 (c_spec_l1In _ _ _ _ h2) ?_
    refine an (rt ?_)
    cases h
    simp [Ret, TB, EN, *]
  replace h := ite_t b3 h
  obtain ⟨x4, h5, h⟩ := bind_some h
  rcases bcas x4 with b6 | b6
  · replace h := ite_f b6 h
    refine rn2 (c_spec_l1In _ _ _ _ h2) (c_spec_l1In _ _ _ _ h5) ?_
    refine an (rt ?_)
    cases h
    simp [Ret, TB, EN, *]
  replace h := ite_t b6 h
  obtain ⟨x7, h8, h⟩ := bind_some h
  rcases bcase x7 with b9 | b9
  · replace h := ite_t b9 h
    refine rn3 (c_spec_l1In _ _ _ _ h2) (c_spec_l1In _ _ _ _ h5) (c_spec_l1In _ _ _ _ h8) ?_
    refine an (rt ?_)
    cases h
    simp [Ret, TB, EN, *]
  replace h := ite_f b9 h
  refine rn3 (c_spec_l1In _ _ _ _ h2) (c_spec_l1In _ _ _ _ h5) (c_spec_l1In _ _ _ _ h8) ?_
  refine an (rt ?_)
  cases h
  simp [Ret, TB, EN, *]

set_option maxRecDepth 20000 in
set_option maxHeartbeats 4000000 in
theorem c_spec_l17Entries (p0 : List M.Cached) (r : Bool) (h : m_spec_l17Entries p0 = some r) : SCalls Tryz.prog 302 [(false, [.sl (List.map M.Cached.en p0)])] [(false, [.ro (.bool r)])] := by
  unfold m_spec_l17Entries at h
  refine scalls_n (N := 68) (vars := [.tmp 2]) Tryz.func302 rfl rfl rfl (by decide +kernel) (Nat.le_of_ble_eq_true rfl) fun base wd => ?_
  refine sq (rn ?_)
  refine an (sq (sq (rn ?_)))
  refine an (bk ?_)
  refine SW_loop (fun m s => ∃ v3 : Int, s.t 0 = .v false [.dat (.sl (List.map M.Cached.en p0))] ∧ s.t 3 = .v false [.dat (.int .i64 v3)] ∧ m_spec_l17Entries_L1 p0 m v3 = some r) fuel ?_ ?_
  · refine ⟨0, ?_, ?_, h⟩
    all_goals simp +decide only [F, reduceIte, Nat.reduceAdd, Bool.not_true, Bool.not_false, EN, *, -h]
  rintro mL1 s1 ⟨v3, f2, f3, h⟩
  rcases mL1 with _ | mL1
  · exact absurd h (by simp [m_spec_l17Entries_L1])
  simp only [m_spec_l17Entries_L1] at h
  refine sq (sq (rn ?_))
  refine an ?_
  rcases bcas (decide (v3 < (List.length p0 : Int))) with b4 | b4
  · replace h := ite_f b4 h
    refine cf (xt (aft_cx (aft_ix (aft_x (an (sq (rn ?_)))))))
    refine an (rt ?_)
    cases h
    simp [Ret, TB, EN, *]
  replace h := ite_t b4 h
  refine ct (sk (an (sq (bk (sq (sq ?_))))))
  obtain ⟨x5, h6, h⟩ := bind_some h
  obtain ⟨q7, q8, q9⟩ := idx_some h6
  obtain ⟨x10, h11, h⟩ := bind_some h
  rcases bcase (!x10) with b12 | b12
  · replace h := ite_t b12 h
    refine rn1 (c_spec_IsName _ _ h11) ?_
    refine an (ct (sq (rn ?_)))
    refine an (rt ?_)
    cases h
    simp [Ret, TB, EN, *]
  replace h := ite_f b12 h
  obtain ⟨x13, h14, h⟩ := bind_some h
  rcases bcase (!x13) with b15 | b15
  · replace h := ite_t b15 h
    refine rn2 (c_spec_IsName _ _ h11) (c_spec_IsName _ _ h14) ?_
    refine an (ct (sq (rn ?_)))
    refine an (rt ?_)
    cases h
    simp [Ret, TB, EN, *]
  replace h := ite_f b15 h
  obtain ⟨x16, h17, h⟩ := bind_some h
  refine rn3 (c_spec_IsName _ _ h11) (c_spec_IsName _ _ h14) (c_spec_IsResponse _ _ h17) ?_
  refine an ?_
  rcases bcase (!x16) with b18 | b18
  · replace h := ite_t b18 h
    refine ct (sq (rn ?_))
    refine an (rt ?_)
    cases h
    simp [Ret, TB, EN, *]
  replace h := ite_f b18 h
  refine cf (sk (an (sq (rn ?_))))
  refine an (bk ?_)
  obtain ⟨k20, e21, h⟩ := absk (f := fun kk => m_spec_l17Entries_L2 p0 v3 x5 kk fuel 0) h
  refine SW_loop (fun m s => ∃ v4_L2 : Int, s.t 0 = .v false [.dat (.sl (List.map M.Cached.en p0))] ∧ s.t 3 = .v false [.dat (.int .i64 v3)] ∧ s.t 4 = .v false [.dat (.int .i64 v4_L2)] ∧ m_spec_l17Entries_L2 p0 v3 x5 k20 m v4_L2 = some r) fuel ?_ ?_
  · refine ⟨0, ?_, ?_, ?_, h⟩
    all_goals simp +decide only [F, reduceIte, Nat.reduceAdd, Bool.not_true, Bool.not_false, EN, *, -h]
  rintro mL2 s19 ⟨v4_L2, f22, f23, f24, h⟩
  rcases mL2 with _ | mL2
  · exact absurd h (by simp [m_spec_l17Entries_L2])
  simp only [m_spec_l17Entries_L2] at h
  refine sq (sq (rn ?_))
  refine an ?_
  rcases bcas (decide (v4_L2 < v3)) with b25 | b25
  · replace h := ite_f b25 h
    refine cf (xt (aft_cx ?_))
    subst e21
    refine aft_ix (aft_x (ab (an (rn ?_))))
    refine aft_i ⟨mL1, by omega, (IntKind.i64.wrap (v3 + 1)), ?_, ?_, h⟩
    all_goals simp +decide only [F, reduceIte, Nat.reduceAdd, Bool.not_true, Bool.not_false, EN, *, -h]
  replace h := ite_t b25 h
  refine ct (sk (an (sq (bk (sq ?_)))))
  obtain ⟨x26, h27, h⟩ := bind_some h
  obtain ⟨q28, q29, q30⟩ := idx_some h27
  rcases bcas (x26.Site.toList == x5.Site.toList) with b31 | b31
  · replace h := ite_f b31 h
    refine rd mixed ?_
    refine an (cf (sk (ab (an (rn ?_)))))
    refine aft_i ⟨mL2, by omega, (IntKind.i64.wrap (v4_L2 + 1)), ?_, ?_, ?_, h⟩
    all_goals simp +decide only [F, reduceIte, Nat.reduceAdd, Bool.not_true, Bool.not_false, EN, *, -h]
  replace h := ite_t b31 h
  refine rd mixed ?_
  refine an ?_
  rcases bcase (x26.Path.toList == x5.Path.toList) with b32 | b32
  · replace h := ite_t b32 h
    refine ct (sq (rn ?_))
    refine an (rt ?_)
    cases h
    simp [Ret, TB, EN, *]
  replace h := ite_f b32 h
  refine cf (sk (ab (an (rn ?_))))
  refine aft_i ⟨mL2, by omega, (IntKind.i64.wrap (v4_L2 + 1)), ?_, ?_, ?_, h⟩
  all_goals simp +decide only [F, reduceIte, Nat.reduceAdd, Bool.not_true, Bool.not_false, EN, *, -h]

set_option maxRecDepth 20000 in
set_option maxHeartbeats 4000000 in
theorem c_spec_IsCacheSet (p0 : M.CacheSet) (r : Bool) (h : m_spec_IsCacheSet p0 = some r) : SCalls Tryz.prog 255 [(true, M.CacheSet.en p0)] [(false, [.ro (.bool r)])] := by
  unfold m_spec_IsCacheSet at h
  simp only [M.CacheSet.en]
  refine scalls_n (N := 53) (vars := [.tmp 2]) Tryz.func255 rfl rfl rfl (by decide +kernel) (Nat.le_of_ble_eq_true rfl) fun base wd => ?_
  refine sq (rn ?_)
  refine an (sq (sq (rn ?_)))
  refine an (bk ?_)
  refine SW_loop (fun m s => ∃ v3 : Int, s.t 1 = .v false [.bp 1 1 0] ∧ s.t 3 = .v false [.dat (.int .i64 v3)] ∧ s.h 1 = (1, .box 131 [.dat (.sl (List.map M.Cache.en p0.Caches))]) ∧ m_spec_IsCacheSet_L1 p0 m v3 = some r) fuel ?_ ?_
  · refine ⟨0, ?_, ?_, ?_, h⟩
    all_goals simp +decide only [F, reduceIte, Nat.reduceAdd, Bool.not_true, Bool.not_false, EN, *, -h]
  rintro mL1 s1 ⟨v3, f2, f3, f4, h⟩
  rcases mL1 with _ | mL1
  · exact absurd h (by simp [m_spec_IsCacheSet_L1])
  simp only [m_spec_IsCacheSet_L1] at h
  refine sq (sq (rn ?_))
  refine an ?_
  rcases bcas (decide (v3 < (List.length p0.Caches : Int))) with b5 | b5
  · replace h := ite_f b5 h
    refine cf (xt (aft_cx (aft_ix (aft_x (an (sq (rn ?_)))))))
    refine an (rt ?_)
    cases h
    simp [Ret, TB, EN, *]
  replace h := ite_t b5 h
  refine ct (sk (an (sq (bk (sq ?_)))))
  obtain ⟨x6, h7, h⟩ := bind_some h
  obtain ⟨q8, q9, q10⟩ := idx_some h7
  obtain ⟨x11, h12, h⟩ := bind_some h
  rcases bcase (!x11) with b13 | b13
  · replace h := ite_t b13 h
    refine rd1 mixed (c_spec_l1In _ _ _ _ h12) ?_
    refine an (ct (sq (rn ?_)))
    refine an (rt ?_)
    cases h
    simp [Ret, TB, EN, *]
  replace h := ite_f b13 h
  rcases bcas (decide (v3 > 0)) with b14 | b14
  · replace h := ite_f b14 h
    obtain ⟨x24, h25, h⟩ := bind_some h
    refine rd2 mixed (c_spec_l1In _ _ _ _ h12) (c_spec_l17Entries _ _ h25) ?_
    refine an ?_
    rcases bcase (!x24) with b26 | b26
    · replace h := ite_t b26 h
      refine ct (sq (rn ?_))
      refine an (rt ?_)
      cases h
      simp [Ret, TB, EN, *]
    replace h := ite_f b26 h
    refine cf (sk (ab (an (rn ?_))))
    refine aft_i ⟨mL1, by omega, (IntKind.i64.wrap (v3 + 1)), ?_, ?_, ?_, h⟩
    all_goals simp +decide only [F, reduceIte, Nat.reduceAdd, Bool.not_true, Bool.not_false, EN, *, -h]
  replace h := ite_t b14 h
  obtain ⟨x15, h16, h⟩ := bind_some h
  obtain ⟨q17, q18, q19⟩ := idx_some h16
  rcases bcase (decide (x15.Version ≥ x6.Version)) with b20 | b20
  · replace h := ite_t b20 h
    refine rd1 mixed (c_spec_l1In _ _ _ _ h12) ?_
    refine an (ct (sq (rn ?_)))
    refine an (rt ?_)
    cases h
    simp [Ret, TB, EN, *]
  replace h := ite_f b20 h
  obtain ⟨x21, h22, h⟩ := bind_some h
  refine rd2 mixed (c_spec_l1In _ _ _ _ h12) (c_spec_l17Entries _ _ h22) ?_
  refine an ?_
  rcases bcase (!x21) with b23 | b23
  · replace h := ite_t b23 h
    refine ct (sq (rn ?_))
    refine an (rt ?_)
    cases h
    simp [Ret, TB, EN, *]
  replace h := ite_f b23 h
  refine cf (sk (ab (an (rn ?_))))
  refine aft_i ⟨mL1, by omega, (IntKind.i64.wrap (v3 + 1)), ?_, ?_, ?_, h⟩
  all_goals simp +decide only [F, reduceIte, Nat.reduceAdd, Bool.not_true, Bool.not_false, EN, *, -h]

set_option maxRecDepth 20000 in
set_option maxHeartbeats 4000000 in
theorem c_spec_FindStore (p0 : M.Database) (p1 : ByteArray) (r : Int) (h : m_spec_FindStore p0 p1 = some r) : SCalls Tryz.prog 303 [(true, M.Database.en p0), (false, [.str p1])] [(false, [.ro (.int .i64 r)])] := by
  unfold m_spec_FindStore at h
  simp only [M.Database.en]
  refine scalls_n (N := 22) (vars := [.tmp 4]) Tryz.func303 rfl rfl rfl (by decide +kernel) (Nat.le_of_ble_eq_true rfl) fun base wd => ?_
  refine sq (rn ?_)
  refine an (sq (sq (rn ?_)))
  refine an (bk ?_)
  refine SW_loop (fun m s => ∃ v5 : Int, s.t 1 = .v false [.dat (.str p1)] ∧ s.t 2 = .v false [.bp 2 1 0] ∧ s.t 5 = .v false [.dat (.int .i64 v5)] ∧ s.h 2 = (1, .box 135 [.dat (.str p0.Name), .dat (.int .i64 p0.Version), .dat (.sl (List.map M.Store.en p0.Stores)), .dat (.sl (List.map M.IndexDef.en p0.Unique))]) ∧ m_spec_FindStore_L1 p0 p1 m v5 = some r) fuel ?_ ?_
  · refine ⟨0, ?_, ?_, ?_, ?_, h⟩
    all_goals simp +decide only [F, reduceIte, Nat.reduceAdd, Bool.not_true, Bool.not_false, EN, *, -h]
  rintro mL1 s1 ⟨v5, f2, f3, f4, f5, h⟩
  rcases mL1 with _ | mL1
  · exact absurd h (by simp [m_spec_FindStore_L1])
  simp only [m_spec_FindStore_L1] at h
  refine sq (sq (rn ?_))
  refine an ?_
  rcases bcas (decide (v5 < (List.length p0.Stores : Int))) with b6 | b6
  · replace h := ite_f b6 h
    refine cf (xt (aft_cx (aft_ix (aft_x (an (sq (rn ?_)))))))
    refine an (rt ?_)
    cases h
    simp [Ret, TB, EN, *]
  replace h := ite_t b6 h
  refine ct (sk (an (sq (bk (sq ?_)))))
  obtain ⟨x7, h8, h⟩ := bind_some h
  obtain ⟨q9, q10, q11⟩ := idx_some h8
  refine rn ?_
  refine an ?_
  rcases bcase (x7.Name.toList == p1.toList) with b12 | b12
  · replace h := ite_t b12 h
    refine ct (sq (rn ?_))
    refine an (rt ?_)
    cases h
    simp [Ret, TB, EN, *]
  replace h := ite_f b12 h
  refine cf (sk (ab (an (rn ?_))))
  refine aft_i ⟨mL1, by omega, (IntKind.i64.wrap (v5 + 1)), ?_, ?_, ?_, ?_, h⟩
  all_goals simp +decide only [F, reduceIte, Nat.reduceAdd, Bool.not_true, Bool.not_false, EN, *, -h]

set_option maxRecDepth 20000 in
set_option maxHeartbeats 4000000 in
theorem c_spec_GetField (p0 : M.Record) (p1 : ByteArray) (r : (Int × Bool)) (h : m_spec_GetField p0 p1 = some r) : SCalls Tryz.prog 347 [(true, M.Record.en p0), (false, [.str p1])] [(false, [.ro (.int .i64 r.1)]), (false, [.ro (.bool r.2)])] := by
  unfold m_spec_GetField at h
  simp only [M.Record.en]
  refine scalls_n (N := 28) (vars := [.tmp 4, .tmp 5]) Tryz.func347 rfl rfl rfl (by decide +kernel) (Nat.le_of_ble_eq_true rfl) fun base wd => ?_
  refine sq (rn ?_)
  refine an (sq (sq (rn ?_)))
  refine an (bk ?_)
  refine SW_loop (fun m s => ∃ v6 : Int, s.t 1 = .v false [.dat (.str p1)] ∧ s.t 2 = .v false [.bp 2 1 0] ∧ s.t 6 = .v false [.dat (.int .i64 v6)] ∧ s.h 2 = (1, .box 238 [.dat (.sl (List.map M.Field.en p0.Fields))]) ∧ m_spec_GetField_L1 p0 p1 m v6 = some r) fuel ?_ ?_
  · refine ⟨0, ?_, ?_, ?_, ?_, h⟩
    all_goals simp +decide only [F, reduceIte, Nat.reduceAdd, Bool.not_true, Bool.not_false, EN, *, -h]
  rintro mL1 s1 ⟨v6, f2, f3, f4, f5, h⟩
  rcases mL1 with _ | mL1
  · exact absurd h (by simp [m_spec_GetField_L1])
  simp only [m_spec_GetField_L1] at h
  refine sq (sq (rn ?_))
  refine an ?_
  rcases bcas (decide (v6 < (List.length p0.Fields : Int))) with b6 | b6
  · replace h := ite_f b6 h
    refine cf (xt (aft_cx (aft_ix (aft_x (an (sq (rn ?_)))))))
    refine an (rt ?_)
    cases h
    simp [Ret, TB, EN, *]
  replace h := ite_t b6 h
  refine ct (sk (an (sq (bk (sq ?_)))))
  obtain ⟨x7, h8, h⟩ := bind_some h
  obtain ⟨q9, q10, q11⟩ := idx_some h8
  refine rn ?_
  refine an ?_
  rcases bcase (x7.Name.toList == p1.toList) with b12 | b12
  · replace h := ite_t b12 h
    refine ct (sq (rn ?_))
    refine an (rt ?_)
    cases h
    simp [Ret, TB, EN, *]
  replace h := ite_f b12 h
  refine cf (sk (ab (an (rn ?_))))
  refine aft_i ⟨mL1, by omega, (IntKind.i64.wrap (v6 + 1)), ?_, ?_, ?_, ?_, h⟩
  all_goals simp +decide only [F, reduceIte, Nat.reduceAdd, Bool.not_true, Bool.not_false, EN, *, -h]

set_option maxRecDepth 20000 in
set_option maxHeartbeats 4000000 in
theorem c_spec_l7Less (p0 : M.Item) (p1 : M.Item) (p2 : ByteArray) (r : Bool) (h : m_spec_l7Less p0 p1 p2 = some r) : SCalls Tryz.prog 377 [(true, M.Item.en p0), (true, M.Item.en p1), (false, [.str p2])] [(false, [.ro (.bool r)])] := by
  unfold m_spec_l7Less at h
  simp only [M.Item.en]
  refine scalls_n (N := 41) (vars := [.tmp 6]) Tryz.func377 rfl rfl rfl (by decide +kernel) (Nat.le_of_ble_eq_true rfl) fun base wd => ?_
  refine sq (rn ?_)
  refine an (sq ?_)
  obtain ⟨x1, h2, h⟩ := bind_some h
  refine rn1 (c_spec_GetField _ _ _ h2) ?_
  refine an (sq ?_)
  obtain ⟨x3, h4, h⟩ := bind_some h
  refine rn1 (c_spec_GetField _ _ _ h4) ?_
  refine an (sq ?_)
  rcases bcase (decide (x1.1 < x3.1)) with b5 | b5
  · replace h := ite_t b5 h
    refine rn ?_
    refine an (rt ?_)
    cases h
    simp [Ret, TB, EN, *]
  replace h := ite_f b5 h
  rcases bcas (x1.1 == x3.1) with b6 | b6
  · replace h := ite_f b6 h
    refine rn ?_
    refine an (rt ?_)
    cases h
    simp [Ret, TB, EN, *]
  replace h := ite_t b6 h
  obtain ⟨x7, h8, h⟩ := bind_some h
  refine rn1 (c_spec_CompareKeys _ _ _ h8) ?_
  refine an (rt ?_)
  cases h
  simp [Ret, TB, EN, *]

set_option maxRecDepth 20000 in
set_option maxHeartbeats 4000000 in
theorem c_spec_l5Copy (p0 : M.Record) (r : M.Record) (h : m_spec_l5Copy p0 = some r) : SCalls Tryz.prog 247 [(true, M.Record.en p0)] [(true, [.own 309 2 (List.map M.Field.en r.Fields)])] := by
  unfold m_spec_l5Copy at h
  simp only [M.Record.en]
  refine scalls_n (N := 8) (vars := [.cell 2 238]) Tryz.func247 rfl rfl rfl (by decide +kernel) (Nat.le_of_ble_eq_true rfl) fun base wd => ?_
  refine sq (rn ?_)
  refine an (sq ?_)
  obtain ⟨x1, h2, h⟩ := bind_some h
  refine rn1 h2 ?_
  refine an (rt ?_)
  cases h
  simp [Ret, TB, EN, *]

set_option maxRecDepth 20000 in
set_option maxHeartbeats 4000000 in
theorem c_spec_l6Item (p0 : M.Item) (r : M.Item) (h : m_spec_l6Item p0 = some r) : SCalls Tryz.prog 178 [(true, M.Item.en p0)] [(true, [.ro (.int .i64 r.Key.Kind), .ro (.int .i64 r.Key.N), .ro (.str r.Key.Text), .own 309 2 (List.map M.Field.en r.Record.Fields)])] := by
  unfold m_spec_l6Item at h
  simp only [M.Item.en]
  refine scalls_n (N := 9) (vars := [.cell 2 240]) Tryz.func178 rfl rfl rfl (by decide +kernel) (Nat.le_of_ble_eq_true rfl) fun base wd => ?_
  refine sq (rn ?_)
  refine an (sq ?_)
  obtain ⟨x1, h2, h⟩ := bind_some h
  refine rd1 mixed (c_spec_l5Copy _ _ h2) ?_
  refine an (rt ?_)
  cases h
  simp [Ret, TB, EN, *]

set_option maxRecDepth 20000 in
set_option maxHeartbeats 4000000 in
theorem c_spec_IndexOn (p0 : M.Store) (p1 : ByteArray) (r : (List M.Item)) (h : m_spec_IndexOn p0 p1 = some r) : SCalls Tryz.prog 346 [(true, M.Store.en p0), (false, [.str p1])] [(false, [.own 240 4 (List.map M.Item.en r)])] := by
  unfold m_spec_IndexOn at h
  simp only [M.Store.en]
  refine scalls_n (N := 72) (vars := [.tmp 4]) Tryz.func346 rfl rfl rfl (by decide +kernel) (Nat.le_of_ble_eq_true rfl) fun base wd => ?_
  refine sq (rn ?_)
  refine an (sq (rn ?_))
  refine an (sq (sq ?_))
  refine cu (fun s => s.t 1 = .v false [.dat (.str p1)] ∧ s.t 2 = .v false [.bp 2 1 0] ∧ s.t 5 = .v false [.row 100011 1] ∧ s.h 2 = (1, .box 81 [.dat (.str p0.Name), .dat (.sl (List.map M.Item.en p0.Items)), .dat (.int .i64 p0.Auto)]) ∧ s.h 100011 = (1, .row 240 4 (List.map M.Item.en ([] : List M.Item)) true) ∧ True) ?_
  rintro s1 ⟨f2, f3, f4, f5, f6, _⟩
  refine rn ?_
  refine an (bk ?_)
  refine SW_gho ((Gho.ren_t (i := 5) (K := 7050000) (j := 100011) (by simp +decide only [F, reduceIte, Nat.reduceAdd, Bool.not_true, Bool.not_false, EN, *, -h]; rfl) (by simp +decide only [F, reduceIte, Nat.reduceAdd, Bool.not_true, Bool.not_false, EN, *, -h]; rfl))) ?_
  refine SW_loopG (fun m s => ∃ v6 : Int, ∃ r50000 : List M.Item, ∃ u50000 : Nat, s.t 1 = .v false [.dat (.str p1)] ∧ s.t 2 = .v false [.bp 2 1 0] ∧ s.t 5 = .v false [.row 7050000 u50000] ∧ s.t 6 = .v false [.dat (.int .i64 v6)] ∧ s.h 2 = (1, .box 81 [.dat (.str p0.Name), .dat (.sl (List.map M.Item.en p0.Items)), .dat (.int .i64 p0.Auto)]) ∧ s.h 7050000 = (u50000, .row 240 4 (List.map M.Item.en r50000) true) ∧ m_spec_IndexOn_L1 p0 p1 m v6 r50000 = some r) fuel ?_ ?_
  · refine ⟨0, ([] : List M.Item), ((s1.h 7050000).1 + 1), ?_, ?_, ?_, ?_, ?_, ?_, h⟩
    all_goals simp +decide only [F, reduceIte, Nat.reduceAdd, Bool.not_true, Bool.not_false, EN, *, -h]
  rintro mL1 s7 ⟨v6, r50000, u50000, f8, f9, f10, f11, f12, f13, h⟩
  rcases mL1 with _ | mL1
  · exact absurd h (by simp [m_spec_IndexOn_L1])
  simp only [m_spec_IndexOn_L1] at h
  refine sq (sq (rn ?_))
  refine an ?_
  rcases bcas (decide (v6 < (List.length p0.Items : Int))) with b14 | b14
  · replace h := ite_f b14 h
    refine cf (xt (aft_cx (aft_ix (aft_x (an (sq (rn ?_)))))))
    refine an (rt ?_)
    cases h
    simp [Ret, TB, EN, *]
  replace h := ite_t b14 h
  refine ct (sk (an (sq (bk (sq (sq ?_))))))
  obtain ⟨x15, h16, h⟩ := bind_some h
  obtain ⟨q17, q18, q19⟩ := idx_some h16
  obtain ⟨x20, h21, h⟩ := bind_some h
  refine rn1 (c_spec_GetField _ _ _ h21) ?_
  refine an (sq (rn ?_))
  refine an ?_
  rcases bcase (!x20.2) with b22 | b22
  · replace h := ite_t b22 h
    refine ct (xt (aft_cx (aft_x (an (rn ?_)))))
    refine aft_i ⟨_, (Gho.ren_t (i := 5) (K := 7050000) (j := 7050000) (by simp +decide only [F, reduceIte, Nat.reduceAdd, Bool.not_true, Bool.not_false, EN, *, -h]; rfl) (by simp +decide only [F, reduceIte, Nat.reduceAdd, Bool.not_true, Bool.not_false, EN, *, -h]; rfl)), mL1, by omega, (IntKind.i64.wrap (v6 + 1)), r50000, (u50000 + 1), ?_, ?_, ?_, ?_, ?_, ?_, h⟩
    all_goals simp +decide only [F, reduceIte, Nat.reduceAdd, Bool.not_true, Bool.not_false, EN, *, -h]
  replace h := ite_f b22 h
  refine cf (sk (an (sq (rn ?_))))
  refine an (sq (bk ?_))
  obtain ⟨k24, e25, h⟩ := absk (f := fun kk => m_spec_IndexOn_L2 p1 r50000 x15 kk fuel (List.length r50000 : Int)) h
  refine SW_loop (fun m s => ∃ v9_L2 : Int, s.t 1 = .v false [.dat (.str p1)] ∧ s.t 2 = .v false [.bp 2 1 0] ∧ s.t 5 = .v false [.row 7050000 u50000] ∧ s.t 6 = .v false [.dat (.int .i64 v6)] ∧ s.t 9 = .v false [.dat (.int .i64 v9_L2)] ∧ s.h 2 = (1, .box 81 [.dat (.str p0.Name), .dat (.sl (List.map M.Item.en p0.Items)), .dat (.int .i64 p0.Auto)]) ∧ s.h 7050000 = (u50000, .row 240 4 (List.map M.Item.en r50000) true) ∧ m_spec_IndexOn_L2 p1 r50000 x15 k24 m v9_L2 = some r) fuel ?_ ?_
  · refine ⟨(List.length r50000 : Int), ?_, ?_, ?_, ?_, ?_, ?_, ?_, h⟩
    all_goals simp +decide only [F, reduceIte, Nat.reduceAdd, Bool.not_true, Bool.not_false, EN, *, -h]
  rintro mL2 s23 ⟨v9_L2, f26, f27, f28, f29, f30, f31, f32, h⟩
  rcases mL2 with _ | mL2
  · exact absurd h (by simp [m_spec_IndexOn_L2])
  simp only [m_spec_IndexOn_L2] at h
  refine sq (sq ?_)
  rcases bcas (decide (v9_L2 > 0)) with b33 | b33
  · replace h := ite_f b33 h
    refine rd mixed ?_
    refine an (cf (xt (aft_cx ?_)))
    subst e25
    refine aft_ix (aft_x (an (sq ?_)))
    obtain ⟨x79, h80, h⟩ := bind_some h
    obtain ⟨x81, h82, h⟩ := bind_some h
    apply SW_run
    · simp +decide only [E, reduceIte, Nat.reduceAdd, Nat.reduceMul, Bool.not_true, Bool.not_false, ← List.map_take, ← List.map_drop, L, ti79, ti240, M.Item.en, b14, q17, q18, q19, b22, f26, f27, f28, f29, f30, f31, f32, b33]
      refine ⟨by first | exact slcHi_p h80 | exact (slcHi_p h80).2 | exact (slcHi_p h80).2.2, ?_⟩
      try simp +decide only [E, reduceIte, Nat.reduceAdd, Nat.reduceMul, Bool.not_true, Bool.not_false, ← List.map_take, ← List.map_drop, L, ti79, ti240, M.Item.en, b14, q17, q18, q19, b22, f26, f27, f28, f29, f30, f31, f32, b33]
      refine ⟨by (have hb := app_some h82); simp [M.Item.en, List.length_append, strBytes_len, ← List.map_take, ← List.map_drop, -List.map_take, -List.map_drop] at hb ⊢ <;> omega, ?_⟩
      try simp +decide only [E, reduceIte, Nat.reduceAdd, Nat.reduceMul, Bool.not_true, Bool.not_false, ← List.map_take, ← List.map_drop, L, ti79, ti240, M.Item.en, b14, q17, q18, q19, b22, f26, f27, f28, f29, f30, f31, f32, b33]
      exact Is.mk _
    refine an (sq ?_)
    refine cu (fun s => s.t 1 = .v false [.dat (.str p1)] ∧ s.t 2 = .v false [.bp 2 1 0] ∧ s.t 5 = .v false [.row 7050000 u50000] ∧ s.t 6 = .v false [.dat (.int .i64 v6)] ∧ s.t 9 = .v false [.dat (.int .i64 v9_L2)] ∧ s.t 10 = .v false [.row 100052 (((s23.h 100052).1 + 1) + 1)] ∧ s.h 2 = (1, .box 81 [.dat (.str p0.Name), .dat (.sl (List.map M.Item.en p0.Items)), .dat (.int .i64 p0.Auto)]) ∧ s.h 100052 = ((((s23.h 100052).1 + 1) + 1), .row 240 4 (List.map M.Item.en (List.take v9_L2.toNat r50000)) true) ∧ s.h 7050000 = (u50000, .row 240 4 (opqTo 4 0 v9_L2.toNat (List.map M.Item.en r50000)) true) ∧ True) ?_
    rintro s83 ⟨f84, f85, f86, f87, f88, f89, f90, f91, f92, _⟩
    obtain ⟨x93, h94, h⟩ := bind_some h
    obtain ⟨x95, h96, h⟩ := bind_some h
    refine rn2 (c_spec_l6Item _ _ h94) h96 ?_
    refine an ?_
    refine cu (fun s => s.t 1 = .v false [.dat (.str p1)] ∧ s.t 2 = .v false [.bp 2 1 0] ∧ s.t 5 = .v false [.row 7050000 u50000] ∧ s.t 6 = .v false [.dat (.int .i64 v6)] ∧ s.t 9 = .v false [.dat (.int .i64 v9_L2)] ∧ s.t 10 = .v false [.row 100052 ((((s23.h 100052).1 + 1) + 1) + 1)] ∧ s.h 2 = (1, .box 81 [.dat (.str p0.Name), .dat (.sl (List.map M.Item.en p0.Items)), .dat (.int .i64 p0.Auto)]) ∧ s.h 100052 = (((((s23.h 100052).1 + 1) + 1) + 1), .row 240 4 (List.map M.Item.en ((List.take v9_L2.toNat r50000) ++ [x93])) true) ∧ s.h 7050000 = (u50000, .row 240 4 (opqTo 4 0 v9_L2.toNat (List.map M.Item.en r50000)) true) ∧ True) ?_
    rintro s97 ⟨f98, f99, f100, f101, f102, f103, f104, f105, f106, _⟩
    obtain ⟨x107, h108, h⟩ := bind_some h
    apply SW_run
    · simp +decide only [E, reduceIte, Nat.reduceAdd, Nat.reduceMul, Bool.not_true, Bool.not_false, ← List.map_take, ← List.map_drop, L, ti79, ti240, M.Item.en, b14, q17, q18, q19, b22, b33, f98, f99, f100, f101, f102, f103, f104, f105, f106]
      refine ⟨by first | exact opq_ge (slcHi_p h80).1 | exact (opq_ge (slcHi_p h80).1).2 | exact (opq_ge (slcHi_p h80).1).2.2, ?_⟩
      try simp +decide only [E, reduceIte, Nat.reduceAdd, Nat.reduceMul, Bool.not_true, Bool.not_false, ← List.map_take, ← List.map_drop, L, ti79, ti240, M.Item.en, b14, q17, q18, q19, b22, b33, f98, f99, f100, f101, f102, f103, f104, f105, f106]
      refine ⟨by (have hb := app_some h108); simp [M.Item.en, List.length_append, strBytes_len, ← List.map_take, ← List.map_drop, -List.map_take, -List.map_drop] at hb ⊢ <;> omega, ?_⟩
      try simp +decide only [E, reduceIte, Nat.reduceAdd, Nat.reduceMul, Bool.not_true, Bool.not_false, ← List.map_take, ← List.map_drop, L, ti79, ti240, M.Item.en, b14, q17, q18, q19, b22, b33, f98, f99, f100, f101, f102, f103, f104, f105, f106]
      exact Is.mk _
    refine ab (an ?_)
    refine cu (fun s => s.t 1 = .v false [.dat (.str p1)] ∧ s.t 2 = .v false [.bp 2 1 0] ∧ s.t 5 = .v false [.row 100052 (((((s23.h 100052).1 + 1) + 1) + 1) + 1)] ∧ s.t 6 = .v false [.dat (.int .i64 v6)] ∧ s.h 2 = (1, .box 81 [.dat (.str p0.Name), .dat (.sl (List.map M.Item.en p0.Items)), .dat (.int .i64 p0.Auto)]) ∧ s.h 100052 = ((((((s23.h 100052).1 + 1) + 1) + 1) + 1), .row 240 4 (List.map M.Item.en (((List.take v9_L2.toNat r50000) ++ [x93]) ++ (List.drop v9_L2.toNat r50000))) true) ∧ True) ?_
    rintro s109 ⟨f110, f111, f112, f113, f114, f115, _⟩
    refine rn ?_
    refine aft_i ⟨_, (Gho.ren_t (i := 5) (K := 7050000) (j := 100052) (by simp +decide only [F, reduceIte, Nat.reduceAdd, Bool.not_true, Bool.not_false, EN, *, -h]; rfl) (by simp +decide only [F, reduceIte, Nat.reduceAdd, Bool.not_true, Bool.not_false, EN, *, -h]; rfl)), mL1, by omega, (IntKind.i64.wrap (v6 + 1)), (((List.take v9_L2.toNat r50000) ++ [x93]) ++ (List.drop v9_L2.toNat r50000)), ((s109.h 7050000).1 + 1), ?_, ?_, ?_, ?_, ?_, ?_, h⟩
    all_goals simp +decide only [F, reduceIte, Nat.reduceAdd, Bool.not_true, Bool.not_false, EN, *, -h]
  replace h := ite_t b33 h
  obtain ⟨x34, h35, h⟩ := bind_some h
  obtain ⟨q36, q37, q38⟩ := idx_some h35
  obtain ⟨x39, h40, h⟩ := bind_some h
  refine rd1 mixed (c_spec_l7Less _ _ _ _ h40) ?_
  refine an ?_
  rcases bcase x39 with b41 | b41
  · replace h := ite_t b41 h
    refine ct (sk (an (bk (rn ?_))))
    refine ab ?_
    refine aft_i ⟨mL2, by omega, (IntKind.i64.wrap (v9_L2 - 1)), ?_, ?_, ?_, ?_, ?_, ?_, ?_, h⟩
    all_goals simp +decide only [F, reduceIte, Nat.reduceAdd, Bool.not_true, Bool.not_false, EN, *, -h]
  replace h := ite_f b41 h
  refine cf (xt (aft_cx ?_))
  subst e25
  refine aft_ix (aft_x (an (sq ?_)))
  obtain ⟨x42, h43, h⟩ := bind_some h
  obtain ⟨x44, h45, h⟩ := bind_some h
  apply SW_run
  · simp +decide only [E, reduceIte, Nat.reduceAdd, Nat.reduceMul, Bool.not_true, Bool.not_false, ← List.map_take, ← List.map_drop, L, ti79, ti240, M.Item.en, b14, q17, q18, q19, b22, f26, f27, f28, f29, f30, f31, f32, b33, q36, q37, q38, b41]
    refine ⟨by first | exact slcHi_p h43 | exact (slcHi_p h43).2 | exact (slcHi_p h43).2.2, ?_⟩
    try simp +decide only [E, reduceIte, Nat.reduceAdd, Nat.reduceMul, Bool.not_true, Bool.not_false, ← List.map_take, ← List.map_drop, L, ti79, ti240, M.Item.en, b14, q17, q18, q19, b22, f26, f27, f28, f29, f30, f31, f32, b33, q36, q37, q38, b41]
    refine ⟨by (have hb := app_some h45); simp [M.Item.en, List.length_append, strBytes_len, ← List.map_take, ← List.map_drop, -List.map_take, -List.map_drop] at hb ⊢ <;> omega, ?_⟩
    try simp +decide only [E, reduceIte, Nat.reduceAdd, Nat.reduceMul, Bool.not_true, Bool.not_false, ← List.map_take, ← List.map_drop, L, ti79, ti240, M.Item.en, b14, q17, q18, q19, b22, f26, f27, f28, f29, f30, f31, f32, b33, q36, q37, q38, b41]
    exact Is.mk _
  refine an (sq ?_)
  refine cu (fun s => s.t 1 = .v false [.dat (.str p1)] ∧ s.t 2 = .v false [.bp 2 1 0] ∧ s.t 5 = .v false [.row 7050000 u50000] ∧ s.t 6 = .v false [.dat (.int .i64 v6)] ∧ s.t 9 = .v false [.dat (.int .i64 v9_L2)] ∧ s.t 10 = .v false [.row 100052 (((s23.h 100052).1 + 1) + 1)] ∧ s.h 2 = (1, .box 81 [.dat (.str p0.Name), .dat (.sl (List.map M.Item.en p0.Items)), .dat (.int .i64 p0.Auto)]) ∧ s.h 100052 = ((((s23.h 100052).1 + 1) + 1), .row 240 4 (List.map M.Item.en (List.take v9_L2.toNat r50000)) true) ∧ s.h 7050000 = (u50000, .row 240 4 (opqTo 4 0 v9_L2.toNat (List.map M.Item.en r50000)) true) ∧ True) ?_
  rintro s46 ⟨f47, f48, f49, f50, f51, f52, f53, f54, f55, _⟩
  obtain ⟨x56, h57, h⟩ := bind_some h
  obtain ⟨x58, h59, h⟩ := bind_some h
  refine rn2 (c_spec_l6Item _ _ h57) h59 ?_
  refine an ?_
  refine cu (fun s => s.t 1 = .v false [.dat (.str p1)] ∧ s.t 2 = .v false [.bp 2 1 0] ∧ s.t 5 = .v false [.row 7050000 u50000] ∧ s.t 6 = .v false [.dat (.int .i64 v6)] ∧ s.t 9 = .v false [.dat (.int .i64 v9_L2)] ∧ s.t 10 = .v false [.row 100052 ((((s23.h 100052).1 + 1) + 1) + 1)] ∧ s.h 2 = (1, .box 81 [.dat (.str p0.Name), .dat (.sl (List.map M.Item.en p0.Items)), .dat (.int .i64 p0.Auto)]) ∧ s.h 100052 = (((((s23.h 100052).1 + 1) + 1) + 1), .row 240 4 (List.map M.Item.en ((List.take v9_L2.toNat r50000) ++ [x56])) true) ∧ s.h 7050000 = (u50000, .row 240 4 (opqTo 4 0 v9_L2.toNat (List.map M.Item.en r50000)) true) ∧ True) ?_
  rintro s60 ⟨f61, f62, f63, f64, f65, f66, f67, f68, f69, _⟩
  obtain ⟨x70, h71, h⟩ := bind_some h
  apply SW_run
  · simp +decide only [E, reduceIte, Nat.reduceAdd, Nat.reduceMul, Bool.not_true, Bool.not_false, ← List.map_take, ← List.map_drop, L, ti79, ti240, M.Item.en, b14, q17, q18, q19, b22, b33, q36, q37, q38, b41, f61, f62, f63, f64, f65, f66, f67, f68, f69]
    refine ⟨by first | exact opq_ge (slcHi_p h43).1 | exact (opq_ge (slcHi_p h43).1).2 | exact (opq_ge (slcHi_p h43).1).2.2, ?_⟩
    try simp +decide only [E, reduceIte, Nat.reduceAdd, Nat.reduceMul, Bool.not_true, Bool.not_false, ← List.map_take, ← List.map_drop, L, ti79, ti240, M.Item.en, b14, q17, q18, q19, b22, b33, q36, q37, q38, b41, f61, f62, f63, f64, f65, f66, f67, f68, f69]
    refine ⟨by (have hb := app_some h71); simp [M.Item.en, List.length_append, strBytes_len, ← List.map_take, ← List.map_drop, -List.map_take, -List.map_drop] at hb ⊢ <;> omega, ?_⟩
    try simp +decide only [E, reduceIte, Nat.reduceAdd, Nat.reduceMul, Bool.not_true, Bool.not_false, ← List.map_take, ← List.map_drop, L, ti79, ti240, M.Item.en, b14, q17, q18, q19, b22, b33, q36, q37, q38, b41, f61, f62, f63, f64, f65, f66, f67, f68, f69]
    exact Is.mk _
  refine ab (an ?_)
  refine cu (fun s => s.t 1 = .v false [.dat (.str p1)] ∧ s.t 2 = .v false [.bp 2 1 0] ∧ s.t 5 = .v false [.row 100052 (((((s23.h 100052).1 + 1) + 1) + 1) + 1)] ∧ s.t 6 = .v false [.dat (.int .i64 v6)] ∧ s.h 2 = (1, .box 81 [.dat (.str p0.Name), .dat (.sl (List.map M.Item.en p0.Items)), .dat (.int .i64 p0.Auto)]) ∧ s.h 100052 = ((((((s23.h 100052).1 + 1) + 1) + 1) + 1), .row 240 4 (List.map M.Item.en (((List.take v9_L2.toNat r50000) ++ [x56]) ++ (List.drop v9_L2.toNat r50000))) true) ∧ True) ?_
  rintro s72 ⟨f73, f74, f75, f76, f77, f78, _⟩
  refine rn ?_
  refine aft_i ⟨_, (Gho.ren_t (i := 5) (K := 7050000) (j := 100052) (by simp +decide only [F, reduceIte, Nat.reduceAdd, Bool.not_true, Bool.not_false, EN, *, -h]; rfl) (by simp +decide only [F, reduceIte, Nat.reduceAdd, Bool.not_true, Bool.not_false, EN, *, -h]; rfl)), mL1, by omega, (IntKind.i64.wrap (v6 + 1)), (((List.take v9_L2.toNat r50000) ++ [x56]) ++ (List.drop v9_L2.toNat r50000)), ((s72.h 7050000).1 + 1), ?_, ?_, ?_, ?_, ?_, ?_, h⟩
  all_goals simp +decide only [F, reduceIte, Nat.reduceAdd, Bool.not_true, Bool.not_false, EN, *, -h]

end Go.Proofs.YtcpahpbjjnekkaaGreat.gen
