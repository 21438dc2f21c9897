/-
  Helper text: walks: each function's contract out of its model. No conditions beyond those of each contract.
-/
import Derived.Test.YtgemmnkhddlhpaaGreatNewBucketTi
import Derived.Test.YtgemmnkhddlhpaaGreatNewBucketWspec0
import Derived.Test.YtgemmnkhddlhpaaGreatNewBucketWspec1
namespace Go.Proofs.YtgemmnkhddlhpaaGreat.gen
open Go Go.Sh
set_option linter.unusedVariables false
set_option linter.unusedSimpArgs false
set_option maxRecDepth 20000 in
set_option maxHeartbeats 4000000 in
theorem c_spec_IsDatabase (p0 : M.Database) (r : Bool) (h : m_spec_IsDatabase p0 = some r) : SCalls Tryz.prog 148 [(true, M.Database.en p0)] [(false, [.ro (.bool r)])] := by
  unfold m_spec_IsDatabase at h
  simp only [M.Database.en]
  refine scalls_n (N := 124) (vars := [.tmp 2]) Tryz.func148 rfl rfl rfl (by decide +kernel) (Nat.le_of_ble_eq_true rfl) fun base wd => ?_
  refine sq (rn ?_)
  refine an (sq (sq (rn ?_)))
  refine an (bk ?_)
  refine SW_loop (fun m s => ∃ v3 : Int, s.t 1 = .v false [.bp 1 1 0] ∧ s.t 3 = .v false [.dat (.int .i64 v3)] ∧ s.h 1 = (1, .box 30 [.dat (.str p0.Name), .dat (.int .i64 p0.Version), .dat (.sl (List.map M.Store.en p0.Stores)), .dat (.sl (List.map M.IndexDef.en p0.Unique))]) ∧ m_spec_IsDatabase_L1 p0 m v3 = some r) fuel ?_ ?_
  · refine ⟨0, ?_, ?_, ?_, h⟩
    all_goals simp +decide only [F, reduceIte, Nat.reduceAdd, Bool.not_true, Bool.not_false, EN, *, -h]
  rintro mL1 s1 ⟨v3, f2, f3, f4, h⟩
  rcases mL1 with _ | mL1
  · exact absurd h (by simp [m_spec_IsDatabase_L1])
  simp only [m_spec_IsDatabase_L1] at h
  refine sq (sq (rn ?_))
  refine an ?_
  rcases bcase (decide (v3 < (List.length p0.Stores : Int))) with b5 | b5
  · replace h := ite_t b5 h
    refine ct (sk (an (sq (bk (sq ?_)))))
    obtain ⟨x6, h7, h⟩ := bind_some h
    obtain ⟨q8, q9, q10⟩ := idx_some h7
    obtain ⟨x11, h12, h⟩ := bind_some h
    rcases bcase (!x11) with b13 | b13
    · replace h := ite_t b13 h
      refine rd1 mixed (c_spec_IsStore _ _ h12) ?_
      refine an (ct (sq (rn ?_)))
      refine an (rt ?_)
      cases h
      simp [Ret, TB, EN, *]
    replace h := ite_f b13 h
    rcases bcas (decide (v3 > 0)) with b14 | b14
    · replace h := ite_f b14 h
      refine rd1 mixed (c_spec_IsStore _ _ h12) ?_
      refine an (cf (sk (ab (an (rn ?_)))))
      refine aft_i ⟨mL1, by omega, (IntKind.i64.wrap (v3 + 1)), ?_, ?_, ?_, h⟩
      all_goals simp +decide only [F, reduceIte, Nat.reduceAdd, Bool.not_true, Bool.not_false, EN, *, -h]
    replace h := ite_t b14 h
    obtain ⟨x15, h16, h⟩ := bind_some h
    obtain ⟨q17, q18, q19⟩ := idx_some h16
    refine rd1 mixed (c_spec_IsStore _ _ h12) ?_
    refine an ?_
    rcases bcase (!(Op.bytesLess x15.Name.toList x6.Name.toList)) with b20 | b20
    · replace h := ite_t b20 h
      refine ct (sq (rn ?_))
      refine an (rt ?_)
      cases h
      simp [Ret, TB, EN, *]
    replace h := ite_f b20 h
    refine cf (sk (ab (an (rn ?_))))
    refine aft_i ⟨mL1, by omega, (IntKind.i64.wrap (v3 + 1)), ?_, ?_, ?_, h⟩
    all_goals simp +decide only [F, reduceIte, Nat.reduceAdd, Bool.not_true, Bool.not_false, EN, *, -h]
  replace h := ite_f b5 h
  refine cf (xt (aft_cx (aft_ix (aft_x (an (sq (sq (rn ?_))))))))
  refine an (bk ?_)
  refine SW_loop (fun m s => ∃ v4 : Int, s.t 1 = .v false [.bp 1 1 0] ∧ s.t 4 = .v false [.dat (.int .i64 v4)] ∧ s.h 1 = (1, .box 30 [.dat (.str p0.Name), .dat (.int .i64 p0.Version), .dat (.sl (List.map M.Store.en p0.Stores)), .dat (.sl (List.map M.IndexDef.en p0.Unique))]) ∧ m_spec_IsDatabase_L2 p0 m v4 = some r) fuel ?_ ?_
  · refine ⟨0, ?_, ?_, ?_, h⟩
    all_goals simp +decide only [F, reduceIte, Nat.reduceAdd, Bool.not_true, Bool.not_false, EN, *, -h]
  rintro mL2 s21 ⟨v4, f22, f23, f24, h⟩
  rcases mL2 with _ | mL2
  · exact absurd h (by simp [m_spec_IsDatabase_L2])
  simp only [m_spec_IsDatabase_L2] at h
  refine sq (sq (rn ?_))
  refine an ?_
  rcases bcas (decide (v4 < (List.length p0.Unique : Int))) with b25 | b25
  · replace h := ite_f b25 h
    refine cf (xt (aft_cx (aft_ix (aft_x (an (sq ?_))))))
    obtain ⟨x59, h60, h⟩ := bind_some h
    rcases bcas x59 with b61 | b61
    · replace h := ite_f b61 h
      refine rn1 (c_spec_IsName _ _ h60) ?_
      refine an (rt ?_)
      cases h
      simp [Ret, TB, EN, *]
    replace h := ite_t b61 h
    obtain ⟨x62, h63, h⟩ := bind_some h
    rcases bcas x62 with b64 | b64
    · replace h := ite_f b64 h
      refine rn2 (c_spec_IsName _ _ h60) (c_spec_l1In _ _ _ _ h63) ?_
      refine an (rt ?_)
      cases h
      simp [Ret, TB, EN, *]
    replace h := ite_t b64 h
    rcases bcase (decide ((List.length p0.Stores : Int) ≤ 4)) with b65 | b65
    · replace h := ite_t b65 h
      refine rn2 (c_spec_IsName _ _ h60) (c_spec_l1In _ _ _ _ h63) ?_
      refine an (rt ?_)
      cases h
      simp [Ret, TB, EN, *]
    replace h := ite_f b65 h
    refine rn2 (c_spec_IsName _ _ h60) (c_spec_l1In _ _ _ _ h63) ?_
    refine an (rt ?_)
    cases h
    simp [Ret, TB, EN, *]
  replace h := ite_t b25 h
  refine ct (sk (an (sq (bk (sq ?_)))))
  obtain ⟨x26, h27, h⟩ := bind_some h
  obtain ⟨q28, q29, q30⟩ := idx_some h27
  obtain ⟨x31, h32, h⟩ := bind_some h
  refine rd1 mixed (c_spec_FindStore _ _ _ h32) ?_
  refine an (sq (sq ?_))
  rcases bcase (decide (x31 < 0)) with b33 | b33
  · replace h := ite_t b33 h
    refine rn ?_
    refine an (ct (sq (rn ?_)))
    refine an (rt ?_)
    cases h
    simp [Ret, TB, EN, *]
  replace h := ite_f b33 h
  obtain ⟨x34, h35, h⟩ := bind_some h
  refine rn1 (c_spec_IsName _ _ h35) ?_
  refine an ?_
  rcases bcase (!x34) with b36 | b36
  · replace h := ite_t b36 h
    refine ct (sq (rn ?_))
    refine an (rt ?_)
    cases h
    simp [Ret, TB, EN, *]
  replace h := ite_f b36 h
  refine cf (sk (an (sq (sq ?_))))
  obtain ⟨x37, h38, h⟩ := bind_some h
  obtain ⟨q39, q40, q41⟩ := idx_some h38
  obtain ⟨x42, h43, h⟩ := bind_some h
  refine rd1 mixed (c_spec_UniqueFault _ _ _ h43) ?_
  refine an (sq (rn ?_))
  refine an ?_
  rcases bcase x42.2.2 with b44 | b44
  · replace h := ite_t b44 h
    refine ct (sq (rn ?_))
    refine an (rt ?_)
    cases h
    simp [Ret, TB, EN, *]
  replace h := ite_f b44 h
  refine cf (sk (an (sq (rn ?_))))
  refine an (bk ?_)
  obtain ⟨k46, e47, h⟩ := absk (f := fun kk => m_spec_IsDatabase_L3 p0 v4 x26 kk fuel 0) h
  refine SW_loop (fun m s => ∃ v9_L3 : Int, s.t 1 = .v false [.bp 1 1 0] ∧ s.t 4 = .v false [.dat (.int .i64 v4)] ∧ s.t 9 = .v false [.dat (.int .i64 v9_L3)] ∧ s.h 1 = (1, .box 30 [.dat (.str p0.Name), .dat (.int .i64 p0.Version), .dat (.sl (List.map M.Store.en p0.Stores)), .dat (.sl (List.map M.IndexDef.en p0.Unique))]) ∧ m_spec_IsDatabase_L3 p0 v4 x26 k46 m v9_L3 = some r) fuel ?_ ?_
  · refine ⟨0, ?_, ?_, ?_, ?_, h⟩
    all_goals simp +decide only [F, reduceIte, Nat.reduceAdd, Bool.not_true, Bool.not_false, EN, *, -h]
  rintro mL3 s45 ⟨v9_L3, f48, f49, f50, f51, h⟩
  rcases mL3 with _ | mL3
  · exact absurd h (by simp [m_spec_IsDatabase_L3])
  simp only [m_spec_IsDatabase_L3] at h
  refine sq (sq (rn ?_))
  refine an ?_
  rcases bcas (decide (v9_L3 < v4)) with b52 | b52
  · replace h := ite_f b52 h
    refine cf (xt (aft_cx ?_))
    subst e47
    refine aft_ix (aft_x (ab (an (rn ?_))))
    refine aft_i ⟨mL2, by omega, (IntKind.i64.wrap (v4 + 1)), ?_, ?_, ?_, h⟩
    all_goals simp +decide only [F, reduceIte, Nat.reduceAdd, Bool.not_true, Bool.not_false, EN, *, -h]
  replace h := ite_t b52 h
  refine ct (sk (an (sq (bk (sq ?_)))))
  obtain ⟨x53, h54, h⟩ := bind_some h
  obtain ⟨q55, q56, q57⟩ := idx_some h54
  refine rd mixed ?_
  refine an ?_
  rcases bcase ((x53.Store.toList == x26.Store.toList) && (x53.Field.toList == x26.Field.toList)) with b58 | b58
  · replace h := ite_t b58 h
    refine ct (sq (rn ?_))
    refine an (rt ?_)
    cases h
    simp [Ret, TB, EN, *]
  replace h := ite_f b58 h
  refine cf (sk (ab (an (rn ?_))))
  refine aft_i ⟨mL3, by omega, (IntKind.i64.wrap (v9_L3 + 1)), ?_, ?_, ?_, ?_, h⟩
  all_goals simp +decide only [F, reduceIte, Nat.reduceAdd, Bool.not_true, Bool.not_false, EN, *, -h]

set_option maxRecDepth 20000 in
set_option maxHeartbeats 4000000 in
theorem c_spec_IsReplica (p0 : M.Replica) (r : Bool) (h : m_spec_IsReplica p0 = some r) : SCalls Tryz.prog 149 [(true, M.Replica.en p0)] [(false, [.ro (.bool r)])] := by
  unfold m_spec_IsReplica at h
  simp only [M.Replica.en]
  refine scalls_n (N := 23) (vars := [.tmp 2]) Tryz.func149 rfl rfl rfl (by decide +kernel) (Nat.le_of_ble_eq_true rfl) fun base wd => ?_
  refine sq (rn ?_)
  refine an (sq ?_)
  obtain ⟨x1, h2, h⟩ := bind_some h
  rcases bcas x1 with b3 | b3
  · replace h := ite_f b3 h
    refine rn1 (c_spec_IsStore _ _ h2) ?_
    refine an (rt ?_)
    cases h
    simp [Ret, TB, EN, *]
  replace h := ite_t b3 h
  rcases bcas (p0.Base.Name.toList == (⟨#[110, 111, 116, 101, 115]⟩ : ByteArray).toList) with b4 | b4
  · replace h := ite_f b4 h
    refine rn1 (c_spec_IsStore _ _ h2) ?_
    refine an (rt ?_)
    cases h
    simp [Ret, TB, EN, *]
  replace h := ite_t b4 h
  obtain ⟨x5, h6, h⟩ := bind_some h
  rcases bcas x5 with b7 | b7
  · replace h := ite_f b7 h
    refine rn2 (c_spec_IsStore _ _ h2) (c_spec_l1In _ _ _ _ h6) ?_
    refine an (rt ?_)
    cases h
    simp [Ret, TB, EN, *]
  replace h := ite_t b7 h
  obtain ⟨x8, h9, h⟩ := bind_some h
  refine rn3 (c_spec_IsStore _ _ h2) (c_spec_l1In _ _ _ _ h6) (c_spec_IsOutbox _ _ h9) ?_
  refine an (rt ?_)
  cases h
  simp [Ret, TB, EN, *]

set_option maxRecDepth 20000 in
set_option maxHeartbeats 4000000 in
theorem c_spec_StoredSize (p0 : M.Response) (p1 : Bool) (r : Int) (h : m_spec_StoredSize p0 p1 = some r) : SCalls Tryz.prog 336 [(true, M.Response.en p0), (false, [.bool p1])] [(false, [.ro (.int .i64 r)])] := by
  unfold m_spec_StoredSize at h
  simp only [M.Response.en]
  refine scalls_n (N := 10) (vars := [.tmp 4]) Tryz.func336 rfl rfl rfl (by decide +kernel) (Nat.le_of_ble_eq_true rfl) fun base wd => ?_
  refine sq (rn ?_)
  refine an (sq (sq (rn ?_)))
  refine an ?_
  rcases bcase p1 with b1 | b1
  · replace h := ite_t b1 h
    refine ct (sq (rn ?_))
    refine an (rt ?_)
    cases h
    simp [Ret, TB, EN, *]
  replace h := ite_f b1 h
  refine cf (sk (an (sq (rn ?_))))
  refine an (rt ?_)
  cases h
  simp [Ret, TB, EN, *]

set_option maxRecDepth 20000 in
set_option maxHeartbeats 4000000 in
theorem c_spec_SizeCaches (p0 : M.CacheSet) (r : Int) (h : m_spec_SizeCaches p0 = some r) : SCalls Tryz.prog 251 [(true, M.CacheSet.en p0)] [(false, [.ro (.int .i64 r)])] := by
  unfold m_spec_SizeCaches at h
  simp only [M.CacheSet.en]
  refine scalls_n (N := 43) (vars := [.tmp 2]) Tryz.func251 rfl rfl rfl (by decide +kernel) (Nat.le_of_ble_eq_true rfl) fun base wd => ?_
  refine sq (rn ?_)
  refine an (sq (rn ?_))
  refine an (sq (sq (rn ?_)))
  refine an (bk ?_)
  refine SW_loop (fun m s => ∃ v3 : Int, ∃ v4 : Int, s.t 1 = .v false [.bp 1 1 0] ∧ s.t 3 = .v false [.dat (.int .i64 v3)] ∧ s.t 4 = .v false [.dat (.int .i64 v4)] ∧ s.h 1 = (1, .box 26 [.dat (.sl (List.map M.Cache.en p0.Caches))]) ∧ m_spec_SizeCaches_L1 p0 m v3 v4 = some r) fuel ?_ ?_
  · refine ⟨0, 0, ?_, ?_, ?_, ?_, h⟩
    all_goals simp +decide only [F, reduceIte, Nat.reduceAdd, Bool.not_true, Bool.not_false, EN, *, -h]
  rintro mL1 s1 ⟨v3, v4, f2, f3, f4, f5, h⟩
  rcases mL1 with _ | mL1
  · exact absurd h (by simp [m_spec_SizeCaches_L1])
  simp only [m_spec_SizeCaches_L1] at h
  refine sq (sq (rn ?_))
  refine an ?_
  rcases bcas (decide (v4 < (List.length p0.Caches : Int))) with b6 | b6
  · replace h := ite_f b6 h
    refine cf (xt (aft_cx (aft_ix (aft_x (an (sq (rn ?_)))))))
    refine an (rt ?_)
    cases h
    simp [Ret, TB, EN, *]
  replace h := ite_t b6 h
  refine ct (sk (an (sq (bk (sq (rn ?_))))))
  refine an (bk ?_)
  obtain ⟨k8, e9, h⟩ := absk (f := fun kk => m_spec_SizeCaches_L2 p0 v4 kk fuel v3 0) h
  refine SW_loop (fun m s => ∃ v3_L2 : Int, ∃ v5_L2 : Int, s.t 1 = .v false [.bp 1 1 0] ∧ s.t 3 = .v false [.dat (.int .i64 v3_L2)] ∧ s.t 4 = .v false [.dat (.int .i64 v4)] ∧ s.t 5 = .v false [.dat (.int .i64 v5_L2)] ∧ s.h 1 = (1, .box 26 [.dat (.sl (List.map M.Cache.en p0.Caches))]) ∧ m_spec_SizeCaches_L2 p0 v4 k8 m v3_L2 v5_L2 = some r) fuel ?_ ?_
  · refine ⟨v3, 0, ?_, ?_, ?_, ?_, ?_, h⟩
    all_goals simp +decide only [F, reduceIte, Nat.reduceAdd, Bool.not_true, Bool.not_false, EN, *, -h]
  rintro mL2 s7 ⟨v3_L2, v5_L2, f10, f11, f12, f13, f14, h⟩
  rcases mL2 with _ | mL2
  · exact absurd h (by simp [m_spec_SizeCaches_L2])
  simp only [m_spec_SizeCaches_L2] at h
  refine sq (sq ?_)
  obtain ⟨x15, h16, h⟩ := bind_some h
  obtain ⟨q17, q18, q19⟩ := idx_some h16
  refine rn ?_
  refine an ?_
  rcases bcas (decide (v5_L2 < (List.length x15.Entries : Int))) with b20 | b20
  · replace h := ite_f b20 h
    refine cf (xt (aft_cx ?_))
    subst e9
    refine aft_ix (aft_x (ab (an (rn ?_))))
    refine aft_i ⟨mL1, by omega, v3_L2, (IntKind.i64.wrap (v4 + 1)), ?_, ?_, ?_, ?_, h⟩
    all_goals simp +decide only [F, reduceIte, Nat.reduceAdd, Bool.not_true, Bool.not_false, EN, *, -h]
  replace h := ite_t b20 h
  refine ct (sk (an (sq (bk (sq ?_)))))
  obtain ⟨x21, h22, h⟩ := bind_some h
  obtain ⟨q23, q24, q25⟩ := idx_some h22
  refine rn ?_
  refine an ?_
  obtain ⟨x26, h27, h⟩ := bind_some h
  refine rn1 (c_spec_StoredSize _ _ _ h27) ?_
  refine ab (an (rn ?_))
  refine aft_i ⟨mL2, by omega, (IntKind.i64.wrap (v3_L2 + x26)), (IntKind.i64.wrap (v5_L2 + 1)), ?_, ?_, ?_, ?_, ?_, h⟩
  all_goals simp +decide only [F, reduceIte, Nat.reduceAdd, Bool.not_true, Bool.not_false, EN, *, -h]

set_option maxRecDepth 20000 in
set_option maxHeartbeats 4000000 in
theorem c_spec_EncodeKey (p0 : M.Key) (r : (List Int)) (h : m_spec_EncodeKey p0 = some r) : SCalls Tryz.prog 338 [(true, M.Key.en p0)] [(false, [.own 5 1 (List.map enB r)])] := by
  unfold m_spec_EncodeKey at h
  simp only [M.Key.en]
  refine scalls_n (N := 38) (vars := [.tmp 2]) Tryz.func338 rfl rfl rfl (by decide +kernel) (Nat.le_of_ble_eq_true rfl) fun base wd => ?_
  refine sq (rn ?_)
  refine an (sq (sq ?_))
  obtain ⟨x1, h2, h⟩ := bind_some h
  refine rn1 (c_spec_IsKey _ _ h2) ?_
  refine an ?_
  rcases bcase (!x1) with b3 | b3
  · replace h := ite_t b3 h
    refine ct (sq (rn ?_))
    refine an (rt ?_)
    cases h
    simp [Ret, TB, EN, *]
  replace h := ite_f b3 h
  refine cf (sk (an (sq (rn ?_))))
  refine an (sq (sq ?_))
  refine cu (fun s => s.t 1 = .v false [.bp 1 1 0] ∧ s.t 3 = .v false [.row 100012 1] ∧ s.h 1 = (1, .box 259 [.dat (.int .i64 p0.Kind), .dat (.int .i64 p0.N), .dat (.str p0.Text)]) ∧ s.h 100012 = (1, .row 5 1 (List.map enB ([(IntKind.u8.wrap p0.Kind)])) true) ∧ True) ?_
  rintro s4 ⟨f5, f6, f7, f8, _⟩
  refine rn ?_
  refine an (bk ?_)
  refine SW_loop (fun m s => ∃ v4 : Int, ∃ r12 : List Int, ∃ u12 : Nat, s.t 1 = .v false [.bp 1 1 0] ∧ s.t 3 = .v false [.row 100012 u12] ∧ s.t 4 = .v false [.dat (.int .i64 v4)] ∧ s.h 1 = (1, .box 259 [.dat (.int .i64 p0.Kind), .dat (.int .i64 p0.N), .dat (.str p0.Text)]) ∧ s.h 100012 = (u12, .row 5 1 (List.map enB r12) true) ∧ m_spec_EncodeKey_L1 p0 m v4 r12 = some r) fuel ?_ ?_
  · refine ⟨5, ([(IntKind.u8.wrap p0.Kind)]), 1, ?_, ?_, ?_, ?_, ?_, h⟩
    all_goals simp +decide only [F, reduceIte, Nat.reduceAdd, Bool.not_true, Bool.not_false, EN, *, -h]
  rintro mL1 s9 ⟨v4, r12, u12, f10, f11, f12, f13, f14, h⟩
  rcases mL1 with _ | mL1
  · exact absurd h (by simp [m_spec_EncodeKey_L1])
  simp only [m_spec_EncodeKey_L1] at h
  refine sq (sq ?_)
  rcases bcas (decide (v4 ≥ 0)) with b15 | b15
  · replace h := ite_f b15 h
    refine rn ?_
    refine an (cf (xt (aft_cx (aft_ix (aft_x (an (sq ?_)))))))
    obtain ⟨x28, h29, h⟩ := bind_some h
    refine rn1 h29 ?_
    refine an (rt ?_)
    cases h
    simp [Ret, TB, EN, *]
  replace h := ite_t b15 h
  refine rn ?_
  refine an ?_
  rcases bcas (p0.Kind != 2) with b16 | b16
  · replace h := ite_f b16 h
    refine cf (xt (aft_cx (aft_ix (aft_x (an (sq ?_))))))
    obtain ⟨x26, h27, h⟩ := bind_some h
    refine rn1 h27 ?_
    refine an (rt ?_)
    cases h
    simp [Ret, TB, EN, *]
  replace h := ite_t b16 h
  refine ct (sk (an (sq (bk ?_))))
  rcases bcas (decide (0 ≤ (IntKind.i64.wrap (8 * v4)))) with b17 | b17
  · replace h := ite_f b17 h
    cases h
  replace h := ite_t b17 h
  obtain ⟨x18, h19, h⟩ := bind_some h
  apply SW_run
  · simp +decide only [E, reduceIte, Nat.reduceAdd, Nat.reduceMul, Bool.not_true, Bool.not_false, shr_ok, L, ti3, ti5, ti31, ti259, enB, b3, f10, f11, f12, f13, f14, b15, b16, b17]
    refine ⟨by (have hb := app_some h19); simp [enB, List.length_append, strBytes_len] at hb ⊢ <;> omega, ?_⟩
    try simp +decide only [E, reduceIte, Nat.reduceAdd, Nat.reduceMul, Bool.not_true, Bool.not_false, shr_ok, L, ti3, ti5, ti31, ti259, enB, b3, f10, f11, f12, f13, f14, b15, b16, b17]
    exact Is.mk _
  refine ab (an ?_)
  refine cu (fun s => s.t 1 = .v false [.bp 1 1 0] ∧ s.t 3 = .v false [.row 100012 (u12 + 1)] ∧ s.t 4 = .v false [.dat (.int .i64 v4)] ∧ s.h 1 = (1, .box 259 [.dat (.int .i64 p0.Kind), .dat (.int .i64 p0.N), .dat (.str p0.Text)]) ∧ s.h 100012 = ((u12 + 1), .row 5 1 (List.map enB (r12 ++ [(IntKind.u8.wrap (IntKind.i64.wrap (BitVec.ofInt (IntKind.i64.bits) (Int.fdiv (IntKind.i64.wrap (p0.N + 1000000000000)) (2 ^ (min (IntKind.i64.wrap (8 * v4)).toNat IntKind.i64.bits))) &&& BitVec.ofInt (IntKind.i64.bits) 255).toNat))])) true) ∧ True) ?_
  rintro s20 ⟨f21, f22, f23, f24, f25, _⟩
  refine rn ?_
  refine aft_i ⟨mL1, by omega, (IntKind.i64.wrap (v4 - 1)), (r12 ++ [(IntKind.u8.wrap (IntKind.i64.wrap (BitVec.ofInt (IntKind.i64.bits) (Int.fdiv (IntKind.i64.wrap (p0.N + 1000000000000)) (2 ^ (min (IntKind.i64.wrap (8 * v4)).toNat IntKind.i64.bits))) &&& BitVec.ofInt (IntKind.i64.bits) 255).toNat))]), (u12 + 1), ?_, ?_, ?_, ?_, ?_, h⟩
  all_goals simp +decide only [F, reduceIte, Nat.reduceAdd, Bool.not_true, Bool.not_false, EN, *, -h]

set_option maxRecDepth 20000 in
set_option maxHeartbeats 4000000 in
theorem c_spec_AppendUvarint (p0 : List Int) (p1 : Int) (r : (List Int)) (h : m_spec_AppendUvarint p0 p1 = some r) : SCalls Tryz.prog 395 [(false, [.sl (List.map enB p0)]), (false, [.int .i64 p1])] [(false, [.own 5 1 (List.map enB r)])] := by
  unfold m_spec_AppendUvarint at h
  refine scalls_n (N := 29) (vars := [.tmp 4]) Tryz.func395 rfl rfl rfl (by decide +kernel) (Nat.le_of_ble_eq_true rfl) fun base wd => ?_
  refine sq (rn ?_)
  refine an (sq ?_)
  obtain ⟨x1, h2, h⟩ := bind_some h
  refine rn1 h2 ?_
  refine an (sq (sq ?_))
  refine cu (fun s => s.t 1 = .v false [.dat (.int .i64 p1)] ∧ s.t 5 = .v false [.row 100006 2] ∧ s.h 100006 = (2, .row 5 1 (List.map enB p0) true) ∧ True) ?_
  rintro s3 ⟨f4, f5, f6, _⟩
  obtain ⟨x7, h8, h⟩ := bind_some h
  refine rn1 (c_spec_l1In _ _ _ _ h8) ?_
  refine an ?_
  rcases bcase (!x7) with b9 | b9
  · replace h := ite_t b9 h
    refine ct (sq (rn ?_))
    refine an (rt ?_)
    cases h
    simp [Ret, TB, EN, *]
  replace h := ite_f b9 h
  refine cf (sk (an (sq (bk ?_))))
  refine SW_loop (fun m s => ∃ v1 : Int, ∃ r6 : List Int, ∃ u6 : Nat, s.t 1 = .v false [.dat (.int .i64 v1)] ∧ s.t 5 = .v false [.row 100006 u6] ∧ s.h 100006 = (u6, .row 5 1 (List.map enB r6) true) ∧ m_spec_AppendUvarint_L1 m v1 r6 = some r) fuel ?_ ?_
  · refine ⟨p1, p0, 2, ?_, ?_, ?_, h⟩
    all_goals simp +decide only [F, reduceIte, Nat.reduceAdd, Bool.not_true, Bool.not_false, EN, *, -h]
  rintro mL1 s10 ⟨v1, r6, u6, f11, f12, f13, h⟩
  rcases mL1 with _ | mL1
  · exact absurd h (by simp [m_spec_AppendUvarint_L1])
  simp only [m_spec_AppendUvarint_L1] at h
  refine sq (sq (rn ?_))
  refine an ?_
  rcases bcas (decide (v1 > 127)) with b14 | b14
  · replace h := ite_f b14 h
    refine cf (xt (aft_cx (aft_ix (aft_x (an (sq ?_))))))
    obtain ⟨x21, h22, h⟩ := bind_some h
    refine rn1 h22 ?_
    refine an (rt ?_)
    cases h
    simp [Ret, TB, EN, *]
  replace h := ite_t b14 h
  refine ct (sk (an (bk (sq ?_))))
  obtain ⟨x15, h16, h⟩ := bind_some h
  refine rn1 h16 ?_
  refine an ?_
  refine cu (fun s => s.t 1 = .v false [.dat (.int .i64 v1)] ∧ s.t 5 = .v false [.row 100006 (u6 + 1)] ∧ s.h 100006 = ((u6 + 1), .row 5 1 (List.map enB (r6 ++ [(IntKind.u8.wrap (IntKind.i64.wrap (BitVec.ofInt (IntKind.i64.bits) (IntKind.i64.wrap (BitVec.ofInt (IntKind.i64.bits) v1 &&& BitVec.ofInt (IntKind.i64.bits) 127).toNat) ||| BitVec.ofInt (IntKind.i64.bits) 128).toNat))])) true) ∧ True) ?_
  rintro s17 ⟨f18, f19, f20, _⟩
  apply SW_run
  · simp +decide only [E, reduceIte, Nat.reduceAdd, Nat.reduceMul, Bool.not_true, Bool.not_false, Int.reduceLT, shr_ok, L, b9, b14, f18, f19, f20]
    exact Is.mk _
  refine ab ?_
  refine aft_i ⟨mL1, by omega, (Int.fdiv v1 (2 ^ (min (7 : Int).toNat IntKind.i64.bits))), (r6 ++ [(IntKind.u8.wrap (IntKind.i64.wrap (BitVec.ofInt (IntKind.i64.bits) (IntKind.i64.wrap (BitVec.ofInt (IntKind.i64.bits) v1 &&& BitVec.ofInt (IntKind.i64.bits) 127).toNat) ||| BitVec.ofInt (IntKind.i64.bits) 128).toNat))]), (u6 + 1), ?_, ?_, ?_, h⟩
  all_goals simp +decide only [F, reduceIte, Nat.reduceAdd, Bool.not_true, Bool.not_false, EN, *, -h]

set_option maxRecDepth 20000 in
set_option maxHeartbeats 4000000 in
theorem c_spec_AppendBytes (p0 : List Int) (p1 : List Int) (r : (List Int)) (h : m_spec_AppendBytes p0 p1 = some r) : SCalls Tryz.prog 396 [(false, [.sl (List.map enB p0)]), (false, [.sl (List.map enB p1)])] [(false, [.own 5 1 (List.map enB r)])] := by
  unfold m_spec_AppendBytes at h
  refine scalls_n (N := 11) (vars := [.tmp 4]) Tryz.func396 rfl rfl rfl (by decide +kernel) (Nat.le_of_ble_eq_true rfl) fun base wd => ?_
  refine sq (rn ?_)
  refine an (sq ?_)
  obtain ⟨x1, h2, h⟩ := bind_some h
  obtain ⟨x3, h4, h⟩ := bind_some h
  refine rn2 (c_spec_AppendUvarint _ _ _ h2) h4 ?_
  refine an (rt ?_)
  cases h
  simp [Ret, TB, EN, *]

set_option maxRecDepth 20000 in
set_option maxHeartbeats 4000000 in
theorem c_spec_EncodeRecord (p0 : M.Record) (r : (List Int)) (h : m_spec_EncodeRecord p0 = some r) : SCalls Tryz.prog 339 [(true, M.Record.en p0)] [(false, [.own 5 1 (List.map enB r)])] := by
  unfold m_spec_EncodeRecord at h
  simp only [M.Record.en]
  refine scalls_n (N := 38) (vars := [.tmp 2]) Tryz.func339 rfl rfl rfl (by decide +kernel) (Nat.le_of_ble_eq_true rfl) fun base wd => ?_
  refine sq (rn ?_)
  refine an (sq (sq ?_))
  obtain ⟨x1, h2, h⟩ := bind_some h
  refine rn1 (c_spec_IsRecord _ _ h2) ?_
  refine an ?_
  rcases bcase (!x1) with b3 | b3
  · replace h := ite_t b3 h
    refine ct (sq (rn ?_))
    refine an (rt ?_)
    cases h
    simp [Ret, TB, EN, *]
  replace h := ite_f b3 h
  refine cf (sk (an (sq ?_)))
  obtain ⟨x4, h5, h⟩ := bind_some h
  refine rn1 (c_spec_AppendUvarint _ _ _ h5) ?_
  refine an (sq (sq ?_))
  refine cu (fun s => s.t 1 = .v false [.bp 1 1 0] ∧ s.t 3 = .v false [.row 100013 1] ∧ s.h 1 = (1, .box 225 [.dat (.sl (List.map M.Field.en p0.Fields))]) ∧ s.h 100013 = (1, .row 5 1 (List.map enB x4) true) ∧ True) ?_
  rintro s6 ⟨f7, f8, f9, f10, _⟩
  refine rn ?_
  refine an (bk ?_)
  refine SW_gho ((Gho.ren_t (i := 3) (K := 7030000) (j := 100013) (by simp +decide only [F, reduceIte, Nat.reduceAdd, Bool.not_true, Bool.not_false, EN, *, -h]; rfl) (by simp +decide only [F, reduceIte, Nat.reduceAdd, Bool.not_true, Bool.not_false, EN, *, -h]; rfl))) ?_
  refine SW_loopG (fun m s => ∃ v4 : Int, ∃ r30000 : List Int, ∃ u30000 : Nat, s.t 1 = .v false [.bp 1 1 0] ∧ s.t 3 = .v false [.row 7030000 u30000] ∧ s.t 4 = .v false [.dat (.int .i64 v4)] ∧ s.h 1 = (1, .box 225 [.dat (.sl (List.map M.Field.en p0.Fields))]) ∧ s.h 7030000 = (u30000, .row 5 1 (List.map enB r30000) true) ∧ m_spec_EncodeRecord_L1 p0 m v4 r30000 = some r) fuel ?_ ?_
  · refine ⟨0, x4, ((s6.h 7030000).1 + 1), ?_, ?_, ?_, ?_, ?_, h⟩
    all_goals simp +decide only [F, reduceIte, Nat.reduceAdd, Bool.not_true, Bool.not_false, EN, *, -h]
  rintro mL1 s11 ⟨v4, r30000, u30000, f12, f13, f14, f15, f16, h⟩
  rcases mL1 with _ | mL1
  · exact absurd h (by simp [m_spec_EncodeRecord_L1])
  simp only [m_spec_EncodeRecord_L1] at h
  refine sq (sq (rn ?_))
  refine an ?_
  rcases bcas (decide (v4 < (List.length p0.Fields : Int))) with b17 | b17
  · replace h := ite_f b17 h
    refine cf (xt (aft_cx (aft_ix (aft_x (an (sq (rn ?_)))))))
    refine an (rt ?_)
    cases h
    simp [Ret, TB, EN, *]
  replace h := ite_t b17 h
  refine ct (sk (an (sq (bk ?_))))
  obtain ⟨x18, h19, h⟩ := bind_some h
  obtain ⟨q20, q21, q22⟩ := idx_some h19
  obtain ⟨x23, h24, h⟩ := bind_some h
  obtain ⟨x25, h26, h⟩ := bind_some h
  refine rd2 mixed (c_spec_AppendBytes _ _ _ h24) (c_spec_AppendUvarint _ _ _ h26) ?_
  refine ab (an (rn ?_))
  refine aft_i ⟨_, (Gho.ren_t (i := 3) (K := 7030000) (j := 100036) (by simp +decide only [F, reduceIte, Nat.reduceAdd, Bool.not_true, Bool.not_false, EN, *, -h]; rfl) (by simp +decide only [F, reduceIte, Nat.reduceAdd, Bool.not_true, Bool.not_false, EN, *, -h]; rfl)), mL1, by omega, (IntKind.i64.wrap (v4 + 1)), x25, (u30000 + 1), ?_, ?_, ?_, ?_, ?_, h⟩
  all_goals simp +decide only [F, reduceIte, Nat.reduceAdd, Bool.not_true, Bool.not_false, EN, *, -h]

set_option maxRecDepth 20000 in
set_option maxHeartbeats 4000000 in
theorem c_spec_SizeStore (p0 : M.Store) (r : Int) (h : m_spec_SizeStore p0 = some r) : SCalls Tryz.prog 253 [(true, M.Store.en p0)] [(false, [.ro (.int .i64 r)])] := by
  unfold m_spec_SizeStore at h
  simp only [M.Store.en]
  refine scalls_n (N := 32) (vars := [.tmp 2]) Tryz.func253 rfl rfl rfl (by decide +kernel) (Nat.le_of_ble_eq_true rfl) fun base wd => ?_
  refine sq (rn ?_)
  refine an (sq (rn ?_))
  refine an (sq (sq (rn ?_)))
  refine an (bk ?_)
  refine SW_loop (fun m s => ∃ v3 : Int, ∃ v4 : Int, s.t 1 = .v false [.bp 1 1 0] ∧ s.t 3 = .v false [.dat (.int .i64 v3)] ∧ s.t 4 = .v false [.dat (.int .i64 v4)] ∧ s.h 1 = (1, .box 36 [.dat (.str p0.Name), .dat (.sl (List.map M.Item.en p0.Items)), .dat (.int .i64 p0.Auto)]) ∧ m_spec_SizeStore_L1 p0 m v3 v4 = some r) fuel ?_ ?_
  · refine ⟨0, 0, ?_, ?_, ?_, ?_, h⟩
    all_goals simp +decide only [F, reduceIte, Nat.reduceAdd, Bool.not_true, Bool.not_false, EN, *, -h]
  rintro mL1 s1 ⟨v3, v4, f2, f3, f4, f5, h⟩
  rcases mL1 with _ | mL1
  · exact absurd h (by simp [m_spec_SizeStore_L1])
  simp only [m_spec_SizeStore_L1] at h
  refine sq (sq (rn ?_))
  refine an ?_
  rcases bcas (decide (v4 < (List.length p0.Items : Int))) with b6 | b6
  · replace h := ite_f b6 h
    refine cf (xt (aft_cx (aft_ix (aft_x (an (sq (rn ?_)))))))
    refine an (rt ?_)
    cases h
    simp [Ret, TB, EN, *]
  replace h := ite_t b6 h
  refine ct (sk (an (sq (bk ?_))))
  obtain ⟨x7, h8, h⟩ := bind_some h
  obtain ⟨q9, q10, q11⟩ := idx_some h8
  obtain ⟨x12, h13, h⟩ := bind_some h
  obtain ⟨x14, h15, h⟩ := bind_some h
  refine rd2 mixed (c_spec_EncodeKey _ _ h13) (c_spec_EncodeRecord _ _ h15) ?_
  refine ab (an (rn ?_))
  refine aft_i ⟨mL1, by omega, (IntKind.i64.wrap ((IntKind.i64.wrap (v3 + (List.length x12 : Int))) + (List.length x14 : Int))), (IntKind.i64.wrap (v4 + 1)), ?_, ?_, ?_, ?_, h⟩
  all_goals simp +decide only [F, reduceIte, Nat.reduceAdd, Bool.not_true, Bool.not_false, EN, *, -h]

set_option maxRecDepth 20000 in
set_option maxHeartbeats 4000000 in
theorem c_spec_SizeDatabase (p0 : M.Database) (r : Int) (h : m_spec_SizeDatabase p0 = some r) : SCalls Tryz.prog 337 [(true, M.Database.en p0)] [(false, [.ro (.int .i64 r)])] := by
  unfold m_spec_SizeDatabase at h
  simp only [M.Database.en]
  refine scalls_n (N := 21) (vars := [.tmp 2]) Tryz.func337 rfl rfl rfl (by decide +kernel) (Nat.le_of_ble_eq_true rfl) fun base wd => ?_
  refine sq (rn ?_)
  refine an (sq (rn ?_))
  refine an (sq (sq (rn ?_)))
  refine an (bk ?_)
  refine SW_loop (fun m s => ∃ v3 : Int, ∃ v4 : Int, s.t 1 = .v false [.bp 1 1 0] ∧ s.t 3 = .v false [.dat (.int .i64 v3)] ∧ s.t 4 = .v false [.dat (.int .i64 v4)] ∧ s.h 1 = (1, .box 30 [.dat (.str p0.Name), .dat (.int .i64 p0.Version), .dat (.sl (List.map M.Store.en p0.Stores)), .dat (.sl (List.map M.IndexDef.en p0.Unique))]) ∧ m_spec_SizeDatabase_L1 p0 m v3 v4 = some r) fuel ?_ ?_
  · refine ⟨0, 0, ?_, ?_, ?_, ?_, h⟩
    all_goals simp +decide only [F, reduceIte, Nat.reduceAdd, Bool.not_true, Bool.not_false, EN, *, -h]
  rintro mL1 s1 ⟨v3, v4, f2, f3, f4, f5, h⟩
  rcases mL1 with _ | mL1
  · exact absurd h (by simp [m_spec_SizeDatabase_L1])
  simp only [m_spec_SizeDatabase_L1] at h
  refine sq (sq (rn ?_))
  refine an ?_
  rcases bcas (decide (v4 < (List.length p0.Stores : Int))) with b6 | b6
  · replace h := ite_f b6 h
    refine cf (xt (aft_cx (aft_ix (aft_x (an (sq (rn ?_)))))))
    refine an (rt ?_)
    cases h
    simp [Ret, TB, EN, *]
  replace h := ite_t b6 h
  refine ct (sk (an (sq (bk ?_))))
  obtain ⟨x7, h8, h⟩ := bind_some h
  obtain ⟨q9, q10, q11⟩ := idx_some h8
  obtain ⟨x12, h13, h⟩ := bind_some h
  refine rn1 (c_spec_SizeStore _ _ h13) ?_
  refine ab (an (rn ?_))
  refine aft_i ⟨mL1, by omega, (IntKind.i64.wrap (v3 + x12)), (IntKind.i64.wrap (v4 + 1)), ?_, ?_, ?_, ?_, h⟩
  all_goals simp +decide only [F, reduceIte, Nat.reduceAdd, Bool.not_true, Bool.not_false, EN, *, -h]

set_option maxRecDepth 20000 in
set_option maxHeartbeats 4000000 in
theorem c_spec_SizeDisk (p0 : M.Disk) (r : Int) (h : m_spec_SizeDisk p0 = some r) : SCalls Tryz.prog 252 [(true, M.Disk.en p0)] [(false, [.ro (.int .i64 r)])] := by
  unfold m_spec_SizeDisk at h
  simp only [M.Disk.en]
  refine scalls_n (N := 10) (vars := [.tmp 2]) Tryz.func252 rfl rfl rfl (by decide +kernel) (Nat.le_of_ble_eq_true rfl) fun base wd => ?_
  refine sq (rn ?_)
  refine an (sq ?_)
  obtain ⟨x1, h2, h⟩ := bind_some h
  refine rd1 mixed (c_spec_SizeDatabase _ _ h2) ?_
  refine an (rt ?_)
  cases h
  simp [Ret, TB, EN, *]

set_option maxRecDepth 20000 in
set_option maxHeartbeats 4000000 in
theorem c_spec_UsageOf (p0 : M.Bucket) (r : Int) (h : m_spec_UsageOf p0 = some r) : SCalls Tryz.prog 151 [(true, M.Bucket.en p0)] [(false, [.ro (.int .i64 r)])] := by
  unfold m_spec_UsageOf at h
  simp only [M.Bucket.en]
  refine scalls_n (N := 23) (vars := [.tmp 2]) Tryz.func151 rfl rfl rfl (by decide +kernel) (Nat.le_of_ble_eq_true rfl) fun base wd => ?_
  refine sq (rn ?_)
  refine an (sq ?_)
  obtain ⟨x1, h2, h⟩ := bind_some h
  obtain ⟨x3, h4, h⟩ := bind_some h
  obtain ⟨x5, h6, h⟩ := bind_some h
  refine rd3 mixed (c_spec_SizeCaches _ _ h2) (c_spec_SizeDisk _ _ h4) (c_spec_SizeStore _ _ h6) ?_
  refine an (rt ?_)
  cases h
  simp [Ret, TB, EN, *]

end Go.Proofs.YtgemmnkhddlhpaaGreat.gen
