/-
  Helper text: walks: each function's contract out of its model. No conditions beyond those of each contract.
-/
import Derived.Test.YtgemmnkhddlhpaaGreatNewBucketTi
import Derived.Test.YtgemmnkhddlhpaaGreatNewBucketWimpl0
import Derived.Test.YtgemmnkhddlhpaaGreatNewBucketWimpl1
namespace Go.Proofs.YtgemmnkhddlhpaaGreat.gen
open Go Go.Sh
set_option linter.unusedVariables false
set_option linter.unusedSimpArgs false
set_option maxRecDepth 20000 in
set_option maxHeartbeats 4000000 in
theorem c_impl_UniqueFault (p0 : M.Store) (p1 : ByteArray) (r : (M.Key × M.Key × Bool)) (h : m_impl_UniqueFault p0 p1 = some r) : SCalls Tryz.prog 260 [(true, M.Store.en p0), (false, [.str p1])] [(true, [.ro (.int .i64 r.1.Kind), .ro (.int .i64 r.1.N), .ro (.str r.1.Text)]), (true, [.ro (.int .i64 r.2.1.Kind), .ro (.int .i64 r.2.1.N), .ro (.str r.2.1.Text)]), (false, [.ro (.bool r.2.2)])] := by
  unfold m_impl_UniqueFault at h
  simp only [M.Store.en]
  refine scalls_n (N := 59) (vars := [.cell 4 259, .cell 5 259, .tmp 6]) Tryz.func260 rfl rfl rfl (by decide +kernel) (Nat.le_of_ble_eq_true rfl) fun base wd => ?_
  refine sq (rn ?_)
  refine an (sq ?_)
  obtain ⟨x1, h2, h⟩ := bind_some h
  refine rn1 (c_impl_IndexOn _ _ _ h2) ?_
  refine an (sq (sq (rn ?_)))
  refine an (bk ?_)
  refine SW_loop (fun m s => ∃ v8 : Int, s.t 1 = .v false [.dat (.str p1)] ∧ s.t 4 = .v false [.bp 4 1 0] ∧ s.t 5 = .v false [.bp 5 1 0] ∧ s.t 7 = .v false [.row 100015 1] ∧ s.t 8 = .v false [.dat (.int .i64 v8)] ∧ s.h 4 = (1, .box 259 [.dat (.int .i64 0), .dat (.int .i64 0), .dat (.str (⟨#[]⟩ : ByteArray))]) ∧ s.h 5 = (1, .box 259 [.dat (.int .i64 0), .dat (.int .i64 0), .dat (.str (⟨#[]⟩ : ByteArray))]) ∧ s.h 100015 = (1, .row 315 4 (List.map M.Item.en x1) true) ∧ m_impl_UniqueFault_L1 p1 x1 m v8 = some r) fuel ?_ ?_
  · refine ⟨1, ?_, ?_, ?_, ?_, ?_, ?_, ?_, ?_, h⟩
    all_goals simp +decide only [F, reduceIte, Nat.reduceAdd, Bool.not_true, Bool.not_false, EN, *, -h]
  rintro mL1 s3 ⟨v8, f4, f5, f6, f7, f8, f9, f10, f11, h⟩
  rcases mL1 with _ | mL1
  · exact absurd h (by simp [m_impl_UniqueFault_L1])
  simp only [m_impl_UniqueFault_L1] at h
  refine sq (sq (rn ?_))
  refine an ?_
  rcases bcas (decide (v8 < (List.length x1 : Int))) with b12 | b12
  · replace h := ite_f b12 h
    refine cf (xt (aft_cx (aft_ix (aft_x (an (sq (rn ?_)))))))
    refine an (rt ?_)
    cases h
    simp [Ret, TB, EN, *]
  replace h := ite_t b12 h
  refine ct (sk (an (sq (bk (sq ?_)))))
  obtain ⟨x13, h14, h⟩ := bind_some h
  obtain ⟨q15, q16, q17⟩ := idx_some h14
  obtain ⟨x18, h19, h⟩ := bind_some h
  refine rn1 (c_impl_GetField _ _ _ h19) ?_
  refine an (sq ?_)
  obtain ⟨x20, h21, h⟩ := bind_some h
  obtain ⟨q22, q23, q24⟩ := idx_some h21
  obtain ⟨x25, h26, h⟩ := bind_some h
  refine rn1 (c_impl_GetField _ _ _ h26) ?_
  refine an (sq (rn ?_))
  refine an ?_
  rcases bcase (x18.1 == x25.1) with b27 | b27
  · replace h := ite_t b27 h
    refine ct (sq (rd mixed ?_))
    refine an (rt ?_)
    cases h
    simp [Ret, TB, EN, *]
  replace h := ite_f b27 h
  refine cf (sk (ab (an (rn ?_))))
  refine aft_i ⟨mL1, by omega, (IntKind.i64.wrap (v8 + 1)), ?_, ?_, ?_, ?_, ?_, ?_, ?_, ?_, h⟩
  all_goals simp +decide only [F, reduceIte, Nat.reduceAdd, Bool.not_true, Bool.not_false, EN, *, -h]

set_option maxRecDepth 20000 in
set_option maxHeartbeats 4000000 in
theorem c_impl_IsDatabase (p0 : M.Database) (r : Bool) (h : m_impl_IsDatabase p0 = some r) : SCalls Tryz.prog 156 [(true, M.Database.en p0)] [(false, [.ro (.bool r)])] := by
  unfold m_impl_IsDatabase at h
  simp only [M.Database.en]
  refine scalls_n (N := 103) (vars := [.tmp 2]) Tryz.func156 rfl rfl rfl (by decide +kernel) (Nat.le_of_ble_eq_true rfl) fun base wd => ?_
  refine sq (rn ?_)
  refine an (sq (sq ?_))
  obtain ⟨x1, h2, h⟩ := bind_some h
  rcases bcase (!x1) with b3 | b3
  · replace h := ite_t b3 h
    refine rn1 (c_impl_IsName _ _ h2) ?_
    refine an (ct (sq (rn ?_)))
    refine an (rt ?_)
    cases h
    simp [Ret, TB, EN, *]
  replace h := ite_f b3 h
  obtain ⟨x4, h5, h⟩ := bind_some h
  rcases bcase (!x4) with b6 | b6
  · replace h := ite_t b6 h
    refine rn2 (c_impl_IsName _ _ h2) (c_impl_InRange _ _ _ _ h5) ?_
    refine an (ct (sq (rn ?_)))
    refine an (rt ?_)
    cases h
    simp [Ret, TB, EN, *]
  replace h := ite_f b6 h
  rcases bcase (decide ((List.length p0.Stores : Int) > 4)) with b7 | b7
  · replace h := ite_t b7 h
    refine rn2 (c_impl_IsName _ _ h2) (c_impl_InRange _ _ _ _ h5) ?_
    refine an (ct (sq (rn ?_)))
    refine an (rt ?_)
    cases h
    simp [Ret, TB, EN, *]
  replace h := ite_f b7 h
  refine rn2 (c_impl_IsName _ _ h2) (c_impl_InRange _ _ _ _ h5) ?_
  refine an ?_
  rcases bcase (decide ((List.length p0.Unique : Int) > 4)) with b8 | b8
  · replace h := ite_t b8 h
    refine ct (sq (rn ?_))
    refine an (rt ?_)
    cases h
    simp [Ret, TB, EN, *]
  replace h := ite_f b8 h
  refine cf (sk (an (sq (sq (rn ?_)))))
  refine an (bk ?_)
  refine SW_loop (fun m s => ∃ v36 : Int, s.t 1 = .v false [.bp 1 1 0] ∧ s.t 34 = .v false [.dat (.sl (List.map M.Store.en p0.Stores))] ∧ s.t 35 = .v false [.dat (.int .i64 (List.length p0.Stores : Int))] ∧ s.t 36 = .v false [.dat (.int .i64 v36)] ∧ s.h 1 = (1, .box 30 [.dat (.str p0.Name), .dat (.int .i64 p0.Version), .dat (.sl (List.map M.Store.en p0.Stores)), .dat (.sl (List.map M.IndexDef.en p0.Unique))]) ∧ m_impl_IsDatabase_L1 p0 m v36 = some r) fuel ?_ ?_
  · refine ⟨0, ?_, ?_, ?_, ?_, ?_, h⟩
    all_goals simp +decide only [F, reduceIte, Nat.reduceAdd, Bool.not_true, Bool.not_false, EN, *, -h]
  rintro mL1 s9 ⟨v36, f10, f11, f12, f13, f14, h⟩
  rcases mL1 with _ | mL1
  · exact absurd h (by simp [m_impl_IsDatabase_L1])
  simp only [m_impl_IsDatabase_L1] at h
  refine sq (rn ?_)
  refine an (sq ?_)
  rcases bcase (decide (v36 < (List.length p0.Stores : Int))) with b15 | b15
  · replace h := ite_t b15 h
    refine ct (sk (an (sq (bk (sq ?_)))))
    obtain ⟨x16, h17, h⟩ := bind_some h
    obtain ⟨q18, q19, q20⟩ := idx_some h17
    refine rn ?_
    refine an (sq ?_)
    obtain ⟨x21, h22, h⟩ := bind_some h
    rcases bcase (!x21) with b23 | b23
    · replace h := ite_t b23 h
      refine rd1 mixed (c_impl_IsStore _ _ h22) ?_
      refine an (ct (sq (rn ?_)))
      refine an (rt ?_)
      cases h
      simp [Ret, TB, EN, *]
    replace h := ite_f b23 h
    rcases bcas (decide (v36 > 0)) with b24 | b24
    · replace h := ite_f b24 h
      refine rd1 mixed (c_impl_IsStore _ _ h22) ?_
      refine an (cf (sk (ab (an (rn ?_)))))
      refine aft_i ⟨mL1, by omega, (IntKind.i64.wrap (v36 + 1)), ?_, ?_, ?_, ?_, ?_, h⟩
      all_goals simp +decide only [F, reduceIte, Nat.reduceAdd, Bool.not_true, Bool.not_false, EN, *, -h]
    replace h := ite_t b24 h
    obtain ⟨x25, h26, h⟩ := bind_some h
    obtain ⟨q27, q28, q29⟩ := idx_some h26
    refine rd1 mixed (c_impl_IsStore _ _ h22) ?_
    refine an ?_
    rcases bcase (Op.bytesLess x16.Name.toList x25.Name.toList || x16.Name.toList == x25.Name.toList) with b30 | b30
    · replace h := ite_t b30 h
      refine ct (sq (rn ?_))
      refine an (rt ?_)
      cases h
      simp [Ret, TB, EN, *]
    replace h := ite_f b30 h
    refine cf (sk (ab (an (rn ?_))))
    refine aft_i ⟨mL1, by omega, (IntKind.i64.wrap (v36 + 1)), ?_, ?_, ?_, ?_, ?_, h⟩
    all_goals simp +decide only [F, reduceIte, Nat.reduceAdd, Bool.not_true, Bool.not_false, EN, *, -h]
  replace h := ite_f b15 h
  refine cf (xt (aft_cx (aft_ix (aft_x (an (sq (sq (rn ?_))))))))
  refine an (bk ?_)
  refine SW_loop (fun m s => ∃ v64 : Int, s.t 1 = .v false [.bp 1 1 0] ∧ s.t 62 = .v false [.dat (.sl (List.map M.IndexDef.en p0.Unique))] ∧ s.t 63 = .v false [.dat (.int .i64 (List.length p0.Unique : Int))] ∧ s.t 64 = .v false [.dat (.int .i64 v64)] ∧ s.h 1 = (1, .box 30 [.dat (.str p0.Name), .dat (.int .i64 p0.Version), .dat (.sl (List.map M.Store.en p0.Stores)), .dat (.sl (List.map M.IndexDef.en p0.Unique))]) ∧ m_impl_IsDatabase_L2 p0 m v64 = some r) fuel ?_ ?_
  · refine ⟨0, ?_, ?_, ?_, ?_, ?_, h⟩
    all_goals simp +decide only [F, reduceIte, Nat.reduceAdd, Bool.not_true, Bool.not_false, EN, *, -h]
  rintro mL2 s31 ⟨v64, f32, f33, f34, f35, f36, h⟩
  rcases mL2 with _ | mL2
  · exact absurd h (by simp [m_impl_IsDatabase_L2])
  simp only [m_impl_IsDatabase_L2] at h
  refine sq (rn ?_)
  refine an (sq ?_)
  rcases bcas (decide (v64 < (List.length p0.Unique : Int))) with b37 | b37
  · replace h := ite_f b37 h
    refine cf (xt (aft_cx (aft_ix (aft_x (an (sq (rn ?_)))))))
    refine an (rt ?_)
    cases h
    simp [Ret, TB, EN, *]
  replace h := ite_t b37 h
  refine ct (sk (an (sq (bk (sq ?_)))))
  obtain ⟨x38, h39, h⟩ := bind_some h
  obtain ⟨q40, q41, q42⟩ := idx_some h39
  refine rn ?_
  refine an (sq ?_)
  obtain ⟨x43, h44, h⟩ := bind_some h
  refine rn1 (c_impl_FindStore _ _ _ h44) ?_
  refine an (sq (sq ?_))
  rcases bcase (decide (x43 < 0)) with b45 | b45
  · replace h := ite_t b45 h
    refine rd mixed ?_
    refine an (ct (sq (rn ?_)))
    refine an (rt ?_)
    cases h
    simp [Ret, TB, EN, *]
  replace h := ite_f b45 h
  obtain ⟨x46, h47, h⟩ := bind_some h
  rcases bcase (!x46) with b48 | b48
  · replace h := ite_t b48 h
    refine rd1 mixed (c_impl_IsName _ _ h47) ?_
    refine an (ct (sq (rn ?_)))
    refine an (rt ?_)
    cases h
    simp [Ret, TB, EN, *]
  replace h := ite_f b48 h
  obtain ⟨x49, h50, h⟩ := bind_some h
  obtain ⟨x51, h52, h⟩ := bind_some h
  apply SW_runD mixed
  · simp +decide only [E, reduceIte, Nat.reduceAdd, Nat.reduceMul, Bool.not_true, Bool.not_false, ← List.map_take, ← List.map_drop, L, ti9, ti28, ti30, ti337, M.IndexDef.en, b3, b6, b7, b8, b15, f32, f33, f34, f35, f36, b37, q40, q41, q42, b45, b48]
    refine ⟨_, c_impl_IsName _ _ h47, ?_⟩
    try simp +decide only [E, reduceIte, Nat.reduceAdd, Nat.reduceMul, Bool.not_true, Bool.not_false, ← List.map_take, ← List.map_drop, L, ti9, ti28, ti30, ti337, M.IndexDef.en, b3, b6, b7, b8, b15, f32, f33, f34, f35, f36, b37, q40, q41, q42, b45, b48]
    refine ⟨by first | exact slcHi_some (f := M.IndexDef.en) (n := 2) (fun _ => rfl) h50 | exact (slcHi_some (f := M.IndexDef.en) (n := 2) (fun _ => rfl) h50).2 | exact (slcHi_some (f := M.IndexDef.en) (n := 2) (fun _ => rfl) h50).2.2, ?_⟩
    try simp +decide only [E, reduceIte, Nat.reduceAdd, Nat.reduceMul, Bool.not_true, Bool.not_false, ← List.map_take, ← List.map_drop, L, ti9, ti28, ti30, ti337, M.IndexDef.en, b3, b6, b7, b8, b15, f32, f33, f34, f35, f36, b37, q40, q41, q42, b45, b48]
    refine ⟨_, c_slices_Contains_IndexDef _ _ _ h52, ?_⟩
    try simp +decide only [E, reduceIte, Nat.reduceAdd, Nat.reduceMul, Bool.not_true, Bool.not_false, ← List.map_take, ← List.map_drop, L, ti9, ti28, ti30, ti337, M.IndexDef.en, b3, b6, b7, b8, b15, f32, f33, f34, f35, f36, b37, q40, q41, q42, b45, b48]
    exact ⟨.mk (by decide +kernel), Is.mk _⟩
  refine an ?_
  rcases bcase x51 with b53 | b53
  · replace h := ite_t b53 h
    refine ct (sq (rn ?_))
    refine an (rt ?_)
    cases h
    simp [Ret, TB, EN, *]
  replace h := ite_f b53 h
  refine cf (sk (an (sq ?_)))
  obtain ⟨x54, h55, h⟩ := bind_some h
  obtain ⟨q56, q57, q58⟩ := idx_some h55
  obtain ⟨x59, h60, h⟩ := bind_some h
  refine rd1 mixed (c_impl_UniqueFault _ _ _ h60) ?_
  refine an (sq (rn ?_))
  refine an ?_
  rcases bcase x59.2.2 with b61 | b61
  · replace h := ite_t b61 h
    refine ct (sq (rn ?_))
    refine an (rt ?_)
    cases h
    simp [Ret, TB, EN, *]
  replace h := ite_f b61 h
  refine cf (sk (ab (an (rn ?_))))
  refine aft_i ⟨mL2, by omega, (IntKind.i64.wrap (v64 + 1)), ?_, ?_, ?_, ?_, ?_, h⟩
  all_goals simp +decide only [F, reduceIte, Nat.reduceAdd, Bool.not_true, Bool.not_false, EN, *, -h]

set_option maxRecDepth 20000 in
set_option maxHeartbeats 4000000 in
theorem c_impl_IsReplica (p0 : M.Replica) (r : Bool) (h : m_impl_IsReplica p0 = some r) : SCalls Tryz.prog 157 [(true, M.Replica.en p0)] [(false, [.ro (.bool r)])] := by
  unfold m_impl_IsReplica at h
  simp only [M.Replica.en]
  refine scalls_n (N := 23) (vars := [.tmp 2]) Tryz.func157 rfl rfl rfl (by decide +kernel) (Nat.le_of_ble_eq_true rfl) fun base wd => ?_
  refine sq (rn ?_)
  refine an (sq ?_)
  obtain ⟨x1, h2, h⟩ := bind_some h
  rcases bcas x1 with b3 | b3
  · replace h := ite_f b3 h
    refine rn1 (c_impl_IsStore _ _ h2) ?_
    refine an (rt ?_)
    cases h
    simp [Ret, TB, EN, *]
  replace h := ite_t b3 h
  rcases bcas (p0.Base.Name.toList == (⟨#[110, 111, 116, 101, 115]⟩ : ByteArray).toList) with b4 | b4
  · replace h := ite_f b4 h
    refine rn1 (c_impl_IsStore _ _ h2) ?_
    refine an (rt ?_)
    cases h
    simp [Ret, TB, EN, *]
  replace h := ite_t b4 h
  obtain ⟨x5, h6, h⟩ := bind_some h
  rcases bcas x5 with b7 | b7
  · replace h := ite_f b7 h
    refine rn2 (c_impl_IsStore _ _ h2) (c_impl_InRange _ _ _ _ h6) ?_
    refine an (rt ?_)
    cases h
    simp [Ret, TB, EN, *]
  replace h := ite_t b7 h
  obtain ⟨x8, h9, h⟩ := bind_some h
  refine rn3 (c_impl_IsStore _ _ h2) (c_impl_InRange _ _ _ _ h6) (c_impl_IsOutbox _ _ h9) ?_
  refine an (rt ?_)
  cases h
  simp [Ret, TB, EN, *]

set_option maxRecDepth 20000 in
set_option maxHeartbeats 4000000 in
theorem c_impl_StoredSize (p0 : M.Response) (p1 : Bool) (r : Int) (h : m_impl_StoredSize p0 p1 = some r) : SCalls Tryz.prog 347 [(true, M.Response.en p0), (false, [.bool p1])] [(false, [.ro (.int .i64 r)])] := by
  unfold m_impl_StoredSize at h
  simp only [M.Response.en]
  refine scalls_n (N := 10) (vars := [.tmp 4]) Tryz.func347 rfl rfl rfl (by decide +kernel) (Nat.le_of_ble_eq_true rfl) fun base wd => ?_
  refine sq (rn ?_)
  refine an (sq (sq (rn ?_)))
  refine an ?_
  rcases bcase p1 with b1 | b1
  · replace h := ite_t b1 h
    refine ct (sq (rn ?_))
    refine an (rt ?_)
    cases h
    simp [Ret, TB, EN, *]
  replace h := ite_f b1 h
  refine cf (sk (an (sq (rn ?_))))
  refine an (rt ?_)
  cases h
  simp [Ret, TB, EN, *]

set_option maxRecDepth 20000 in
set_option maxHeartbeats 4000000 in
theorem c_impl_SizeCaches (p0 : M.CacheSet) (r : Int) (h : m_impl_SizeCaches p0 = some r) : SCalls Tryz.prog 261 [(true, M.CacheSet.en p0)] [(false, [.ro (.int .i64 r)])] := by
  unfold m_impl_SizeCaches at h
  simp only [M.CacheSet.en]
  refine scalls_n (N := 34) (vars := [.tmp 2]) Tryz.func261 rfl rfl rfl (by decide +kernel) (Nat.le_of_ble_eq_true rfl) fun base wd => ?_
  refine sq (rn ?_)
  refine an (sq (rn ?_))
  refine an (sq (sq (rn ?_)))
  refine an (bk ?_)
  refine SW_loop (fun m s => ∃ v3 : Int, ∃ v11 : Int, s.t 3 = .v false [.dat (.int .i64 v3)] ∧ s.t 9 = .v false [.dat (.sl (List.map M.Cache.en p0.Caches))] ∧ s.t 10 = .v false [.dat (.int .i64 (List.length p0.Caches : Int))] ∧ s.t 11 = .v false [.dat (.int .i64 v11)] ∧ m_impl_SizeCaches_L1 p0 m v3 v11 = some r) fuel ?_ ?_
  · refine ⟨0, 0, ?_, ?_, ?_, ?_, h⟩
    all_goals simp +decide only [F, reduceIte, Nat.reduceAdd, Bool.not_true, Bool.not_false, EN, *, -h]
  rintro mL1 s1 ⟨v3, v11, f2, f3, f4, f5, h⟩
  rcases mL1 with _ | mL1
  · exact absurd h (by simp [m_impl_SizeCaches_L1])
  simp only [m_impl_SizeCaches_L1] at h
  refine sq (rn ?_)
  refine an (sq ?_)
  rcases bcas (decide (v11 < (List.length p0.Caches : Int))) with b6 | b6
  · replace h := ite_f b6 h
    refine cf (xt (aft_cx (aft_ix (aft_x (an (sq (rn ?_)))))))
    refine an (rt ?_)
    cases h
    simp [Ret, TB, EN, *]
  replace h := ite_t b6 h
  refine ct (sk (an (sq (bk (sq ?_)))))
  obtain ⟨x7, h8, h⟩ := bind_some h
  obtain ⟨q9, q10, q11⟩ := idx_some h8
  refine rn ?_
  refine an (sq (rn ?_))
  refine an (bk ?_)
  obtain ⟨k13, e14, h⟩ := absk (f := fun kk => m_impl_SizeCaches_L2 x7 kk fuel v3 0) h
  refine SW_loop (fun m s => ∃ v3_L2 : Int, ∃ v18_L2 : Int, s.t 3 = .v false [.dat (.int .i64 v3_L2)] ∧ s.t 9 = .v false [.dat (.sl (List.map M.Cache.en p0.Caches))] ∧ s.t 10 = .v false [.dat (.int .i64 (List.length p0.Caches : Int))] ∧ s.t 11 = .v false [.dat (.int .i64 v11)] ∧ s.t 16 = .v false [.dat (.sl (List.map M.Cached.en x7.Entries))] ∧ s.t 17 = .v false [.dat (.int .i64 (List.length x7.Entries : Int))] ∧ s.t 18 = .v false [.dat (.int .i64 v18_L2)] ∧ m_impl_SizeCaches_L2 x7 k13 m v3_L2 v18_L2 = some r) fuel ?_ ?_
  · refine ⟨v3, 0, ?_, ?_, ?_, ?_, ?_, ?_, ?_, h⟩
    all_goals simp +decide only [F, reduceIte, Nat.reduceAdd, Bool.not_true, Bool.not_false, EN, *, -h]
  rintro mL2 s12 ⟨v3_L2, v18_L2, f15, f16, f17, f18, f19, f20, f21, h⟩
  rcases mL2 with _ | mL2
  · exact absurd h (by simp [m_impl_SizeCaches_L2])
  simp only [m_impl_SizeCaches_L2] at h
  refine sq (rn ?_)
  refine an (sq ?_)
  rcases bcas (decide (v18_L2 < (List.length x7.Entries : Int))) with b22 | b22
  · replace h := ite_f b22 h
    refine cf (xt (aft_cx ?_))
    subst e14
    refine aft_ix (aft_x (ab (an (rn ?_))))
    refine aft_i ⟨mL1, by omega, v3_L2, (IntKind.i64.wrap (v11 + 1)), ?_, ?_, ?_, ?_, h⟩
    all_goals simp +decide only [F, reduceIte, Nat.reduceAdd, Bool.not_true, Bool.not_false, EN, *, -h]
  replace h := ite_t b22 h
  refine ct (sk (an (sq (bk (sq ?_)))))
  obtain ⟨x23, h24, h⟩ := bind_some h
  obtain ⟨q25, q26, q27⟩ := idx_some h24
  refine rn ?_
  refine an ?_
  obtain ⟨x28, h29, h⟩ := bind_some h
  refine rn1 (c_impl_StoredSize _ _ _ h29) ?_
  refine ab (an (rn ?_))
  refine aft_i ⟨mL2, by omega, (IntKind.i64.wrap (v3_L2 + x28)), (IntKind.i64.wrap (v18_L2 + 1)), ?_, ?_, ?_, ?_, ?_, ?_, ?_, h⟩
  all_goals simp +decide only [F, reduceIte, Nat.reduceAdd, Bool.not_true, Bool.not_false, EN, *, -h]

set_option maxRecDepth 20000 in
set_option maxHeartbeats 4000000 in
theorem c_impl_EncodeKey (p0 : M.Key) (r : (List Int)) (h : m_impl_EncodeKey p0 = some r) : SCalls Tryz.prog 349 [(true, M.Key.en p0)] [(false, [.own 5 1 (List.map enB r)])] := by
  unfold m_impl_EncodeKey at h
  simp only [M.Key.en]
  refine scalls_n (N := 34) (vars := [.tmp 2]) Tryz.func349 rfl rfl rfl (by decide +kernel) (Nat.le_of_ble_eq_true rfl) fun base wd => ?_
  refine sq (rn ?_)
  refine an (sq (sq ?_))
  obtain ⟨x1, h2, h⟩ := bind_some h
  refine rn1 (c_impl_IsKey _ _ h2) ?_
  refine an ?_
  rcases bcase (!x1) with b3 | b3
  · replace h := ite_t b3 h
    refine ct (sq (rn ?_))
    refine an (rt ?_)
    cases h
    simp [Ret, TB, EN, *]
  replace h := ite_f b3 h
  refine cf (sk (an (sq (rn ?_))))
  refine an (sq (sq ?_))
  refine cu (fun s => s.t 1 = .v false [.bp 1 1 0] ∧ s.t 3 = .v false [.row 100012 1] ∧ s.h 1 = (1, .box 259 [.dat (.int .i64 p0.Kind), .dat (.int .i64 p0.N), .dat (.str p0.Text)]) ∧ s.h 100012 = (1, .row 5 1 (List.map enB ([(IntKind.u8.wrap p0.Kind)])) true) ∧ True) ?_
  rintro s4 ⟨f5, f6, f7, f8, _⟩
  refine rn ?_
  refine an ?_
  rcases bcas (p0.Kind != 2) with b9 | b9
  · replace h := ite_f b9 h
    refine cf (sk (an (sq ?_)))
    obtain ⟨x28, h29, h⟩ := bind_some h
    refine rn1 h29 ?_
    refine an (rt ?_)
    cases h
    simp [Ret, TB, EN, *]
  replace h := ite_t b9 h
  refine ct (sq (rn ?_))
  refine an (bk ?_)
  refine SW_loop (fun m s => ∃ v4 : Int, ∃ r12 : List Int, ∃ u12 : Nat, s.t 1 = .v false [.bp 1 1 0] ∧ s.t 3 = .v false [.row 100012 u12] ∧ s.t 4 = .v false [.dat (.int .i64 v4)] ∧ s.h 1 = (1, .box 259 [.dat (.int .i64 p0.Kind), .dat (.int .i64 p0.N), .dat (.str p0.Text)]) ∧ s.h 100012 = (u12, .row 5 1 (List.map enB r12) true) ∧ m_impl_EncodeKey_L1 p0 m v4 r12 = some r) fuel ?_ ?_
  · refine ⟨5, ([(IntKind.u8.wrap p0.Kind)]), 1, ?_, ?_, ?_, ?_, ?_, h⟩
    all_goals simp +decide only [F, reduceIte, Nat.reduceAdd, Bool.not_true, Bool.not_false, EN, *, -h]
  rintro mL1 s10 ⟨v4, r12, u12, f11, f12, f13, f14, f15, h⟩
  rcases mL1 with _ | mL1
  · exact absurd h (by simp [m_impl_EncodeKey_L1])
  simp only [m_impl_EncodeKey_L1] at h
  refine sq (sq (rn ?_))
  refine an ?_
  rcases bcas (decide (v4 ≥ 0)) with b16 | b16
  · replace h := ite_f b16 h
    refine cf (xt (aft_cx (aft_ix (aft_x (an (sq ?_))))))
    obtain ⟨x26, h27, h⟩ := bind_some h
    refine rn1 h27 ?_
    refine an (rt ?_)
    cases h
    simp [Ret, TB, EN, *]
  replace h := ite_t b16 h
  refine ct (sk (an (sq (bk ?_))))
  rcases bcas (decide (0 ≤ (IntKind.i64.wrap (8 * v4)))) with b17 | b17
  · replace h := ite_f b17 h
    cases h
  replace h := ite_t b17 h
  obtain ⟨x18, h19, h⟩ := bind_some h
  apply SW_run
  · simp +decide only [E, reduceIte, Nat.reduceAdd, Nat.reduceMul, Bool.not_true, Bool.not_false, shr_ok, L, ti3, ti5, ti31, ti259, enB, b3, b9, f11, f12, f13, f14, f15, b16, b17]
    refine ⟨by (have hb := app_some h19); simp [enB, List.length_append, strBytes_len] at hb ⊢ <;> omega, ?_⟩
    try simp +decide only [E, reduceIte, Nat.reduceAdd, Nat.reduceMul, Bool.not_true, Bool.not_false, shr_ok, L, ti3, ti5, ti31, ti259, enB, b3, b9, f11, f12, f13, f14, f15, b16, b17]
    exact Is.mk _
  refine ab (an ?_)
  refine cu (fun s => s.t 1 = .v false [.bp 1 1 0] ∧ s.t 3 = .v false [.row 100012 (u12 + 1)] ∧ s.t 4 = .v false [.dat (.int .i64 v4)] ∧ s.h 1 = (1, .box 259 [.dat (.int .i64 p0.Kind), .dat (.int .i64 p0.N), .dat (.str p0.Text)]) ∧ s.h 100012 = ((u12 + 1), .row 5 1 (List.map enB (r12 ++ [(IntKind.u8.wrap (Int.fdiv (IntKind.i64.wrap (p0.N + 1000000000000)) (2 ^ (min (IntKind.i64.wrap (8 * v4)).toNat IntKind.i64.bits))))])) true) ∧ True) ?_
  rintro s20 ⟨f21, f22, f23, f24, f25, _⟩
  refine rn ?_
  refine aft_i ⟨mL1, by omega, (IntKind.i64.wrap (v4 - 1)), (r12 ++ [(IntKind.u8.wrap (Int.fdiv (IntKind.i64.wrap (p0.N + 1000000000000)) (2 ^ (min (IntKind.i64.wrap (8 * v4)).toNat IntKind.i64.bits))))]), (u12 + 1), ?_, ?_, ?_, ?_, ?_, h⟩
  all_goals simp +decide only [F, reduceIte, Nat.reduceAdd, Bool.not_true, Bool.not_false, EN, *, -h]

set_option maxRecDepth 20000 in
set_option maxHeartbeats 4000000 in
theorem c_impl_copyBytes (p0 : List Int) (r : (List Int)) (h : m_impl_copyBytes p0 = some r) : SCalls Tryz.prog 306 [(false, [.sl (List.map enB p0)])] [(false, [.own 5 1 (List.map enB r)])] := by
  unfold m_impl_copyBytes at h
  refine scalls_n (N := 6) (vars := [.tmp 2]) Tryz.func306 rfl rfl rfl (by decide +kernel) (Nat.le_of_ble_eq_true rfl) fun base wd => ?_
  refine sq (rn ?_)
  refine an (sq ?_)
  obtain ⟨x1, h2, h⟩ := bind_some h
  refine rn1 h2 ?_
  refine an (rt ?_)
  cases h
  simp [Ret, TB, EN, *]

set_option maxRecDepth 20000 in
set_option maxHeartbeats 4000000 in
theorem c_impl_AppendUvarint (p0 : List Int) (p1 : Int) (r : (List Int)) (h : m_impl_AppendUvarint p0 p1 = some r) : SCalls Tryz.prog 388 [(false, [.sl (List.map enB p0)]), (false, [.int .i64 p1])] [(false, [.own 5 1 (List.map enB r)])] := by
  unfold m_impl_AppendUvarint at h
  refine scalls_n (N := 28) (vars := [.tmp 4]) Tryz.func388 rfl rfl rfl (by decide +kernel) (Nat.le_of_ble_eq_true rfl) fun base wd => ?_
  refine sq (rn ?_)
  refine an (sq ?_)
  obtain ⟨x1, h2, h⟩ := bind_some h
  refine rn1 (c_impl_copyBytes _ _ h2) ?_
  refine an (sq (sq ?_))
  obtain ⟨x3, h4, h⟩ := bind_some h
  refine rn1 (c_impl_InRange _ _ _ _ h4) ?_
  refine an ?_
  rcases bcase (!x3) with b5 | b5
  · replace h := ite_t b5 h
    refine ct (sq (rn ?_))
    refine an (rt ?_)
    cases h
    simp [Ret, TB, EN, *]
  replace h := ite_f b5 h
  refine cf (sk (an (sq (bk ?_))))
  refine SW_loop (fun m s => ∃ v1 : Int, ∃ r7 : List Int, ∃ u7 : Nat, s.t 1 = .v false [.dat (.int .i64 v1)] ∧ s.t 5 = .v false [.row 100007 u7] ∧ s.h 100007 = (u7, .row 5 1 (List.map enB r7) true) ∧ m_impl_AppendUvarint_L1 m v1 r7 = some r) fuel ?_ ?_
  · refine ⟨p1, x1, 1, ?_, ?_, ?_, h⟩
    all_goals simp +decide only [F, reduceIte, Nat.reduceAdd, Bool.not_true, Bool.not_false, EN, *, -h]
  rintro mL1 s6 ⟨v1, r7, u7, f7, f8, f9, h⟩
  rcases mL1 with _ | mL1
  · exact absurd h (by simp [m_impl_AppendUvarint_L1])
  simp only [m_impl_AppendUvarint_L1] at h
  refine sq (sq (rn ?_))
  refine an ?_
  rcases bcas (decide (v1 ≥ 128)) with b10 | b10
  · replace h := ite_f b10 h
    refine cf (xt (aft_cx (aft_ix (aft_x (an (sq ?_))))))
    obtain ⟨x17, h18, h⟩ := bind_some h
    refine rn1 h18 ?_
    refine an (rt ?_)
    cases h
    simp [Ret, TB, EN, *]
  replace h := ite_t b10 h
  refine ct (sk (an (bk (sq ?_))))
  obtain ⟨x11, h12, h⟩ := bind_some h
  refine rn1 h12 ?_
  refine an ?_
  refine cu (fun s => s.t 1 = .v false [.dat (.int .i64 v1)] ∧ s.t 5 = .v false [.row 100007 (u7 + 1)] ∧ s.h 100007 = ((u7 + 1), .row 5 1 (List.map enB (r7 ++ [(IntKind.u8.wrap (IntKind.i64.wrap ((Int.tmod v1 128) + 128)))])) true) ∧ True) ?_
  rintro s13 ⟨f14, f15, f16, _⟩
  refine rn ?_
  refine ab ?_
  refine aft_i ⟨mL1, by omega, (IntKind.i64.wrap (Int.tdiv v1 128)), (r7 ++ [(IntKind.u8.wrap (IntKind.i64.wrap ((Int.tmod v1 128) + 128)))]), (u7 + 1), ?_, ?_, ?_, h⟩
  all_goals simp +decide only [F, reduceIte, Nat.reduceAdd, Bool.not_true, Bool.not_false, EN, *, -h]

set_option maxRecDepth 20000 in
set_option maxHeartbeats 4000000 in
theorem c_impl_AppendBytes (p0 : List Int) (p1 : List Int) (r : (List Int)) (h : m_impl_AppendBytes p0 p1 = some r) : SCalls Tryz.prog 389 [(false, [.sl (List.map enB p0)]), (false, [.sl (List.map enB p1)])] [(false, [.own 5 1 (List.map enB r)])] := by
  unfold m_impl_AppendBytes at h
  refine scalls_n (N := 11) (vars := [.tmp 4]) Tryz.func389 rfl rfl rfl (by decide +kernel) (Nat.le_of_ble_eq_true rfl) fun base wd => ?_
  refine sq (rn ?_)
  refine an (sq ?_)
  obtain ⟨x1, h2, h⟩ := bind_some h
  obtain ⟨x3, h4, h⟩ := bind_some h
  refine rn2 (c_impl_AppendUvarint _ _ _ h2) h4 ?_
  refine an (rt ?_)
  cases h
  simp [Ret, TB, EN, *]

set_option maxRecDepth 20000 in
set_option maxHeartbeats 4000000 in
theorem c_impl_EncodeRecord (p0 : M.Record) (r : (List Int)) (h : m_impl_EncodeRecord p0 = some r) : SCalls Tryz.prog 350 [(true, M.Record.en p0)] [(false, [.own 5 1 (List.map enB r)])] := by
  unfold m_impl_EncodeRecord at h
  simp only [M.Record.en]
  refine scalls_n (N := 31) (vars := [.tmp 2]) Tryz.func350 rfl rfl rfl (by decide +kernel) (Nat.le_of_ble_eq_true rfl) fun base wd => ?_
  refine sq (rn ?_)
  refine an (sq (sq ?_))
  obtain ⟨x1, h2, h⟩ := bind_some h
  refine rn1 (c_impl_IsRecord _ _ h2) ?_
  refine an ?_
  rcases bcase (!x1) with b3 | b3
  · replace h := ite_t b3 h
    refine ct (sq (rn ?_))
    refine an (rt ?_)
    cases h
    simp [Ret, TB, EN, *]
  replace h := ite_f b3 h
  refine cf (sk (an (sq ?_)))
  obtain ⟨x4, h5, h⟩ := bind_some h
  refine rn1 (c_impl_AppendUvarint _ _ _ h5) ?_
  refine an (sq (sq (rn ?_)))
  refine an (bk ?_)
  refine SW_gho ((Gho.ren_t (i := 3) (K := 7030000) (j := 100013) (by simp +decide only [F, reduceIte, Nat.reduceAdd, Bool.not_true, Bool.not_false, EN, *, -h]; rfl) (by simp +decide only [F, reduceIte, Nat.reduceAdd, Bool.not_true, Bool.not_false, EN, *, -h]; rfl))) ?_
  refine SW_loopG (fun m s => ∃ v17 : Int, ∃ r30000 : List Int, ∃ u30000 : Nat, s.t 3 = .v false [.row 7030000 u30000] ∧ s.t 15 = .v false [.dat (.sl (List.map M.Field.en p0.Fields))] ∧ s.t 16 = .v false [.dat (.int .i64 (List.length p0.Fields : Int))] ∧ s.t 17 = .v false [.dat (.int .i64 v17)] ∧ s.h 7030000 = (u30000, .row 5 1 (List.map enB r30000) true) ∧ m_impl_EncodeRecord_L1 p0 m v17 r30000 = some r) fuel ?_ ?_
  · refine ⟨0, x4, 1, ?_, ?_, ?_, ?_, ?_, h⟩
    all_goals simp +decide only [F, reduceIte, Nat.reduceAdd, Bool.not_true, Bool.not_false, EN, *, -h]
  rintro mL1 s6 ⟨v17, r30000, u30000, f7, f8, f9, f10, f11, h⟩
  rcases mL1 with _ | mL1
  · exact absurd h (by simp [m_impl_EncodeRecord_L1])
  simp only [m_impl_EncodeRecord_L1] at h
  refine sq (rn ?_)
  refine an (sq ?_)
  rcases bcas (decide (v17 < (List.length p0.Fields : Int))) with b12 | b12
  · replace h := ite_f b12 h
    refine cf (xt (aft_cx (aft_ix (aft_x (an (sq (rn ?_)))))))
    refine an (rt ?_)
    cases h
    simp [Ret, TB, EN, *]
  replace h := ite_t b12 h
  refine ct (sk (an (sq (bk (sq ?_)))))
  obtain ⟨x13, h14, h⟩ := bind_some h
  obtain ⟨q15, q16, q17⟩ := idx_some h14
  refine rn ?_
  refine an ?_
  obtain ⟨x18, h19, h⟩ := bind_some h
  obtain ⟨x20, h21, h⟩ := bind_some h
  refine rd2 mixed (c_impl_AppendBytes _ _ _ h19) (c_impl_AppendUvarint _ _ _ h21) ?_
  refine ab (an (rn ?_))
  refine aft_i ⟨_, (Gho.ren_t (i := 3) (K := 7030000) (j := 100028) (by simp +decide only [F, reduceIte, Nat.reduceAdd, Bool.not_true, Bool.not_false, EN, *, -h]; rfl) (by simp +decide only [F, reduceIte, Nat.reduceAdd, Bool.not_true, Bool.not_false, EN, *, -h]; rfl)), mL1, by omega, (IntKind.i64.wrap (v17 + 1)), x20, (u30000 + 1), ?_, ?_, ?_, ?_, ?_, h⟩
  all_goals simp +decide only [F, reduceIte, Nat.reduceAdd, Bool.not_true, Bool.not_false, EN, *, -h]

set_option maxRecDepth 20000 in
set_option maxHeartbeats 4000000 in
theorem c_impl_SizeStore (p0 : M.Store) (r : Int) (h : m_impl_SizeStore p0 = some r) : SCalls Tryz.prog 263 [(true, M.Store.en p0)] [(false, [.ro (.int .i64 r)])] := by
  unfold m_impl_SizeStore at h
  simp only [M.Store.en]
  refine scalls_n (N := 26) (vars := [.tmp 2]) Tryz.func263 rfl rfl rfl (by decide +kernel) (Nat.le_of_ble_eq_true rfl) fun base wd => ?_
  refine sq (rn ?_)
  refine an (sq (rn ?_))
  refine an (sq (sq (rn ?_)))
  refine an (bk ?_)
  refine SW_loop (fun m s => ∃ v3 : Int, ∃ v9 : Int, s.t 3 = .v false [.dat (.int .i64 v3)] ∧ s.t 7 = .v false [.dat (.sl (List.map M.Item.en p0.Items))] ∧ s.t 8 = .v false [.dat (.int .i64 (List.length p0.Items : Int))] ∧ s.t 9 = .v false [.dat (.int .i64 v9)] ∧ m_impl_SizeStore_L1 p0 m v3 v9 = some r) fuel ?_ ?_
  · refine ⟨0, 0, ?_, ?_, ?_, ?_, h⟩
    all_goals simp +decide only [F, reduceIte, Nat.reduceAdd, Bool.not_true, Bool.not_false, EN, *, -h]
  rintro mL1 s1 ⟨v3, v9, f2, f3, f4, f5, h⟩
  rcases mL1 with _ | mL1
  · exact absurd h (by simp [m_impl_SizeStore_L1])
  simp only [m_impl_SizeStore_L1] at h
  refine sq (rn ?_)
  refine an (sq ?_)
  rcases bcas (decide (v9 < (List.length p0.Items : Int))) with b6 | b6
  · replace h := ite_f b6 h
    refine cf (xt (aft_cx (aft_ix (aft_x (an (sq (rn ?_)))))))
    refine an (rt ?_)
    cases h
    simp [Ret, TB, EN, *]
  replace h := ite_t b6 h
  refine ct (sk (an (sq (bk (sq ?_)))))
  obtain ⟨x7, h8, h⟩ := bind_some h
  obtain ⟨q9, q10, q11⟩ := idx_some h8
  refine rn ?_
  refine an ?_
  obtain ⟨x12, h13, h⟩ := bind_some h
  obtain ⟨x14, h15, h⟩ := bind_some h
  refine rd2 mixed (c_impl_EncodeKey _ _ h13) (c_impl_EncodeRecord _ _ h15) ?_
  refine ab (an (rn ?_))
  refine aft_i ⟨mL1, by omega, (IntKind.i64.wrap (v3 + (IntKind.i64.wrap ((List.length x12 : Int) + (List.length x14 : Int))))), (IntKind.i64.wrap (v9 + 1)), ?_, ?_, ?_, ?_, h⟩
  all_goals simp +decide only [F, reduceIte, Nat.reduceAdd, Bool.not_true, Bool.not_false, EN, *, -h]

set_option maxRecDepth 20000 in
set_option maxHeartbeats 4000000 in
theorem c_impl_SizeDatabase (p0 : M.Database) (r : Int) (h : m_impl_SizeDatabase p0 = some r) : SCalls Tryz.prog 348 [(true, M.Database.en p0)] [(false, [.ro (.int .i64 r)])] := by
  unfold m_impl_SizeDatabase at h
  simp only [M.Database.en]
  refine scalls_n (N := 19) (vars := [.tmp 2]) Tryz.func348 rfl rfl rfl (by decide +kernel) (Nat.le_of_ble_eq_true rfl) fun base wd => ?_
  refine sq (rn ?_)
  refine an (sq (rn ?_))
  refine an (sq (sq (rn ?_)))
  refine an (bk ?_)
  refine SW_loop (fun m s => ∃ v3 : Int, ∃ v9 : Int, s.t 3 = .v false [.dat (.int .i64 v3)] ∧ s.t 7 = .v false [.dat (.sl (List.map M.Store.en p0.Stores))] ∧ s.t 8 = .v false [.dat (.int .i64 (List.length p0.Stores : Int))] ∧ s.t 9 = .v false [.dat (.int .i64 v9)] ∧ m_impl_SizeDatabase_L1 p0 m v3 v9 = some r) fuel ?_ ?_
  · refine ⟨0, 0, ?_, ?_, ?_, ?_, h⟩
    all_goals simp +decide only [F, reduceIte, Nat.reduceAdd, Bool.not_true, Bool.not_false, EN, *, -h]
  rintro mL1 s1 ⟨v3, v9, f2, f3, f4, f5, h⟩
  rcases mL1 with _ | mL1
  · exact absurd h (by simp [m_impl_SizeDatabase_L1])
  simp only [m_impl_SizeDatabase_L1] at h
  refine sq (rn ?_)
  refine an (sq ?_)
  rcases bcas (decide (v9 < (List.length p0.Stores : Int))) with b6 | b6
  · replace h := ite_f b6 h
    refine cf (xt (aft_cx (aft_ix (aft_x (an (sq (rn ?_)))))))
    refine an (rt ?_)
    cases h
    simp [Ret, TB, EN, *]
  replace h := ite_t b6 h
  refine ct (sk (an (sq (bk (sq ?_)))))
  obtain ⟨x7, h8, h⟩ := bind_some h
  obtain ⟨q9, q10, q11⟩ := idx_some h8
  refine rn ?_
  refine an ?_
  obtain ⟨x12, h13, h⟩ := bind_some h
  refine rn1 (c_impl_SizeStore _ _ h13) ?_
  refine ab (an (rn ?_))
  refine aft_i ⟨mL1, by omega, (IntKind.i64.wrap (v3 + x12)), (IntKind.i64.wrap (v9 + 1)), ?_, ?_, ?_, ?_, h⟩
  all_goals simp +decide only [F, reduceIte, Nat.reduceAdd, Bool.not_true, Bool.not_false, EN, *, -h]

set_option maxRecDepth 20000 in
set_option maxHeartbeats 4000000 in
theorem c_impl_SizeDisk (p0 : M.Disk) (r : Int) (h : m_impl_SizeDisk p0 = some r) : SCalls Tryz.prog 262 [(true, M.Disk.en p0)] [(false, [.ro (.int .i64 r)])] := by
  unfold m_impl_SizeDisk at h
  simp only [M.Disk.en]
  refine scalls_n (N := 10) (vars := [.tmp 2]) Tryz.func262 rfl rfl rfl (by decide +kernel) (Nat.le_of_ble_eq_true rfl) fun base wd => ?_
  refine sq (rn ?_)
  refine an (sq ?_)
  obtain ⟨x1, h2, h⟩ := bind_some h
  refine rd1 mixed (c_impl_SizeDatabase _ _ h2) ?_
  refine an (rt ?_)
  cases h
  simp [Ret, TB, EN, *]

set_option maxRecDepth 20000 in
set_option maxHeartbeats 4000000 in
theorem c_impl_UsageOf (p0 : M.Bucket) (r : Int) (h : m_impl_UsageOf p0 = some r) : SCalls Tryz.prog 159 [(true, M.Bucket.en p0)] [(false, [.ro (.int .i64 r)])] := by
  unfold m_impl_UsageOf at h
  simp only [M.Bucket.en]
  refine scalls_n (N := 23) (vars := [.tmp 2]) Tryz.func159 rfl rfl rfl (by decide +kernel) (Nat.le_of_ble_eq_true rfl) fun base wd => ?_
  refine sq (rn ?_)
  refine an (sq ?_)
  obtain ⟨x1, h2, h⟩ := bind_some h
  obtain ⟨x3, h4, h⟩ := bind_some h
  obtain ⟨x5, h6, h⟩ := bind_some h
  refine rd3 mixed (c_impl_SizeCaches _ _ h2) (c_impl_SizeDisk _ _ h4) (c_impl_SizeStore _ _ h6) ?_
  refine an (rt ?_)
  cases h
  simp [Ret, TB, EN, *]

end Go.Proofs.YtgemmnkhddlhpaaGreat.gen
