/-
  Helper text: walks: each function's contract out of its model. No conditions beyond those of each contract.
-/
import Derived.Test.YtgemmnkhddlhpaaGreatNewBucketTi
import Derived.Test.YtgemmnkhddlhpaaGreatNewBucketWimpl0
import Derived.Test.YtgemmnkhddlhpaaGreatNewBucketWlib
namespace Go.Proofs.YtgemmnkhddlhpaaGreat.gen
open Go Go.Sh
set_option linter.unusedVariables false
set_option linter.unusedSimpArgs false
set_option maxRecDepth 20000 in
set_option maxHeartbeats 4000000 in
theorem c_impl_IsRecord (p0 : M.Record) (r : Bool) (h : m_impl_IsRecord p0 = some r) : SCalls Tryz.prog 343 [(true, M.Record.en p0)] [(false, [.ro (.bool r)])] := by
  unfold m_impl_IsRecord at h
  simp only [M.Record.en]
  refine scalls_n (N := 44) (vars := [.tmp 2]) Tryz.func343 rfl rfl rfl (by decide +kernel) (Nat.le_of_ble_eq_true rfl) fun base wd => ?_
  refine sq (rn ?_)
  refine an (sq (sq (rn ?_)))
  refine an (bk ?_)
  refine SW_loop (fun m s => ∃ v8 : Int, s.t 1 = .v false [.bp 1 1 0] ∧ s.t 6 = .v false [.dat (.sl (List.map M.Field.en p0.Fields))] ∧ s.t 7 = .v false [.dat (.int .i64 (List.length p0.Fields : Int))] ∧ s.t 8 = .v false [.dat (.int .i64 v8)] ∧ s.h 1 = (1, .box 225 [.dat (.sl (List.map M.Field.en p0.Fields))]) ∧ m_impl_IsRecord_L1 p0 m v8 = some r) fuel ?_ ?_
  · refine ⟨0, ?_, ?_, ?_, ?_, ?_, h⟩
    all_goals simp +decide only [F, reduceIte, Nat.reduceAdd, Bool.not_true, Bool.not_false, EN, *, -h]
  rintro mL1 s1 ⟨v8, f2, f3, f4, f5, f6, h⟩
  rcases mL1 with _ | mL1
  · exact absurd h (by simp [m_impl_IsRecord_L1])
  simp only [m_impl_IsRecord_L1] at h
  refine sq (rn ?_)
  refine an (sq ?_)
  rcases bcas (decide (v8 < (List.length p0.Fields : Int))) with b7 | b7
  · replace h := ite_f b7 h
    refine cf (xt (aft_cx (aft_ix (aft_x (an (sq (rn ?_)))))))
    refine an (rt ?_)
    cases h
    simp [Ret, TB, EN, *]
  replace h := ite_t b7 h
  refine ct (sk (an (sq (bk (sq ?_)))))
  obtain ⟨x8, h9, h⟩ := bind_some h
  obtain ⟨q10, q11, q12⟩ := idx_some h9
  refine rn ?_
  refine an (sq ?_)
  obtain ⟨x13, h14, h⟩ := bind_some h
  rcases bcase (!x13) with b15 | b15
  · replace h := ite_t b15 h
    refine rd1 mixed (c_impl_IsName _ _ h14) ?_
    refine an (ct (sq (rn ?_)))
    refine an (rt ?_)
    cases h
    simp [Ret, TB, EN, *]
  replace h := ite_f b15 h
  obtain ⟨x16, h17, h⟩ := bind_some h
  rcases bcase (!x16) with b18 | b18
  · replace h := ite_t b18 h
    refine rd2 mixed (c_impl_IsName _ _ h14) (c_impl_InRange _ _ _ _ h17) ?_
    refine an (ct (sq (rn ?_)))
    refine an (rt ?_)
    cases h
    simp [Ret, TB, EN, *]
  replace h := ite_f b18 h
  rcases bcas (decide (v8 > 0)) with b19 | b19
  · replace h := ite_f b19 h
    refine rd2 mixed (c_impl_IsName _ _ h14) (c_impl_InRange _ _ _ _ h17) ?_
    refine an (cf (sk (ab (an (rn ?_)))))
    refine aft_i ⟨mL1, by omega, (IntKind.i64.wrap (v8 + 1)), ?_, ?_, ?_, ?_, ?_, h⟩
    all_goals simp +decide only [F, reduceIte, Nat.reduceAdd, Bool.not_true, Bool.not_false, EN, *, -h]
  replace h := ite_t b19 h
  obtain ⟨x20, h21, h⟩ := bind_some h
  obtain ⟨q22, q23, q24⟩ := idx_some h21
  refine rd2 mixed (c_impl_IsName _ _ h14) (c_impl_InRange _ _ _ _ h17) ?_
  refine an ?_
  rcases bcase (Op.bytesLess x8.Name.toList x20.Name.toList || x8.Name.toList == x20.Name.toList) with b25 | b25
  · replace h := ite_t b25 h
    refine ct (sq (rn ?_))
    refine an (rt ?_)
    cases h
    simp [Ret, TB, EN, *]
  replace h := ite_f b25 h
  refine cf (sk (ab (an (rn ?_))))
  refine aft_i ⟨mL1, by omega, (IntKind.i64.wrap (v8 + 1)), ?_, ?_, ?_, ?_, ?_, h⟩
  all_goals simp +decide only [F, reduceIte, Nat.reduceAdd, Bool.not_true, Bool.not_false, EN, *, -h]

set_option maxRecDepth 20000 in
set_option maxHeartbeats 4000000 in
theorem c_impl_compareInts (p0 : Int) (p1 : Int) (r : Int) (h : m_impl_compareInts p0 p1 = some r) : SCalls Tryz.prog 398 [(false, [.int .i64 p0]), (false, [.int .i64 p1])] [(false, [.ro (.int .i64 r)])] := by
  unfold m_impl_compareInts at h
  refine scalls_n (N := 13) (vars := [.tmp 4]) Tryz.func398 rfl rfl rfl (by decide +kernel) (Nat.le_of_ble_eq_true rfl) fun base wd => ?_
  refine sq (rn ?_)
  refine an (sq (bk (sq (rn ?_))))
  refine an ?_
  rcases bcase (decide (p0 < p1)) with b1 | b1
  · replace h := ite_t b1 h
    refine ct (sq (rn ?_))
    refine an (rt ?_)
    cases h
    simp [Ret, TB, EN, *]
  replace h := ite_f b1 h
  refine cf (sq (rn ?_))
  refine an ?_
  rcases bcase (decide (p0 > p1)) with b2 | b2
  · replace h := ite_t b2 h
    refine ct (sq (rn ?_))
    refine an (rt ?_)
    cases h
    simp [Ret, TB, EN, *]
  replace h := ite_f b2 h
  refine cf (sk (ab (an (sq (rn ?_)))))
  refine an (rt ?_)
  cases h
  simp [Ret, TB, EN, *]

set_option maxRecDepth 100000 in
set_option maxHeartbeats 4000000 in
theorem c_internal_bytealg_CompareString (p0 : ByteArray) (p1 : ByteArray) (r : Int) (h : m_internal_bytealg_CompareString p0 p1 = some r) : SCalls Tryz.prog 427 [(false, [.str p0]), (false, [.str p1])] [(false, [.ro (.int .i64 r)])] := by
  refine scalls_str2 Tryz.func427 rfl (by decide +kernel) fun w => ?_
  cases h
  go_enter Tryz.func427, Tryz.ntmps427
  go_wp2
  rw [run_callFunc_extern Tryz.func444 (by kernel_rfl) (by kernel_rfl) (by kernel_rfl) (e := Extern.BytealgCompare.compare) (by kernel_rfl), Lib.run_compareString]
  simp only [Result.andThen]
  rw [Oper.upon_value]
  go_wp2
  go_ret
  exact ⟨rfl, rfl⟩

set_option maxRecDepth 20000 in
set_option maxHeartbeats 4000000 in
theorem c_strings_Compare (p0 : ByteArray) (p1 : ByteArray) (r : Int) (h : m_strings_Compare p0 p1 = some r) : SCalls Tryz.prog 399 [(false, [.str p0]), (false, [.str p1])] [(false, [.ro (.int .i64 r)])] := by
  unfold m_strings_Compare at h
  refine scalls_n (N := 8) (vars := [.tmp 4]) Tryz.func399 rfl rfl rfl (by decide +kernel) (Nat.le_of_ble_eq_true rfl) fun base wd => ?_
  refine sq (rn ?_)
  refine an (sq ?_)
  obtain ⟨x1, h2, h⟩ := bind_some h
  refine rn1 (c_internal_bytealg_CompareString _ _ _ h2) ?_
  refine an (rt ?_)
  cases h
  simp [Ret, TB, EN, *]

set_option maxRecDepth 20000 in
set_option maxHeartbeats 4000000 in
theorem c_impl_CompareKeys (p0 : M.Key) (p1 : M.Key) (r : Int) (h : m_impl_CompareKeys p0 p1 = some r) : SCalls Tryz.prog 344 [(true, M.Key.en p0), (true, M.Key.en p1)] [(false, [.ro (.int .i64 r)])] := by
  unfold m_impl_CompareKeys at h
  simp only [M.Key.en]
  refine scalls_n (N := 36) (vars := [.tmp 4]) Tryz.func344 rfl rfl rfl (by decide +kernel) (Nat.le_of_ble_eq_true rfl) fun base wd => ?_
  refine sq (rn ?_)
  refine an (sq (sq ?_))
  obtain ⟨x1, h2, h⟩ := bind_some h
  rcases bcase (!x1) with b3 | b3
  · replace h := ite_t b3 h
    refine rn1 (c_impl_IsKey _ _ h2) ?_
    refine an (ct (sq (rn ?_)))
    refine an (rt ?_)
    cases h
    simp [Ret, TB, EN, *]
  replace h := ite_f b3 h
  obtain ⟨x4, h5, h⟩ := bind_some h
  refine rn2 (c_impl_IsKey _ _ h2) (c_impl_IsKey _ _ h5) ?_
  refine an ?_
  rcases bcase (!x4) with b6 | b6
  · replace h := ite_t b6 h
    refine ct (sq (rn ?_))
    refine an (rt ?_)
    cases h
    simp [Ret, TB, EN, *]
  replace h := ite_f b6 h
  refine cf (sk (an (sq (sq ?_))))
  obtain ⟨x7, h8, h⟩ := bind_some h
  refine rn1 (c_impl_compareInts _ _ _ h8) ?_
  refine an (sq (rn ?_))
  refine an ?_
  rcases bcase (x7 != 0) with b9 | b9
  · replace h := ite_t b9 h
    refine ct (sq (rn ?_))
    refine an (rt ?_)
    cases h
    simp [Ret, TB, EN, *]
  replace h := ite_f b9 h
  refine cf (sk (an (sq (sq ?_))))
  obtain ⟨x10, h11, h⟩ := bind_some h
  refine rn1 (c_impl_compareInts _ _ _ h11) ?_
  refine an (sq (rn ?_))
  refine an ?_
  rcases bcase (x10 != 0) with b12 | b12
  · replace h := ite_t b12 h
    refine ct (sq (rn ?_))
    refine an (rt ?_)
    cases h
    simp [Ret, TB, EN, *]
  replace h := ite_f b12 h
  refine cf (sk (an (sq ?_)))
  obtain ⟨x13, h14, h⟩ := bind_some h
  refine rn1 (c_strings_Compare _ _ _ h14) ?_
  refine an (rt ?_)
  cases h
  simp [Ret, TB, EN, *]

set_option maxRecDepth 20000 in
set_option maxHeartbeats 4000000 in
theorem c_impl_IsStore (p0 : M.Store) (r : Bool) (h : m_impl_IsStore p0 = some r) : SCalls Tryz.prog 258 [(true, M.Store.en p0)] [(false, [.ro (.bool r)])] := by
  unfold m_impl_IsStore at h
  simp only [M.Store.en]
  refine scalls_n (N := 55) (vars := [.tmp 2]) Tryz.func258 rfl rfl rfl (by decide +kernel) (Nat.le_of_ble_eq_true rfl) fun base wd => ?_
  refine sq (rn ?_)
  refine an (sq (sq (rn ?_)))
  refine an (bk ?_)
  refine SW_loop (fun m s => ∃ v8 : Int, s.t 1 = .v false [.bp 1 1 0] ∧ s.t 6 = .v false [.dat (.sl (List.map M.Item.en p0.Items))] ∧ s.t 7 = .v false [.dat (.int .i64 (List.length p0.Items : Int))] ∧ s.t 8 = .v false [.dat (.int .i64 v8)] ∧ s.h 1 = (1, .box 36 [.dat (.str p0.Name), .dat (.sl (List.map M.Item.en p0.Items)), .dat (.int .i64 p0.Auto)]) ∧ m_impl_IsStore_L1 p0 m v8 = some r) fuel ?_ ?_
  · refine ⟨0, ?_, ?_, ?_, ?_, ?_, h⟩
    all_goals simp +decide only [F, reduceIte, Nat.reduceAdd, Bool.not_true, Bool.not_false, EN, *, -h]
  rintro mL1 s1 ⟨v8, f2, f3, f4, f5, f6, h⟩
  rcases mL1 with _ | mL1
  · exact absurd h (by simp [m_impl_IsStore_L1])
  simp only [m_impl_IsStore_L1] at h
  refine sq (rn ?_)
  refine an (sq ?_)
  rcases bcas (decide (v8 < (List.length p0.Items : Int))) with b7 | b7
  · replace h := ite_f b7 h
    refine cf (xt (aft_cx (aft_ix (aft_x (an (sq ?_))))))
    obtain ⟨x28, h29, h⟩ := bind_some h
    rcases bcas x28 with b30 | b30
    · replace h := ite_f b30 h
      refine rn1 (c_impl_IsName _ _ h29) ?_
      refine an (rt ?_)
      cases h
      simp [Ret, TB, EN, *]
    replace h := ite_t b30 h
    rcases bcas (decide ((List.length p0.Items : Int) ≤ 16)) with b31 | b31
    · replace h := ite_f b31 h
      refine rn1 (c_impl_IsName _ _ h29) ?_
      refine an (rt ?_)
      cases h
      simp [Ret, TB, EN, *]
    replace h := ite_t b31 h
    obtain ⟨x32, h33, h⟩ := bind_some h
    refine rn2 (c_impl_IsName _ _ h29) (c_impl_InRange _ _ _ _ h33) ?_
    refine an (rt ?_)
    cases h
    simp [Ret, TB, EN, *]
  replace h := ite_t b7 h
  refine ct (sk (an (sq (bk (sq ?_)))))
  obtain ⟨x8, h9, h⟩ := bind_some h
  obtain ⟨q10, q11, q12⟩ := idx_some h9
  refine rn ?_
  refine an (sq ?_)
  obtain ⟨x13, h14, h⟩ := bind_some h
  rcases bcase (!x13) with b15 | b15
  · replace h := ite_t b15 h
    refine rd1 mixed (c_impl_IsKey _ _ h14) ?_
    refine an (ct (sq (rn ?_)))
    refine an (rt ?_)
    cases h
    simp [Ret, TB, EN, *]
  replace h := ite_f b15 h
  obtain ⟨x16, h17, h⟩ := bind_some h
  rcases bcase (!x16) with b18 | b18
  · replace h := ite_t b18 h
    refine rd2 mixed (c_impl_IsKey _ _ h14) (c_impl_IsRecord _ _ h17) ?_
    refine an (ct (sq (rn ?_)))
    refine an (rt ?_)
    cases h
    simp [Ret, TB, EN, *]
  replace h := ite_f b18 h
  rcases bcas (decide (v8 > 0)) with b19 | b19
  · replace h := ite_f b19 h
    refine rd2 mixed (c_impl_IsKey _ _ h14) (c_impl_IsRecord _ _ h17) ?_
    refine an (cf (sk (ab (an (rn ?_)))))
    refine aft_i ⟨mL1, by omega, (IntKind.i64.wrap (v8 + 1)), ?_, ?_, ?_, ?_, ?_, h⟩
    all_goals simp +decide only [F, reduceIte, Nat.reduceAdd, Bool.not_true, Bool.not_false, EN, *, -h]
  replace h := ite_t b19 h
  obtain ⟨x20, h21, h⟩ := bind_some h
  obtain ⟨q22, q23, q24⟩ := idx_some h21
  obtain ⟨x25, h26, h⟩ := bind_some h
  refine rd3 mixed (c_impl_IsKey _ _ h14) (c_impl_IsRecord _ _ h17) (c_impl_CompareKeys _ _ _ h26) ?_
  refine an ?_
  rcases bcase (decide (x25 ≥ 0)) with b27 | b27
  · replace h := ite_t b27 h
    refine ct (sq (rn ?_))
    refine an (rt ?_)
    cases h
    simp [Ret, TB, EN, *]
  replace h := ite_f b27 h
  refine cf (sk (ab (an (rn ?_))))
  refine aft_i ⟨mL1, by omega, (IntKind.i64.wrap (v8 + 1)), ?_, ?_, ?_, ?_, ?_, h⟩
  all_goals simp +decide only [F, reduceIte, Nat.reduceAdd, Bool.not_true, Bool.not_false, EN, *, -h]

set_option maxRecDepth 20000 in
set_option maxHeartbeats 4000000 in
theorem c_impl_FindStore_1 (p0 : M.Store) (c0 : ByteArray) (r : Bool) (h : m_impl_FindStore_1 p0 c0 = some r) : SCalls Tryz.prog 325 [(true, M.Store.en p0), (false, [.ptr [.str c0]])] [(false, [.ro (.bool r)])] := by
  unfold m_impl_FindStore_1 at h
  simp only [M.Store.en]
  refine scalls_n (N := 8) (vars := [.tmp 3]) Tryz.func325 rfl rfl rfl (by decide +kernel) (Nat.le_of_ble_eq_true rfl) fun base wd => ?_
  refine sq (rn ?_)
  refine an (sq (rn ?_))
  refine an (rt ?_)
  cases h
  simp [Ret, TB, EN, *]

set_option maxRecDepth 20000 in
set_option maxHeartbeats 4000000 in
theorem c_slices_IndexFunc_Store (p0 : List M.Store) (p1 : M.Store → Option Bool) (f1_ : FuncId) (k1_ : List D) (hp1 : ∀ z0 r, p1 z0 = some r → SCalls Tryz.prog f1_ ((true, M.Store.en z0) ::  k1_.map fun c => (false, [c])) [(false, [.ro (.bool r)])]) (r : Int) (h : m_slices_IndexFunc_Store p0 p1 = some r) : SCalls Tryz.prog 324 [(false, [.sl (List.map M.Store.en p0)]), (false, [.fn f1_ k1_])] [(false, [.ro (.int .i64 r)])] := by
  unfold m_slices_IndexFunc_Store at h
  refine scalls_n (N := 19) (vars := [.tmp 4]) Tryz.func324 rfl rfl rfl (by decide +kernel) (Nat.le_of_ble_eq_true rfl) fun base wd => ?_
  refine sq (rn ?_)
  refine an (sq (sq (rn ?_)))
  refine an (bk ?_)
  refine SW_loop (fun m s => ∃ v8 : Int, s.t 0 = .v false [.dat (.sl (List.map M.Store.en p0))] ∧ s.t 1 = .v false [.dat (.fn f1_ k1_)] ∧ s.t 7 = .v false [.dat (.int .i64 (List.length p0 : Int))] ∧ s.t 8 = .v false [.dat (.int .i64 v8)] ∧ m_slices_IndexFunc_Store_L1 p0 p1 m v8 = some r) fuel ?_ ?_
  · refine ⟨0, ?_, ?_, ?_, ?_, h⟩
    all_goals simp +decide only [F, reduceIte, Nat.reduceAdd, Bool.not_true, Bool.not_false, EN, *, -h]
  rintro mL1 s1 ⟨v8, f2, f3, f4, f5, h⟩
  rcases mL1 with _ | mL1
  · exact absurd h (by simp [m_slices_IndexFunc_Store_L1])
  simp only [m_slices_IndexFunc_Store_L1] at h
  refine sq (rn ?_)
  refine an (sq ?_)
  rcases bcas (decide (v8 < (List.length p0 : Int))) with b6 | b6
  · replace h := ite_f b6 h
    refine cf (xt (aft_cx (aft_ix (aft_x (an (sq (rn ?_)))))))
    refine an (rt ?_)
    cases h
    simp [Ret, TB, EN, *]
  replace h := ite_t b6 h
  refine ct (sk (an (sq (bk (sq (rn ?_))))))
  refine an (sq ?_)
  obtain ⟨x7, h8, h⟩ := bind_some h
  obtain ⟨q9, q10, q11⟩ := idx_some h8
  obtain ⟨x12, h13, h⟩ := bind_some h
  refine rn1 (hp1 x7 x12 h13) ?_
  refine an ?_
  rcases bcase x12 with b14 | b14
  · replace h := ite_t b14 h
    refine ct (sq (rn ?_))
    refine an (rt ?_)
    cases h
    simp [Ret, TB, EN, *]
  replace h := ite_f b14 h
  refine cf (sk (ab (an (rn ?_))))
  refine aft_i ⟨mL1, by omega, (IntKind.i64.wrap (v8 + 1)), ?_, ?_, ?_, ?_, h⟩
  all_goals simp +decide only [F, reduceIte, Nat.reduceAdd, Bool.not_true, Bool.not_false, EN, *, -h]

set_option maxRecDepth 20000 in
set_option maxHeartbeats 4000000 in
theorem c_impl_FindStore (p0 : M.Database) (p1 : ByteArray) (r : Int) (h : m_impl_FindStore p0 p1 = some r) : SCalls Tryz.prog 240 [(true, M.Database.en p0), (false, [.str p1])] [(false, [.ro (.int .i64 r)])] := by
  unfold m_impl_FindStore at h
  simp only [M.Database.en]
  refine scalls_n (N := 9) (vars := [.tmp 4]) Tryz.func240 rfl rfl rfl (by decide +kernel) (Nat.le_of_ble_eq_true rfl) fun base wd => ?_
  refine sq (rn ?_)
  refine an (sq ?_)
  obtain ⟨x1, h2, h⟩ := bind_some h
  refine rn1 (c_slices_IndexFunc_Store p0.Stores (fun z0 => m_impl_FindStore_1 z0 p1) 325 [.ptr [.str p1]] (fun z0 r hr => c_impl_FindStore_1 z0 p1 r hr) x1 h2) ?_
  refine an (rt ?_)
  cases h
  simp [Ret, TB, EN, *]

set_option maxRecDepth 20000 in
set_option maxHeartbeats 4000000 in
theorem c_slices_Index_IndexDef (p0 : List M.IndexDef) (p1 : M.IndexDef) (r : Int) (h : m_slices_Index_IndexDef p0 p1 = some r) : SCalls Tryz.prog 345 [(false, [.sl (List.map M.IndexDef.en p0)]), (true, M.IndexDef.en p1)] [(false, [.ro (.int .i64 r)])] := by
  unfold m_slices_Index_IndexDef at h
  simp only [M.IndexDef.en]
  refine scalls_n (N := 19) (vars := [.tmp 4]) Tryz.func345 rfl rfl rfl (by decide +kernel) (Nat.le_of_ble_eq_true rfl) fun base wd => ?_
  refine sq (rn ?_)
  refine an (sq (sq (rn ?_)))
  refine an (bk ?_)
  refine SW_loop (fun m s => ∃ v8 : Int, s.t 0 = .v false [.dat (.sl (List.map M.IndexDef.en p0))] ∧ s.t 3 = .v false [.bp 3 1 0] ∧ s.t 7 = .v false [.dat (.int .i64 (List.length p0 : Int))] ∧ s.t 8 = .v false [.dat (.int .i64 v8)] ∧ s.h 3 = (1, .box 337 [.dat (.str p1.Store), .dat (.str p1.Field)]) ∧ m_slices_Index_IndexDef_L1 p0 p1 m v8 = some r) fuel ?_ ?_
  · refine ⟨0, ?_, ?_, ?_, ?_, ?_, h⟩
    all_goals simp +decide only [F, reduceIte, Nat.reduceAdd, Bool.not_true, Bool.not_false, EN, *, -h]
  rintro mL1 s1 ⟨v8, f2, f3, f4, f5, f6, h⟩
  rcases mL1 with _ | mL1
  · exact absurd h (by simp [m_slices_Index_IndexDef_L1])
  simp only [m_slices_Index_IndexDef_L1] at h
  refine sq (rn ?_)
  refine an (sq ?_)
  rcases bcas (decide (v8 < (List.length p0 : Int))) with b7 | b7
  · replace h := ite_f b7 h
    refine cf (xt (aft_cx (aft_ix (aft_x (an (sq (rn ?_)))))))
    refine an (rt ?_)
    cases h
    simp [Ret, TB, EN, *]
  replace h := ite_t b7 h
  refine ct (sk (an (sq (bk (sq (rn ?_))))))
  refine an (sq ?_)
  obtain ⟨x8, h9, h⟩ := bind_some h
  obtain ⟨q10, q11, q12⟩ := idx_some h9
  refine rd mixed ?_
  refine an ?_
  rcases bcase ((p1.Store.toList == x8.Store.toList) && (p1.Field.toList == x8.Field.toList)) with b13 | b13
  · replace h := ite_t b13 h
    refine ct (sq (rn ?_))
    refine an (rt ?_)
    cases h
    simp [Ret, TB, EN, *]
  replace h := ite_f b13 h
  refine cf (sk (ab (an (rn ?_))))
  refine aft_i ⟨mL1, by omega, (IntKind.i64.wrap (v8 + 1)), ?_, ?_, ?_, ?_, ?_, h⟩
  all_goals simp +decide only [F, reduceIte, Nat.reduceAdd, Bool.not_true, Bool.not_false, EN, *, -h]

set_option maxRecDepth 20000 in
set_option maxHeartbeats 4000000 in
theorem c_slices_Contains_IndexDef (p0 : List M.IndexDef) (p1 : M.IndexDef) (r : Bool) (h : m_slices_Contains_IndexDef p0 p1 = some r) : SCalls Tryz.prog 259 [(false, [.sl (List.map M.IndexDef.en p0)]), (true, M.IndexDef.en p1)] [(false, [.ro (.bool r)])] := by
  unfold m_slices_Contains_IndexDef at h
  simp only [M.IndexDef.en]
  refine scalls_n (N := 9) (vars := [.tmp 4]) Tryz.func259 rfl rfl rfl (by decide +kernel) (Nat.le_of_ble_eq_true rfl) fun base wd => ?_
  refine sq (rn ?_)
  refine an (sq ?_)
  obtain ⟨x1, h2, h⟩ := bind_some h
  refine rn1 (c_slices_Index_IndexDef _ _ _ h2) ?_
  refine an (rt ?_)
  cases h
  simp [Ret, TB, EN, *]

set_option maxRecDepth 20000 in
set_option maxHeartbeats 4000000 in
theorem c_impl_fieldAt_1 (p0 : M.Field) (c0 : ByteArray) (r : Bool) (h : m_impl_fieldAt_1 p0 c0 = some r) : SCalls Tryz.prog 329 [(true, M.Field.en p0), (false, [.ptr [.str c0]])] [(false, [.ro (.bool r)])] := by
  unfold m_impl_fieldAt_1 at h
  simp only [M.Field.en]
  refine scalls_n (N := 8) (vars := [.tmp 3]) Tryz.func329 rfl rfl rfl (by decide +kernel) (Nat.le_of_ble_eq_true rfl) fun base wd => ?_
  refine sq (rn ?_)
  refine an (sq (rn ?_))
  refine an (rt ?_)
  cases h
  simp [Ret, TB, EN, *]

set_option maxRecDepth 20000 in
set_option maxHeartbeats 4000000 in
theorem c_slices_IndexFunc_Field (p0 : List M.Field) (p1 : M.Field → Option Bool) (f1_ : FuncId) (k1_ : List D) (hp1 : ∀ z0 r, p1 z0 = some r → SCalls Tryz.prog f1_ ((true, M.Field.en z0) ::  k1_.map fun c => (false, [c])) [(false, [.ro (.bool r)])]) (r : Int) (h : m_slices_IndexFunc_Field p0 p1 = some r) : SCalls Tryz.prog 328 [(false, [.sl (List.map M.Field.en p0)]), (false, [.fn f1_ k1_])] [(false, [.ro (.int .i64 r)])] := by
  unfold m_slices_IndexFunc_Field at h
  refine scalls_n (N := 19) (vars := [.tmp 4]) Tryz.func328 rfl rfl rfl (by decide +kernel) (Nat.le_of_ble_eq_true rfl) fun base wd => ?_
  refine sq (rn ?_)
  refine an (sq (sq (rn ?_)))
  refine an (bk ?_)
  refine SW_loop (fun m s => ∃ v8 : Int, s.t 0 = .v false [.dat (.sl (List.map M.Field.en p0))] ∧ s.t 1 = .v false [.dat (.fn f1_ k1_)] ∧ s.t 7 = .v false [.dat (.int .i64 (List.length p0 : Int))] ∧ s.t 8 = .v false [.dat (.int .i64 v8)] ∧ m_slices_IndexFunc_Field_L1 p0 p1 m v8 = some r) fuel ?_ ?_
  · refine ⟨0, ?_, ?_, ?_, ?_, h⟩
    all_goals simp +decide only [F, reduceIte, Nat.reduceAdd, Bool.not_true, Bool.not_false, EN, *, -h]
  rintro mL1 s1 ⟨v8, f2, f3, f4, f5, h⟩
  rcases mL1 with _ | mL1
  · exact absurd h (by simp [m_slices_IndexFunc_Field_L1])
  simp only [m_slices_IndexFunc_Field_L1] at h
  refine sq (rn ?_)
  refine an (sq ?_)
  rcases bcas (decide (v8 < (List.length p0 : Int))) with b6 | b6
  · replace h := ite_f b6 h
    refine cf (xt (aft_cx (aft_ix (aft_x (an (sq (rn ?_)))))))
    refine an (rt ?_)
    cases h
    simp [Ret, TB, EN, *]
  replace h := ite_t b6 h
  refine ct (sk (an (sq (bk (sq (rn ?_))))))
  refine an (sq ?_)
  obtain ⟨x7, h8, h⟩ := bind_some h
  obtain ⟨q9, q10, q11⟩ := idx_some h8
  obtain ⟨x12, h13, h⟩ := bind_some h
  refine rn1 (hp1 x7 x12 h13) ?_
  refine an ?_
  rcases bcase x12 with b14 | b14
  · replace h := ite_t b14 h
    refine ct (sq (rn ?_))
    refine an (rt ?_)
    cases h
    simp [Ret, TB, EN, *]
  replace h := ite_f b14 h
  refine cf (sk (ab (an (rn ?_))))
  refine aft_i ⟨mL1, by omega, (IntKind.i64.wrap (v8 + 1)), ?_, ?_, ?_, ?_, h⟩
  all_goals simp +decide only [F, reduceIte, Nat.reduceAdd, Bool.not_true, Bool.not_false, EN, *, -h]

set_option maxRecDepth 20000 in
set_option maxHeartbeats 4000000 in
theorem c_impl_fieldAt (p0 : M.Record) (p1 : ByteArray) (r : Int) (h : m_impl_fieldAt p0 p1 = some r) : SCalls Tryz.prog 243 [(true, M.Record.en p0), (false, [.str p1])] [(false, [.ro (.int .i64 r)])] := by
  unfold m_impl_fieldAt at h
  simp only [M.Record.en]
  refine scalls_n (N := 9) (vars := [.tmp 4]) Tryz.func243 rfl rfl rfl (by decide +kernel) (Nat.le_of_ble_eq_true rfl) fun base wd => ?_
  refine sq (rn ?_)
  refine an (sq ?_)
  obtain ⟨x1, h2, h⟩ := bind_some h
  refine rn1 (c_slices_IndexFunc_Field p0.Fields (fun z0 => m_impl_fieldAt_1 z0 p1) 329 [.ptr [.str p1]] (fun z0 r hr => c_impl_fieldAt_1 z0 p1 r hr) x1 h2) ?_
  refine an (rt ?_)
  cases h
  simp [Ret, TB, EN, *]

set_option maxRecDepth 20000 in
set_option maxHeartbeats 4000000 in
theorem c_impl_GetField (p0 : M.Record) (p1 : ByteArray) (r : (Int × Bool)) (h : m_impl_GetField p0 p1 = some r) : SCalls Tryz.prog 141 [(true, M.Record.en p0), (false, [.str p1])] [(false, [.ro (.int .i64 r.1)]), (false, [.ro (.bool r.2)])] := by
  unfold m_impl_GetField at h
  simp only [M.Record.en]
  refine scalls_n (N := 18) (vars := [.tmp 4, .tmp 5]) Tryz.func141 rfl rfl rfl (by decide +kernel) (Nat.le_of_ble_eq_true rfl) fun base wd => ?_
  refine sq (rn ?_)
  refine an (sq ?_)
  obtain ⟨x1, h2, h⟩ := bind_some h
  refine rn1 (c_impl_fieldAt _ _ _ h2) ?_
  refine an (sq (sq (rn ?_)))
  refine an ?_
  rcases bcase (decide (x1 < 0)) with b3 | b3
  · replace h := ite_t b3 h
    refine ct (sq (rn ?_))
    refine an (rt ?_)
    cases h
    simp [Ret, TB, EN, *]
  replace h := ite_f b3 h
  refine cf (sk (an (sq ?_)))
  obtain ⟨x4, h5, h⟩ := bind_some h
  obtain ⟨q6, q7, q8⟩ := idx_some h5
  refine rn ?_
  refine an (rt ?_)
  cases h
  simp [Ret, TB, EN, *]

set_option maxRecDepth 20000 in
set_option maxHeartbeats 4000000 in
theorem c_impl_fieldBefore (p0 : M.Item) (p1 : M.Item) (p2 : ByteArray) (r : Bool) (h : m_impl_fieldBefore p0 p1 p2 = some r) : SCalls Tryz.prog 400 [(true, M.Item.en p0), (true, M.Item.en p1), (false, [.str p2])] [(false, [.ro (.bool r)])] := by
  unfold m_impl_fieldBefore at h
  simp only [M.Item.en]
  refine scalls_n (N := 41) (vars := [.tmp 6]) Tryz.func400 rfl rfl rfl (by decide +kernel) (Nat.le_of_ble_eq_true rfl) fun base wd => ?_
  refine sq (rn ?_)
  refine an (sq ?_)
  obtain ⟨x1, h2, h⟩ := bind_some h
  refine rn1 (c_impl_GetField _ _ _ h2) ?_
  refine an (sq ?_)
  obtain ⟨x3, h4, h⟩ := bind_some h
  refine rn1 (c_impl_GetField _ _ _ h4) ?_
  refine an (sq ?_)
  rcases bcase (decide (x1.1 < x3.1)) with b5 | b5
  · replace h := ite_t b5 h
    refine rn ?_
    refine an (rt ?_)
    cases h
    simp [Ret, TB, EN, *]
  replace h := ite_f b5 h
  rcases bcas (x1.1 == x3.1) with b6 | b6
  · replace h := ite_f b6 h
    refine rn ?_
    refine an (rt ?_)
    cases h
    simp [Ret, TB, EN, *]
  replace h := ite_t b6 h
  obtain ⟨x7, h8, h⟩ := bind_some h
  refine rn1 (c_impl_CompareKeys _ _ _ h8) ?_
  refine an (rt ?_)
  cases h
  simp [Ret, TB, EN, *]

set_option maxRecDepth 20000 in
set_option maxHeartbeats 4000000 in
theorem c_impl_copyRecord (p0 : M.Record) (r : M.Record) (h : m_impl_copyRecord p0 = some r) : SCalls Tryz.prog 415 [(true, M.Record.en p0)] [(true, [.own 317 2 (List.map M.Field.en r.Fields)])] := by
  unfold m_impl_copyRecord at h
  simp only [M.Record.en]
  refine scalls_n (N := 8) (vars := [.cell 2 225]) Tryz.func415 rfl rfl rfl (by decide +kernel) (Nat.le_of_ble_eq_true rfl) fun base wd => ?_
  refine sq (rn ?_)
  refine an (sq ?_)
  obtain ⟨x1, h2, h⟩ := bind_some h
  refine rn1 h2 ?_
  refine an (rt ?_)
  cases h
  simp [Ret, TB, EN, *]

set_option maxRecDepth 20000 in
set_option maxHeartbeats 4000000 in
theorem c_impl_copyItem (p0 : M.Item) (r : M.Item) (h : m_impl_copyItem p0 = some r) : SCalls Tryz.prog 375 [(true, M.Item.en p0)] [(true, [.ro (.int .i64 r.Key.Kind), .ro (.int .i64 r.Key.N), .ro (.str r.Key.Text), .own 317 2 (List.map M.Field.en r.Record.Fields)])] := by
  unfold m_impl_copyItem at h
  simp only [M.Item.en]
  refine scalls_n (N := 9) (vars := [.cell 2 315]) Tryz.func375 rfl rfl rfl (by decide +kernel) (Nat.le_of_ble_eq_true rfl) fun base wd => ?_
  refine sq (rn ?_)
  refine an (sq ?_)
  obtain ⟨x1, h2, h⟩ := bind_some h
  refine rd1 mixed (c_impl_copyRecord _ _ h2) ?_
  refine an (rt ?_)
  cases h
  simp [Ret, TB, EN, *]

set_option maxRecDepth 20000 in
set_option maxHeartbeats 4000000 in
theorem c_impl_IndexOn (p0 : M.Store) (p1 : ByteArray) (r : (List M.Item)) (h : m_impl_IndexOn p0 p1 = some r) : SCalls Tryz.prog 346 [(true, M.Store.en p0), (false, [.str p1])] [(false, [.own 315 4 (List.map M.Item.en r)])] := by
  unfold m_impl_IndexOn at h
  simp only [M.Store.en]
  refine scalls_n (N := 52) (vars := [.tmp 4]) Tryz.func346 rfl rfl rfl (by decide +kernel) (Nat.le_of_ble_eq_true rfl) fun base wd => ?_
  refine sq (rn ?_)
  refine an (sq (rn ?_))
  refine an (sq (sq ?_))
  refine cu (fun s => s.t 1 = .v false [.dat (.str p1)] ∧ s.t 2 = .v false [.bp 2 1 0] ∧ s.t 5 = .v false [.row 100011 1] ∧ s.h 2 = (1, .box 36 [.dat (.str p0.Name), .dat (.sl (List.map M.Item.en p0.Items)), .dat (.int .i64 p0.Auto)]) ∧ s.h 100011 = (1, .row 315 4 (List.map M.Item.en ([] : List M.Item)) true) ∧ True) ?_
  rintro s1 ⟨f2, f3, f4, f5, f6, _⟩
  refine rn ?_
  refine an (bk ?_)
  refine SW_loop (fun m s => ∃ v15 : Int, ∃ r11 : List M.Item, ∃ u11 : Nat, s.t 1 = .v false [.dat (.str p1)] ∧ s.t 5 = .v false [.row 100011 u11] ∧ s.t 13 = .v false [.dat (.sl (List.map M.Item.en p0.Items))] ∧ s.t 14 = .v false [.dat (.int .i64 (List.length p0.Items : Int))] ∧ s.t 15 = .v false [.dat (.int .i64 v15)] ∧ s.h 100011 = (u11, .row 315 4 (List.map M.Item.en r11) true) ∧ m_impl_IndexOn_L1 p0 p1 m v15 r11 = some r) fuel ?_ ?_
  · refine ⟨0, ([] : List M.Item), 1, ?_, ?_, ?_, ?_, ?_, ?_, h⟩
    all_goals simp +decide only [F, reduceIte, Nat.reduceAdd, Bool.not_true, Bool.not_false, EN, *, -h]
  rintro mL1 s7 ⟨v15, r11, u11, f8, f9, f10, f11, f12, f13, h⟩
  rcases mL1 with _ | mL1
  · exact absurd h (by simp [m_impl_IndexOn_L1])
  simp only [m_impl_IndexOn_L1] at h
  refine sq (rn ?_)
  refine an (sq ?_)
  rcases bcas (decide (v15 < (List.length p0.Items : Int))) with b14 | b14
  · replace h := ite_f b14 h
    refine cf (xt (aft_cx (aft_ix (aft_x (an (sq (rn ?_)))))))
    refine an (rt ?_)
    cases h
    simp [Ret, TB, EN, *]
  replace h := ite_t b14 h
  refine ct (sk (an (sq (bk (sq ?_)))))
  obtain ⟨x15, h16, h⟩ := bind_some h
  obtain ⟨q17, q18, q19⟩ := idx_some h16
  refine rn ?_
  refine an (sq (sq ?_))
  obtain ⟨x20, h21, h⟩ := bind_some h
  refine rn1 (c_impl_GetField _ _ _ h21) ?_
  refine an (sq (rn ?_))
  refine an ?_
  rcases bcase (!x20.2) with b22 | b22
  · replace h := ite_t b22 h
    refine ct (xt (aft_cx (aft_x (an (rn ?_)))))
    refine aft_i ⟨mL1, by omega, (IntKind.i64.wrap (v15 + 1)), r11, u11, ?_, ?_, ?_, ?_, ?_, ?_, h⟩
    all_goals simp +decide only [F, reduceIte, Nat.reduceAdd, Bool.not_true, Bool.not_false, EN, *, -h]
  replace h := ite_f b22 h
  refine cf (sk (an (sq (rn ?_))))
  refine an (sq (bk ?_))
  obtain ⟨k24, e25, h⟩ := absk (f := fun kk => m_impl_IndexOn_L2 p1 r11 x15 kk fuel (List.length r11 : Int)) h
  refine SW_loop (fun m s => ∃ v10_L2 : Int, s.t 1 = .v false [.dat (.str p1)] ∧ s.t 5 = .v false [.row 100011 u11] ∧ s.t 7 = .v false [.bp 7 ((s7.h 7).1 + 1) 0] ∧ s.t 10 = .v false [.dat (.int .i64 v10_L2)] ∧ s.t 13 = .v false [.dat (.sl (List.map M.Item.en p0.Items))] ∧ s.t 14 = .v false [.dat (.int .i64 (List.length p0.Items : Int))] ∧ s.t 15 = .v false [.dat (.int .i64 v15)] ∧ s.h 7 = (((s7.h 7).1 + 1), .box 315 [.dat (.int .i64 x15.Key.Kind), .dat (.int .i64 x15.Key.N), .dat (.str x15.Key.Text), .dat (.sl (List.map M.Field.en x15.Record.Fields))]) ∧ s.h 100011 = (u11, .row 315 4 (List.map M.Item.en r11) true) ∧ m_impl_IndexOn_L2 p1 r11 x15 k24 m v10_L2 = some r) fuel ?_ ?_
  · refine ⟨(List.length r11 : Int), ?_, ?_, ?_, ?_, ?_, ?_, ?_, ?_, ?_, h⟩
    all_goals simp +decide only [F, reduceIte, Nat.reduceAdd, Bool.not_true, Bool.not_false, EN, *, -h]
  rintro mL2 s23 ⟨v10_L2, f26, f27, f28, f29, f30, f31, f32, f33, f34, h⟩
  rcases mL2 with _ | mL2
  · exact absurd h (by simp [m_impl_IndexOn_L2])
  simp only [m_impl_IndexOn_L2] at h
  refine sq (sq ?_)
  rcases bcas (decide (v10_L2 > 0)) with b35 | b35
  · replace h := ite_f b35 h
    refine rd mixed ?_
    refine an (cf (xt (aft_cx ?_)))
    subst e25
    refine aft_ix (aft_x (an ?_))
    obtain ⟨x55, h56, h⟩ := bind_some h
    obtain ⟨x57, h58, h⟩ := bind_some h
    apply SW_run
    · simp +decide only [E, reduceIte, Nat.reduceAdd, Nat.reduceMul, Bool.not_true, Bool.not_false, ← List.map_take, ← List.map_drop, L, ti34, ti315, M.Item.en, b14, q17, q18, q19, b22, f26, f27, f28, f29, f30, f31, f32, f33, f34, b35]
      refine ⟨_, c_impl_copyItem _ _ h56, ?_⟩
      try simp +decide only [E, reduceIte, Nat.reduceAdd, Nat.reduceMul, Bool.not_true, Bool.not_false, ← List.map_take, ← List.map_drop, L, ti34, ti315, M.Item.en, b14, q17, q18, q19, b22, f26, f27, f28, f29, f30, f31, f32, f33, f34, b35]
      refine ⟨_, L401.ed401 _, ?_⟩
      try simp +decide only [E, reduceIte, Nat.reduceAdd, Nat.reduceMul, Bool.not_true, Bool.not_false, ← List.map_take, ← List.map_drop, L, ti34, ti315, M.Item.en, b14, q17, q18, q19, b22, f26, f27, f28, f29, f30, f31, f32, f33, f34, b35]
      refine ⟨by (have hb := insAt_some h58); simp [M.Item.en, List.length_append] at hb ⊢ <;> omega, ?_⟩
      try simp +decide only [E, reduceIte, Nat.reduceAdd, Nat.reduceMul, Bool.not_true, Bool.not_false, ← List.map_take, ← List.map_drop, L, ti34, ti315, M.Item.en, b14, q17, q18, q19, b22, f26, f27, f28, f29, f30, f31, f32, f33, f34, b35]
      exact Is.mk _
    refine ab (an ?_)
    refine cu (fun s => s.t 1 = .v false [.dat (.str p1)] ∧ s.t 5 = .v false [.row 100011 (u11 + 1)] ∧ s.t 13 = .v false [.dat (.sl (List.map M.Item.en p0.Items))] ∧ s.t 14 = .v false [.dat (.int .i64 (List.length p0.Items : Int))] ∧ s.t 15 = .v false [.dat (.int .i64 v15)] ∧ s.h 100011 = ((u11 + 1), .row 315 4 (List.map M.Item.en (List.take v10_L2.toNat r11 ++ ([x55] ++ List.drop v10_L2.toNat r11))) true) ∧ True) ?_
    rintro s59 ⟨f60, f61, f62, f63, f64, f65, _⟩
    refine rn ?_
    refine aft_i ⟨mL1, by omega, (IntKind.i64.wrap (v15 + 1)), (List.take v10_L2.toNat r11 ++ ([x55] ++ List.drop v10_L2.toNat r11)), (u11 + 1), ?_, ?_, ?_, ?_, ?_, ?_, h⟩
    all_goals simp +decide only [F, reduceIte, Nat.reduceAdd, Bool.not_true, Bool.not_false, EN, *, -h]
  replace h := ite_t b35 h
  obtain ⟨x36, h37, h⟩ := bind_some h
  obtain ⟨q38, q39, q40⟩ := idx_some h37
  obtain ⟨x41, h42, h⟩ := bind_some h
  refine rd1 mixed (c_impl_fieldBefore _ _ _ _ h42) ?_
  refine an ?_
  rcases bcase x41 with b43 | b43
  · replace h := ite_t b43 h
    refine ct (sk (an (bk (rn ?_))))
    refine ab ?_
    refine aft_i ⟨mL2, by omega, (IntKind.i64.wrap (v10_L2 - 1)), ?_, ?_, ?_, ?_, ?_, ?_, ?_, ?_, ?_, h⟩
    all_goals simp +decide only [F, reduceIte, Nat.reduceAdd, Bool.not_true, Bool.not_false, EN, *, -h]
  replace h := ite_f b43 h
  refine cf (xt (aft_cx ?_))
  subst e25
  refine aft_ix (aft_x (an ?_))
  obtain ⟨x44, h45, h⟩ := bind_some h
  obtain ⟨x46, h47, h⟩ := bind_some h
  apply SW_run
  · simp +decide only [E, reduceIte, Nat.reduceAdd, Nat.reduceMul, Bool.not_true, Bool.not_false, ← List.map_take, ← List.map_drop, L, ti34, ti315, M.Item.en, b14, q17, q18, q19, b22, f26, f27, f28, f29, f30, f31, f32, f33, f34, b35, q38, q39, q40, b43]
    refine ⟨_, c_impl_copyItem _ _ h45, ?_⟩
    try simp +decide only [E, reduceIte, Nat.reduceAdd, Nat.reduceMul, Bool.not_true, Bool.not_false, ← List.map_take, ← List.map_drop, L, ti34, ti315, M.Item.en, b14, q17, q18, q19, b22, f26, f27, f28, f29, f30, f31, f32, f33, f34, b35, q38, q39, q40, b43]
    refine ⟨_, L401.ed401 _, ?_⟩
    try simp +decide only [E, reduceIte, Nat.reduceAdd, Nat.reduceMul, Bool.not_true, Bool.not_false, ← List.map_take, ← List.map_drop, L, ti34, ti315, M.Item.en, b14, q17, q18, q19, b22, f26, f27, f28, f29, f30, f31, f32, f33, f34, b35, q38, q39, q40, b43]
    refine ⟨by (have hb := insAt_some h47); simp [M.Item.en, List.length_append] at hb ⊢ <;> omega, ?_⟩
    try simp +decide only [E, reduceIte, Nat.reduceAdd, Nat.reduceMul, Bool.not_true, Bool.not_false, ← List.map_take, ← List.map_drop, L, ti34, ti315, M.Item.en, b14, q17, q18, q19, b22, f26, f27, f28, f29, f30, f31, f32, f33, f34, b35, q38, q39, q40, b43]
    exact Is.mk _
  refine ab (an ?_)
  refine cu (fun s => s.t 1 = .v false [.dat (.str p1)] ∧ s.t 5 = .v false [.row 100011 (u11 + 1)] ∧ s.t 13 = .v false [.dat (.sl (List.map M.Item.en p0.Items))] ∧ s.t 14 = .v false [.dat (.int .i64 (List.length p0.Items : Int))] ∧ s.t 15 = .v false [.dat (.int .i64 v15)] ∧ s.h 100011 = ((u11 + 1), .row 315 4 (List.map M.Item.en (List.take v10_L2.toNat r11 ++ ([x44] ++ List.drop v10_L2.toNat r11))) true) ∧ True) ?_
  rintro s48 ⟨f49, f50, f51, f52, f53, f54, _⟩
  refine rn ?_
  refine aft_i ⟨mL1, by omega, (IntKind.i64.wrap (v15 + 1)), (List.take v10_L2.toNat r11 ++ ([x44] ++ List.drop v10_L2.toNat r11)), (u11 + 1), ?_, ?_, ?_, ?_, ?_, ?_, h⟩
  all_goals simp +decide only [F, reduceIte, Nat.reduceAdd, Bool.not_true, Bool.not_false, EN, *, -h]

end Go.Proofs.YtgemmnkhddlhpaaGreat.gen
