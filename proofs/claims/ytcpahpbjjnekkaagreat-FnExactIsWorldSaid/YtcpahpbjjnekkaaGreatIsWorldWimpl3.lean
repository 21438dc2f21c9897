/-
  Helper text: walks: each function's contract out of its model. No conditions beyond those of each contract.
-/
import Derived.Test.YtcpahpbjjnekkaaGreatIsWorldTi
import Derived.Test.YtcpahpbjjnekkaaGreatIsWorldWimpl0
import Derived.Test.YtcpahpbjjnekkaaGreatIsWorldWimpl2
namespace Go.Proofs.YtcpahpbjjnekkaaGreat.gen
open Go Go.Sh
set_option linter.unusedVariables false
set_option linter.unusedSimpArgs false
set_option maxRecDepth 20000 in
set_option maxHeartbeats 4000000 in
theorem c_impl_UsageOf (p0 : M.Bucket) (r : Int) (h : m_impl_UsageOf p0 = some r) : SCalls Tryz.prog 263 [(true, M.Bucket.en p0)] [(false, [.ro (.int .i64 r)])] := by
  unfold m_impl_UsageOf at h
  simp only [M.Bucket.en]
  refine scalls_n (N := 23) (vars := [.tmp 2]) Tryz.func263 rfl rfl rfl (by decide +kernel) (Nat.le_of_ble_eq_true rfl) fun base wd => ?_
  refine sq (rn ?_)
  refine an (sq ?_)
  obtain ⟨x1, h2, h⟩ := bind_some h
  obtain ⟨x3, h4, h⟩ := bind_some h
  obtain ⟨x5, h6, h⟩ := bind_some h
  refine rd3 mixed (c_impl_SizeCaches _ _ h2) (c_impl_SizeDisk _ _ h4) (c_impl_SizeStore _ _ h6) ?_
  refine an (rt ?_)
  cases h
  simp [Ret, TB, EN, *]

set_option maxRecDepth 20000 in
set_option maxHeartbeats 4000000 in
theorem c_impl_IsBucket (p0 : M.Bucket) (r : Bool) (h : m_impl_IsBucket p0 = some r) : SCalls Tryz.prog 193 [(true, M.Bucket.en p0)] [(false, [.ro (.bool r)])] := by
  unfold m_impl_IsBucket at h
  simp only [M.Bucket.en]
  refine scalls_n (N := 50) (vars := [.tmp 2]) Tryz.func193 rfl rfl rfl (by decide +kernel) (Nat.le_of_ble_eq_true rfl) fun base wd => ?_
  refine sq (rn ?_)
  refine an (sq ?_)
  obtain ⟨x1, h2, h⟩ := bind_some h
  rcases bcas x1 with b3 | b3
  · replace h := ite_f b3 h
    refine rn1 (c_impl_IsName _ _ h2) ?_
    refine an (rt ?_)
    cases h
    simp [Ret, TB, EN, *]
  replace h := ite_t b3 h
  obtain ⟨x4, h5, h⟩ := bind_some h
  rcases bcas x4 with b6 | b6
  · replace h := ite_f b6 h
    refine rn2 (c_impl_IsName _ _ h2) (c_impl_IsName _ _ h5) ?_
    refine an (rt ?_)
    cases h
    simp [Ret, TB, EN, *]
  replace h := ite_t b6 h
  obtain ⟨x7, h8, h⟩ := bind_some h
  rcases bcas x7 with b9 | b9
  · replace h := ite_f b9 h
    refine rn3 (c_impl_IsName _ _ h2) (c_impl_IsName _ _ h5) (c_impl_IsRegistration _ _ h8) ?_
    refine an (rt ?_)
    cases h
    simp [Ret, TB, EN, *]
  replace h := ite_t b9 h
  rcases bcas (p0.Registration.Site.toList == p0.Site.toList) with b10 | b10
  · replace h := ite_f b10 h
    refine rn3 (c_impl_IsName _ _ h2) (c_impl_IsName _ _ h5) (c_impl_IsRegistration _ _ h8) ?_
    refine an (rt ?_)
    cases h
    simp [Ret, TB, EN, *]
  replace h := ite_t b10 h
  obtain ⟨x11, h12, h⟩ := bind_some h
  rcases bcas x11 with b13 | b13
  · replace h := ite_f b13 h
    refine rn4 (c_impl_IsName _ _ h2) (c_impl_IsName _ _ h5) (c_impl_IsRegistration _ _ h8) (c_impl_IsCacheSet _ _ h12) ?_
    refine an (rt ?_)
    cases h
    simp [Ret, TB, EN, *]
  replace h := ite_t b13 h
  obtain ⟨x14, h15, h⟩ := bind_some h
  rcases bcas x14 with b16 | b16
  · replace h := ite_f b16 h
    refine rn5 (c_impl_IsName _ _ h2) (c_impl_IsName _ _ h5) (c_impl_IsRegistration _ _ h8) (c_impl_IsCacheSet _ _ h12) (c_impl_IsDatabase _ _ h15) ?_
    refine an (rt ?_)
    cases h
    simp [Ret, TB, EN, *]
  replace h := ite_t b16 h
  obtain ⟨x17, h18, h⟩ := bind_some h
  rcases bcas x17 with b19 | b19
  · replace h := ite_f b19 h
    refine rn6 (c_impl_IsName _ _ h2) (c_impl_IsName _ _ h5) (c_impl_IsRegistration _ _ h8) (c_impl_IsCacheSet _ _ h12) (c_impl_IsDatabase _ _ h15) (c_impl_IsReplica _ _ h18) ?_
    refine an (rt ?_)
    cases h
    simp [Ret, TB, EN, *]
  replace h := ite_t b19 h
  obtain ⟨x20, h21, h⟩ := bind_some h
  rcases bcas x20 with b22 | b22
  · replace h := ite_f b22 h
    apply SW_run
    · simp +decide only [E, reduceIte, Nat.reduceAdd, Nat.reduceMul, Bool.not_true, Bool.not_false, L, ti3, ti9, ti128, ti131, ti135, ti137, ti143, ti145, b3, b6, b9, b10, b13, b16, b19, b22]
      refine ⟨_, c_impl_IsName _ _ h2, ?_⟩
      try simp +decide only [E, reduceIte, Nat.reduceAdd, Nat.reduceMul, Bool.not_true, Bool.not_false, L, ti3, ti9, ti128, ti131, ti135, ti137, ti143, ti145, b3, b6, b9, b10, b13, b16, b19, b22]
      refine ⟨_, c_impl_IsName _ _ h5, ?_⟩
      try simp +decide only [E, reduceIte, Nat.reduceAdd, Nat.reduceMul, Bool.not_true, Bool.not_false, L, ti3, ti9, ti128, ti131, ti135, ti137, ti143, ti145, b3, b6, b9, b10, b13, b16, b19, b22]
      refine ⟨_, c_impl_IsRegistration _ _ h8, ?_⟩
      try simp +decide only [E, reduceIte, Nat.reduceAdd, Nat.reduceMul, Bool.not_true, Bool.not_false, L, ti3, ti9, ti128, ti131, ti135, ti137, ti143, ti145, b3, b6, b9, b10, b13, b16, b19, b22]
      refine ⟨_, c_impl_IsCacheSet _ _ h12, ?_⟩
      try simp +decide only [E, reduceIte, Nat.reduceAdd, Nat.reduceMul, Bool.not_true, Bool.not_false, L, ti3, ti9, ti128, ti131, ti135, ti137, ti143, ti145, b3, b6, b9, b10, b13, b16, b19, b22]
      refine ⟨_, c_impl_IsDatabase _ _ h15, ?_⟩
      try simp +decide only [E, reduceIte, Nat.reduceAdd, Nat.reduceMul, Bool.not_true, Bool.not_false, L, ti3, ti9, ti128, ti131, ti135, ti137, ti143, ti145, b3, b6, b9, b10, b13, b16, b19, b22]
      refine ⟨_, c_impl_IsReplica _ _ h18, ?_⟩
      try simp +decide only [E, reduceIte, Nat.reduceAdd, Nat.reduceMul, Bool.not_true, Bool.not_false, L, ti3, ti9, ti128, ti131, ti135, ti137, ti143, ti145, b3, b6, b9, b10, b13, b16, b19, b22]
      refine ⟨_, c_impl_InRange _ _ _ _ h21, ?_⟩
      try simp +decide only [E, reduceIte, Nat.reduceAdd, Nat.reduceMul, Bool.not_true, Bool.not_false, L, ti3, ti9, ti128, ti131, ti135, ti137, ti143, ti145, b3, b6, b9, b10, b13, b16, b19, b22]
      exact Is.mk _
    refine an (rt ?_)
    cases h
    simp [Ret, TB, EN, *]
  replace h := ite_t b22 h
  obtain ⟨x23, h24, h⟩ := bind_some h
  apply SW_run
  · simp +decide only [E, reduceIte, Nat.reduceAdd, Nat.reduceMul, Bool.not_true, Bool.not_false, L, ti3, ti9, ti128, ti131, ti135, ti137, ti143, ti145, b3, b6, b9, b10, b13, b16, b19, b22]
    refine ⟨_, c_impl_IsName _ _ h2, ?_⟩
    try simp +decide only [E, reduceIte, Nat.reduceAdd, Nat.reduceMul, Bool.not_true, Bool.not_false, L, ti3, ti9, ti128, ti131, ti135, ti137, ti143, ti145, b3, b6, b9, b10, b13, b16, b19, b22]
    refine ⟨_, c_impl_IsName _ _ h5, ?_⟩
    try simp +decide only [E, reduceIte, Nat.reduceAdd, Nat.reduceMul, Bool.not_true, Bool.not_false, L, ti3, ti9, ti128, ti131, ti135, ti137, ti143, ti145, b3, b6, b9, b10, b13, b16, b19, b22]
    refine ⟨_, c_impl_IsRegistration _ _ h8, ?_⟩
    try simp +decide only [E, reduceIte, Nat.reduceAdd, Nat.reduceMul, Bool.not_true, Bool.not_false, L, ti3, ti9, ti128, ti131, ti135, ti137, ti143, ti145, b3, b6, b9, b10, b13, b16, b19, b22]
    refine ⟨_, c_impl_IsCacheSet _ _ h12, ?_⟩
    try simp +decide only [E, reduceIte, Nat.reduceAdd, Nat.reduceMul, Bool.not_true, Bool.not_false, L, ti3, ti9, ti128, ti131, ti135, ti137, ti143, ti145, b3, b6, b9, b10, b13, b16, b19, b22]
    refine ⟨_, c_impl_IsDatabase _ _ h15, ?_⟩
    try simp +decide only [E, reduceIte, Nat.reduceAdd, Nat.reduceMul, Bool.not_true, Bool.not_false, L, ti3, ti9, ti128, ti131, ti135, ti137, ti143, ti145, b3, b6, b9, b10, b13, b16, b19, b22]
    refine ⟨_, c_impl_IsReplica _ _ h18, ?_⟩
    try simp +decide only [E, reduceIte, Nat.reduceAdd, Nat.reduceMul, Bool.not_true, Bool.not_false, L, ti3, ti9, ti128, ti131, ti135, ti137, ti143, ti145, b3, b6, b9, b10, b13, b16, b19, b22]
    refine ⟨_, c_impl_InRange _ _ _ _ h21, ?_⟩
    try simp +decide only [E, reduceIte, Nat.reduceAdd, Nat.reduceMul, Bool.not_true, Bool.not_false, L, ti3, ti9, ti128, ti131, ti135, ti137, ti143, ti145, b3, b6, b9, b10, b13, b16, b19, b22]
    refine ⟨_, c_impl_UsageOf _ _ h24, ?_⟩
    try simp +decide only [E, reduceIte, Nat.reduceAdd, Nat.reduceMul, Bool.not_true, Bool.not_false, L, ti3, ti9, ti128, ti131, ti135, ti137, ti143, ti145, b3, b6, b9, b10, b13, b16, b19, b22]
    exact Is.mk _
  refine an (rt ?_)
  cases h
  simp [Ret, TB, EN, *]

set_option maxRecDepth 20000 in
set_option maxHeartbeats 4000000 in
theorem c_impl_bucketBefore (p0 : M.Bucket) (p1 : M.Bucket) (r : Bool) (h : m_impl_bucketBefore p0 p1 = some r) : SCalls Tryz.prog 194 [(true, M.Bucket.en p0), (true, M.Bucket.en p1)] [(false, [.ro (.bool r)])] := by
  unfold m_impl_bucketBefore at h
  simp only [M.Bucket.en]
  refine scalls_n (N := 24) (vars := [.tmp 4]) Tryz.func194 rfl rfl rfl (by decide +kernel) (Nat.le_of_ble_eq_true rfl) fun base wd => ?_
  refine sq (rn ?_)
  refine an (sq ?_)
  rcases bcase (Op.bytesLess p0.Site.toList p1.Site.toList) with b1 | b1
  · replace h := ite_t b1 h
    refine rn ?_
    refine an (rt ?_)
    cases h
    simp [Ret, TB, EN, *]
  replace h := ite_f b1 h
  rcases bcase (p0.Site.toList == p1.Site.toList) with b2 | b2
  · replace h := ite_t b2 h
    refine rn ?_
    refine an (rt ?_)
    cases h
    simp [Ret, TB, EN, *]
  replace h := ite_f b2 h
  refine rn ?_
  refine an (rt ?_)
  cases h
  simp [Ret, TB, EN, *]

set_option maxRecDepth 20000 in
set_option maxHeartbeats 4000000 in
theorem c_impl_IsStorage (p0 : M.Storage) (r : Bool) (h : m_impl_IsStorage p0 = some r) : SCalls Tryz.prog 120 [(true, M.Storage.en p0)] [(false, [.ro (.bool r)])] := by
  unfold m_impl_IsStorage at h
  simp only [M.Storage.en]
  refine scalls_n (N := 36) (vars := [.tmp 2]) Tryz.func120 rfl rfl rfl (by decide +kernel) (Nat.le_of_ble_eq_true rfl) fun base wd => ?_
  refine sq (rn ?_)
  refine an (sq (sq (rn ?_)))
  refine an (bk ?_)
  refine SW_loop (fun m s => ∃ v8 : Int, s.t 1 = .v false [.bp 1 1 0] ∧ s.t 6 = .v false [.dat (.sl (List.map M.Bucket.en p0.Buckets))] ∧ s.t 7 = .v false [.dat (.int .i64 (List.length p0.Buckets : Int))] ∧ s.t 8 = .v false [.dat (.int .i64 v8)] ∧ s.h 1 = (1, .box 24 [.dat (.sl (List.map M.Bucket.en p0.Buckets))]) ∧ m_impl_IsStorage_L1 p0 m v8 = some r) fuel ?_ ?_
  · refine ⟨0, ?_, ?_, ?_, ?_, ?_, h⟩
    all_goals simp +decide only [F, reduceIte, Nat.reduceAdd, Bool.not_true, Bool.not_false, EN, *, -h]
  rintro mL1 s1 ⟨v8, f2, f3, f4, f5, f6, h⟩
  rcases mL1 with _ | mL1
  · exact absurd h (by simp [m_impl_IsStorage_L1])
  simp only [m_impl_IsStorage_L1] at h
  refine sq (rn ?_)
  refine an (sq ?_)
  rcases bcas (decide (v8 < (List.length p0.Buckets : Int))) with b7 | b7
  · replace h := ite_f b7 h
    refine cf (xt (aft_cx (aft_ix (aft_x (an (sq (rn ?_)))))))
    refine an (rt ?_)
    cases h
    simp [Ret, TB, EN, *]
  replace h := ite_t b7 h
  refine ct (sk (an (sq (bk (sq ?_)))))
  obtain ⟨x8, h9, h⟩ := bind_some h
  obtain ⟨q10, q11, q12⟩ := idx_some h9
  refine rn ?_
  refine an (sq ?_)
  obtain ⟨x13, h14, h⟩ := bind_some h
  rcases bcase (!x13) with b15 | b15
  · replace h := ite_t b15 h
    refine rd1 mixed (c_impl_IsBucket _ _ h14) ?_
    refine an (ct (sq (rn ?_)))
    refine an (rt ?_)
    cases h
    simp [Ret, TB, EN, *]
  replace h := ite_f b15 h
  rcases bcas (decide (v8 > 0)) with b16 | b16
  · replace h := ite_f b16 h
    refine rd1 mixed (c_impl_IsBucket _ _ h14) ?_
    refine an (cf (sk (ab (an (rn ?_)))))
    refine aft_i ⟨mL1, by omega, (IntKind.i64.wrap (v8 + 1)), ?_, ?_, ?_, ?_, ?_, h⟩
    all_goals simp +decide only [F, reduceIte, Nat.reduceAdd, Bool.not_true, Bool.not_false, EN, *, -h]
  replace h := ite_t b16 h
  obtain ⟨x17, h18, h⟩ := bind_some h
  obtain ⟨q19, q20, q21⟩ := idx_some h18
  obtain ⟨x22, h23, h⟩ := bind_some h
  refine rd2 mixed (c_impl_IsBucket _ _ h14) (c_impl_bucketBefore _ _ _ h23) ?_
  refine an ?_
  rcases bcase (!x22) with b24 | b24
  · replace h := ite_t b24 h
    refine ct (sq (rn ?_))
    refine an (rt ?_)
    cases h
    simp [Ret, TB, EN, *]
  replace h := ite_f b24 h
  refine cf (sk (ab (an (rn ?_))))
  refine aft_i ⟨mL1, by omega, (IntKind.i64.wrap (v8 + 1)), ?_, ?_, ?_, ?_, ?_, h⟩
  all_goals simp +decide only [F, reduceIte, Nat.reduceAdd, Bool.not_true, Bool.not_false, EN, *, -h]

set_option maxRecDepth 20000 in
set_option maxHeartbeats 4000000 in
theorem c_impl_IsLockName (p0 : ByteArray) (r : Bool) (h : m_impl_IsLockName p0 = some r) : SCalls Tryz.prog 195 [(false, [.str p0])] [(false, [.ro (.bool r)])] := by
  unfold m_impl_IsLockName at h
  refine scalls_n (N := 5) (vars := [.tmp 2]) Tryz.func195 rfl rfl rfl (by decide +kernel) (Nat.le_of_ble_eq_true rfl) fun base wd => ?_
  refine sq (rn ?_)
  refine an (sq ?_)
  obtain ⟨x1, h2, h⟩ := bind_some h
  refine rn1 (c_impl_isWord _ _ _ _ h2) ?_
  refine an (rt ?_)
  cases h
  simp [Ret, TB, EN, *]

set_option maxRecDepth 20000 in
set_option maxHeartbeats 4000000 in
theorem c_impl_IsLockTable (p0 : M.LockTable) (r : Bool) (h : m_impl_IsLockTable p0 = some r) : SCalls Tryz.prog 121 [(true, M.LockTable.en p0)] [(false, [.ro (.bool r)])] := by
  unfold m_impl_IsLockTable at h
  simp only [M.LockTable.en]
  refine scalls_n (N := 64) (vars := [.tmp 2]) Tryz.func121 rfl rfl rfl (by decide +kernel) (Nat.le_of_ble_eq_true rfl) fun base wd => ?_
  refine sq (rn ?_)
  refine an (sq (sq (rn ?_)))
  refine an (bk ?_)
  refine SW_loop (fun m s => ∃ v10 : Int, s.t 1 = .v false [.bp 1 1 0] ∧ s.t 8 = .v false [.dat (.sl (List.map M.Lock.en p0.Locks))] ∧ s.t 9 = .v false [.dat (.int .i64 (List.length p0.Locks : Int))] ∧ s.t 10 = .v false [.dat (.int .i64 v10)] ∧ s.h 1 = (1, .box 28 [.dat (.sl (List.map M.Lock.en p0.Locks))]) ∧ m_impl_IsLockTable_L1 p0 m v10 = some r) fuel ?_ ?_
  · refine ⟨0, ?_, ?_, ?_, ?_, ?_, h⟩
    all_goals simp +decide only [F, reduceIte, Nat.reduceAdd, Bool.not_true, Bool.not_false, EN, *, -h]
  rintro mL1 s1 ⟨v10, f2, f3, f4, f5, f6, h⟩
  rcases mL1 with _ | mL1
  · exact absurd h (by simp [m_impl_IsLockTable_L1])
  simp only [m_impl_IsLockTable_L1] at h
  refine sq (rn ?_)
  refine an (sq ?_)
  rcases bcas (decide (v10 < (List.length p0.Locks : Int))) with b7 | b7
  · replace h := ite_f b7 h
    refine cf (xt (aft_cx (aft_ix (aft_x (an (sq (rn ?_)))))))
    refine an (rt ?_)
    cases h
    simp [Ret, TB, EN, *]
  replace h := ite_t b7 h
  refine ct (sk (an (sq (bk (sq ?_)))))
  obtain ⟨x8, h9, h⟩ := bind_some h
  obtain ⟨q10, q11, q12⟩ := idx_some h9
  refine rn ?_
  refine an (sq (sq ?_))
  obtain ⟨x13, h14, h⟩ := bind_some h
  rcases bcase (!x13) with b15 | b15
  · replace h := ite_t b15 h
    refine rn1 (c_impl_IsLockName _ _ h14) ?_
    refine an (ct (sq (rn ?_)))
    refine an (rt ?_)
    cases h
    simp [Ret, TB, EN, *]
  replace h := ite_f b15 h
  obtain ⟨x16, h17, h⟩ := bind_some h
  refine rn2 (c_impl_IsLockName _ _ h14) (c_impl_InRange _ _ _ _ h17) ?_
  refine an ?_
  rcases bcase (!x16) with b18 | b18
  · replace h := ite_t b18 h
    refine ct (sq (rn ?_))
    refine an (rt ?_)
    cases h
    simp [Ret, TB, EN, *]
  replace h := ite_f b18 h
  refine cf (sk (an (sq ?_)))
  obtain ⟨x19, h20, h⟩ := bind_some h
  apply SW_run
  · simp +decide only [E, reduceIte, Nat.reduceAdd, Nat.reduceMul, Bool.not_true, Bool.not_false, ← List.map_take, ← List.map_drop, L, ti26, ti28, ti162, M.Lock.en, f2, f3, f4, f5, f6, b7, q10, q11, q12, b15, b18]
    refine ⟨by first | exact slcHi_some (f := M.Lock.en) (n := 4) (fun _ => rfl) h20 | exact (slcHi_some (f := M.Lock.en) (n := 4) (fun _ => rfl) h20).2 | exact (slcHi_some (f := M.Lock.en) (n := 4) (fun _ => rfl) h20).2.2, ?_⟩
    try simp +decide only [E, reduceIte, Nat.reduceAdd, Nat.reduceMul, Bool.not_true, Bool.not_false, ← List.map_take, ← List.map_drop, L, ti26, ti28, ti162, M.Lock.en, f2, f3, f4, f5, f6, b7, q10, q11, q12, b15, b18]
    exact Is.mk _
  refine an (bk ?_)
  obtain ⟨k22, e23, h⟩ := absk (f := fun kk => m_impl_IsLockTable_L2 p0 v10 x8 kk fuel 0) h
  refine SW_loop (fun m s => ∃ v30_L2 : Int, s.t 1 = .v false [.bp 1 1 0] ∧ s.t 4 = .v false [.bp 4 ((s1.h 4).1 + 1) 0] ∧ s.t 8 = .v false [.dat (.sl (List.map M.Lock.en p0.Locks))] ∧ s.t 9 = .v false [.dat (.int .i64 (List.length p0.Locks : Int))] ∧ s.t 10 = .v false [.dat (.int .i64 v10)] ∧ s.t 28 = .v false [.dat (.sl (List.map M.Lock.en (List.take v10.toNat p0.Locks)))] ∧ s.t 29 = .v false [.dat (.int .i64 (List.length (List.take v10.toNat p0.Locks) : Int))] ∧ s.t 30 = .v false [.dat (.int .i64 v30_L2)] ∧ s.h 1 = (1, .box 28 [.dat (.sl (List.map M.Lock.en p0.Locks))]) ∧ s.h 4 = (((s1.h 4).1 + 1), .box 162 [.dat (.str x8.Name), .dat (.int .i64 x8.Page), .dat (.bool x8.Shared), .dat (.bool x8.Held)]) ∧ m_impl_IsLockTable_L2 p0 v10 x8 k22 m v30_L2 = some r) fuel ?_ ?_
  · refine ⟨0, ?_, ?_, ?_, ?_, ?_, ?_, ?_, ?_, ?_, ?_, h⟩
    all_goals simp +decide only [F, reduceIte, Nat.reduceAdd, Bool.not_true, Bool.not_false, EN, *, -h]
  rintro mL2 s21 ⟨v30_L2, f24, f25, f26, f27, f28, f29, f30, f31, f32, f33, h⟩
  rcases mL2 with _ | mL2
  · exact absurd h (by simp [m_impl_IsLockTable_L2])
  simp only [m_impl_IsLockTable_L2] at h
  refine sq (rn ?_)
  refine an (sq ?_)
  rcases bcas (decide (v30_L2 < (List.length (List.take v10.toNat p0.Locks) : Int))) with b34 | b34
  · replace h := ite_f b34 h
    refine cf (xt (aft_cx ?_))
    subst e23
    refine aft_ix (aft_x (ab (an (rn ?_))))
    refine aft_i ⟨mL1, by omega, (IntKind.i64.wrap (v10 + 1)), ?_, ?_, ?_, ?_, ?_, h⟩
    all_goals simp +decide only [F, reduceIte, Nat.reduceAdd, Bool.not_true, Bool.not_false, EN, *, -h]
  replace h := ite_t b34 h
  refine ct (sk (an (sq (bk (sq ?_)))))
  obtain ⟨x35, h36, h⟩ := bind_some h
  obtain ⟨q37, q38, q39⟩ := idx_some h36
  refine rn ?_
  refine an (sq ?_)
  rcases bcas (x35.Name.toList == x8.Name.toList) with b40 | b40
  · replace h := ite_f b40 h
    refine rn ?_
    refine an (cf (sk (ab (an (rn ?_)))))
    refine aft_i ⟨mL2, by omega, (IntKind.i64.wrap (v30_L2 + 1)), ?_, ?_, ?_, ?_, ?_, ?_, ?_, ?_, ?_, ?_, h⟩
    all_goals simp +decide only [F, reduceIte, Nat.reduceAdd, Bool.not_true, Bool.not_false, EN, *, -h]
  replace h := ite_t b40 h
  rcases bcas x8.Held with b41 | b41
  · replace h := ite_f b41 h
    refine rn ?_
    refine an (cf (sk (ab (an (rn ?_)))))
    refine aft_i ⟨mL2, by omega, (IntKind.i64.wrap (v30_L2 + 1)), ?_, ?_, ?_, ?_, ?_, ?_, ?_, ?_, ?_, ?_, h⟩
    all_goals simp +decide only [F, reduceIte, Nat.reduceAdd, Bool.not_true, Bool.not_false, EN, *, -h]
  replace h := ite_t b41 h
  rcases bcase (!x35.Held) with b42 | b42
  · replace h := ite_t b42 h
    refine rn ?_
    refine an (ct (sq (rn ?_)))
    refine an (rt ?_)
    cases h
    simp [Ret, TB, EN, *]
  replace h := ite_f b42 h
  rcases bcase (!x8.Shared) with b43 | b43
  · replace h := ite_t b43 h
    refine rn ?_
    refine an (ct (sq (rn ?_)))
    refine an (rt ?_)
    cases h
    simp [Ret, TB, EN, *]
  replace h := ite_f b43 h
  refine rn ?_
  refine an ?_
  rcases bcase (!x35.Shared) with b44 | b44
  · replace h := ite_t b44 h
    refine ct (sq (rn ?_))
    refine an (rt ?_)
    cases h
    simp [Ret, TB, EN, *]
  replace h := ite_f b44 h
  refine cf (sk (ab (an (rn ?_))))
  refine aft_i ⟨mL2, by omega, (IntKind.i64.wrap (v30_L2 + 1)), ?_, ?_, ?_, ?_, ?_, ?_, ?_, ?_, ?_, ?_, h⟩
  all_goals simp +decide only [F, reduceIte, Nat.reduceAdd, Bool.not_true, Bool.not_false, EN, *, -h]

set_option maxRecDepth 20000 in
set_option maxHeartbeats 4000000 in
theorem c_impl_IsPage (p0 : M.Page) (r : Bool) (h : m_impl_IsPage p0 = some r) : SCalls Tryz.prog 122 [(true, M.Page.en p0)] [(false, [.ro (.bool r)])] := by
  unfold m_impl_IsPage at h
  simp only [M.Page.en]
  refine scalls_n (N := 48) (vars := [.tmp 2]) Tryz.func122 rfl rfl rfl (by decide +kernel) (Nat.le_of_ble_eq_true rfl) fun base wd => ?_
  refine sq (rn ?_)
  refine an (sq (sq (rn ?_)))
  refine an (bk ?_)
  refine SW_loop (fun m s => ∃ v8 : Int, s.t 1 = .v false [.bp 1 1 0] ∧ s.t 6 = .v false [.dat (.sl (List.map M.Loaded.en p0.Loaded))] ∧ s.t 7 = .v false [.dat (.int .i64 (List.length p0.Loaded : Int))] ∧ s.t 8 = .v false [.dat (.int .i64 v8)] ∧ s.h 1 = (1, .box 70 [.dat (.int .i64 p0.Id), .dat (.str p0.Site), .dat (.str p0.Top), .dat (.int .i64 p0.Version), .dat (.sl (List.map M.Loaded.en p0.Loaded)), .dat (.sl (List.map M.Instr.en p0.Machine.Script)), .dat (.int .i64 p0.Machine.Pc), .dat (.sl (List.map enI p0.Machine.Regs)), .dat (.int .i64 p0.Machine.Steps), .dat (.bool p0.Machine.Done), .dat (.bool p0.Machine.Wait)]) ∧ m_impl_IsPage_L1 p0 m v8 = some r) fuel ?_ ?_
  · refine ⟨0, ?_, ?_, ?_, ?_, ?_, h⟩
    all_goals simp +decide only [F, reduceIte, Nat.reduceAdd, Bool.not_true, Bool.not_false, EN, *, -h]
  rintro mL1 s1 ⟨v8, f2, f3, f4, f5, f6, h⟩
  rcases mL1 with _ | mL1
  · exact absurd h (by simp [m_impl_IsPage_L1])
  simp only [m_impl_IsPage_L1] at h
  refine sq (rn ?_)
  refine an (sq ?_)
  rcases bcase (decide (v8 < (List.length p0.Loaded : Int))) with b7 | b7
  · replace h := ite_t b7 h
    refine ct (sk (an (sq (bk (sq ?_)))))
    obtain ⟨x8, h9, h⟩ := bind_some h
    obtain ⟨q10, q11, q12⟩ := idx_some h9
    refine rn ?_
    refine an (sq ?_)
    obtain ⟨x13, h14, h⟩ := bind_some h
    rcases bcase (!x13) with b15 | b15
    · replace h := ite_t b15 h
      refine rn1 (c_impl_IsName _ _ h14) ?_
      refine an (ct (sq (rn ?_)))
      refine an (rt ?_)
      cases h
      simp [Ret, TB, EN, *]
    replace h := ite_f b15 h
    refine rn1 (c_impl_IsName _ _ h14) ?_
    refine an ?_
    rcases bcase (x8.Version != p0.Version) with b16 | b16
    · replace h := ite_t b16 h
      refine ct (sq (rn ?_))
      refine an (rt ?_)
      cases h
      simp [Ret, TB, EN, *]
    replace h := ite_f b16 h
    refine cf (sk (ab (an (rn ?_))))
    refine aft_i ⟨mL1, by omega, (IntKind.i64.wrap (v8 + 1)), ?_, ?_, ?_, ?_, ?_, h⟩
    all_goals simp +decide only [F, reduceIte, Nat.reduceAdd, Bool.not_true, Bool.not_false, EN, *, -h]
  replace h := ite_f b7 h
  refine cf (xt (aft_cx (aft_ix (aft_x (an (sq ?_))))))
  obtain ⟨x17, h18, h⟩ := bind_some h
  rcases bcas x17 with b19 | b19
  · replace h := ite_f b19 h
    refine rn1 (c_impl_InRange _ _ _ _ h18) ?_
    refine an (rt ?_)
    cases h
    simp [Ret, TB, EN, *]
  replace h := ite_t b19 h
  obtain ⟨x20, h21, h⟩ := bind_some h
  rcases bcas x20 with b22 | b22
  · replace h := ite_f b22 h
    refine rn2 (c_impl_InRange _ _ _ _ h18) (c_impl_IsName _ _ h21) ?_
    refine an (rt ?_)
    cases h
    simp [Ret, TB, EN, *]
  replace h := ite_t b22 h
  obtain ⟨x23, h24, h⟩ := bind_some h
  rcases bcas x23 with b25 | b25
  · replace h := ite_f b25 h
    refine rn3 (c_impl_InRange _ _ _ _ h18) (c_impl_IsName _ _ h21) (c_impl_IsName _ _ h24) ?_
    refine an (rt ?_)
    cases h
    simp [Ret, TB, EN, *]
  replace h := ite_t b25 h
  obtain ⟨x26, h27, h⟩ := bind_some h
  rcases bcase x26 with b28 | b28
  · replace h := ite_t b28 h
    refine rn4 (c_impl_InRange _ _ _ _ h18) (c_impl_IsName _ _ h21) (c_impl_IsName _ _ h24) (c_impl_InRange _ _ _ _ h27) ?_
    refine an (rt ?_)
    cases h
    simp [Ret, TB, EN, *]
  replace h := ite_f b28 h
  refine rn4 (c_impl_InRange _ _ _ _ h18) (c_impl_IsName _ _ h21) (c_impl_IsName _ _ h24) (c_impl_InRange _ _ _ _ h27) ?_
  refine an (rt ?_)
  cases h
  simp [Ret, TB, EN, *]

set_option maxRecDepth 20000 in
set_option maxHeartbeats 4000000 in
theorem c_impl_FindBucket_1 (p0 : M.Bucket) (c0 : ByteArray) (c1 : ByteArray) (r : Bool) (h : m_impl_FindBucket_1 p0 c0 c1 = some r) : SCalls Tryz.prog 198 [(true, M.Bucket.en p0), (false, [.ptr [.str c0]]), (false, [.ptr [.str c1]])] [(false, [.ro (.bool r)])] := by
  unfold m_impl_FindBucket_1 at h
  simp only [M.Bucket.en]
  refine scalls_n (N := 15) (vars := [.tmp 4]) Tryz.func198 rfl rfl rfl (by decide +kernel) (Nat.le_of_ble_eq_true rfl) fun base wd => ?_
  refine sq (rn ?_)
  refine an (sq ?_)
  rcases bcase (p0.Site.toList == c0.toList) with b1 | b1
  · replace h := ite_t b1 h
    refine rn ?_
    refine an (rt ?_)
    cases h
    simp [Ret, TB, EN, *]
  replace h := ite_f b1 h
  refine rn ?_
  refine an (rt ?_)
  cases h
  simp [Ret, TB, EN, *]

set_option maxRecDepth 20000 in
set_option maxHeartbeats 4000000 in
theorem c_slices_IndexFunc_Bucket (p0 : List M.Bucket) (p1 : M.Bucket → Option Bool) (f1_ : FuncId) (k1_ : List D) (hp1 : ∀ z0 r, p1 z0 = some r → SCalls Tryz.prog f1_ ((true, M.Bucket.en z0) ::  k1_.map fun c => (false, [c])) [(false, [.ro (.bool r)])]) (r : Int) (h : m_slices_IndexFunc_Bucket p0 p1 = some r) : SCalls Tryz.prog 197 [(false, [.sl (List.map M.Bucket.en p0)]), (false, [.fn f1_ k1_])] [(false, [.ro (.int .i64 r)])] := by
  unfold m_slices_IndexFunc_Bucket at h
  refine scalls_n (N := 19) (vars := [.tmp 4]) Tryz.func197 rfl rfl rfl (by decide +kernel) (Nat.le_of_ble_eq_true rfl) fun base wd => ?_
  refine sq (rn ?_)
  refine an (sq (sq (rn ?_)))
  refine an (bk ?_)
  refine SW_loop (fun m s => ∃ v8 : Int, s.t 0 = .v false [.dat (.sl (List.map M.Bucket.en p0))] ∧ s.t 1 = .v false [.dat (.fn f1_ k1_)] ∧ s.t 7 = .v false [.dat (.int .i64 (List.length p0 : Int))] ∧ s.t 8 = .v false [.dat (.int .i64 v8)] ∧ m_slices_IndexFunc_Bucket_L1 p0 p1 m v8 = some r) fuel ?_ ?_
  · refine ⟨0, ?_, ?_, ?_, ?_, h⟩
    all_goals simp +decide only [F, reduceIte, Nat.reduceAdd, Bool.not_true, Bool.not_false, EN, *, -h]
  rintro mL1 s1 ⟨v8, f2, f3, f4, f5, h⟩
  rcases mL1 with _ | mL1
  · exact absurd h (by simp [m_slices_IndexFunc_Bucket_L1])
  simp only [m_slices_IndexFunc_Bucket_L1] at h
  refine sq (rn ?_)
  refine an (sq ?_)
  rcases bcas (decide (v8 < (List.length p0 : Int))) with b6 | b6
  · replace h := ite_f b6 h
    refine cf (xt (aft_cx (aft_ix (aft_x (an (sq (rn ?_)))))))
    refine an (rt ?_)
    cases h
    simp [Ret, TB, EN, *]
  replace h := ite_t b6 h
  refine ct (sk (an (sq (bk (sq (rn ?_))))))
  refine an (sq ?_)
  obtain ⟨x7, h8, h⟩ := bind_some h
  obtain ⟨q9, q10, q11⟩ := idx_some h8
  obtain ⟨x12, h13, h⟩ := bind_some h
  refine rn1 (hp1 x7 x12 h13) ?_
  refine an ?_
  rcases bcase x12 with b14 | b14
  · replace h := ite_t b14 h
    refine ct (sq (rn ?_))
    refine an (rt ?_)
    cases h
    simp [Ret, TB, EN, *]
  replace h := ite_f b14 h
  refine cf (sk (ab (an (rn ?_))))
  refine aft_i ⟨mL1, by omega, (IntKind.i64.wrap (v8 + 1)), ?_, ?_, ?_, ?_, h⟩
  all_goals simp +decide only [F, reduceIte, Nat.reduceAdd, Bool.not_true, Bool.not_false, EN, *, -h]

set_option maxRecDepth 20000 in
set_option maxHeartbeats 4000000 in
theorem c_impl_FindBucket (p0 : M.Storage) (p1 : ByteArray) (p2 : ByteArray) (r : Int) (h : m_impl_FindBucket p0 p1 p2 = some r) : SCalls Tryz.prog 123 [(true, M.Storage.en p0), (false, [.str p1]), (false, [.str p2])] [(false, [.ro (.int .i64 r)])] := by
  unfold m_impl_FindBucket at h
  simp only [M.Storage.en]
  refine scalls_n (N := 11) (vars := [.tmp 6]) Tryz.func123 rfl rfl rfl (by decide +kernel) (Nat.le_of_ble_eq_true rfl) fun base wd => ?_
  refine sq (rn ?_)
  refine an (sq ?_)
  obtain ⟨x1, h2, h⟩ := bind_some h
  refine rn1 (c_slices_IndexFunc_Bucket p0.Buckets (fun z0 => m_impl_FindBucket_1 z0 p1 p2) 198 [.ptr [.str p1], .ptr [.str p2]] (fun z0 r hr => c_impl_FindBucket_1 z0 p1 p2 r hr) x1 h2) ?_
  refine an (rt ?_)
  cases h
  simp [Ret, TB, EN, *]

set_option maxRecDepth 20000 in
set_option maxHeartbeats 4000000 in
theorem c_impl_IsSite (p0 : M.Site) (r : Bool) (h : m_impl_IsSite p0 = some r) : SCalls Tryz.prog 124 [(true, M.Site.en p0)] [(false, [.ro (.bool r)])] := by
  unfold m_impl_IsSite at h
  simp only [M.Site.en]
  refine scalls_n (N := 45) (vars := [.tmp 2]) Tryz.func124 rfl rfl rfl (by decide +kernel) (Nat.le_of_ble_eq_true rfl) fun base wd => ?_
  refine sq (rn ?_)
  refine an (sq (sq (rn ?_)))
  refine an (bk ?_)
  refine SW_loop (fun m s => ∃ v8 : Int, s.t 1 = .v false [.bp 1 1 0] ∧ s.t 6 = .v false [.dat (.sl (List.map enS p0.Files))] ∧ s.t 7 = .v false [.dat (.int .i64 (List.length p0.Files : Int))] ∧ s.t 8 = .v false [.dat (.int .i64 v8)] ∧ s.h 1 = (1, .box 99 [.dat (.str p0.Name), .dat (.int .i64 p0.Version), .dat (.sl (List.map enS p0.Files)), .dat (.bool p0.Shared)]) ∧ m_impl_IsSite_L1 p0 m v8 = some r) fuel ?_ ?_
  · refine ⟨0, ?_, ?_, ?_, ?_, ?_, h⟩
    all_goals simp +decide only [F, reduceIte, Nat.reduceAdd, Bool.not_true, Bool.not_false, EN, *, -h]
  rintro mL1 s1 ⟨v8, f2, f3, f4, f5, f6, h⟩
  rcases mL1 with _ | mL1
  · exact absurd h (by simp [m_impl_IsSite_L1])
  simp only [m_impl_IsSite_L1] at h
  refine sq (rn ?_)
  refine an (sq ?_)
  rcases bcas (decide (v8 < (List.length p0.Files : Int))) with b7 | b7
  · replace h := ite_f b7 h
    refine cf (xt (aft_cx (aft_ix (aft_x (an (sq ?_))))))
    obtain ⟨x23, h24, h⟩ := bind_some h
    rcases bcas x23 with b25 | b25
    · replace h := ite_f b25 h
      refine rn1 (c_impl_IsName _ _ h24) ?_
      refine an (rt ?_)
      cases h
      simp [Ret, TB, EN, *]
    replace h := ite_t b25 h
    obtain ⟨x26, h27, h⟩ := bind_some h
    rcases bcas x26 with b28 | b28
    · replace h := ite_f b28 h
      refine rn2 (c_impl_IsName _ _ h24) (c_impl_InRange _ _ _ _ h27) ?_
      refine an (rt ?_)
      cases h
      simp [Ret, TB, EN, *]
    replace h := ite_t b28 h
    obtain ⟨x29, h30, h⟩ := bind_some h
    refine rn3 (c_impl_IsName _ _ h24) (c_impl_InRange _ _ _ _ h27) (c_impl_InRange _ _ _ _ h30) ?_
    refine an (rt ?_)
    cases h
    simp [Ret, TB, EN, *]
  replace h := ite_t b7 h
  refine ct (sk (an (sq (bk (sq ?_)))))
  obtain ⟨x8, h9, h⟩ := bind_some h
  obtain ⟨q10, q11, q12⟩ := idx_some h9
  refine rn ?_
  refine an (sq ?_)
  obtain ⟨x13, h14, h⟩ := bind_some h
  rcases bcase (!x13) with b15 | b15
  · replace h := ite_t b15 h
    refine rn1 (c_impl_IsName _ _ h14) ?_
    refine an (ct (sq (rn ?_)))
    refine an (rt ?_)
    cases h
    simp [Ret, TB, EN, *]
  replace h := ite_f b15 h
  rcases bcas (decide (v8 > 0)) with b16 | b16
  · replace h := ite_f b16 h
    refine rn1 (c_impl_IsName _ _ h14) ?_
    refine an (cf (sk (ab (an (rn ?_)))))
    refine aft_i ⟨mL1, by omega, (IntKind.i64.wrap (v8 + 1)), ?_, ?_, ?_, ?_, ?_, h⟩
    all_goals simp +decide only [F, reduceIte, Nat.reduceAdd, Bool.not_true, Bool.not_false, EN, *, -h]
  replace h := ite_t b16 h
  obtain ⟨x17, h18, h⟩ := bind_some h
  obtain ⟨q19, q20, q21⟩ := idx_some h18
  refine rn1 (c_impl_IsName _ _ h14) ?_
  refine an ?_
  rcases bcase (Op.bytesLess x8.toList x17.toList || x8.toList == x17.toList) with b22 | b22
  · replace h := ite_t b22 h
    refine ct (sq (rn ?_))
    refine an (rt ?_)
    cases h
    simp [Ret, TB, EN, *]
  replace h := ite_f b22 h
  refine cf (sk (ab (an (rn ?_))))
  refine aft_i ⟨mL1, by omega, (IntKind.i64.wrap (v8 + 1)), ?_, ?_, ?_, ?_, ?_, h⟩
  all_goals simp +decide only [F, reduceIte, Nat.reduceAdd, Bool.not_true, Bool.not_false, EN, *, -h]

set_option maxRecDepth 20000 in
set_option maxHeartbeats 4000000 in
theorem c_slices_Index_string (p0 : List ByteArray) (p1 : ByteArray) (r : Int) (h : m_slices_Index_string p0 p1 = some r) : SCalls Tryz.prog 179 [(false, [.sl (List.map enS p0)]), (false, [.str p1])] [(false, [.ro (.int .i64 r)])] := by
  unfold m_slices_Index_string at h
  refine scalls_n (N := 19) (vars := [.tmp 4]) Tryz.func179 rfl rfl rfl (by decide +kernel) (Nat.le_of_ble_eq_true rfl) fun base wd => ?_
  refine sq (rn ?_)
  refine an (sq (sq (rn ?_)))
  refine an (bk ?_)
  refine SW_loop (fun m s => ∃ v8 : Int, s.t 0 = .v false [.dat (.sl (List.map enS p0))] ∧ s.t 1 = .v false [.dat (.str p1)] ∧ s.t 7 = .v false [.dat (.int .i64 (List.length p0 : Int))] ∧ s.t 8 = .v false [.dat (.int .i64 v8)] ∧ m_slices_Index_string_L1 p0 p1 m v8 = some r) fuel ?_ ?_
  · refine ⟨0, ?_, ?_, ?_, ?_, h⟩
    all_goals simp +decide only [F, reduceIte, Nat.reduceAdd, Bool.not_true, Bool.not_false, EN, *, -h]
  rintro mL1 s1 ⟨v8, f2, f3, f4, f5, h⟩
  rcases mL1 with _ | mL1
  · exact absurd h (by simp [m_slices_Index_string_L1])
  simp only [m_slices_Index_string_L1] at h
  refine sq (rn ?_)
  refine an (sq ?_)
  rcases bcas (decide (v8 < (List.length p0 : Int))) with b6 | b6
  · replace h := ite_f b6 h
    refine cf (xt (aft_cx (aft_ix (aft_x (an (sq (rn ?_)))))))
    refine an (rt ?_)
    cases h
    simp [Ret, TB, EN, *]
  replace h := ite_t b6 h
  refine ct (sk (an (sq (bk (sq (rn ?_))))))
  refine an (sq ?_)
  obtain ⟨x7, h8, h⟩ := bind_some h
  obtain ⟨q9, q10, q11⟩ := idx_some h8
  refine rn ?_
  refine an ?_
  rcases bcase (p1.toList == x7.toList) with b12 | b12
  · replace h := ite_t b12 h
    refine ct (sq (rn ?_))
    refine an (rt ?_)
    cases h
    simp [Ret, TB, EN, *]
  replace h := ite_f b12 h
  refine cf (sk (ab (an (rn ?_))))
  refine aft_i ⟨mL1, by omega, (IntKind.i64.wrap (v8 + 1)), ?_, ?_, ?_, ?_, h⟩
  all_goals simp +decide only [F, reduceIte, Nat.reduceAdd, Bool.not_true, Bool.not_false, EN, *, -h]

set_option maxRecDepth 20000 in
set_option maxHeartbeats 4000000 in
theorem c_impl_SiteNumber (p0 : ByteArray) (r : Int) (h : m_impl_SiteNumber p0 = some r) : SCalls Tryz.prog 102 [(false, [.str p0])] [(false, [.ro (.int .i64 r)])] := by
  unfold m_impl_SiteNumber at h
  refine scalls_n (N := 6) (vars := [.tmp 2]) Tryz.func102 rfl rfl rfl (by decide +kernel) (Nat.le_of_ble_eq_true rfl) fun base wd => ?_
  refine sq (rn ?_)
  refine an (sq ?_)
  obtain ⟨x1, h2, h⟩ := bind_some h
  refine rn1 (c_slices_Index_string _ _ _ h2) ?_
  refine an (rt ?_)
  cases h
  simp [Ret, TB, EN, *]

end Go.Proofs.YtcpahpbjjnekkaaGreat.gen
