/-
  Helper text: walks: each function's contract out of its model. No conditions beyond those of each contract.
-/
import Derived.Test.YtcpahpbjjnekkaaGreatIsWorldTi
import Derived.Test.YtcpahpbjjnekkaaGreatIsWorldWspec0
import Derived.Test.YtcpahpbjjnekkaaGreatIsWorldWspec1
import Derived.Test.YtcpahpbjjnekkaaGreatIsWorldWspec2
namespace Go.Proofs.YtcpahpbjjnekkaaGreat.gen
open Go Go.Sh
set_option linter.unusedVariables false
set_option linter.unusedSimpArgs false
set_option maxRecDepth 20000 in
set_option maxHeartbeats 4000000 in
theorem c_spec_SizeDisk (p0 : M.Disk) (r : Int) (h : m_spec_SizeDisk p0 = some r) : SCalls Tryz.prog 307 [(true, M.Disk.en p0)] [(false, [.ro (.int .i64 r)])] := by
  unfold m_spec_SizeDisk at h
  simp only [M.Disk.en]
  refine scalls_n (N := 10) (vars := [.tmp 2]) Tryz.func307 rfl rfl rfl (by decide +kernel) (Nat.le_of_ble_eq_true rfl) fun base wd => ?_
  refine sq (rn ?_)
  refine an (sq ?_)
  obtain ⟨x1, h2, h⟩ := bind_some h
  refine rd1 mixed (c_spec_SizeDatabase _ _ h2) ?_
  refine an (rt ?_)
  cases h
  simp [Ret, TB, EN, *]

set_option maxRecDepth 20000 in
set_option maxHeartbeats 4000000 in
theorem c_spec_UsageOf (p0 : M.Bucket) (r : Int) (h : m_spec_UsageOf p0 = some r) : SCalls Tryz.prog 258 [(true, M.Bucket.en p0)] [(false, [.ro (.int .i64 r)])] := by
  unfold m_spec_UsageOf at h
  simp only [M.Bucket.en]
  refine scalls_n (N := 23) (vars := [.tmp 2]) Tryz.func258 rfl rfl rfl (by decide +kernel) (Nat.le_of_ble_eq_true rfl) fun base wd => ?_
  refine sq (rn ?_)
  refine an (sq ?_)
  obtain ⟨x1, h2, h⟩ := bind_some h
  obtain ⟨x3, h4, h⟩ := bind_some h
  obtain ⟨x5, h6, h⟩ := bind_some h
  refine rd3 mixed (c_spec_SizeCaches _ _ h2) (c_spec_SizeDisk _ _ h4) (c_spec_SizeStore _ _ h6) ?_
  refine an (rt ?_)
  cases h
  simp [Ret, TB, EN, *]

set_option maxRecDepth 20000 in
set_option maxHeartbeats 4000000 in
theorem c_spec_IsBucket (p0 : M.Bucket) (r : Bool) (h : m_spec_IsBucket p0 = some r) : SCalls Tryz.prog 190 [(true, M.Bucket.en p0)] [(false, [.ro (.bool r)])] := by
  unfold m_spec_IsBucket at h
  simp only [M.Bucket.en]
  refine scalls_n (N := 50) (vars := [.tmp 2]) Tryz.func190 rfl rfl rfl (by decide +kernel) (Nat.le_of_ble_eq_true rfl) fun base wd => ?_
  refine sq (rn ?_)
  refine an (sq ?_)
  obtain ⟨x1, h2, h⟩ := bind_some h
  rcases bcas x1 with b3 | b3
  · replace h := ite_f b3 h
    refine rn1 (c_spec_IsName _ _ h2) ?_
    refine an (rt ?_)
    cases h
    simp [Ret, TB, EN, *]
  replace h := ite_t b3 h
  obtain ⟨x4, h5, h⟩ := bind_some h
  rcases bcas x4 with b6 | b6
  · replace h := ite_f b6 h
    refine rn2 (c_spec_IsName _ _ h2) (c_spec_IsName _ _ h5) ?_
    refine an (rt ?_)
    cases h
    simp [Ret, TB, EN, *]
  replace h := ite_t b6 h
  obtain ⟨x7, h8, h⟩ := bind_some h
  rcases bcas x7 with b9 | b9
  · replace h := ite_f b9 h
    refine rn3 (c_spec_IsName _ _ h2) (c_spec_IsName _ _ h5) (c_spec_IsRegistration _ _ h8) ?_
    refine an (rt ?_)
    cases h
    simp [Ret, TB, EN, *]
  replace h := ite_t b9 h
  rcases bcas (p0.Registration.Site.toList == p0.Site.toList) with b10 | b10
  · replace h := ite_f b10 h
    refine rn3 (c_spec_IsName _ _ h2) (c_spec_IsName _ _ h5) (c_spec_IsRegistration _ _ h8) ?_
    refine an (rt ?_)
    cases h
    simp [Ret, TB, EN, *]
  replace h := ite_t b10 h
  obtain ⟨x11, h12, h⟩ := bind_some h
  rcases bcas x11 with b13 | b13
  · replace h := ite_f b13 h
    refine rn4 (c_spec_IsName _ _ h2) (c_spec_IsName _ _ h5) (c_spec_IsRegistration _ _ h8) (c_spec_IsCacheSet _ _ h12) ?_
    refine an (rt ?_)
    cases h
    simp [Ret, TB, EN, *]
  replace h := ite_t b13 h
  obtain ⟨x14, h15, h⟩ := bind_some h
  rcases bcas x14 with b16 | b16
  · replace h := ite_f b16 h
    refine rn5 (c_spec_IsName _ _ h2) (c_spec_IsName _ _ h5) (c_spec_IsRegistration _ _ h8) (c_spec_IsCacheSet _ _ h12) (c_spec_IsDatabase _ _ h15) ?_
    refine an (rt ?_)
    cases h
    simp [Ret, TB, EN, *]
  replace h := ite_t b16 h
  obtain ⟨x17, h18, h⟩ := bind_some h
  rcases bcas x17 with b19 | b19
  · replace h := ite_f b19 h
    refine rn6 (c_spec_IsName _ _ h2) (c_spec_IsName _ _ h5) (c_spec_IsRegistration _ _ h8) (c_spec_IsCacheSet _ _ h12) (c_spec_IsDatabase _ _ h15) (c_spec_IsReplica _ _ h18) ?_
    refine an (rt ?_)
    cases h
    simp [Ret, TB, EN, *]
  replace h := ite_t b19 h
  obtain ⟨x20, h21, h⟩ := bind_some h
  rcases bcas x20 with b22 | b22
  · replace h := ite_f b22 h
    apply SW_run
    · simp +decide only [E, reduceIte, Nat.reduceAdd, Nat.reduceMul, Bool.not_true, Bool.not_false, L, ti3, ti9, ti128, ti131, ti135, ti137, ti143, ti145, b3, b6, b9, b10, b13, b16, b19, b22]
      refine ⟨_, c_spec_IsName _ _ h2, ?_⟩
      try simp +decide only [E, reduceIte, Nat.reduceAdd, Nat.reduceMul, Bool.not_true, Bool.not_false, L, ti3, ti9, ti128, ti131, ti135, ti137, ti143, ti145, b3, b6, b9, b10, b13, b16, b19, b22]
      refine ⟨_, c_spec_IsName _ _ h5, ?_⟩
      try simp +decide only [E, reduceIte, Nat.reduceAdd, Nat.reduceMul, Bool.not_true, Bool.not_false, L, ti3, ti9, ti128, ti131, ti135, ti137, ti143, ti145, b3, b6, b9, b10, b13, b16, b19, b22]
      refine ⟨_, c_spec_IsRegistration _ _ h8, ?_⟩
      try simp +decide only [E, reduceIte, Nat.reduceAdd, Nat.reduceMul, Bool.not_true, Bool.not_false, L, ti3, ti9, ti128, ti131, ti135, ti137, ti143, ti145, b3, b6, b9, b10, b13, b16, b19, b22]
      refine ⟨_, c_spec_IsCacheSet _ _ h12, ?_⟩
      try simp +decide only [E, reduceIte, Nat.reduceAdd, Nat.reduceMul, Bool.not_true, Bool.not_false, L, ti3, ti9, ti128, ti131, ti135, ti137, ti143, ti145, b3, b6, b9, b10, b13, b16, b19, b22]
      refine ⟨_, c_spec_IsDatabase _ _ h15, ?_⟩
      try simp +decide only [E, reduceIte, Nat.reduceAdd, Nat.reduceMul, Bool.not_true, Bool.not_false, L, ti3, ti9, ti128, ti131, ti135, ti137, ti143, ti145, b3, b6, b9, b10, b13, b16, b19, b22]
      refine ⟨_, c_spec_IsReplica _ _ h18, ?_⟩
      try simp +decide only [E, reduceIte, Nat.reduceAdd, Nat.reduceMul, Bool.not_true, Bool.not_false, L, ti3, ti9, ti128, ti131, ti135, ti137, ti143, ti145, b3, b6, b9, b10, b13, b16, b19, b22]
      refine ⟨_, c_spec_l1In _ _ _ _ h21, ?_⟩
      try simp +decide only [E, reduceIte, Nat.reduceAdd, Nat.reduceMul, Bool.not_true, Bool.not_false, L, ti3, ti9, ti128, ti131, ti135, ti137, ti143, ti145, b3, b6, b9, b10, b13, b16, b19, b22]
      exact Is.mk _
    refine an (rt ?_)
    cases h
    simp [Ret, TB, EN, *]
  replace h := ite_t b22 h
  obtain ⟨x23, h24, h⟩ := bind_some h
  apply SW_run
  · simp +decide only [E, reduceIte, Nat.reduceAdd, Nat.reduceMul, Bool.not_true, Bool.not_false, L, ti3, ti9, ti128, ti131, ti135, ti137, ti143, ti145, b3, b6, b9, b10, b13, b16, b19, b22]
    refine ⟨_, c_spec_IsName _ _ h2, ?_⟩
    try simp +decide only [E, reduceIte, Nat.reduceAdd, Nat.reduceMul, Bool.not_true, Bool.not_false, L, ti3, ti9, ti128, ti131, ti135, ti137, ti143, ti145, b3, b6, b9, b10, b13, b16, b19, b22]
    refine ⟨_, c_spec_IsName _ _ h5, ?_⟩
    try simp +decide only [E, reduceIte, Nat.reduceAdd, Nat.reduceMul, Bool.not_true, Bool.not_false, L, ti3, ti9, ti128, ti131, ti135, ti137, ti143, ti145, b3, b6, b9, b10, b13, b16, b19, b22]
    refine ⟨_, c_spec_IsRegistration _ _ h8, ?_⟩
    try simp +decide only [E, reduceIte, Nat.reduceAdd, Nat.reduceMul, Bool.not_true, Bool.not_false, L, ti3, ti9, ti128, ti131, ti135, ti137, ti143, ti145, b3, b6, b9, b10, b13, b16, b19, b22]
    refine ⟨_, c_spec_IsCacheSet _ _ h12, ?_⟩
    try simp +decide only [E, reduceIte, Nat.reduceAdd, Nat.reduceMul, Bool.not_true, Bool.not_false, L, ti3, ti9, ti128, ti131, ti135, ti137, ti143, ti145, b3, b6, b9, b10, b13, b16, b19, b22]
    refine ⟨_, c_spec_IsDatabase _ _ h15, ?_⟩
    try simp +decide only [E, reduceIte, Nat.reduceAdd, Nat.reduceMul, Bool.not_true, Bool.not_false, L, ti3, ti9, ti128, ti131, ti135, ti137, ti143, ti145, b3, b6, b9, b10, b13, b16, b19, b22]
    refine ⟨_, c_spec_IsReplica _ _ h18, ?_⟩
    try simp +decide only [E, reduceIte, Nat.reduceAdd, Nat.reduceMul, Bool.not_true, Bool.not_false, L, ti3, ti9, ti128, ti131, ti135, ti137, ti143, ti145, b3, b6, b9, b10, b13, b16, b19, b22]
    refine ⟨_, c_spec_l1In _ _ _ _ h21, ?_⟩
    try simp +decide only [E, reduceIte, Nat.reduceAdd, Nat.reduceMul, Bool.not_true, Bool.not_false, L, ti3, ti9, ti128, ti131, ti135, ti137, ti143, ti145, b3, b6, b9, b10, b13, b16, b19, b22]
    refine ⟨_, c_spec_UsageOf _ _ h24, ?_⟩
    try simp +decide only [E, reduceIte, Nat.reduceAdd, Nat.reduceMul, Bool.not_true, Bool.not_false, L, ti3, ti9, ti128, ti131, ti135, ti137, ti143, ti145, b3, b6, b9, b10, b13, b16, b19, b22]
    exact Is.mk _
  refine an (rt ?_)
  cases h
  simp [Ret, TB, EN, *]

set_option maxRecDepth 20000 in
set_option maxHeartbeats 4000000 in
theorem c_spec_l28Less (p0 : M.Bucket) (p1 : ByteArray) (p2 : ByteArray) (r : Bool) (h : m_spec_l28Less p0 p1 p2 = some r) : SCalls Tryz.prog 191 [(true, M.Bucket.en p0), (false, [.str p1]), (false, [.str p2])] [(false, [.ro (.bool r)])] := by
  unfold m_spec_l28Less at h
  simp only [M.Bucket.en]
  refine scalls_n (N := 23) (vars := [.tmp 6]) Tryz.func191 rfl rfl rfl (by decide +kernel) (Nat.le_of_ble_eq_true rfl) fun base wd => ?_
  refine sq (rn ?_)
  refine an (sq ?_)
  rcases bcase (Op.bytesLess p0.Site.toList p1.toList) with b1 | b1
  · replace h := ite_t b1 h
    refine rn ?_
    refine an (rt ?_)
    cases h
    simp [Ret, TB, EN, *]
  replace h := ite_f b1 h
  rcases bcase (p0.Site.toList == p1.toList) with b2 | b2
  · replace h := ite_t b2 h
    refine rn ?_
    refine an (rt ?_)
    cases h
    simp [Ret, TB, EN, *]
  replace h := ite_f b2 h
  refine rn ?_
  refine an (rt ?_)
  cases h
  simp [Ret, TB, EN, *]

set_option maxRecDepth 20000 in
set_option maxHeartbeats 4000000 in
theorem c_spec_IsStorage (p0 : M.Storage) (r : Bool) (h : m_spec_IsStorage p0 = some r) : SCalls Tryz.prog 118 [(true, M.Storage.en p0)] [(false, [.ro (.bool r)])] := by
  unfold m_spec_IsStorage at h
  simp only [M.Storage.en]
  refine scalls_n (N := 48) (vars := [.tmp 2]) Tryz.func118 rfl rfl rfl (by decide +kernel) (Nat.le_of_ble_eq_true rfl) fun base wd => ?_
  refine sq (rn ?_)
  refine an (sq (sq (rn ?_)))
  refine an (bk ?_)
  refine SW_loop (fun m s => ∃ v3 : Int, s.t 1 = .v false [.bp 1 1 0] ∧ s.t 3 = .v false [.dat (.int .i64 v3)] ∧ s.h 1 = (1, .box 24 [.dat (.sl (List.map M.Bucket.en p0.Buckets))]) ∧ m_spec_IsStorage_L1 p0 m v3 = some r) fuel ?_ ?_
  · refine ⟨0, ?_, ?_, ?_, h⟩
    all_goals simp +decide only [F, reduceIte, Nat.reduceAdd, Bool.not_true, Bool.not_false, EN, *, -h]
  rintro mL1 s1 ⟨v3, f2, f3, f4, h⟩
  rcases mL1 with _ | mL1
  · exact absurd h (by simp [m_spec_IsStorage_L1])
  simp only [m_spec_IsStorage_L1] at h
  refine sq (sq (rn ?_))
  refine an ?_
  rcases bcas (decide (v3 < (List.length p0.Buckets : Int))) with b5 | b5
  · replace h := ite_f b5 h
    refine cf (xt (aft_cx (aft_ix (aft_x (an (sq (rn ?_)))))))
    refine an (rt ?_)
    cases h
    simp [Ret, TB, EN, *]
  replace h := ite_t b5 h
  refine ct (sk (an (sq (bk (sq ?_)))))
  obtain ⟨x6, h7, h⟩ := bind_some h
  obtain ⟨q8, q9, q10⟩ := idx_some h7
  obtain ⟨x11, h12, h⟩ := bind_some h
  rcases bcase (!x11) with b13 | b13
  · replace h := ite_t b13 h
    refine rd1 mixed (c_spec_IsBucket _ _ h12) ?_
    refine an (ct (sq (rn ?_)))
    refine an (rt ?_)
    cases h
    simp [Ret, TB, EN, *]
  replace h := ite_f b13 h
  rcases bcas (decide (v3 > 0)) with b14 | b14
  · replace h := ite_f b14 h
    refine rd1 mixed (c_spec_IsBucket _ _ h12) ?_
    refine an (cf (sk (ab (an (rn ?_)))))
    refine aft_i ⟨mL1, by omega, (IntKind.i64.wrap (v3 + 1)), ?_, ?_, ?_, h⟩
    all_goals simp +decide only [F, reduceIte, Nat.reduceAdd, Bool.not_true, Bool.not_false, EN, *, -h]
  replace h := ite_t b14 h
  obtain ⟨x15, h16, h⟩ := bind_some h
  obtain ⟨q17, q18, q19⟩ := idx_some h16
  obtain ⟨x20, h21, h⟩ := bind_some h
  refine rd2 mixed (c_spec_IsBucket _ _ h12) (c_spec_l28Less _ _ _ _ h21) ?_
  refine an ?_
  rcases bcase (!x20) with b22 | b22
  · replace h := ite_t b22 h
    refine ct (sq (rn ?_))
    refine an (rt ?_)
    cases h
    simp [Ret, TB, EN, *]
  replace h := ite_f b22 h
  refine cf (sk (ab (an (rn ?_))))
  refine aft_i ⟨mL1, by omega, (IntKind.i64.wrap (v3 + 1)), ?_, ?_, ?_, h⟩
  all_goals simp +decide only [F, reduceIte, Nat.reduceAdd, Bool.not_true, Bool.not_false, EN, *, -h]

set_option maxRecDepth 20000 in
set_option maxHeartbeats 4000000 in
theorem c_spec_IsLockName (p0 : ByteArray) (r : Bool) (h : m_spec_IsLockName p0 = some r) : SCalls Tryz.prog 192 [(false, [.str p0])] [(false, [.ro (.bool r)])] := by
  unfold m_spec_IsLockName at h
  refine scalls_n (N := 29) (vars := [.tmp 2]) Tryz.func192 rfl rfl rfl (by decide +kernel) (Nat.le_of_ble_eq_true rfl) fun base wd => ?_
  refine sq (rn ?_)
  refine an (sq (sq (rn ?_)))
  refine an (bk ?_)
  refine SW_loop (fun m s => ∃ v3 : Int, s.t 0 = .v false [.dat (.str p0)] ∧ s.t 3 = .v false [.dat (.int .i64 v3)] ∧ m_spec_IsLockName_L1 p0 m v3 = some r) fuel ?_ ?_
  · refine ⟨0, ?_, ?_, h⟩
    all_goals simp +decide only [F, reduceIte, Nat.reduceAdd, Bool.not_true, Bool.not_false, EN, *, -h]
  rintro mL1 s1 ⟨v3, f2, f3, h⟩
  rcases mL1 with _ | mL1
  · exact absurd h (by simp [m_spec_IsLockName_L1])
  simp only [m_spec_IsLockName_L1] at h
  refine sq (sq (rn ?_))
  refine an ?_
  rcases bcas (decide (v3 < (p0.size : Int))) with b4 | b4
  · replace h := ite_f b4 h
    refine cf (xt (aft_cx (aft_ix (aft_x (an (sq ?_))))))
    obtain ⟨x13, h14, h⟩ := bind_some h
    refine rn1 (c_spec_l1In _ _ _ _ h14) ?_
    refine an (rt ?_)
    cases h
    simp [Ret, TB, EN, *]
  replace h := ite_t b4 h
  refine ct (sk (an (sq (bk (sq ?_)))))
  obtain ⟨x5, h6, h⟩ := bind_some h
  obtain ⟨q7, q8⟩ := sidx_some h6
  rcases bcase (decide ((x5.toNat : Int) < 97)) with b9 | b9
  · replace h := ite_t b9 h
    refine rn ?_
    refine an ?_
    rcases bcase ((x5.toNat : Int) != 47) with b10 | b10
    · replace h := ite_t b10 h
      refine ct (sq (rn ?_))
      refine an (rt ?_)
      cases h
      simp [Ret, TB, EN, *]
    replace h := ite_f b10 h
    refine cf (sk (ab (an (rn ?_))))
    refine aft_i ⟨mL1, by omega, (IntKind.i64.wrap (v3 + 1)), ?_, ?_, h⟩
    all_goals simp +decide only [F, reduceIte, Nat.reduceAdd, Bool.not_true, Bool.not_false, EN, *, -h]
  replace h := ite_f b9 h
  rcases bcas (decide ((x5.toNat : Int) > 122)) with b11 | b11
  · replace h := ite_f b11 h
    refine rn ?_
    refine an (cf (sk (ab (an (rn ?_)))))
    refine aft_i ⟨mL1, by omega, (IntKind.i64.wrap (v3 + 1)), ?_, ?_, h⟩
    all_goals simp +decide only [F, reduceIte, Nat.reduceAdd, Bool.not_true, Bool.not_false, EN, *, -h]
  replace h := ite_t b11 h
  refine rn ?_
  refine an ?_
  rcases bcase ((x5.toNat : Int) != 47) with b12 | b12
  · replace h := ite_t b12 h
    refine ct (sq (rn ?_))
    refine an (rt ?_)
    cases h
    simp [Ret, TB, EN, *]
  replace h := ite_f b12 h
  refine cf (sk (ab (an (rn ?_))))
  refine aft_i ⟨mL1, by omega, (IntKind.i64.wrap (v3 + 1)), ?_, ?_, h⟩
  all_goals simp +decide only [F, reduceIte, Nat.reduceAdd, Bool.not_true, Bool.not_false, EN, *, -h]

set_option maxRecDepth 20000 in
set_option maxHeartbeats 4000000 in
theorem c_spec_IsLockTable (p0 : M.LockTable) (r : Bool) (h : m_spec_IsLockTable p0 = some r) : SCalls Tryz.prog 119 [(true, M.LockTable.en p0)] [(false, [.ro (.bool r)])] := by
  unfold m_spec_IsLockTable at h
  simp only [M.LockTable.en]
  refine scalls_n (N := 67) (vars := [.tmp 2]) Tryz.func119 rfl rfl rfl (by decide +kernel) (Nat.le_of_ble_eq_true rfl) fun base wd => ?_
  refine sq (rn ?_)
  refine an (sq (sq (rn ?_)))
  refine an (bk ?_)
  refine SW_loop (fun m s => ∃ v3 : Int, s.t 1 = .v false [.bp 1 1 0] ∧ s.t 3 = .v false [.dat (.int .i64 v3)] ∧ s.h 1 = (1, .box 28 [.dat (.sl (List.map M.Lock.en p0.Locks))]) ∧ m_spec_IsLockTable_L1 p0 m v3 = some r) fuel ?_ ?_
  · refine ⟨0, ?_, ?_, ?_, h⟩
    all_goals simp +decide only [F, reduceIte, Nat.reduceAdd, Bool.not_true, Bool.not_false, EN, *, -h]
  rintro mL1 s1 ⟨v3, f2, f3, f4, h⟩
  rcases mL1 with _ | mL1
  · exact absurd h (by simp [m_spec_IsLockTable_L1])
  simp only [m_spec_IsLockTable_L1] at h
  refine sq (sq (rn ?_))
  refine an ?_
  rcases bcas (decide (v3 < (List.length p0.Locks : Int))) with b5 | b5
  · replace h := ite_f b5 h
    refine cf (xt (aft_cx (aft_ix (aft_x (an (sq (rn ?_)))))))
    refine an (rt ?_)
    cases h
    simp [Ret, TB, EN, *]
  replace h := ite_t b5 h
  refine ct (sk (an (sq (bk (sq ?_)))))
  obtain ⟨x6, h7, h⟩ := bind_some h
  obtain ⟨q8, q9, q10⟩ := idx_some h7
  refine rn ?_
  refine an (sq (sq ?_))
  obtain ⟨x11, h12, h⟩ := bind_some h
  rcases bcase (!x11) with b13 | b13
  · replace h := ite_t b13 h
    refine rn1 (c_spec_IsLockName _ _ h12) ?_
    refine an (ct (sq (rn ?_)))
    refine an (rt ?_)
    cases h
    simp [Ret, TB, EN, *]
  replace h := ite_f b13 h
  obtain ⟨x14, h15, h⟩ := bind_some h
  refine rn2 (c_spec_IsLockName _ _ h12) (c_spec_l1In _ _ _ _ h15) ?_
  refine an ?_
  rcases bcase (!x14) with b16 | b16
  · replace h := ite_t b16 h
    refine ct (sq (rn ?_))
    refine an (rt ?_)
    cases h
    simp [Ret, TB, EN, *]
  replace h := ite_f b16 h
  refine cf (sk (an (sq (rn ?_))))
  refine an (bk ?_)
  obtain ⟨k18, e19, h⟩ := absk (f := fun kk => m_spec_IsLockTable_L2 p0 v3 x6 kk fuel 0) h
  refine SW_loop (fun m s => ∃ v5_L2 : Int, s.t 1 = .v false [.bp 1 1 0] ∧ s.t 3 = .v false [.dat (.int .i64 v3)] ∧ s.t 4 = .v false [.bp 4 ((s1.h 4).1 + 1) 0] ∧ s.t 5 = .v false [.dat (.int .i64 v5_L2)] ∧ s.h 1 = (1, .box 28 [.dat (.sl (List.map M.Lock.en p0.Locks))]) ∧ s.h 4 = (((s1.h 4).1 + 1), .box 162 [.dat (.str x6.Name), .dat (.int .i64 x6.Page), .dat (.bool x6.Shared), .dat (.bool x6.Held)]) ∧ m_spec_IsLockTable_L2 p0 v3 x6 k18 m v5_L2 = some r) fuel ?_ ?_
  · refine ⟨0, ?_, ?_, ?_, ?_, ?_, ?_, h⟩
    all_goals simp +decide only [F, reduceIte, Nat.reduceAdd, Bool.not_true, Bool.not_false, EN, *, -h]
  rintro mL2 s17 ⟨v5_L2, f20, f21, f22, f23, f24, f25, h⟩
  rcases mL2 with _ | mL2
  · exact absurd h (by simp [m_spec_IsLockTable_L2])
  simp only [m_spec_IsLockTable_L2] at h
  refine sq (sq (rn ?_))
  refine an ?_
  rcases bcas (decide (v5_L2 < v3)) with b26 | b26
  · replace h := ite_f b26 h
    refine cf (xt (aft_cx ?_))
    subst e19
    refine aft_ix (aft_x (ab (an (rn ?_))))
    refine aft_i ⟨mL1, by omega, (IntKind.i64.wrap (v3 + 1)), ?_, ?_, ?_, h⟩
    all_goals simp +decide only [F, reduceIte, Nat.reduceAdd, Bool.not_true, Bool.not_false, EN, *, -h]
  replace h := ite_t b26 h
  refine ct (sk (an (sq (bk (sq ?_)))))
  obtain ⟨x27, h28, h⟩ := bind_some h
  obtain ⟨q29, q30, q31⟩ := idx_some h28
  refine rn ?_
  refine an (sq ?_)
  rcases bcas x6.Held with b32 | b32
  · replace h := ite_f b32 h
    refine rn ?_
    refine an (cf (sk (ab (an (rn ?_)))))
    refine aft_i ⟨mL2, by omega, (IntKind.i64.wrap (v5_L2 + 1)), ?_, ?_, ?_, ?_, ?_, ?_, h⟩
    all_goals simp +decide only [F, reduceIte, Nat.reduceAdd, Bool.not_true, Bool.not_false, EN, *, -h]
  replace h := ite_t b32 h
  rcases bcas (x27.Name.toList == x6.Name.toList) with b33 | b33
  · replace h := ite_f b33 h
    refine rn ?_
    refine an (cf (sk (ab (an (rn ?_)))))
    refine aft_i ⟨mL2, by omega, (IntKind.i64.wrap (v5_L2 + 1)), ?_, ?_, ?_, ?_, ?_, ?_, h⟩
    all_goals simp +decide only [F, reduceIte, Nat.reduceAdd, Bool.not_true, Bool.not_false, EN, *, -h]
  replace h := ite_t b33 h
  rcases bcase (!x27.Held) with b34 | b34
  · replace h := ite_t b34 h
    refine rn ?_
    refine an (ct (sq (rn ?_)))
    refine an (rt ?_)
    cases h
    simp [Ret, TB, EN, *]
  replace h := ite_f b34 h
  rcases bcase (!x6.Shared) with b35 | b35
  · replace h := ite_t b35 h
    refine rn ?_
    refine an (ct (sq (rn ?_)))
    refine an (rt ?_)
    cases h
    simp [Ret, TB, EN, *]
  replace h := ite_f b35 h
  refine rn ?_
  refine an ?_
  rcases bcase (!x27.Shared) with b36 | b36
  · replace h := ite_t b36 h
    refine ct (sq (rn ?_))
    refine an (rt ?_)
    cases h
    simp [Ret, TB, EN, *]
  replace h := ite_f b36 h
  refine cf (sk (ab (an (rn ?_))))
  refine aft_i ⟨mL2, by omega, (IntKind.i64.wrap (v5_L2 + 1)), ?_, ?_, ?_, ?_, ?_, ?_, h⟩
  all_goals simp +decide only [F, reduceIte, Nat.reduceAdd, Bool.not_true, Bool.not_false, EN, *, -h]

set_option maxRecDepth 20000 in
set_option maxHeartbeats 4000000 in
theorem c_spec_IsWorld (p0 : M.World) (r : Bool) (h : m_spec_IsWorld p0 = some r) : SCalls Tryz.prog 45 [(true, M.World.en p0)] [(false, [.ro (.bool r)])] := by
  unfold m_spec_IsWorld at h
  simp only [M.World.en]
  refine scalls_n (N := 126) (vars := [.tmp 2]) Tryz.func45 rfl rfl rfl (by decide +kernel) (Nat.le_of_ble_eq_true rfl) fun base wd => ?_
  refine sq (rn ?_)
  refine an (sq (sq ?_))
  rcases bcase ((List.length p0.Sites : Int) != 3) with b1 | b1
  · replace h := ite_t b1 h
    refine rn ?_
    refine an (ct (sq (rn ?_)))
    refine an (rt ?_)
    cases h
    simp [Ret, TB, EN, *]
  replace h := ite_f b1 h
  rcases bcase ((List.length p0.Servers : Int) != 3) with b2 | b2
  · replace h := ite_t b2 h
    refine rn ?_
    refine an (ct (sq (rn ?_)))
    refine an (rt ?_)
    cases h
    simp [Ret, TB, EN, *]
  replace h := ite_f b2 h
  refine rn ?_
  refine an ?_
  rcases bcase (decide ((List.length p0.Pages : Int) > 6)) with b3 | b3
  · replace h := ite_t b3 h
    refine ct (sq (rn ?_))
    refine an (rt ?_)
    cases h
    simp [Ret, TB, EN, *]
  replace h := ite_f b3 h
  refine cf (sk (an (sq (sq (rn ?_)))))
  refine an (bk ?_)
  refine SW_loop (fun m s => ∃ v3 : Int, s.t 1 = .v false [.bp 1 1 0] ∧ s.t 3 = .v false [.dat (.int .i64 v3)] ∧ s.h 1 = (1, .box 35 [.dat (.int .i64 p0.Now), .dat (.bool p0.Online), .dat (.int .i64 p0.Device), .dat (.sl (List.map M.Bucket.en p0.Storage.Buckets)), .dat (.sl (List.map M.Page.en p0.Pages)), .dat (.int .i64 p0.NextPage), .dat (.sl (List.map M.Lock.en p0.Locks.Locks)), .dat (.sl (List.map M.Mail.en p0.Channel.Mails)), .dat (.sl (List.map M.Site.en p0.Sites)), .dat (.sl (List.map M.Server.en p0.Servers))]) ∧ m_spec_IsWorld_L1 p0 m v3 = some r) fuel ?_ ?_
  · refine ⟨0, ?_, ?_, ?_, h⟩
    all_goals simp +decide only [F, reduceIte, Nat.reduceAdd, Bool.not_true, Bool.not_false, EN, *, -h]
  rintro mL1 s4 ⟨v3, f5, f6, f7, h⟩
  rcases mL1 with _ | mL1
  · exact absurd h (by simp [m_spec_IsWorld_L1])
  simp only [m_spec_IsWorld_L1] at h
  refine sq (sq (rn ?_))
  refine an ?_
  rcases bcase (decide (v3 < 3)) with b8 | b8
  · replace h := ite_t b8 h
    refine ct (sk (an (sq (bk (sq ?_)))))
    obtain ⟨x9, h10, h⟩ := bind_some h
    obtain ⟨q11, q12, q13⟩ := idx_some h10
    obtain ⟨x14, h15, h⟩ := bind_some h
    rcases bcase (!x14) with b16 | b16
    · replace h := ite_t b16 h
      refine rd1 mixed (c_spec_IsSite _ _ h15) ?_
      refine an (ct (sq (rn ?_)))
      refine an (rt ?_)
      cases h
      simp [Ret, TB, EN, *]
    replace h := ite_f b16 h
    obtain ⟨x17, h18, h⟩ := bind_some h
    obtain ⟨x19, h20, h⟩ := bind_some h
    obtain ⟨q21, q22, q23⟩ := idx_some h20
    rcases bcase (!(x9.Name.toList == x19.toList)) with b24 | b24
    · replace h := ite_t b24 h
      refine rd2 mixed (c_spec_IsSite _ _ h15) (c_spec_l29Names _ h18) ?_
      refine an (ct (sq (rn ?_)))
      refine an (rt ?_)
      cases h
      simp [Ret, TB, EN, *]
    replace h := ite_f b24 h
    obtain ⟨x25, h26, h⟩ := bind_some h
    obtain ⟨q27, q28, q29⟩ := idx_some h26
    obtain ⟨x30, h31, h⟩ := bind_some h
    refine rd3 mixed (c_spec_IsSite _ _ h15) (c_spec_l29Names _ h18) (c_spec_IsServer _ _ h31) ?_
    refine an ?_
    rcases bcase (!x30) with b32 | b32
    · replace h := ite_t b32 h
      refine ct (sq (rn ?_))
      refine an (rt ?_)
      cases h
      simp [Ret, TB, EN, *]
    replace h := ite_f b32 h
    refine cf (sk (ab (an (rn ?_))))
    refine aft_i ⟨mL1, by omega, (IntKind.i64.wrap (v3 + 1)), ?_, ?_, ?_, h⟩
    all_goals simp +decide only [F, reduceIte, Nat.reduceAdd, Bool.not_true, Bool.not_false, EN, *, -h]
  replace h := ite_f b8 h
  refine cf (xt (aft_cx (aft_ix (aft_x (an (sq (sq (rn ?_))))))))
  refine an (bk ?_)
  refine SW_loop (fun m s => ∃ v4 : Int, s.t 1 = .v false [.bp 1 1 0] ∧ s.t 4 = .v false [.dat (.int .i64 v4)] ∧ s.h 1 = (1, .box 35 [.dat (.int .i64 p0.Now), .dat (.bool p0.Online), .dat (.int .i64 p0.Device), .dat (.sl (List.map M.Bucket.en p0.Storage.Buckets)), .dat (.sl (List.map M.Page.en p0.Pages)), .dat (.int .i64 p0.NextPage), .dat (.sl (List.map M.Lock.en p0.Locks.Locks)), .dat (.sl (List.map M.Mail.en p0.Channel.Mails)), .dat (.sl (List.map M.Site.en p0.Sites)), .dat (.sl (List.map M.Server.en p0.Servers))]) ∧ m_spec_IsWorld_L2 p0 m v4 = some r) fuel ?_ ?_
  · refine ⟨0, ?_, ?_, ?_, h⟩
    all_goals simp +decide only [F, reduceIte, Nat.reduceAdd, Bool.not_true, Bool.not_false, EN, *, -h]
  rintro mL2 s33 ⟨v4, f34, f35, f36, h⟩
  rcases mL2 with _ | mL2
  · exact absurd h (by simp [m_spec_IsWorld_L2])
  simp only [m_spec_IsWorld_L2] at h
  refine sq (sq (rn ?_))
  refine an ?_
  rcases bcas (decide (v4 < (List.length p0.Pages : Int))) with b37 | b37
  · replace h := ite_f b37 h
    refine cf (xt (aft_cx (aft_ix (aft_x (an (sq ?_))))))
    obtain ⟨x60, h61, h⟩ := bind_some h
    rcases bcas x60 with b62 | b62
    · replace h := ite_f b62 h
      refine rn1 (c_spec_l1In _ _ _ _ h61) ?_
      refine an (rt ?_)
      cases h
      simp [Ret, TB, EN, *]
    replace h := ite_t b62 h
    obtain ⟨x63, h64, h⟩ := bind_some h
    rcases bcas x63 with b65 | b65
    · replace h := ite_f b65 h
      refine rn2 (c_spec_l1In _ _ _ _ h61) (c_spec_l1In _ _ _ _ h64) ?_
      refine an (rt ?_)
      cases h
      simp [Ret, TB, EN, *]
    replace h := ite_t b65 h
    obtain ⟨x66, h67, h⟩ := bind_some h
    rcases bcas x66 with b68 | b68
    · replace h := ite_f b68 h
      refine rn3 (c_spec_l1In _ _ _ _ h61) (c_spec_l1In _ _ _ _ h64) (c_spec_IsStorage _ _ h67) ?_
      refine an (rt ?_)
      cases h
      simp [Ret, TB, EN, *]
    replace h := ite_t b68 h
    obtain ⟨x69, h70, h⟩ := bind_some h
    rcases bcas x69 with b71 | b71
    · replace h := ite_f b71 h
      refine rn4 (c_spec_l1In _ _ _ _ h61) (c_spec_l1In _ _ _ _ h64) (c_spec_IsStorage _ _ h67) (c_spec_l1In _ _ _ _ h70) ?_
      refine an (rt ?_)
      cases h
      simp [Ret, TB, EN, *]
    replace h := ite_t b71 h
    obtain ⟨x72, h73, h⟩ := bind_some h
    refine rn5 (c_spec_l1In _ _ _ _ h61) (c_spec_l1In _ _ _ _ h64) (c_spec_IsStorage _ _ h67) (c_spec_l1In _ _ _ _ h70) (c_spec_IsLockTable _ _ h73) ?_
    refine an (rt ?_)
    cases h
    simp [Ret, TB, EN, *]
  replace h := ite_t b37 h
  refine ct (sk (an (sq (bk (sq ?_)))))
  obtain ⟨x38, h39, h⟩ := bind_some h
  obtain ⟨q40, q41, q42⟩ := idx_some h39
  refine rn ?_
  refine an (sq ?_)
  obtain ⟨x43, h44, h⟩ := bind_some h
  rcases bcase (!x43) with b45 | b45
  · replace h := ite_t b45 h
    refine rd1 mixed (c_spec_IsPage _ _ h44) ?_
    refine an (ct (sq (rn ?_)))
    refine an (rt ?_)
    cases h
    simp [Ret, TB, EN, *]
  replace h := ite_f b45 h
  rcases bcase (decide (x38.Id ≥ p0.NextPage)) with b46 | b46
  · replace h := ite_t b46 h
    refine rd1 mixed (c_spec_IsPage _ _ h44) ?_
    refine an (ct (sq (rn ?_)))
    refine an (rt ?_)
    cases h
    simp [Ret, TB, EN, *]
  replace h := ite_f b46 h
  rcases bcas (decide (v4 > 0)) with b47 | b47
  · replace h := ite_f b47 h
    obtain ⟨x57, h58, h⟩ := bind_some h
    refine rd2 mixed (c_spec_IsPage _ _ h44) (c_spec_FindBucket _ _ _ _ h58) ?_
    refine an ?_
    rcases bcase (decide (x57 < 0)) with b59 | b59
    · replace h := ite_t b59 h
      refine ct (sq (rn ?_))
      refine an (rt ?_)
      cases h
      simp [Ret, TB, EN, *]
    replace h := ite_f b59 h
    refine cf (sk (ab (an (rn ?_))))
    refine aft_i ⟨mL2, by omega, (IntKind.i64.wrap (v4 + 1)), ?_, ?_, ?_, h⟩
    all_goals simp +decide only [F, reduceIte, Nat.reduceAdd, Bool.not_true, Bool.not_false, EN, *, -h]
  replace h := ite_t b47 h
  obtain ⟨x48, h49, h⟩ := bind_some h
  obtain ⟨q50, q51, q52⟩ := idx_some h49
  rcases bcase (decide (x48.Id ≥ x38.Id)) with b53 | b53
  · replace h := ite_t b53 h
    refine rd1 mixed (c_spec_IsPage _ _ h44) ?_
    refine an (ct (sq (rn ?_)))
    refine an (rt ?_)
    cases h
    simp [Ret, TB, EN, *]
  replace h := ite_f b53 h
  obtain ⟨x54, h55, h⟩ := bind_some h
  refine rd2 mixed (c_spec_IsPage _ _ h44) (c_spec_FindBucket _ _ _ _ h55) ?_
  refine an ?_
  rcases bcase (decide (x54 < 0)) with b56 | b56
  · replace h := ite_t b56 h
    refine ct (sq (rn ?_))
    refine an (rt ?_)
    cases h
    simp [Ret, TB, EN, *]
  replace h := ite_f b56 h
  refine cf (sk (ab (an (rn ?_))))
  refine aft_i ⟨mL2, by omega, (IntKind.i64.wrap (v4 + 1)), ?_, ?_, ?_, h⟩
  all_goals simp +decide only [F, reduceIte, Nat.reduceAdd, Bool.not_true, Bool.not_false, EN, *, -h]

end Go.Proofs.YtcpahpbjjnekkaaGreat.gen
