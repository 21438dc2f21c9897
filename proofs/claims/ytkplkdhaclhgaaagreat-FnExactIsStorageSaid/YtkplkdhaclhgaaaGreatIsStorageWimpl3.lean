/-
  Helper text: walks: each function's contract out of its model. No conditions beyond those of each contract.
-/
import Derived.Test.YtkplkdhaclhgaaaGreatIsStorageTi
import Derived.Test.YtkplkdhaclhgaaaGreatIsStorageWimpl0
import Derived.Test.YtkplkdhaclhgaaaGreatIsStorageWimpl2
namespace Go.Proofs.YtkplkdhaclhgaaaGreat.gen
open Go Go.Sh
set_option linter.unusedVariables false
set_option linter.unusedSimpArgs false
set_option maxRecDepth 20000 in
set_option maxHeartbeats 4000000 in
theorem c_impl_UsageOf (p0 : M.Bucket) (r : Int) (h : m_impl_UsageOf p0 = some r) : SCalls Tryz.prog 53 [(true, M.Bucket.en p0)] [(false, [.ro (.int .i64 r)])] := by
  unfold m_impl_UsageOf at h
  simp only [M.Bucket.en]
  refine scalls_n (N := 23) (vars := [.tmp 2]) Tryz.func53 rfl rfl rfl (by decide +kernel) (Nat.le_of_ble_eq_true rfl) fun base wd => ?_
  refine sq (rn ?_)
  refine an (sq ?_)
  obtain ⟨x1, h2, h⟩ := bind_some h
  obtain ⟨x3, h4, h⟩ := bind_some h
  obtain ⟨x5, h6, h⟩ := bind_some h
  refine rd3 mixed (c_impl_SizeCaches _ _ h2) (c_impl_SizeDisk _ _ h4) (c_impl_SizeStore _ _ h6) ?_
  refine an (rt ?_)
  cases h
  simp [Ret, TB, EN, *]

set_option maxRecDepth 20000 in
set_option maxHeartbeats 4000000 in
theorem c_impl_IsBucket (p0 : M.Bucket) (r : Bool) (h : m_impl_IsBucket p0 = some r) : SCalls Tryz.prog 14 [(true, M.Bucket.en p0)] [(false, [.ro (.bool r)])] := by
  unfold m_impl_IsBucket at h
  simp only [M.Bucket.en]
  refine scalls_n (N := 50) (vars := [.tmp 2]) Tryz.func14 rfl rfl rfl (by decide +kernel) (Nat.le_of_ble_eq_true rfl) fun base wd => ?_
  refine sq (rn ?_)
  refine an (sq ?_)
  obtain ⟨x1, h2, h⟩ := bind_some h
  rcases bcas x1 with b3 | b3
  · replace h := ite_f b3 h
    refine rn1 (c_impl_IsName _ _ h2) ?_
    refine an (rt ?_)
    cases h
    simp [Ret, TB, EN, *]
  replace h := ite_t b3 h
  obtain ⟨x4, h5, h⟩ := bind_some h
  rcases bcas x4 with b6 | b6
  · replace h := ite_f b6 h
    refine rn2 (c_impl_IsName _ _ h2) (c_impl_IsName _ _ h5) ?_
    refine an (rt ?_)
    cases h
    simp [Ret, TB, EN, *]
  replace h := ite_t b6 h
  obtain ⟨x7, h8, h⟩ := bind_some h
  rcases bcas x7 with b9 | b9
  · replace h := ite_f b9 h
    refine rn3 (c_impl_IsName _ _ h2) (c_impl_IsName _ _ h5) (c_impl_IsRegistration _ _ h8) ?_
    refine an (rt ?_)
    cases h
    simp [Ret, TB, EN, *]
  replace h := ite_t b9 h
  rcases bcas (p0.Registration.Site.toList == p0.Site.toList) with b10 | b10
  · replace h := ite_f b10 h
    refine rn3 (c_impl_IsName _ _ h2) (c_impl_IsName _ _ h5) (c_impl_IsRegistration _ _ h8) ?_
    refine an (rt ?_)
    cases h
    simp [Ret, TB, EN, *]
  replace h := ite_t b10 h
  obtain ⟨x11, h12, h⟩ := bind_some h
  rcases bcas x11 with b13 | b13
  · replace h := ite_f b13 h
    refine rn4 (c_impl_IsName _ _ h2) (c_impl_IsName _ _ h5) (c_impl_IsRegistration _ _ h8) (c_impl_IsCacheSet _ _ h12) ?_
    refine an (rt ?_)
    cases h
    simp [Ret, TB, EN, *]
  replace h := ite_t b13 h
  obtain ⟨x14, h15, h⟩ := bind_some h
  rcases bcas x14 with b16 | b16
  · replace h := ite_f b16 h
    refine rn5 (c_impl_IsName _ _ h2) (c_impl_IsName _ _ h5) (c_impl_IsRegistration _ _ h8) (c_impl_IsCacheSet _ _ h12) (c_impl_IsDatabase _ _ h15) ?_
    refine an (rt ?_)
    cases h
    simp [Ret, TB, EN, *]
  replace h := ite_t b16 h
  obtain ⟨x17, h18, h⟩ := bind_some h
  rcases bcas x17 with b19 | b19
  · replace h := ite_f b19 h
    refine rn6 (c_impl_IsName _ _ h2) (c_impl_IsName _ _ h5) (c_impl_IsRegistration _ _ h8) (c_impl_IsCacheSet _ _ h12) (c_impl_IsDatabase _ _ h15) (c_impl_IsReplica _ _ h18) ?_
    refine an (rt ?_)
    cases h
    simp [Ret, TB, EN, *]
  replace h := ite_t b19 h
  obtain ⟨x20, h21, h⟩ := bind_some h
  rcases bcas x20 with b22 | b22
  · replace h := ite_f b22 h
    apply SW_run
    · simp +decide only [E, reduceIte, Nat.reduceAdd, Nat.reduceMul, Bool.not_true, Bool.not_false, L, ti3, ti9, ti23, ti26, ti30, ti33, ti43, ti45, b3, b6, b9, b10, b13, b16, b19, b22]
      refine ⟨_, c_impl_IsName _ _ h2, ?_⟩
      try simp +decide only [E, reduceIte, Nat.reduceAdd, Nat.reduceMul, Bool.not_true, Bool.not_false, L, ti3, ti9, ti23, ti26, ti30, ti33, ti43, ti45, b3, b6, b9, b10, b13, b16, b19, b22]
      refine ⟨_, c_impl_IsName _ _ h5, ?_⟩
      try simp +decide only [E, reduceIte, Nat.reduceAdd, Nat.reduceMul, Bool.not_true, Bool.not_false, L, ti3, ti9, ti23, ti26, ti30, ti33, ti43, ti45, b3, b6, b9, b10, b13, b16, b19, b22]
      refine ⟨_, c_impl_IsRegistration _ _ h8, ?_⟩
      try simp +decide only [E, reduceIte, Nat.reduceAdd, Nat.reduceMul, Bool.not_true, Bool.not_false, L, ti3, ti9, ti23, ti26, ti30, ti33, ti43, ti45, b3, b6, b9, b10, b13, b16, b19, b22]
      refine ⟨_, c_impl_IsCacheSet _ _ h12, ?_⟩
      try simp +decide only [E, reduceIte, Nat.reduceAdd, Nat.reduceMul, Bool.not_true, Bool.not_false, L, ti3, ti9, ti23, ti26, ti30, ti33, ti43, ti45, b3, b6, b9, b10, b13, b16, b19, b22]
      refine ⟨_, c_impl_IsDatabase _ _ h15, ?_⟩
      try simp +decide only [E, reduceIte, Nat.reduceAdd, Nat.reduceMul, Bool.not_true, Bool.not_false, L, ti3, ti9, ti23, ti26, ti30, ti33, ti43, ti45, b3, b6, b9, b10, b13, b16, b19, b22]
      refine ⟨_, c_impl_IsReplica _ _ h18, ?_⟩
      try simp +decide only [E, reduceIte, Nat.reduceAdd, Nat.reduceMul, Bool.not_true, Bool.not_false, L, ti3, ti9, ti23, ti26, ti30, ti33, ti43, ti45, b3, b6, b9, b10, b13, b16, b19, b22]
      refine ⟨_, c_impl_InRange _ _ _ _ h21, ?_⟩
      try simp +decide only [E, reduceIte, Nat.reduceAdd, Nat.reduceMul, Bool.not_true, Bool.not_false, L, ti3, ti9, ti23, ti26, ti30, ti33, ti43, ti45, b3, b6, b9, b10, b13, b16, b19, b22]
      exact Is.mk _
    refine an (rt ?_)
    cases h
    simp [Ret, TB, EN, *]
  replace h := ite_t b22 h
  obtain ⟨x23, h24, h⟩ := bind_some h
  apply SW_run
  · simp +decide only [E, reduceIte, Nat.reduceAdd, Nat.reduceMul, Bool.not_true, Bool.not_false, L, ti3, ti9, ti23, ti26, ti30, ti33, ti43, ti45, b3, b6, b9, b10, b13, b16, b19, b22]
    refine ⟨_, c_impl_IsName _ _ h2, ?_⟩
    try simp +decide only [E, reduceIte, Nat.reduceAdd, Nat.reduceMul, Bool.not_true, Bool.not_false, L, ti3, ti9, ti23, ti26, ti30, ti33, ti43, ti45, b3, b6, b9, b10, b13, b16, b19, b22]
    refine ⟨_, c_impl_IsName _ _ h5, ?_⟩
    try simp +decide only [E, reduceIte, Nat.reduceAdd, Nat.reduceMul, Bool.not_true, Bool.not_false, L, ti3, ti9, ti23, ti26, ti30, ti33, ti43, ti45, b3, b6, b9, b10, b13, b16, b19, b22]
    refine ⟨_, c_impl_IsRegistration _ _ h8, ?_⟩
    try simp +decide only [E, reduceIte, Nat.reduceAdd, Nat.reduceMul, Bool.not_true, Bool.not_false, L, ti3, ti9, ti23, ti26, ti30, ti33, ti43, ti45, b3, b6, b9, b10, b13, b16, b19, b22]
    refine ⟨_, c_impl_IsCacheSet _ _ h12, ?_⟩
    try simp +decide only [E, reduceIte, Nat.reduceAdd, Nat.reduceMul, Bool.not_true, Bool.not_false, L, ti3, ti9, ti23, ti26, ti30, ti33, ti43, ti45, b3, b6, b9, b10, b13, b16, b19, b22]
    refine ⟨_, c_impl_IsDatabase _ _ h15, ?_⟩
    try simp +decide only [E, reduceIte, Nat.reduceAdd, Nat.reduceMul, Bool.not_true, Bool.not_false, L, ti3, ti9, ti23, ti26, ti30, ti33, ti43, ti45, b3, b6, b9, b10, b13, b16, b19, b22]
    refine ⟨_, c_impl_IsReplica _ _ h18, ?_⟩
    try simp +decide only [E, reduceIte, Nat.reduceAdd, Nat.reduceMul, Bool.not_true, Bool.not_false, L, ti3, ti9, ti23, ti26, ti30, ti33, ti43, ti45, b3, b6, b9, b10, b13, b16, b19, b22]
    refine ⟨_, c_impl_InRange _ _ _ _ h21, ?_⟩
    try simp +decide only [E, reduceIte, Nat.reduceAdd, Nat.reduceMul, Bool.not_true, Bool.not_false, L, ti3, ti9, ti23, ti26, ti30, ti33, ti43, ti45, b3, b6, b9, b10, b13, b16, b19, b22]
    refine ⟨_, c_impl_UsageOf _ _ h24, ?_⟩
    try simp +decide only [E, reduceIte, Nat.reduceAdd, Nat.reduceMul, Bool.not_true, Bool.not_false, L, ti3, ti9, ti23, ti26, ti30, ti33, ti43, ti45, b3, b6, b9, b10, b13, b16, b19, b22]
    exact Is.mk _
  refine an (rt ?_)
  cases h
  simp [Ret, TB, EN, *]

set_option maxRecDepth 20000 in
set_option maxHeartbeats 4000000 in
theorem c_impl_bucketBefore (p0 : M.Bucket) (p1 : M.Bucket) (r : Bool) (h : m_impl_bucketBefore p0 p1 = some r) : SCalls Tryz.prog 57 [(true, M.Bucket.en p0), (true, M.Bucket.en p1)] [(false, [.ro (.bool r)])] := by
  unfold m_impl_bucketBefore at h
  simp only [M.Bucket.en]
  refine scalls_n (N := 24) (vars := [.tmp 4]) Tryz.func57 rfl rfl rfl (by decide +kernel) (Nat.le_of_ble_eq_true rfl) fun base wd => ?_
  refine sq (rn ?_)
  refine an (sq ?_)
  rcases bcase (Op.bytesLess p0.Site.toList p1.Site.toList) with b1 | b1
  · replace h := ite_t b1 h
    refine rn ?_
    refine an (rt ?_)
    cases h
    simp [Ret, TB, EN, *]
  replace h := ite_f b1 h
  rcases bcase (p0.Site.toList == p1.Site.toList) with b2 | b2
  · replace h := ite_t b2 h
    refine rn ?_
    refine an (rt ?_)
    cases h
    simp [Ret, TB, EN, *]
  replace h := ite_f b2 h
  refine rn ?_
  refine an (rt ?_)
  cases h
  simp [Ret, TB, EN, *]

set_option maxRecDepth 20000 in
set_option maxHeartbeats 4000000 in
theorem c_impl_IsStorage (p0 : M.Storage) (r : Bool) (h : m_impl_IsStorage p0 = some r) : SCalls Tryz.prog 18 [(true, M.Storage.en p0)] [(false, [.ro (.bool r)])] := by
  unfold m_impl_IsStorage at h
  simp only [M.Storage.en]
  refine scalls_n (N := 36) (vars := [.tmp 2]) Tryz.func18 rfl rfl rfl (by decide +kernel) (Nat.le_of_ble_eq_true rfl) fun base wd => ?_
  refine sq (rn ?_)
  refine an (sq (sq (rn ?_)))
  refine an (bk ?_)
  refine SW_loop (fun m s => ∃ v8 : Int, s.t 1 = .v false [.bp 1 1 0] ∧ s.t 6 = .v false [.dat (.sl (List.map M.Bucket.en p0.Buckets))] ∧ s.t 7 = .v false [.dat (.int .i64 (List.length p0.Buckets : Int))] ∧ s.t 8 = .v false [.dat (.int .i64 v8)] ∧ s.h 1 = (1, .box 84 [.dat (.sl (List.map M.Bucket.en p0.Buckets))]) ∧ m_impl_IsStorage_L1 p0 m v8 = some r) fuel ?_ ?_
  · refine ⟨0, ?_, ?_, ?_, ?_, ?_, h⟩
    all_goals simp +decide only [F, reduceIte, Nat.reduceAdd, Bool.not_true, Bool.not_false, EN, *, -h]
  rintro mL1 s1 ⟨v8, f2, f3, f4, f5, f6, h⟩
  rcases mL1 with _ | mL1
  · exact absurd h (by simp [m_impl_IsStorage_L1])
  simp only [m_impl_IsStorage_L1] at h
  refine sq (rn ?_)
  refine an (sq ?_)
  rcases bcas (decide (v8 < (List.length p0.Buckets : Int))) with b7 | b7
  · replace h := ite_f b7 h
    refine cf (xt (aft_cx (aft_ix (aft_x (an (sq (rn ?_)))))))
    refine an (rt ?_)
    cases h
    simp [Ret, TB, EN, *]
  replace h := ite_t b7 h
  refine ct (sk (an (sq (bk (sq ?_)))))
  obtain ⟨x8, h9, h⟩ := bind_some h
  obtain ⟨q10, q11, q12⟩ := idx_some h9
  refine rn ?_
  refine an (sq ?_)
  obtain ⟨x13, h14, h⟩ := bind_some h
  rcases bcase (!x13) with b15 | b15
  · replace h := ite_t b15 h
    refine rd1 mixed (c_impl_IsBucket _ _ h14) ?_
    refine an (ct (sq (rn ?_)))
    refine an (rt ?_)
    cases h
    simp [Ret, TB, EN, *]
  replace h := ite_f b15 h
  rcases bcas (decide (v8 > 0)) with b16 | b16
  · replace h := ite_f b16 h
    refine rd1 mixed (c_impl_IsBucket _ _ h14) ?_
    refine an (cf (sk (ab (an (rn ?_)))))
    refine aft_i ⟨mL1, by omega, (IntKind.i64.wrap (v8 + 1)), ?_, ?_, ?_, ?_, ?_, h⟩
    all_goals simp +decide only [F, reduceIte, Nat.reduceAdd, Bool.not_true, Bool.not_false, EN, *, -h]
  replace h := ite_t b16 h
  obtain ⟨x17, h18, h⟩ := bind_some h
  obtain ⟨q19, q20, q21⟩ := idx_some h18
  obtain ⟨x22, h23, h⟩ := bind_some h
  refine rd2 mixed (c_impl_IsBucket _ _ h14) (c_impl_bucketBefore _ _ _ h23) ?_
  refine an ?_
  rcases bcase (!x22) with b24 | b24
  · replace h := ite_t b24 h
    refine ct (sq (rn ?_))
    refine an (rt ?_)
    cases h
    simp [Ret, TB, EN, *]
  replace h := ite_f b24 h
  refine cf (sk (ab (an (rn ?_))))
  refine aft_i ⟨mL1, by omega, (IntKind.i64.wrap (v8 + 1)), ?_, ?_, ?_, ?_, ?_, h⟩
  all_goals simp +decide only [F, reduceIte, Nat.reduceAdd, Bool.not_true, Bool.not_false, EN, *, -h]

end Go.Proofs.YtkplkdhaclhgaaaGreat.gen
