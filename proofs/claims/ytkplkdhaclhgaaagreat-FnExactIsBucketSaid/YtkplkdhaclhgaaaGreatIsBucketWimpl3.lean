/-
  Helper text: walks: each function's contract out of its model. No conditions beyond those of each contract.
-/
import Derived.Test.YtkplkdhaclhgaaaGreatIsBucketTi
import Derived.Test.YtkplkdhaclhgaaaGreatIsBucketWimpl0
import Derived.Test.YtkplkdhaclhgaaaGreatIsBucketWimpl2
namespace Go.Proofs.YtkplkdhaclhgaaaGreat.gen
open Go Go.Sh
set_option linter.unusedVariables false
set_option linter.unusedSimpArgs false
set_option maxRecDepth 20000 in
set_option maxHeartbeats 4000000 in
theorem c_impl_UsageOf (p0 : M.Bucket) (r : Int) (h : m_impl_UsageOf p0 = some r) : SCalls Tryz.prog 53 [(true, M.Bucket.en p0)] [(false, [.ro (.int .i64 r)])] := by
  unfold m_impl_UsageOf at h
  simp only [M.Bucket.en]
  refine scalls_n (N := 23) (vars := [.tmp 2]) Tryz.func53 rfl rfl rfl (by decide +kernel) (Nat.le_of_ble_eq_true rfl) fun base wd => ?_
  refine sq (rn ?_)
  refine an (sq ?_)
  obtain ⟨x1, h2, h⟩ := bind_some h
  obtain ⟨x3, h4, h⟩ := bind_some h
  obtain ⟨x5, h6, h⟩ := bind_some h
  refine rd3 mixed (c_impl_SizeCaches _ _ h2) (c_impl_SizeDisk _ _ h4) (c_impl_SizeStore _ _ h6) ?_
  refine an (rt ?_)
  cases h
  simp [Ret, TB, EN, *]

set_option maxRecDepth 20000 in
set_option maxHeartbeats 4000000 in
theorem c_impl_IsBucket (p0 : M.Bucket) (r : Bool) (h : m_impl_IsBucket p0 = some r) : SCalls Tryz.prog 14 [(true, M.Bucket.en p0)] [(false, [.ro (.bool r)])] := by
  unfold m_impl_IsBucket at h
  simp only [M.Bucket.en]
  refine scalls_n (N := 50) (vars := [.tmp 2]) Tryz.func14 rfl rfl rfl (by decide +kernel) (Nat.le_of_ble_eq_true rfl) fun base wd => ?_
  refine sq (rn ?_)
  refine an (sq ?_)
  obtain ⟨x1, h2, h⟩ := bind_some h
  rcases bcas x1 with b3 | b3
  · replace h := ite_f b3 h
    refine rn1 (c_impl_IsName _ _ h2) ?_
    refine an (rt ?_)
    cases h
    simp [Ret, TB, EN, *]
  replace h := ite_t b3 h
  obtain ⟨x4, h5, h⟩ := bind_some h
  rcases bcas x4 with b6 | b6
  · replace h := ite_f b6 h
    refine rn2 (c_impl_IsName _ _ h2) (c_impl_IsName _ _ h5) ?_
    refine an (rt ?_)
    cases h
    simp [Ret, TB, EN, *]
  replace h := ite_t b6 h
  obtain ⟨x7, h8, h⟩ := bind_some h
  rcases bcas x7 with b9 | b9
  · replace h := ite_f b9 h
    refine rn3 (c_impl_IsName _ _ h2) (c_impl_IsName _ _ h5) (c_impl_IsRegistration _ _ h8) ?_
    refine an (rt ?_)
    cases h
    simp [Ret, TB, EN, *]
  replace h := ite_t b9 h
  rcases bcas (p0.Registration.Site.toList == p0.Site.toList) with b10 | b10
  · replace h := ite_f b10 h
    refine rn3 (c_impl_IsName _ _ h2) (c_impl_IsName _ _ h5) (c_impl_IsRegistration _ _ h8) ?_
    refine an (rt ?_)
    cases h
    simp [Ret, TB, EN, *]
  replace h := ite_t b10 h
  obtain ⟨x11, h12, h⟩ := bind_some h
  rcases bcas x11 with b13 | b13
  · replace h := ite_f b13 h
    refine rn4 (c_impl_IsName _ _ h2) (c_impl_IsName _ _ h5) (c_impl_IsRegistration _ _ h8) (c_impl_IsCacheSet _ _ h12) ?_
    refine an (rt ?_)
    cases h
    simp [Ret, TB, EN, *]
  replace h := ite_t b13 h
  obtain ⟨x14, h15, h⟩ := bind_some h
  rcases bcas x14 with b16 | b16
  · replace h := ite_f b16 h
    refine rn5 (c_impl_IsName _ _ h2) (c_impl_IsName _ _ h5) (c_impl_IsRegistration _ _ h8) (c_impl_IsCacheSet _ _ h12) (c_impl_IsDatabase _ _ h15) ?_
    refine an (rt ?_)
    cases h
    simp [Ret, TB, EN, *]
  replace h := ite_t b16 h
  obtain ⟨x17, h18, h⟩ := bind_some h
  rcases bcas x17 with b19 | b19
  · replace h := ite_f b19 h
    refine rn6 (c_impl_IsName _ _ h2) (c_impl_IsName _ _ h5) (c_impl_IsRegistration _ _ h8) (c_impl_IsCacheSet _ _ h12) (c_impl_IsDatabase _ _ h15) (c_impl_IsReplica _ _ h18) ?_
    refine an (rt ?_)
    cases h
    simp [Ret, TB, EN, *]
  replace h := ite_t b19 h
  obtain ⟨x20, h21, h⟩ := bind_some h
  rcases bcas x20 with b22 | b22
  · replace h := ite_f b22 h
    apply SW_run
    · simp +decide only [E, reduceIte, Nat.reduceAdd, Nat.reduceMul, Bool.not_true, Bool.not_false, L, ti3, ti9, ti23, ti26, ti30, ti33, ti43, ti45, b3, b6, b9, b10, b13, b16, b19, b22]
      refine ⟨_, c_impl_IsName _ _ h2, ?_⟩
      try simp +decide only [E, reduceIte, Nat.reduceAdd, Nat.reduceMul, Bool.not_true, Bool.not_false, L, ti3, ti9, ti23, ti26, ti30, ti33, ti43, ti45, b3, b6, b9, b10, b13, b16, b19, b22]
      refine ⟨_, c_impl_IsName _ _ h5, ?_⟩
      try simp +decide only [E, reduceIte, Nat.reduceAdd, Nat.reduceMul, Bool.not_true, Bool.not_false, L, ti3, ti9, ti23, ti26, ti30, ti33, ti43, ti45, b3, b6, b9, b10, b13, b16, b19, b22]
      refine ⟨_, c_impl_IsRegistration _ _ h8, ?_⟩
      try simp +decide only [E, reduceIte, Nat.reduceAdd, Nat.reduceMul, Bool.not_true, Bool.not_false, L, ti3, ti9, ti23, ti26, ti30, ti33, ti43, ti45, b3, b6, b9, b10, b13, b16, b19, b22]
      refine ⟨_, c_impl_IsCacheSet _ _ h12, ?_⟩
      try simp +decide only [E, reduceIte, Nat.reduceAdd, Nat.reduceMul, Bool.not_true, Bool.not_false, L, ti3, ti9, ti23, ti26, ti30, ti33, ti43, ti45, b3, b6, b9, b10, b13, b16, b19, b22]
      refine ⟨_, c_impl_IsDatabase _ _ h15, ?_⟩
      try simp +decide only [E, reduceIte, Nat.reduceAdd, Nat.reduceMul, Bool.not_true, Bool.not_false, L, ti3, ti9, ti23, ti26, ti30, ti33, ti43, ti45, b3, b6, b9, b10, b13, b16, b19, b22]
      refine ⟨_, c_impl_IsReplica _ _ h18, ?_⟩
      try simp +decide only [E, reduceIte, Nat.reduceAdd, Nat.reduceMul, Bool.not_true, Bool.not_false, L, ti3, ti9, ti23, ti26, ti30, ti33, ti43, ti45, b3, b6, b9, b10, b13, b16, b19, b22]
      refine ⟨_, c_impl_InRange _ _ _ _ h21, ?_⟩
      try simp +decide only [E, reduceIte, Nat.reduceAdd, Nat.reduceMul, Bool.not_true, Bool.not_false, L, ti3, ti9, ti23, ti26, ti30, ti33, ti43, ti45, b3, b6, b9, b10, b13, b16, b19, b22]
      exact Is.mk _
    refine an (rt ?_)
    cases h
    simp [Ret, TB, EN, *]
  replace h := ite_t b22 h
  obtain ⟨x23, h24, h⟩ := bind_some h
  apply SW_run
  · simp +decide only [E, reduceIte, Nat.reduceAdd, Nat.reduceMul, Bool.not_true, Bool.not_false, L, ti3, ti9, ti23, ti26, ti30, ti33, ti43, ti45, b3, b6, b9, b10, b13, b16, b19, b22]
    refine ⟨_, c_impl_IsName _ _ h2, ?_⟩
    try simp +decide only [E, reduceIte, Nat.reduceAdd, Nat.reduceMul, Bool.not_true, Bool.not_false, L, ti3, ti9, ti23, ti26, ti30, ti33, ti43, ti45, b3, b6, b9, b10, b13, b16, b19, b22]
    refine ⟨_, c_impl_IsName _ _ h5, ?_⟩
    try simp +decide only [E, reduceIte, Nat.reduceAdd, Nat.reduceMul, Bool.not_true, Bool.not_false, L, ti3, ti9, ti23, ti26, ti30, ti33, ti43, ti45, b3, b6, b9, b10, b13, b16, b19, b22]
    refine ⟨_, c_impl_IsRegistration _ _ h8, ?_⟩
    try simp +decide only [E, reduceIte, Nat.reduceAdd, Nat.reduceMul, Bool.not_true, Bool.not_false, L, ti3, ti9, ti23, ti26, ti30, ti33, ti43, ti45, b3, b6, b9, b10, b13, b16, b19, b22]
    refine ⟨_, c_impl_IsCacheSet _ _ h12, ?_⟩
    try simp +decide only [E, reduceIte, Nat.reduceAdd, Nat.reduceMul, Bool.not_true, Bool.not_false, L, ti3, ti9, ti23, ti26, ti30, ti33, ti43, ti45, b3, b6, b9, b10, b13, b16, b19, b22]
    refine ⟨_, c_impl_IsDatabase _ _ h15, ?_⟩
    try simp +decide only [E, reduceIte, Nat.reduceAdd, Nat.reduceMul, Bool.not_true, Bool.not_false, L, ti3, ti9, ti23, ti26, ti30, ti33, ti43, ti45, b3, b6, b9, b10, b13, b16, b19, b22]
    refine ⟨_, c_impl_IsReplica _ _ h18, ?_⟩
    try simp +decide only [E, reduceIte, Nat.reduceAdd, Nat.reduceMul, Bool.not_true, Bool.not_false, L, ti3, ti9, ti23, ti26, ti30, ti33, ti43, ti45, b3, b6, b9, b10, b13, b16, b19, b22]
    refine ⟨_, c_impl_InRange _ _ _ _ h21, ?_⟩
    try simp +decide only [E, reduceIte, Nat.reduceAdd, Nat.reduceMul, Bool.not_true, Bool.not_false, L, ti3, ti9, ti23, ti26, ti30, ti33, ti43, ti45, b3, b6, b9, b10, b13, b16, b19, b22]
    refine ⟨_, c_impl_UsageOf _ _ h24, ?_⟩
    try simp +decide only [E, reduceIte, Nat.reduceAdd, Nat.reduceMul, Bool.not_true, Bool.not_false, L, ti3, ti9, ti23, ti26, ti30, ti33, ti43, ti45, b3, b6, b9, b10, b13, b16, b19, b22]
    exact Is.mk _
  refine an (rt ?_)
  cases h
  simp [Ret, TB, EN, *]

end Go.Proofs.YtkplkdhaclhgaaaGreat.gen
