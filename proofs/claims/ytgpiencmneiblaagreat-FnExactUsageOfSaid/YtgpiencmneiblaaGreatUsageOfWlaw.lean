/-
  Helper text: walks: each function's contract out of its model. No conditions beyond those of each contract.
-/
import Derived.Test.YtgpiencmneiblaaGreatUsageOfTi
import Derived.Test.YtgpiencmneiblaaGreatUsageOfWsz
import Derived.Test.YtgpiencmneiblaaGreatUsageOfWto
import Derived.Test.YtgpiencmneiblaaGreatUsageOfWeq
import Derived.Test.YtgpiencmneiblaaGreatUsageOfWspec
import Derived.Test.YtgpiencmneiblaaGreatUsageOfWimpl
namespace Go.Proofs.YtgpiencmneiblaaGreat.gen
open Go Go.Sh
set_option linter.unusedVariables false
set_option linter.unusedSimpArgs false
set_option maxHeartbeats 4000000 in
theorem c_laws_FnExactUsageOf (p0 : M.Bucket) (r : Bool) (h : m_laws_FnExactUsageOf p0 = some r) : SCalls Tryz.prog 4 [(true, M.Bucket.en p0)] [(false, [.ro (.bool r)])] := by
  unfold m_laws_FnExactUsageOf at h
  simp only [M.Bucket.en]
  refine scalls_n (N := 27) (vars := [.tmp 2]) Tryz.func4 rfl rfl rfl (by decide +kernel) (Nat.le_of_ble_eq_true rfl) fun base wd => ?_
  refine sq ?_
  apply SW_run
  · simp +decide only [E, reduceIte, Nat.reduceAdd, Nat.reduceMul, L]
    exact Is.mk _
  refine an (sq ?_)
  apply SW_run
  · simp +decide only [E, reduceIte, Nat.reduceAdd, Nat.reduceMul, L]
    exact Is.mk _
  refine an (sq ?_)
  obtain ⟨x1, h2, h⟩ := bind_some h
  apply SW_run
  · simp +decide only [E, reduceIte, Nat.reduceAdd, Nat.reduceMul, L, ti45]
    refine ⟨_, c_laws_szBucket p0 1048576 x1 h2, ?_⟩
    try simp +decide only [E, reduceIte, Nat.reduceAdd, Nat.reduceMul, L, ti45]
    exact Is.mk _
  refine an (sq (sq ?_))
  apply SW_run
  · simp +decide only [E, reduceIte, Nat.reduceAdd, Nat.reduceMul, L]
    exact Is.mk _
  refine an ?_
  rcases bcase (decide (x1 < 0)) with b3 | b3
  · replace h := ite_t b3 h
    refine SW_ct (by simp +decide only [F, reduceIte, Nat.reduceAdd, b3]) ?_
    refine sq ?_
    apply SW_run
    · simp +decide only [E, reduceIte, Nat.reduceAdd, Nat.reduceMul, L, b3]
      exact Is.mk _
    refine an (rt ?_)
    cases h
    simp [Ret, b3]
  replace h := ite_f b3 h
  refine SW_cf (by simp +decide only [F, reduceIte, Nat.reduceAdd, b3]) ?_
  refine sk (an (sq ?_))
  obtain ⟨x4, h5, h⟩ := bind_some h
  obtain ⟨x6, h7, h⟩ := bind_some h
  apply SW_run
  · simp +decide only [E, reduceIte, Nat.reduceAdd, Nat.reduceMul, L, ti45, b3]
    refine ⟨_, c_laws_toBucket p0 x4 h5, ?_⟩
    try simp +decide only [E, reduceIte, Nat.reduceAdd, Nat.reduceMul, L, ti45, b3]
    refine ⟨_, c_spec_UsageOf x4 x6 h7, ?_⟩
    try simp +decide only [E, reduceIte, Nat.reduceAdd, Nat.reduceMul, L, ti45, b3]
    exact Is.mk _
  refine an (sq ?_)
  obtain ⟨x8, h9, h⟩ := bind_some h
  apply SW_run
  · simp +decide only [E, reduceIte, Nat.reduceAdd, Nat.reduceMul, L, ti45, ti69, b3]
    refine ⟨_, c_laws_toBucket p0 x8 h9, ?_⟩
    try simp +decide only [E, reduceIte, Nat.reduceAdd, Nat.reduceMul, L, ti45, ti69, b3]
    exact Is.mk _
  refine an (sq ?_)
  obtain ⟨x10, h11, h⟩ := bind_some h
  apply SW_run
  · simp +decide only [E, reduceIte, Nat.reduceAdd, Nat.reduceMul, L, ti69, b3]
    refine ⟨_, c_impl_UsageOf x8 x10 h11, ?_⟩
    try simp +decide only [E, reduceIte, Nat.reduceAdd, Nat.reduceMul, L, ti69, b3]
    exact Is.mk _
  refine an (sq (sq ?_))
  apply SW_run
  · simp +decide only [E, reduceIte, Nat.reduceAdd, Nat.reduceMul, L, b3]
    exact Is.mk _
  refine an ?_
  rcases bcase (x10 != x6) with b12 | b12
  · replace h := ite_t b12 h
    refine SW_ct (by simp +decide only [F, reduceIte, Nat.reduceAdd, b3, b12]) ?_
    refine sq ?_
    apply SW_run
    · simp +decide only [E, reduceIte, Nat.reduceAdd, Nat.reduceMul, L, b3, b12]
      exact Is.mk _
    refine an (rt ?_)
    cases h
    simp [Ret, b3, b12]
  replace h := ite_f b12 h
  refine SW_cf (by simp +decide only [F, reduceIte, Nat.reduceAdd, b3, b12]) ?_
  refine sk (an (sq (sq ?_)))
  obtain ⟨x13, h14, h⟩ := bind_some h
  obtain ⟨x15, h16, h⟩ := bind_some h
  apply SW_runD mixed
  · simp +decide only [E, reduceIte, Nat.reduceAdd, Nat.reduceMul, L, ti45, ti69, b3, b12]
    refine ⟨_, c_laws_toBucket p0 x13 h14, ?_⟩
    try simp +decide only [E, reduceIte, Nat.reduceAdd, Nat.reduceMul, L, ti45, ti69, b3, b12]
    refine ⟨_, c_laws_eqBucket x8 x13 x15 h16, ?_⟩
    try simp +decide only [E, reduceIte, Nat.reduceAdd, Nat.reduceMul, L, ti45, ti69, b3, b12]
    exact ⟨.mk (by decide +kernel), Is.mk _⟩
  refine an ?_
  rcases bcase (!x15) with b17 | b17
  · replace h := ite_t b17 h
    refine SW_ct (by simp +decide only [F, reduceIte, Nat.reduceAdd, b3, b12, b17]) ?_
    refine sq ?_
    apply SW_run
    · simp +decide only [E, reduceIte, Nat.reduceAdd, Nat.reduceMul, L, b3, b12, b17]
      exact Is.mk _
    refine an (rt ?_)
    cases h
    simp [Ret, b3, b12, b17]
  replace h := ite_f b17 h
  refine SW_cf (by simp +decide only [F, reduceIte, Nat.reduceAdd, b3, b12, b17]) ?_
  refine sk (an (sq ?_))
  apply SW_run
  · simp +decide only [E, reduceIte, Nat.reduceAdd, Nat.reduceMul, L, b3, b12, b17]
    exact Is.mk _
  refine an (rt ?_)
  cases h
  simp [Ret, b3, b12, b17]

end Go.Proofs.YtgpiencmneiblaaGreat.gen
