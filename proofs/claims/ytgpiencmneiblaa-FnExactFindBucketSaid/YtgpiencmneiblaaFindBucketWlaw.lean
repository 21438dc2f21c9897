/-
  Helper text: walks: each function's contract out of its model. No conditions beyond those of each contract.
-/
import Derived.Test.YtgpiencmneiblaaFindBucketTi
import Derived.Test.YtgpiencmneiblaaFindBucketWsz
import Derived.Test.YtgpiencmneiblaaFindBucketWto
import Derived.Test.YtgpiencmneiblaaFindBucketWeq
import Derived.Test.YtgpiencmneiblaaFindBucketWspec
import Derived.Test.YtgpiencmneiblaaFindBucketWimpl
namespace Go.Proofs.Ytgpiencmneiblaa.gen
open Go Go.Sh
set_option linter.unusedVariables false
set_option linter.unusedSimpArgs false
set_option maxHeartbeats 4000000 in
theorem c_laws_FnExactFindBucket (p0 : M.Storage) (p1 : ByteArray) (p2 : ByteArray) (r : Bool) (h : m_laws_FnExactFindBucket p0 p1 p2 = some r) : SCalls Try.prog 3 [(true, M.Storage.en p0), (false, [.str p1]), (false, [.str p2])] [(false, [.ro (.bool r)])] := by
  unfold m_laws_FnExactFindBucket at h
  simp only [M.Storage.en]
  refine scalls_n (N := 41) (vars := [.tmp 6]) Try.func3 rfl rfl rfl (by decide +kernel) (Nat.le_of_ble_eq_true rfl) fun base wd => ?_
  refine sq ?_
  apply SW_run
  · simp +decide only [E, reduceIte, Nat.reduceAdd, Nat.reduceMul, L]
    exact Is.mk _
  refine an (sq (sq ?_))
  apply SW_run
  · simp +decide only [E, reduceIte, Nat.reduceAdd, Nat.reduceMul, L, ti9]
    exact Is.mk _
  refine an ?_
  rcases bcase (decide ((p1.size : Int) > 1048576)) with b1 | b1
  · replace h := ite_t b1 h
    refine SW_ct (by simp +decide only [F, reduceIte, Nat.reduceAdd, b1]) ?_
    refine sq ?_
    apply SW_run
    · simp +decide only [E, reduceIte, Nat.reduceAdd, Nat.reduceMul, L, b1]
      exact Is.mk _
    refine an (rt ?_)
    cases h
    simp [Ret, b1]
  replace h := ite_f b1 h
  refine SW_cf (by simp +decide only [F, reduceIte, Nat.reduceAdd, b1]) ?_
  refine sk (an (sq (sq ?_)))
  apply SW_run
  · simp +decide only [E, reduceIte, Nat.reduceAdd, Nat.reduceMul, L, ti9, b1]
    exact Is.mk _
  refine an ?_
  rcases bcase (decide ((p2.size : Int) > 1048576)) with b2 | b2
  · replace h := ite_t b2 h
    refine SW_ct (by simp +decide only [F, reduceIte, Nat.reduceAdd, b1, b2]) ?_
    refine sq ?_
    apply SW_run
    · simp +decide only [E, reduceIte, Nat.reduceAdd, Nat.reduceMul, L, b1, b2]
      exact Is.mk _
    refine an (rt ?_)
    cases h
    simp [Ret, b1, b2]
  replace h := ite_f b2 h
  refine SW_cf (by simp +decide only [F, reduceIte, Nat.reduceAdd, b1, b2]) ?_
  refine sk (an (sq ?_))
  apply SW_run
  · simp +decide only [E, reduceIte, Nat.reduceAdd, Nat.reduceMul, L, b1, b2]
    exact Is.mk _
  refine an (sq ?_)
  obtain ⟨x3, h4, h⟩ := bind_some h
  apply SW_run
  · simp +decide only [E, reduceIte, Nat.reduceAdd, Nat.reduceMul, L, ti24, b1, b2]
    refine ⟨_, c_laws_szStorage p0 1048576 x3 h4, ?_⟩
    try simp +decide only [E, reduceIte, Nat.reduceAdd, Nat.reduceMul, L, ti24, b1, b2]
    exact Is.mk _
  refine an (sq (sq ?_))
  apply SW_run
  · simp +decide only [E, reduceIte, Nat.reduceAdd, Nat.reduceMul, L, b1, b2]
    exact Is.mk _
  refine an ?_
  rcases bcase (decide (x3 < 0)) with b5 | b5
  · replace h := ite_t b5 h
    refine SW_ct (by simp +decide only [F, reduceIte, Nat.reduceAdd, b1, b2, b5]) ?_
    refine sq ?_
    apply SW_run
    · simp +decide only [E, reduceIte, Nat.reduceAdd, Nat.reduceMul, L, b1, b2, b5]
      exact Is.mk _
    refine an (rt ?_)
    cases h
    simp [Ret, b1, b2, b5]
  replace h := ite_f b5 h
  refine SW_cf (by simp +decide only [F, reduceIte, Nat.reduceAdd, b1, b2, b5]) ?_
  refine sk (an (sq ?_))
  obtain ⟨x6, h7, h⟩ := bind_some h
  obtain ⟨x8, h9, h⟩ := bind_some h
  apply SW_run
  · simp +decide only [E, reduceIte, Nat.reduceAdd, Nat.reduceMul, L, ti24, b1, b2, b5]
    refine ⟨_, c_laws_toStorage p0 x6 h7, ?_⟩
    try simp +decide only [E, reduceIte, Nat.reduceAdd, Nat.reduceMul, L, ti24, b1, b2, b5]
    refine ⟨_, c_spec_FindBucket x6 p1 p2 x8 h9, ?_⟩
    try simp +decide only [E, reduceIte, Nat.reduceAdd, Nat.reduceMul, L, ti24, b1, b2, b5]
    exact Is.mk _
  refine an (sq ?_)
  obtain ⟨x10, h11, h⟩ := bind_some h
  apply SW_run
  · simp +decide only [E, reduceIte, Nat.reduceAdd, Nat.reduceMul, L, ti24, ti29, b1, b2, b5]
    refine ⟨_, c_laws_toStorage p0 x10 h11, ?_⟩
    try simp +decide only [E, reduceIte, Nat.reduceAdd, Nat.reduceMul, L, ti24, ti29, b1, b2, b5]
    exact Is.mk _
  refine an (sq ?_)
  obtain ⟨x12, h13, h⟩ := bind_some h
  apply SW_run
  · simp +decide only [E, reduceIte, Nat.reduceAdd, Nat.reduceMul, L, ti29, b1, b2, b5]
    refine ⟨_, c_impl_FindBucket x10 p1 p2 x12 h13, ?_⟩
    try simp +decide only [E, reduceIte, Nat.reduceAdd, Nat.reduceMul, L, ti29, b1, b2, b5]
    exact Is.mk _
  refine an (sq (sq ?_))
  apply SW_run
  · simp +decide only [E, reduceIte, Nat.reduceAdd, Nat.reduceMul, L, b1, b2, b5]
    exact Is.mk _
  refine an ?_
  rcases bcase (x12 != x8) with b14 | b14
  · replace h := ite_t b14 h
    refine SW_ct (by simp +decide only [F, reduceIte, Nat.reduceAdd, b1, b2, b5, b14]) ?_
    refine sq ?_
    apply SW_run
    · simp +decide only [E, reduceIte, Nat.reduceAdd, Nat.reduceMul, L, b1, b2, b5, b14]
      exact Is.mk _
    refine an (rt ?_)
    cases h
    simp [Ret, b1, b2, b5, b14]
  replace h := ite_f b14 h
  refine SW_cf (by simp +decide only [F, reduceIte, Nat.reduceAdd, b1, b2, b5, b14]) ?_
  refine sk (an (sq (sq ?_)))
  obtain ⟨x15, h16, h⟩ := bind_some h
  obtain ⟨x17, h18, h⟩ := bind_some h
  apply SW_runD mixed
  · simp +decide only [E, reduceIte, Nat.reduceAdd, Nat.reduceMul, L, ti24, ti29, b1, b2, b5, b14]
    refine ⟨_, c_laws_toStorage p0 x15 h16, ?_⟩
    try simp +decide only [E, reduceIte, Nat.reduceAdd, Nat.reduceMul, L, ti24, ti29, b1, b2, b5, b14]
    refine ⟨_, c_laws_eqStorage x10 x15 x17 h18, ?_⟩
    try simp +decide only [E, reduceIte, Nat.reduceAdd, Nat.reduceMul, L, ti24, ti29, b1, b2, b5, b14]
    exact ⟨.mk (by decide +kernel), Is.mk _⟩
  refine an ?_
  rcases bcase (!x17) with b19 | b19
  · replace h := ite_t b19 h
    refine SW_ct (by simp +decide only [F, reduceIte, Nat.reduceAdd, b1, b2, b5, b14, b19]) ?_
    refine sq ?_
    apply SW_run
    · simp +decide only [E, reduceIte, Nat.reduceAdd, Nat.reduceMul, L, b1, b2, b5, b14, b19]
      exact Is.mk _
    refine an (rt ?_)
    cases h
    simp [Ret, b1, b2, b5, b14, b19]
  replace h := ite_f b19 h
  refine SW_cf (by simp +decide only [F, reduceIte, Nat.reduceAdd, b1, b2, b5, b14, b19]) ?_
  refine sk (an (sq ?_))
  apply SW_run
  · simp +decide only [E, reduceIte, Nat.reduceAdd, Nat.reduceMul, L, b1, b2, b5, b14, b19]
    exact Is.mk _
  refine an (rt ?_)
  cases h
  simp [Ret, b1, b2, b5, b14, b19]

end Go.Proofs.Ytgpiencmneiblaa.gen
