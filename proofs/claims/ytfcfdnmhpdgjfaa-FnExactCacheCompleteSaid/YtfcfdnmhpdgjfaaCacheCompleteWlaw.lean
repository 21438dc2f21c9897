/-
  Helper text: walks: each function's contract out of its model. No conditions beyond those of each contract.
-/
import Derived.Test.YtfcfdnmhpdgjfaaCacheCompleteTi
import Derived.Test.YtfcfdnmhpdgjfaaCacheCompleteWsz
import Derived.Test.YtfcfdnmhpdgjfaaCacheCompleteWto
import Derived.Test.YtfcfdnmhpdgjfaaCacheCompleteWeq
import Derived.Test.YtfcfdnmhpdgjfaaCacheCompleteWspec
import Derived.Test.YtfcfdnmhpdgjfaaCacheCompleteWimpl
namespace Go.Proofs.Ytfcfdnmhpdgjfaa.gen
open Go Go.Sh
set_option linter.unusedVariables false
set_option linter.unusedSimpArgs false
set_option maxHeartbeats 4000000 in
theorem c_laws_FnExactCacheComplete (p0 : M.CacheSet) (p1 : M.Site) (p2 : Int) (r : Bool) (h : m_laws_FnExactCacheComplete p0 p1 p2 = some r) : SCalls Try.prog 7 [(true, M.CacheSet.en p0), (true, M.Site.en p1), (false, [.int .i64 p2])] [(false, [.ro (.bool r)])] := by
  unfold m_laws_FnExactCacheComplete at h
  simp only [M.CacheSet.en, M.Site.en]
  refine scalls_n (N := 49) (vars := [.tmp 6]) Try.func7 rfl rfl rfl (by decide +kernel) (Nat.le_of_ble_eq_true rfl) fun base wd => ?_
  refine sq ?_
  apply SW_run
  · simp +decide only [E, reduceIte, Nat.reduceAdd, Nat.reduceMul, Bool.not_true, Bool.not_false, L]
    exact Is.mk _
  refine an (sq ?_)
  apply SW_run
  · simp +decide only [E, reduceIte, Nat.reduceAdd, Nat.reduceMul, Bool.not_true, Bool.not_false, L]
    exact Is.mk _
  refine an (sq ?_)
  obtain ⟨x1, h2, h⟩ := bind_some h
  apply SW_run
  · simp +decide only [E, reduceIte, Nat.reduceAdd, Nat.reduceMul, Bool.not_true, Bool.not_false, L, ti68]
    refine ⟨_, c_laws_szCacheSet p0 1048576 x1 h2, ?_⟩
    try simp +decide only [E, reduceIte, Nat.reduceAdd, Nat.reduceMul, Bool.not_true, Bool.not_false, L, ti68]
    exact Is.mk _
  refine an (sq (sq ?_))
  apply SW_run
  · simp +decide only [E, reduceIte, Nat.reduceAdd, Nat.reduceMul, Bool.not_true, Bool.not_false, L]
    exact Is.mk _
  refine an ?_
  rcases bcase (decide (x1 < 0)) with b3 | b3
  · replace h := ite_t b3 h
    refine SW_ct (by simp +decide only [F, reduceIte, Nat.reduceAdd, Bool.not_true, Bool.not_false, b3]) ?_
    refine sq ?_
    apply SW_run
    · simp +decide only [E, reduceIte, Nat.reduceAdd, Nat.reduceMul, Bool.not_true, Bool.not_false, L, b3]
      exact Is.mk _
    refine an (rt ?_)
    cases h
    simp [Ret, b3]
  replace h := ite_f b3 h
  refine SW_cf (by simp +decide only [F, reduceIte, Nat.reduceAdd, Bool.not_true, Bool.not_false, b3]) ?_
  refine sk (an (sq ?_))
  obtain ⟨x4, h5, h⟩ := bind_some h
  apply SW_run
  · simp +decide only [E, reduceIte, Nat.reduceAdd, Nat.reduceMul, Bool.not_true, Bool.not_false, L, ti71, b3]
    refine ⟨_, c_laws_szSite p1 x1 x4 h5, ?_⟩
    try simp +decide only [E, reduceIte, Nat.reduceAdd, Nat.reduceMul, Bool.not_true, Bool.not_false, L, ti71, b3]
    exact Is.mk _
  refine an (sq (sq ?_))
  apply SW_run
  · simp +decide only [E, reduceIte, Nat.reduceAdd, Nat.reduceMul, Bool.not_true, Bool.not_false, L, b3]
    exact Is.mk _
  refine an ?_
  rcases bcase (decide (x4 < 0)) with b6 | b6
  · replace h := ite_t b6 h
    refine SW_ct (by simp +decide only [F, reduceIte, Nat.reduceAdd, Bool.not_true, Bool.not_false, b3, b6]) ?_
    refine sq ?_
    apply SW_run
    · simp +decide only [E, reduceIte, Nat.reduceAdd, Nat.reduceMul, Bool.not_true, Bool.not_false, L, b3, b6]
      exact Is.mk _
    refine an (rt ?_)
    cases h
    simp [Ret, b3, b6]
  replace h := ite_f b6 h
  refine SW_cf (by simp +decide only [F, reduceIte, Nat.reduceAdd, Bool.not_true, Bool.not_false, b3, b6]) ?_
  refine sk (an (sq ?_))
  obtain ⟨x7, h8, h⟩ := bind_some h
  obtain ⟨x9, h10, h⟩ := bind_some h
  obtain ⟨x11, h12, h⟩ := bind_some h
  apply SW_runD mixed
  · simp +decide only [E, reduceIte, Nat.reduceAdd, Nat.reduceMul, Bool.not_true, Bool.not_false, L, ti68, ti71, b3, b6]
    refine ⟨_, c_laws_toCacheSet p0 x7 h8, ?_⟩
    try simp +decide only [E, reduceIte, Nat.reduceAdd, Nat.reduceMul, Bool.not_true, Bool.not_false, L, ti68, ti71, b3, b6]
    refine ⟨_, c_laws_toSite p1 x9 h10, ?_⟩
    try simp +decide only [E, reduceIte, Nat.reduceAdd, Nat.reduceMul, Bool.not_true, Bool.not_false, L, ti68, ti71, b3, b6]
    refine ⟨_, c_spec_CacheComplete x7 x9 p2 x11 h12, ?_⟩
    try simp +decide only [E, reduceIte, Nat.reduceAdd, Nat.reduceMul, Bool.not_true, Bool.not_false, L, ti68, ti71, b3, b6]
    exact ⟨.mk (by decide +kernel), Is.mk _⟩
  refine an (sq ?_)
  obtain ⟨x13, h14, h⟩ := bind_some h
  apply SW_run
  · simp +decide only [E, reduceIte, Nat.reduceAdd, Nat.reduceMul, Bool.not_true, Bool.not_false, L, ti68, ti77, b3, b6]
    refine ⟨_, c_laws_toCacheSet p0 x13 h14, ?_⟩
    try simp +decide only [E, reduceIte, Nat.reduceAdd, Nat.reduceMul, Bool.not_true, Bool.not_false, L, ti68, ti77, b3, b6]
    exact Is.mk _
  refine an (sq ?_)
  obtain ⟨x15, h16, h⟩ := bind_some h
  apply SW_run
  · simp +decide only [E, reduceIte, Nat.reduceAdd, Nat.reduceMul, Bool.not_true, Bool.not_false, L, ti71, ti79, b3, b6]
    refine ⟨_, c_laws_toSite p1 x15 h16, ?_⟩
    try simp +decide only [E, reduceIte, Nat.reduceAdd, Nat.reduceMul, Bool.not_true, Bool.not_false, L, ti71, ti79, b3, b6]
    exact Is.mk _
  refine an (sq ?_)
  obtain ⟨x17, h18, h⟩ := bind_some h
  apply SW_run
  · simp +decide only [E, reduceIte, Nat.reduceAdd, Nat.reduceMul, Bool.not_true, Bool.not_false, L, ti77, ti79, b3, b6]
    refine ⟨_, c_impl_CacheComplete x13 x15 p2 x17 h18, ?_⟩
    try simp +decide only [E, reduceIte, Nat.reduceAdd, Nat.reduceMul, Bool.not_true, Bool.not_false, L, ti77, ti79, b3, b6]
    exact Is.mk _
  refine an (sq (sq ?_))
  apply SW_run
  · simp +decide only [E, reduceIte, Nat.reduceAdd, Nat.reduceMul, Bool.not_true, Bool.not_false, L, ti4, b3, b6]
    exact Is.mk _
  refine an ?_
  rcases bcase (!(x17 == x11)) with b19 | b19
  · replace h := ite_t b19 h
    refine SW_ct (by simp +decide only [F, reduceIte, Nat.reduceAdd, Bool.not_true, Bool.not_false, b3, b6, b19]) ?_
    refine sq ?_
    apply SW_run
    · simp +decide only [E, reduceIte, Nat.reduceAdd, Nat.reduceMul, Bool.not_true, Bool.not_false, L, b3, b6, b19]
      exact Is.mk _
    refine an (rt ?_)
    cases h
    simp [Ret, b3, b6, b19]
  replace h := ite_f b19 h
  refine SW_cf (by simp +decide only [F, reduceIte, Nat.reduceAdd, Bool.not_true, Bool.not_false, b3, b6, b19]) ?_
  refine sk (an (sq (sq ?_)))
  obtain ⟨x20, h21, h⟩ := bind_some h
  obtain ⟨x22, h23, h⟩ := bind_some h
  apply SW_runD mixed
  · simp +decide only [E, reduceIte, Nat.reduceAdd, Nat.reduceMul, Bool.not_true, Bool.not_false, L, ti68, ti77, b3, b6, b19]
    refine ⟨_, c_laws_toCacheSet p0 x20 h21, ?_⟩
    try simp +decide only [E, reduceIte, Nat.reduceAdd, Nat.reduceMul, Bool.not_true, Bool.not_false, L, ti68, ti77, b3, b6, b19]
    refine ⟨_, c_laws_eqCacheSet x13 x20 x22 h23, ?_⟩
    try simp +decide only [E, reduceIte, Nat.reduceAdd, Nat.reduceMul, Bool.not_true, Bool.not_false, L, ti68, ti77, b3, b6, b19]
    exact ⟨.mk (by decide +kernel), Is.mk _⟩
  refine an ?_
  rcases bcase (!x22) with b24 | b24
  · replace h := ite_t b24 h
    refine SW_ct (by simp +decide only [F, reduceIte, Nat.reduceAdd, Bool.not_true, Bool.not_false, b3, b6, b19, b24]) ?_
    refine sq ?_
    apply SW_run
    · simp +decide only [E, reduceIte, Nat.reduceAdd, Nat.reduceMul, Bool.not_true, Bool.not_false, L, b3, b6, b19, b24]
      exact Is.mk _
    refine an (rt ?_)
    cases h
    simp [Ret, b3, b6, b19, b24]
  replace h := ite_f b24 h
  refine SW_cf (by simp +decide only [F, reduceIte, Nat.reduceAdd, Bool.not_true, Bool.not_false, b3, b6, b19, b24]) ?_
  refine sk (an (sq (sq ?_)))
  obtain ⟨x25, h26, h⟩ := bind_some h
  obtain ⟨x27, h28, h⟩ := bind_some h
  apply SW_runD mixed
  · simp +decide only [E, reduceIte, Nat.reduceAdd, Nat.reduceMul, Bool.not_true, Bool.not_false, L, ti71, ti79, b3, b6, b19, b24]
    refine ⟨_, c_laws_toSite p1 x25 h26, ?_⟩
    try simp +decide only [E, reduceIte, Nat.reduceAdd, Nat.reduceMul, Bool.not_true, Bool.not_false, L, ti71, ti79, b3, b6, b19, b24]
    refine ⟨_, c_laws_eqSite x15 x25 x27 h28, ?_⟩
    try simp +decide only [E, reduceIte, Nat.reduceAdd, Nat.reduceMul, Bool.not_true, Bool.not_false, L, ti71, ti79, b3, b6, b19, b24]
    exact ⟨.mk (by decide +kernel), Is.mk _⟩
  refine an ?_
  rcases bcase (!x27) with b29 | b29
  · replace h := ite_t b29 h
    refine SW_ct (by simp +decide only [F, reduceIte, Nat.reduceAdd, Bool.not_true, Bool.not_false, b3, b6, b19, b24, b29]) ?_
    refine sq ?_
    apply SW_run
    · simp +decide only [E, reduceIte, Nat.reduceAdd, Nat.reduceMul, Bool.not_true, Bool.not_false, L, b3, b6, b19, b24, b29]
      exact Is.mk _
    refine an (rt ?_)
    cases h
    simp [Ret, b3, b6, b19, b24, b29]
  replace h := ite_f b29 h
  refine SW_cf (by simp +decide only [F, reduceIte, Nat.reduceAdd, Bool.not_true, Bool.not_false, b3, b6, b19, b24, b29]) ?_
  refine sk (an (sq ?_))
  apply SW_run
  · simp +decide only [E, reduceIte, Nat.reduceAdd, Nat.reduceMul, Bool.not_true, Bool.not_false, L, b3, b6, b19, b24, b29]
    exact Is.mk _
  refine an (rt ?_)
  cases h
  simp [Ret, b3, b6, b19, b24, b29]

end Go.Proofs.Ytfcfdnmhpdgjfaa.gen
